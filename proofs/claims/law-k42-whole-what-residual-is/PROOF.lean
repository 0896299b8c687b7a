import PyProof.Rows.All
import Wide.All
import OpenK.AllK
import Wide.FinOn
import KE.KStateDown
import Lean
import HandS.ForMost
import HandS.ForExc
import HandS.More
import HandS.Defaults
import HandS.Head0
import HandS.Head1
import HandS.Head2
import HandS.HeadEnd
import HandS.HeadHook1
import HandS.HeadHook2
import PySem.Challenge.RW_drivefold_k42_whole_what_residual_is
import HandS.ExcInit
import HandS.ExcField
import KE.KExcSuper
import HandS.TupAny
import HandS.Style
import HandS.Zip
import HandS.Deep
import HandS.StrMore
import HandS.IsInst
import HandS.DictComp
import HandS.Conv
import HandS.FStr
import HandS.Walk
import HandS.Codes
import HandS.Small
import KE.KDictPairs
import PyProof.Rows.CallKwBuiltin
import PyProof.MinMaxWalk
import KE.KDictZip
import KE.KItemsList
import KE.GoesEnum
import HandS.ListItems
import HandS.Flow
import HandS.TryOnly
import HandS.ExcOwn
import HandS.Call
import HandS.List
import HandS.Text
import HandS.Comp
import HandS.Exc
import HandS.CallSlots
set_option Elab.async false
set_option linter.all false
set_option maxRecDepth 100000
set_option maxHeartbeats 0
/-! the text by places; what the head tells of the defs -/
namespace Tx
open PySem PySem.Spec PyProof.Rows L2
def top (i : Nat) : Stmt := PySem.Challenge.pw_drivefold_k42_whole_what_residual_is.main.body.getD i (.Pass ⟨0, 0, 0, 0⟩)
abbrev s_heads : Stmt := top 6
abbrev s_size : Stmt := top 7
abbrev s_unknowns : Stmt := top 8
abbrev s_names : Stmt := top 9
abbrev s_applied : Stmt := top 10
abbrev s_replaced : Stmt := top 11
abbrev s_put : Stmt := top 12
abbrev s_function_part : Stmt := top 14
abbrev s_fits : Stmt := top 15
abbrev s_match : Stmt := top 16
abbrev s_common : Stmt := top 17
abbrev s_generalize : Stmt := top 18
abbrev s_function_of : Stmt := top 20
abbrev s_is_function : Stmt := top 21
abbrev s_opened : Stmt := top 22
abbrev s_rule_of : Stmt := top 23
abbrev s_own_demand : Stmt := top 24
abbrev s_outer_demand : Stmt := top 25
abbrev s_demand : Stmt := top 26
abbrev s_next_unknown : Stmt := top 27
abbrev s_drive_running : Stmt := top 28
abbrev s_is_variable_residuals : Stmt := top 33
abbrev s_prefix_of : Stmt := top 35
abbrev s_count_lines : Stmt := top 36
abbrev s_Reader___init__ : Stmt := inClass (top 37) 0
abbrev s_Reader_is_function_node : Stmt := inClass (top 37) 1
abbrev s_Reader_parameters : Stmt := inClass (top 37) 2
abbrev s_Reader_name : Stmt := inClass (top 37) 3
abbrev s_Reader_bounded : Stmt := inClass (top 37) 4
abbrev s_Reader_stands : Stmt := inClass (top 37) 5
abbrev s_Reader_made : Stmt := inClass (top 37) 6
abbrev s_Reader_made_split : Stmt := inClass (top 37) 7
abbrev s_Reader_made_folded : Stmt := inClass (top 37) 8
abbrev s_Reader_function : Stmt := inClass (top 37) 9
abbrev s_residual : Stmt := top 38
abbrev s_add_places : Stmt := top 40
abbrev s_same_leaf : Stmt := top 41
abbrev s_may_lie : Stmt := top 42
abbrev s_within : Stmt := top 43
abbrev s_Node___init__ : Stmt := inClass (top 48) 0
abbrev s_is_variable_sessions : Stmt := top 49
abbrev s_may_expose : Stmt := top 51
abbrev s_split_problem : Stmt := top 52
abbrev s_fold_parts : Stmt := top 53
abbrev s_new_unknowns : Stmt := top 54
abbrev s_taken_out : Stmt := top 55
abbrev s_Session___init__ : Stmt := inClass (top 56) 0
abbrev s_Session_open_at : Stmt := inClass (top 56) 1
abbrev s_Session_close : Stmt := inClass (top 56) 2
abbrev s_Session_expose : Stmt := inClass (top 56) 3
abbrev s_Session_drive : Stmt := inClass (top 56) 4
abbrev s_Session_split : Stmt := inClass (top 56) 5
abbrev s_Session_fold : Stmt := inClass (top 56) 6
abbrev s_Session_leave : Stmt := inClass (top 56) 7
abbrev s_Session_count : Stmt := inClass (top 56) 8
abbrev s_Session_open_nodes : Stmt := inClass (top 56) 9
abbrev s_Session_node_at : Stmt := inClass (top 56) 10
abbrev s_Session_node : Stmt := inClass (top 56) 11
abbrev s_Session_way : Stmt := inClass (top 56) 12
abbrev s_Session_whistle : Stmt := inClass (top 56) 13
abbrev s_Session_graph : Stmt := inClass (top 56) 14
abbrev s_Session_fold_on_way : Stmt := inClass (top 56) 15
abbrev s_Session_split_by_whistle : Stmt := inClass (top 56) 16
abbrev s_Session_split_head : Stmt := inClass (top 56) 17
abbrev s_Session_attempt : Stmt := inClass (top 56) 18
abbrev s_Session_auto : Stmt := inClass (top 56) 19
abbrev s__law_tape : Stmt := top 58
abbrev s__law_next : Stmt := top 59
abbrev s__law_term : Stmt := top 60
abbrev s__law_heads : Stmt := top 61
abbrev s__law_program : Stmt := top 62
abbrev s__law_moved : Stmt := top 63
abbrev s__law_split : Stmt := top 64
abbrev s__law_closed : Stmt := top 65
abbrev s__law_prefix : Stmt := top 66
abbrev s__law_owner : Stmt := top 67
abbrev s__law_parameters : Stmt := top 68
abbrev s__law_stands : Stmt := top 69
abbrev s__law_folded : Stmt := top 70
abbrev s__law_function : Stmt := top 71
abbrev s_law : Stmt := top 72
def fn0 : List He.DefD := [
  ⟨("heads", none), "heads", "heads", defArgs s_heads, defBody s_heads, defScope s_heads, [], []⟩,
  ⟨("size", none), "size", "size", defArgs s_size, defBody s_size, defScope s_size, [], []⟩,
  ⟨("unknowns", none), "unknowns", "unknowns", defArgs s_unknowns, defBody s_unknowns, defScope s_unknowns, [], []⟩,
  ⟨("names", none), "names", "names", defArgs s_names, defBody s_names, defScope s_names, [], []⟩,
  ⟨("applied", none), "applied", "applied", defArgs s_applied, defBody s_applied, defScope s_applied, [], []⟩,
  ⟨("replaced", none), "replaced", "replaced", defArgs s_replaced, defBody s_replaced, defScope s_replaced, [], []⟩,
  ⟨("put", none), "put", "put", defArgs s_put, defBody s_put, defScope s_put, [], []⟩,
  ⟨("function_part", none), "function_part", "function_part", defArgs s_function_part, defBody s_function_part, defScope s_function_part, [], []⟩,
  ⟨("fits", none), "fits", "fits", defArgs s_fits, defBody s_fits, defScope s_fits, [], []⟩,
  ⟨("match", none), "match", "match", defArgs s_match, defBody s_match, defScope s_match, [], []⟩,
  ⟨("common", none), "common", "common", defArgs s_common, defBody s_common, defScope s_common, [], []⟩,
  ⟨("generalize", none), "generalize", "generalize", defArgs s_generalize, defBody s_generalize, defScope s_generalize, [], []⟩,
  ⟨("function_of", none), "function_of", "function_of", defArgs s_function_of, defBody s_function_of, defScope s_function_of, [], []⟩,
  ⟨("is_function", none), "is_function", "is_function", defArgs s_is_function, defBody s_is_function, defScope s_is_function, [], []⟩,
  ⟨("opened", none), "opened", "opened", defArgs s_opened, defBody s_opened, defScope s_opened, [], []⟩,
  ⟨("rule_of", none), "rule_of", "rule_of", defArgs s_rule_of, defBody s_rule_of, defScope s_rule_of, [], []⟩,
  ⟨("own_demand", none), "own_demand", "own_demand", defArgs s_own_demand, defBody s_own_demand, defScope s_own_demand, [], []⟩,
  ⟨("outer_demand", none), "outer_demand", "outer_demand", defArgs s_outer_demand, defBody s_outer_demand, defScope s_outer_demand, [], []⟩,
  ⟨("demand", none), "demand", "demand", defArgs s_demand, defBody s_demand, defScope s_demand, [], []⟩,
  ⟨("next_unknown", none), "next_unknown", "next_unknown", defArgs s_next_unknown, defBody s_next_unknown, defScope s_next_unknown, [], []⟩,
  ⟨("drive_running", none), "drive", "drive", defArgs s_drive_running, defBody s_drive_running, defScope s_drive_running, [], []⟩,
  ⟨("is_variable_residuals", none), "is_variable", "is_variable", defArgs s_is_variable_residuals, defBody s_is_variable_residuals, defScope s_is_variable_residuals, [], []⟩,
  ⟨("prefix_of", none), "prefix_of", "prefix_of", defArgs s_prefix_of, defBody s_prefix_of, defScope s_prefix_of, [], []⟩,
  ⟨("count_lines", none), "count_lines", "count_lines", defArgs s_count_lines, defBody s_count_lines, defScope s_count_lines, [], []⟩,
  ⟨("Reader", some "__init__"), "__init__", "Reader.__init__", defArgs s_Reader___init__, defBody s_Reader___init__, defScope s_Reader___init__, [], []⟩]
def fn1 : List He.DefD := [
  ⟨("Reader", some "is_function_node"), "is_function_node", "Reader.is_function_node", defArgs s_Reader_is_function_node, defBody s_Reader_is_function_node, defScope s_Reader_is_function_node, [], []⟩,
  ⟨("Reader", some "parameters"), "parameters", "Reader.parameters", defArgs s_Reader_parameters, defBody s_Reader_parameters, defScope s_Reader_parameters, [], []⟩,
  ⟨("Reader", some "name"), "name", "Reader.name", defArgs s_Reader_name, defBody s_Reader_name, defScope s_Reader_name, [], []⟩,
  ⟨("Reader", some "bounded"), "bounded", "Reader.bounded", defArgs s_Reader_bounded, defBody s_Reader_bounded, defScope s_Reader_bounded, [], []⟩,
  ⟨("Reader", some "stands"), "stands", "Reader.stands", defArgs s_Reader_stands, defBody s_Reader_stands, defScope s_Reader_stands, [], []⟩,
  ⟨("Reader", some "made"), "made", "Reader.made", defArgs s_Reader_made, defBody s_Reader_made, defScope s_Reader_made, [], []⟩,
  ⟨("Reader", some "made_split"), "made_split", "Reader.made_split", defArgs s_Reader_made_split, defBody s_Reader_made_split, defScope s_Reader_made_split, [], []⟩,
  ⟨("Reader", some "made_folded"), "made_folded", "Reader.made_folded", defArgs s_Reader_made_folded, defBody s_Reader_made_folded, defScope s_Reader_made_folded, [], []⟩,
  ⟨("Reader", some "function"), "function", "Reader.function", defArgs s_Reader_function, defBody s_Reader_function, defScope s_Reader_function, [], []⟩,
  ⟨("residual", none), "residual", "residual", defArgs s_residual, defBody s_residual, defScope s_residual, [], []⟩,
  ⟨("add_places", none), "add_places", "add_places", defArgs s_add_places, defBody s_add_places, defScope s_add_places, [], []⟩,
  ⟨("same_leaf", none), "same_leaf", "same_leaf", defArgs s_same_leaf, defBody s_same_leaf, defScope s_same_leaf, [], []⟩,
  ⟨("may_lie", none), "may_lie", "may_lie", defArgs s_may_lie, defBody s_may_lie, defScope s_may_lie, [], []⟩,
  ⟨("within", none), "within", "within", defArgs s_within, defBody s_within, defScope s_within, [], []⟩,
  ⟨("Node", some "__init__"), "__init__", "Node.__init__", defArgs s_Node___init__, defBody s_Node___init__, defScope s_Node___init__, [], []⟩,
  ⟨("is_variable_sessions", none), "is_variable", "is_variable", defArgs s_is_variable_sessions, defBody s_is_variable_sessions, defScope s_is_variable_sessions, [], []⟩,
  ⟨("may_expose", none), "may_expose", "may_expose", defArgs s_may_expose, defBody s_may_expose, defScope s_may_expose, [], []⟩,
  ⟨("split_problem", none), "split_problem", "split_problem", defArgs s_split_problem, defBody s_split_problem, defScope s_split_problem, [], []⟩,
  ⟨("fold_parts", none), "fold_parts", "fold_parts", defArgs s_fold_parts, defBody s_fold_parts, defScope s_fold_parts, [], []⟩,
  ⟨("new_unknowns", none), "new_unknowns", "new_unknowns", defArgs s_new_unknowns, defBody s_new_unknowns, defScope s_new_unknowns, [], []⟩,
  ⟨("taken_out", none), "taken_out", "taken_out", defArgs s_taken_out, defBody s_taken_out, defScope s_taken_out, [], []⟩,
  ⟨("Session", some "__init__"), "__init__", "Session.__init__", defArgs s_Session___init__, defBody s_Session___init__, defScope s_Session___init__, [], []⟩,
  ⟨("Session", some "open_at"), "open_at", "Session.open_at", defArgs s_Session_open_at, defBody s_Session_open_at, defScope s_Session_open_at, [], []⟩,
  ⟨("Session", some "close"), "close", "Session.close", defArgs s_Session_close, defBody s_Session_close, defScope s_Session_close, [], []⟩,
  ⟨("Session", some "expose"), "expose", "Session.expose", defArgs s_Session_expose, defBody s_Session_expose, defScope s_Session_expose, [], []⟩]
def fn2 : List He.DefD := [
  ⟨("Session", some "drive"), "drive", "Session.drive", defArgs s_Session_drive, defBody s_Session_drive, defScope s_Session_drive, [], []⟩,
  ⟨("Session", some "split"), "split", "Session.split", defArgs s_Session_split, defBody s_Session_split, defScope s_Session_split, [], []⟩,
  ⟨("Session", some "fold"), "fold", "Session.fold", defArgs s_Session_fold, defBody s_Session_fold, defScope s_Session_fold, [], []⟩,
  ⟨("Session", some "leave"), "leave", "Session.leave", defArgs s_Session_leave, defBody s_Session_leave, defScope s_Session_leave, [], []⟩,
  ⟨("Session", some "count"), "count", "Session.count", defArgs s_Session_count, defBody s_Session_count, defScope s_Session_count, [], []⟩,
  ⟨("Session", some "open_nodes"), "open_nodes", "Session.open_nodes", defArgs s_Session_open_nodes, defBody s_Session_open_nodes, defScope s_Session_open_nodes, [], []⟩,
  ⟨("Session", some "node_at"), "node_at", "Session.node_at", defArgs s_Session_node_at, defBody s_Session_node_at, defScope s_Session_node_at, [], []⟩,
  ⟨("Session", some "node"), "node", "Session.node", defArgs s_Session_node, defBody s_Session_node, defScope s_Session_node, [], []⟩,
  ⟨("Session", some "way"), "way", "Session.way", defArgs s_Session_way, defBody s_Session_way, defScope s_Session_way, [], []⟩,
  ⟨("Session", some "whistle"), "whistle", "Session.whistle", defArgs s_Session_whistle, defBody s_Session_whistle, defScope s_Session_whistle, [], []⟩,
  ⟨("Session", some "graph"), "graph", "Session.graph", defArgs s_Session_graph, defBody s_Session_graph, defScope s_Session_graph, [], []⟩,
  ⟨("Session", some "fold_on_way"), "fold_on_way", "Session.fold_on_way", defArgs s_Session_fold_on_way, defBody s_Session_fold_on_way, defScope s_Session_fold_on_way, [], []⟩,
  ⟨("Session", some "split_by_whistle"), "split_by_whistle", "Session.split_by_whistle", defArgs s_Session_split_by_whistle, defBody s_Session_split_by_whistle, defScope s_Session_split_by_whistle, [], []⟩,
  ⟨("Session", some "split_head"), "split_head", "Session.split_head", defArgs s_Session_split_head, defBody s_Session_split_head, defScope s_Session_split_head, [], []⟩,
  ⟨("Session", some "attempt"), "attempt", "Session.attempt", defArgs s_Session_attempt, defBody s_Session_attempt, defScope s_Session_attempt, [], []⟩,
  ⟨("Session", some "auto"), "auto", "Session.auto", defArgs s_Session_auto, defBody s_Session_auto, defScope s_Session_auto, [], []⟩,
  ⟨("_law_tape", none), "_law_tape", "_law_tape", defArgs s__law_tape, defBody s__law_tape, defScope s__law_tape, [], []⟩,
  ⟨("_law_next", none), "_law_next", "_law_next", defArgs s__law_next, defBody s__law_next, defScope s__law_next, [], []⟩,
  ⟨("_law_term", none), "_law_term", "_law_term", defArgs s__law_term, defBody s__law_term, defScope s__law_term, [], []⟩,
  ⟨("_law_heads", none), "_law_heads", "_law_heads", defArgs s__law_heads, defBody s__law_heads, defScope s__law_heads, [], []⟩,
  ⟨("_law_program", none), "_law_program", "_law_program", defArgs s__law_program, defBody s__law_program, defScope s__law_program, [], []⟩,
  ⟨("_law_moved", none), "_law_moved", "_law_moved", defArgs s__law_moved, defBody s__law_moved, defScope s__law_moved, [], []⟩,
  ⟨("_law_split", none), "_law_split", "_law_split", defArgs s__law_split, defBody s__law_split, defScope s__law_split, [], []⟩,
  ⟨("_law_closed", none), "_law_closed", "_law_closed", defArgs s__law_closed, defBody s__law_closed, defScope s__law_closed, [], []⟩,
  ⟨("_law_prefix", none), "_law_prefix", "_law_prefix", defArgs s__law_prefix, defBody s__law_prefix, defScope s__law_prefix, [], []⟩]
def fn3 : List He.DefD := [
  ⟨("_law_owner", none), "_law_owner", "_law_owner", defArgs s__law_owner, defBody s__law_owner, defScope s__law_owner, [], []⟩,
  ⟨("_law_parameters", none), "_law_parameters", "_law_parameters", defArgs s__law_parameters, defBody s__law_parameters, defScope s__law_parameters, [], []⟩,
  ⟨("_law_stands", none), "_law_stands", "_law_stands", defArgs s__law_stands, defBody s__law_stands, defScope s__law_stands, [], []⟩,
  ⟨("_law_folded", none), "_law_folded", "_law_folded", defArgs s__law_folded, defBody s__law_folded, defScope s__law_folded, [], []⟩,
  ⟨("_law_function", none), "_law_function", "_law_function", defArgs s__law_function, defBody s__law_function, defScope s__law_function, [], []⟩,
  ⟨("law", none), "law", "law", defArgs s_law, defBody s_law, defScope s_law, [], []⟩]
def fn : List He.DefD := fn0 ++ fn1 ++ fn2 ++ fn3
def fa0 : List He.Fa := [
  .glo "DriveFoldError", .glo "TooLarge", .glo "Refused", .glo "heads", .glo "size", .glo "unknowns", .glo "names", .glo "applied", .glo "replaced", .glo "put", .glo "function_part", .glo "fits", .glo "match", .glo "common", .glo "generalize", .glo "function_of", .glo "is_function", .glo "opened", .glo "rule_of", .glo "own_demand", .glo "outer_demand", .glo "demand", .glo "next_unknown", .glo "drive_running", .glo "is_variable_residuals", .glo "prefix_of", .glo "count_lines", .glo "Reader", .meth "Reader" "is_function_node", .meth "Reader" "parameters"]
def fa1 : List He.Fa := [
  .meth "Reader" "name", .meth "Reader" "bounded", .meth "Reader" "stands", .meth "Reader" "made", .meth "Reader" "made_split", .meth "Reader" "made_folded", .meth "Reader" "function", .cls "Reader", .mkr "Reader", .noat "Reader" "program", .noat "Reader" "graph", .noat "Reader" "prefix", .noat "Reader" "targets", .noat "Reader" "known", .glo "residual", .glo "add_places", .glo "same_leaf", .glo "may_lie", .glo "within", .glo "Node", .cls "Node", .mkr "Node", .noat "Node" "term", .noat "Node" "parent", .noat "Node" "kind", .noat "Node" "children", .noat "Node" "target", .noat "Node" "unknowns", .glo "is_variable_sessions", .glo "may_expose"]
def fa2 : List He.Fa := [
  .glo "split_problem", .glo "fold_parts", .glo "new_unknowns", .glo "taken_out", .glo "Session", .meth "Session" "open_at", .meth "Session" "close", .meth "Session" "expose", .meth "Session" "drive", .meth "Session" "split", .meth "Session" "fold", .meth "Session" "leave", .meth "Session" "count", .meth "Session" "open_nodes", .meth "Session" "node_at", .meth "Session" "node", .meth "Session" "way", .meth "Session" "whistle", .meth "Session" "graph", .meth "Session" "fold_on_way", .meth "Session" "split_by_whistle", .meth "Session" "split_head", .meth "Session" "attempt", .meth "Session" "auto", .cls "Session", .mkr "Session", .noat "Session" "program", .noat "Session" "nodes", .noat "Session" "deeds", .glo "_law_tape"]
def fa3 : List He.Fa := [
  .glo "_law_next", .glo "_law_term", .glo "_law_heads", .glo "_law_program", .glo "_law_moved", .glo "_law_split", .glo "_law_closed", .glo "_law_prefix", .glo "_law_owner", .glo "_law_parameters", .glo "_law_stands", .glo "_law_folded", .glo "_law_function", .glo "law", .int "MOST_BODY" 120, .int "MOST_LINES" 200, .int "MOST_NODES" 40, .int "MOST_SIZE" 60, .exc "TooLarge", .exm "TooLarge" "TooLarge" true, .exm "Refused" "Refused" true, .noat "Refused" "reason", .free "ValueError", .free "abs", .free "all", .free "any", .free "dict", .free "enumerate", .free "int", .free "isinstance"]
def fa4 : List He.Fa := [
  .free "len", .free "list", .free "max", .free "range", .free "str", .free "sum", .free "super", .free "tuple", .free "zip"]
def fa : List He.Fa := fa0 ++ fa1 ++ fa2 ++ fa3 ++ fa4
def nm0 : List PySem.Str := ["_wall", "DriveFoldError", "TooLarge", "Refused", "heads", "size", "unknowns", "names", "applied", "replaced", "put", "function_part", "fits", "match", "common", "generalize", "function_of", "is_function", "opened", "rule_of", "own_demand", "outer_demand", "demand", "next_unknown", "drive", "drive_running", "MOST_BODY", "MOST_LINES", "is_variable", "is_variable_residuals"]
def nm1 : List PySem.Str := ["prefix_of", "count_lines", "Reader", "residual", "add_places", "same_leaf", "may_lie", "within", "MOST_NODES", "MOST_SIZE", "DRIVEN", "Node", "is_variable_sessions", "may_expose", "split_problem", "fold_parts", "new_unknowns", "taken_out", "Session", "_law_tape", "_law_next", "_law_term", "_law_heads", "_law_program", "_law_moved", "_law_split", "_law_closed", "_law_prefix", "_law_owner", "_law_parameters"]
def nm2 : List PySem.Str := ["_law_stands", "_law_folded", "_law_function"]
def nm : List PySem.Str := nm0 ++ nm1 ++ nm2
end Tx

/-! what the head tells of Refused, of DRIVEN: an own Bool beside the facts and the defs -/
namespace Hx
open PySem PySem.Spec PyProof.Rows L2
abbrev s_ini : Stmt := inClass (Tx.top 4) 0
def vC (K : PySem.W.Frag) : Addr := He.ga K "Refused"
def vI (K : PySem.W.Frag) : Addr := He.ma K (vC K) "__init__"
def cell (K : PySem.W.Frag) : Addr := match K.lookup (vI K) with
  | some ⟨_, _, .func fd, _⟩ => (match fd.closure with
    | [(_, c)] => c
    | _ => 0)
  | _ => 0
def fileS : Str := PySem.Challenge.pw_drivefold_k42_whole_what_residual_is.main.file
/-- the class object -/
def clsB (K : PySem.W.Frag) (C : Addr) : Bool := match K.lookup C with
  | some ⟨.type "type", _, .cls cd, sl⟩ => (match cd.mro, sl.toList with
    | .ref C' :: bm, [_, _, _, _, some (.builtin n), _] => C' == C && (n == "ValueError.__new__" && (!cd.hasDel && (cd.hasDict && PySem.HandSPX.refsVE bm)))
    | _, _ => false)
  | _ => false
/-- the code object's file -/
def fileB (K : PySem.W.Frag) : Value → Bool
  | .ref c => (match K.lookup c with
    | some ⟨_, _, .fields vs, _⟩ => (match (vs[2]? : Option Value) with
      | some (.str z _) => decide (z = fileS)
      | _ => false)
    | _ => false)
  | _ => false
def defB (K : PySem.W.Frag) : Bool := match K.lookup (vI K) with
  | some ⟨_, _, .func fd, _⟩ => PySem.W.codeIn K fd.code "Refused.__init__" && (fileB K fd.code && (match fd.defaults with
    | .none => true
    | _ => false))
  | _ => false
def cellB (K : PySem.W.Frag) : Bool := match K.lookup (cell K) with
  | some ⟨_, _, .cell (some (.ref D)), _⟩ => decide (D = vC K)
  | _ => false
def ebs (K : PySem.W.Frag) : List Bool := [
  clsB K (vC K),
  decide (PySem.W.findIn K (.ref (vC K)) "__setattr__" = some (some (.builtin "object.__setattr__"))),
  decide (PySem.W.subIn K (.ref (vC K)) (.type "BaseException") = some true),
  decide (PySem.W.typeIn K (.ref (vC K)) = some (.type "type")),
  PySem.W.keepIn K (.ref (vC K)),
  decide (PySem.W.findIn K (.ref (vC K)) "__init__" = some (some (.ref (vI K)))),
  decide (PySem.W.typeIn K (.ref (vI K)) = some (.type "function")),
  defB K,
  cellB K,
  decide (PySem.W.ks_superIn K (vC K) (vC K) "__init__" = some (some (.builtin "ValueError.__init__"))),
  decide (PySem.W.subIn K (.ref (vC K)) (.type "ValueError") = some true),
  decide (PySem.W.nsIn K cStatics "thirdparty.any" = some none),
  decide (PySem.W.mroIn K (vC K) (.ref (vC K)) = some true),
  L2.xfB K (vC K),
  (He.Fa.glo "DRIVEN").ok K,
  He.tupB K "DRIVEN" [.str "stepped", .str "branched"]]
abbrev FnR : Type := Option (Str × Str × Arguments × FuncBody × Scope × Addr × List Str × Addr)
def fnR (K : PySem.W.Frag) : FnR := match K.lookup (vI K) with
  | some ⟨_, _, .func fd, _⟩ => some (fd.name, fd.qualname, fd.params, fd.body, fd.scope, fd.globals, fd.closure.map (·.1), fd.builtins)
  | _ => none
def valR : FnR := some ("__init__", "Refused.__init__", defArgs s_ini, .stmts (defBody s_ini), defScope s_ini, mainGlobals, ["__class__"], builtinsNs)
abbrev Al : Type := He.AlD × Bool × FnR
def fr (g : Addr → Option Obj) : PySem.W.Frag := He.frG g (cStatics :: He.asD g 5)
def obsK (K : PySem.W.Frag) : Al := (He.obsD Tx.fa Tx.fn K, (ebs K).all id, fnR K)
def obsM (g : Addr → Option Obj) : Al := obsK (fr g)
def val : Al := (He.valD Tx.fn, true, valR)
/-- what is told -/
structure Says (K : PySem.W.Frag) : Prop where
  t : He.SaysD Tx.fa Tx.fn K
  eb : (ebs K).all id = true
  fn : fnR K = valR
theorem says_of {K : PySem.W.Frag} (e : obsK K = val) : Says K := ⟨congrArg (fun z : Al => z.1) e, congrArg (fun z : Al => z.2.1) e, congrArg (fun z : Al => z.2.2) e⟩
def hk : PySem.W.Hook where
  α := Al
  obs := fun s => obsM s.heap.get?
  val := fun _ => val
  says := fun _ h => ∃ K : PySem.W.Frag, K.In h ∧ Says K
  of := fun _ _ e => ⟨_, He.frG_in, says_of e⟩
  keeps := fun _ _ _ ⟨K, hK, c⟩ k => ⟨K, PySem.W.Frag.In.keeps hK k, c⟩
theorem obsM_eq {g : Addr → Option Obj} {s : Shared} (h : ∀ a, g a = s.heap.get? a) : obsM g = hk.obs s := by
  have e : g = s.heap.get? := funext h
  rw [e] <;> rfl
theorem Says.at {K : PySem.W.Frag} (c : Says K) (i : Nat) {b : Bool} (h : (ebs K)[i]? = some b := by rfl) : b = true := List.all_eq_true.mp c.eb b (List.mem_of_getElem? h)
abbrev R : PySem.W.OpenRow := PySem.W.OpenLaw.row PySem.Challenge.rw_drivefold_k42_whole_what_residual_is
def ob (s : PySem.W.SharedT) : Al := obsM (HandSHeadRun.getT s)
theorem ob_eq (s : PySem.W.SharedT) : ob s = hk.obs s.abs := obsM_eq (HandSHeadRun.getT_eq s)
end Hx

/-! the head, run -/
namespace Hx
open PySem PySem.Spec PyProof.Rows L2
theorem run (w : World) : HandSHeadRun.RunEq R (PySem.W.view R.prog [72]) hk ob 5000 Tx.nm w := by
  intro os
  kernel_rfl
end Hx

/-! plain mathematics: names, terms, what is put in, instances, programs, demands -/
namespace DF
open PySem
def good (x : Str) : Bool := x.cps.all (· < 0x110000) && (decide (0 < x.length) && decide (x.length ≤ 64))
/-- a name that may stand in a term -/
structure Nm where
  s : Str
  ok : good s = true
deriving DecidableEq
instance : Inhabited Nm := ⟨⟨"Z", by decide +kernel⟩⟩
theorem Nm.inj {a b : Nm} (h : a.s = b.s) : a = b := by cases a; cases b; cases h; rfl
/-- a head -/
inductive Hd where
  | u (i : Int)
  | c (x : Nm)
deriving DecidableEq
instance : Inhabited Hd := ⟨.u 0⟩
/-- a term, as applications -/
inductive T where
  | lf (h : Hd)
  | ap (f a : T)
deriving DecidableEq
instance : Inhabited T := ⟨.lf default⟩
namespace T
def hd : T → Hd
  | lf h => h
  | ap f _ => f.hd
def args : T → List T
  | lf _ => []
  | ap f a => f.args ++ [a]
def size : T → Nat
  | lf _ => 1
  | ap f a => f.size + a.size
def heads : T → List Hd
  | lf h => [h]
  | ap f a => f.heads ++ a.heads
def aps (t : T) (as : List T) : T := as.foldl ap t
theorem size_pos : ∀ t : T, 0 < t.size
  | lf _ => Nat.one_pos
  | ap f a => Nat.lt_of_lt_of_le f.size_pos (Nat.le_add_right _ _)
theorem aps_nil (t : T) : t.aps [] = t := rfl
theorem aps_cons (t a : T) (as : List T) : t.aps (a :: as) = (t.ap a).aps as := rfl
theorem aps_snoc (t a : T) (as : List T) : t.aps (as ++ [a]) = (t.aps as).ap a := by
  unfold aps; rw [List.foldl_append]; rfl
theorem aps_append (t : T) (as bs : List T) : t.aps (as ++ bs) = (t.aps as).aps bs := by
  unfold aps; rw [List.foldl_append]
theorem eta : ∀ t : T, (lf t.hd).aps t.args = t
  | lf _ => rfl
  | ap f a => by
    show (lf f.hd).aps (f.args ++ [a]) = ap f a
    rw [aps_snoc, eta f]
theorem args_aps : ∀ (as : List T) (t : T), (t.aps as).args = t.args ++ as
  | [], t => by simp [aps]
  | a :: as, t => by
    rw [aps_cons, args_aps as]
    simp [args]
theorem hd_aps : ∀ (as : List T) (t : T), (t.aps as).hd = t.hd
  | [], _ => rfl
  | a :: as, t => by rw [aps_cons, hd_aps as]; rfl
theorem hd_mk (h : Hd) (as : List T) : ((lf h).aps as).hd = h := hd_aps as (lf h)
theorem args_mk (h : Hd) (as : List T) : ((lf h).aps as).args = as := by rw [args_aps]; rfl
theorem ext {a b : T} (h1 : a.hd = b.hd) (h2 : a.args = b.args) : a = b := by rw [← eta a, ← eta b, h1, h2]
def sizes (as : List T) : Nat := (as.map size).sum
theorem sizes_cons (a : T) (as : List T) : sizes (a :: as) = a.size + sizes as := by simp [sizes]
theorem sizes_append (as bs : List T) : sizes (as ++ bs) = sizes as + sizes bs := by simp [sizes]
theorem size_aps : ∀ (as : List T) (t : T), (t.aps as).size = t.size + sizes as
  | [], t => by simp [aps, sizes]
  | a :: as, t => by
    rw [aps_cons, size_aps as, sizes_cons]
    simp only [size]
    omega
theorem size_eq (t : T) : t.size = 1 + sizes t.args := by
  have h := size_aps t.args (lf t.hd)
  rw [eta] at h
  exact h
theorem size_mk (h : Hd) (as : List T) : ((lf h).aps as).size = 1 + sizes as := size_aps as (lf h)
theorem mem_sizes : ∀ {as : List T} {a : T}, a ∈ as → a.size ≤ sizes as
  | b :: as, a, h => by
    rw [sizes_cons]
    rcases List.mem_cons.mp h with rfl | h
    · exact Nat.le_add_right _ _
    · exact Nat.le_trans (mem_sizes h) (Nat.le_add_left _ _)
theorem len_sizes : ∀ as : List T, as.length ≤ sizes as
  | [] => Nat.zero_le _
  | a :: as => by
    rw [sizes_cons, List.length_cons]
    have := len_sizes as
    have := a.size_pos
    omega
theorem arg_lt {t a : T} (h : a ∈ t.args) : a.size < t.size := by
  rw [size_eq t]
  have := mem_sizes h
  omega
theorem args_len (t : T) : t.args.length < t.size := by
  rw [size_eq t]
  have := len_sizes t.args
  omega
theorem heads_len : ∀ t : T, t.heads.length = t.size
  | lf _ => rfl
  | ap f a => by simp [heads, size, heads_len f, heads_len a]
theorem heads_aps : ∀ (as : List T) (t : T), (t.aps as).heads = t.heads ++ (as.map heads).flatten
  | [], t => by simp [aps]
  | a :: as, t => by
    rw [aps_cons, heads_aps as]
    simp [heads]
theorem heads_eq (t : T) : t.heads = t.hd :: (t.args.map heads).flatten := by
  have h := heads_aps t.args (lf t.hd)
  rw [eta] at h
  exact h
theorem hd_mem (t : T) : t.hd ∈ t.heads := by rw [heads_eq]; exact List.mem_cons_self
theorem arg_heads {t a : T} (h : a ∈ t.args) : ∀ x ∈ a.heads, x ∈ t.heads := fun x hx => by
  rw [heads_eq]
  exact List.mem_cons_of_mem _ (List.mem_flatten.mpr ⟨a.heads, List.mem_map.mpr ⟨a, h, rfl⟩, hx⟩)
/-- an unknown without arguments -/
def isVar : T → Bool
  | lf (.u _) => true
  | _ => false
end T
open T
/-- each once, in the order of the first places -/
def addK {α : Type} [DecidableEq α] (acc : List α) (x : α) : List α := if x ∈ acc then acc else acc ++ [x]
def uniq {α : Type} [DecidableEq α] (l : List α) : List α := l.foldl addK []
section
variable {α : Type} [DecidableEq α]
theorem mem_addK {acc : List α} {x y : α} : y ∈ addK acc x ↔ y ∈ acc ∨ y = x := by
  unfold addK
  by_cases h : x ∈ acc
  · rw [if_pos h]
    exact ⟨Or.inl, fun z => z.elim id fun e => e ▸ h⟩
  · rw [if_neg h]; simp
theorem mem_foldl_addK : ∀ {l acc : List α} {y : α}, y ∈ l.foldl addK acc ↔ y ∈ acc ∨ y ∈ l
  | [], acc, y => by simp
  | x :: l, acc, y => by
    rw [List.foldl_cons, mem_foldl_addK, mem_addK, List.mem_cons]
    exact ⟨fun h => h.elim (fun h => h.elim Or.inl fun e => Or.inr (Or.inl e)) fun h => Or.inr (Or.inr h), fun h => h.elim (fun h => Or.inl (Or.inl h)) fun h => h.elim (fun e => Or.inl (Or.inr e)) Or.inr⟩
theorem mem_uniq {l : List α} {y : α} : y ∈ uniq l ↔ y ∈ l := by unfold uniq; rw [mem_foldl_addK]; simp
theorem nodup_addK {acc : List α} {x : α} (h : acc.Nodup) : (addK acc x).Nodup := by
  unfold addK
  by_cases hx : x ∈ acc
  · rw [if_pos hx]; exact h
  · rw [if_neg hx]
    rw [List.nodup_append]
    refine ⟨h, by simp, fun a ha b hb e => ?_⟩
    have : b = x := by simpa using hb
    exact hx (this ▸ e ▸ ha)
theorem nodup_foldl : ∀ {l acc : List α}, acc.Nodup → (l.foldl addK acc).Nodup
  | [], _, h => h
  | x :: l, _, h => nodup_foldl (l := l) (nodup_addK h)
theorem nodup_uniq (l : List α) : (uniq l).Nodup := nodup_foldl List.nodup_nil
theorem len_addK {acc : List α} {x : α} : (addK acc x).length ≤ acc.length + 1 := by
  unfold addK; split <;> simp
theorem len_foldl : ∀ {l acc : List α}, (l.foldl addK acc).length ≤ acc.length + l.length
  | [], _ => Nat.le_refl _
  | x :: l, acc => by
    rw [List.foldl_cons, List.length_cons]
    have h1 := len_foldl (l := l) (acc := addK acc x)
    have h2 := len_addK (acc := acc) (x := x)
    omega
theorem len_uniq (l : List α) : (uniq l).length ≤ l.length := by
  have := len_foldl (l := l) (acc := [])
  simpa [uniq] using this
end
def unkOf : Hd → Option Int
  | .u i => some i
  | .c _ => none
def namOf : Hd → Option Nm
  | .u _ => none
  | .c x => some x
def unks (t : T) : List Int := uniq (t.heads.filterMap unkOf)
def nams (t : T) : List Nm := uniq (t.heads.filterMap namOf)
theorem mem_unks {t : T} {i : Int} : i ∈ unks t ↔ Hd.u i ∈ t.heads := by
  unfold unks; rw [mem_uniq, List.mem_filterMap]
  constructor
  · rintro ⟨h, hm, e⟩
    cases h with
    | u j => cases e; exact hm
    | c x => cases e
  · intro h; exact ⟨_, h, rfl⟩
theorem mem_nams {t : T} {x : Nm} : x ∈ nams t ↔ Hd.c x ∈ t.heads := by
  unfold nams; rw [mem_uniq, List.mem_filterMap]
  constructor
  · rintro ⟨h, hm, e⟩
    cases h with
    | u j => cases e
    | c y => cases e; exact hm
  · intro h; exact ⟨_, h, rfl⟩
theorem unks_len (t : T) : (unks t).length ≤ t.size := by
  have h1 := len_uniq (t.heads.filterMap unkOf)
  have h2 := List.length_filterMap_le unkOf t.heads
  rw [heads_len] at h2
  exact Nat.le_trans h1 h2
theorem nams_len (t : T) : (nams t).length ≤ t.size := by
  have h1 := len_uniq (t.heads.filterMap namOf)
  have h2 := List.length_filterMap_le namOf t.heads
  rw [heads_len] at h2
  exact Nat.le_trans h1 h2
/-! ### tables, what is put in -/
abbrev Tab := List (Int × T)
def look (θ : Tab) (i : Int) : Option T := (θ.find? fun p => decide (p.1 = i)).map (·.2)
def set1 (θ : Tab) (i : Int) (t : T) : Tab := if (θ.any fun p => decide (p.1 = i)) = true then θ.map (fun p => if p.1 = i then (p.1, t) else p) else θ ++ [(i, t)]
def tabOf (ps : List (Int × T)) : Tab := ps.foldl (fun θ p => set1 θ p.1 p.2) []
def putH (θ : Tab) : Hd → T
  | .u i => (look θ i).getD (.lf (.u i))
  | .c x => .lf (.c x)
/-- the parts of a table put in -/
def rep (θ : Tab) : T → T
  | lf h => putH θ h
  | ap f a => ap (rep θ f) (rep θ a)
def put (t : T) (ps : List (Int × T)) : T := rep (tabOf ps) t
theorem rep_aps (θ : Tab) : ∀ (as : List T) (t : T), rep θ (t.aps as) = (rep θ t).aps (as.map (rep θ))
  | [], _ => rfl
  | a :: as, t => by rw [aps_cons, rep_aps θ as, List.map_cons, aps_cons]; rfl
theorem rep_eq (θ : Tab) (t : T) : rep θ t = (putH θ t.hd).aps (t.args.map (rep θ)) := by
  have h := rep_aps θ t.args (lf t.hd)
  rw [eta] at h
  exact h
theorem look_mem : ∀ {θ : Tab} {i : Int} {t : T}, look θ i = some t → (i, t) ∈ θ := fun {θ i t} h => by
  unfold look at h
  cases e : θ.find? fun p => decide (p.1 = i) with
  | none => rw [e] at h; cases h
  | some p =>
    rw [e] at h
    have h1 := List.find?_some e
    have h2 := List.mem_of_find?_eq_some e
    cases h
    have h3 : p.1 = i := of_decide_eq_true h1
    rw [← h3]; exact h2
/-- every part has at most this size -/
def TabLe (θ : Tab) (M : Nat) : Prop := ∀ p ∈ θ, p.2.size ≤ M
theorem TabLe.look {θ : Tab} {M : Nat} (h : TabLe θ M) {i : Int} {t : T} (e : look θ i = some t) : t.size ≤ M := h _ (look_mem e)
theorem rep_size {θ : Tab} {M : Nat} (hM : 1 ≤ M) (h : TabLe θ M) : ∀ t : T, (rep θ t).size ≤ M * t.size
  | lf (.u i) => by
    show ((look θ i).getD (.lf (.u i))).size ≤ M * 1
    cases e : look θ i with
    | none => simp [T.size]; omega
    | some t => have := h.look e; simp; omega
  | lf (.c x) => by simp [rep, putH, T.size]; omega
  | ap f a => by
    have h1 := rep_size hM h f
    have h2 := rep_size hM h a
    simp only [rep, T.size, Nat.mul_add]
    omega
theorem set1_mem {θ : Tab} {i : Int} {t : T} {p : Int × T} (h : p ∈ set1 θ i t) : p ∈ θ ∨ p.2 = t := by
  unfold set1 at h
  split at h
  · obtain ⟨q, hq, e⟩ := List.mem_map.mp h
    by_cases c : q.1 = i
    · rw [if_pos c] at e; exact .inr (by rw [← e])
    · rw [if_neg c] at e; exact .inl (e ▸ hq)
  · rcases List.mem_append.mp h with h | h
    · exact .inl h
    · have : p = (i, t) := by simpa using h
      exact .inr (by rw [this])
theorem foldl_set1_mem : ∀ {ps : List (Int × T)} {θ : Tab} {p : Int × T}, p ∈ ps.foldl (fun θ p => set1 θ p.1 p.2) θ → p ∈ θ ∨ ∃ q ∈ ps, p.2 = q.2
  | [], _, _, h => .inl h
  | q :: ps, θ, p, h => by
    rcases foldl_set1_mem (ps := ps) h with h | ⟨r, hr, e⟩
    · rcases set1_mem h with h | h
      · exact .inl h
      · exact .inr ⟨q, List.mem_cons_self, h⟩
    · exact .inr ⟨r, List.mem_cons_of_mem _ hr, e⟩
theorem tabOf_mem {ps : List (Int × T)} {p : Int × T} (h : p ∈ tabOf ps) : ∃ q ∈ ps, p.2 = q.2 := by
  rcases foldl_set1_mem h with h | h
  · cases h
  · exact h
theorem tabOf_le {ps : List (Int × T)} {M : Nat} (h : ∀ p ∈ ps, p.2.size ≤ M) : TabLe (tabOf ps) M := fun p hp => by
  obtain ⟨q, hq, e⟩ := tabOf_mem hp
  rw [e]; exact h q hq
theorem put_size {t : T} {ps : List (Int × T)} {M : Nat} (hM : 1 ≤ M) (h : ∀ p ∈ ps, p.2.size ≤ M) : (put t ps).size ≤ M * t.size := rep_size hM (tabOf_le h) t
theorem set1_len {θ : Tab} {i : Int} {t : T} : (set1 θ i t).length ≤ θ.length + 1 := by
  unfold set1; split <;> simp
theorem foldl_set1_len : ∀ {ps : List (Int × T)} {θ : Tab}, (ps.foldl (fun θ p => set1 θ p.1 p.2) θ).length ≤ θ.length + ps.length
  | [], _ => Nat.le_refl _
  | q :: ps, θ => by
    have h1 := foldl_set1_len (ps := ps) (θ := set1 θ q.1 q.2)
    have h2 := set1_len (θ := θ) (i := q.1) (t := q.2)
    rw [List.foldl_cons, List.length_cons]
    omega
theorem tabOf_len (ps : List (Int × T)) : (tabOf ps).length ≤ ps.length := by
  have := foldl_set1_len (ps := ps) (θ := [])
  simpa [tabOf] using this
/-- the heads of what is put together -/
theorem rep_heads {θ : Tab} : ∀ {t : T} {h : Hd}, h ∈ (rep θ t).heads → h ∈ t.heads ∨ ∃ p ∈ θ, h ∈ p.2.heads
  | lf (.u i), h, hm => by
    have hm : h ∈ ((look θ i).getD (.lf (.u i))).heads := hm
    cases e : look θ i with
    | none => rw [e] at hm; exact .inl hm
    | some t => rw [e] at hm; exact .inr ⟨_, look_mem e, hm⟩
  | lf (.c x), h, hm => .inl hm
  | ap f a, h, hm => by
    have hm : h ∈ (rep θ f).heads ++ (rep θ a).heads := hm
    rcases List.mem_append.mp hm with hm | hm
    · rcases rep_heads hm with z | z
      · exact .inl (List.mem_append_left _ z)
      · exact .inr z
    · rcases rep_heads hm with z | z
      · exact .inl (List.mem_append_right _ z)
      · exact .inr z
theorem put_heads {t : T} {ps : List (Int × T)} {h : Hd} (hm : h ∈ (put t ps).heads) : h ∈ t.heads ∨ ∃ p ∈ ps, h ∈ p.2.heads := by
  rcases rep_heads hm with z | ⟨p, hp, z⟩
  · exact .inl z
  · obtain ⟨q, hq, e⟩ := tabOf_mem hp
    exact .inr ⟨q, hq, e ▸ z⟩
/-- a name of the body stands in what is put together -/
theorem rep_nam {θ : Tab} {x : Nm} : ∀ {t : T}, Hd.c x ∈ t.heads → Hd.c x ∈ (rep θ t).heads
  | lf (.u i), h => by cases List.mem_singleton.mp h
  | lf (.c y), h => h
  | ap f a, h => by
    rcases List.mem_append.mp (show Hd.c x ∈ f.heads ++ a.heads from h) with h | h
    · exact List.mem_append_left _ (rep_nam h)
    · exact List.mem_append_right _ (rep_nam h)
theorem rep_unk {θ : Tab} {i : Int} {p : T} (e : look θ i = some p) {h : Hd} (hp : h ∈ p.heads) : ∀ {t : T}, Hd.u i ∈ t.heads → h ∈ (rep θ t).heads
  | lf (.u j), hm => by
    have := List.mem_singleton.mp hm
    cases this
    show h ∈ ((look θ i).getD (.lf (.u i))).heads
    rw [e]; exact hp
  | lf (.c y), hm => by cases List.mem_singleton.mp hm
  | ap f a, hm => by
    rcases List.mem_append.mp (show Hd.u i ∈ f.heads ++ a.heads from hm) with hm | hm
    · exact List.mem_append_left _ (rep_unk e hp hm)
    · exact List.mem_append_right _ (rep_unk e hp hm)
/-! ### instances -/
def fit : T → T → Tab → Option Tab
  | lf (.u i), t, θ => match look θ i with
    | some x => if x = t then some θ else none
    | none => some (θ ++ [(i, t)])
  | lf (.c x), t, θ => if lf (.c x) = t then some θ else none
  | ap f a, ap g b, θ => (fit f g θ).bind fun θ' => fit a b θ'
  | ap _ _, lf _, _ => none
theorem look_snoc {θ : Tab} {i j : Int} {t : T} (h : look θ i = none) : look (θ ++ [(i, t)]) j = if j = i then some t else look θ j := by
  unfold look at h ⊢
  rw [List.find?_append]
  cases e : θ.find? fun p => decide (p.1 = j) with
  | some p =>
    simp only [Option.some_or, Option.map_some]
    have h1 : p.1 = j := of_decide_eq_true (List.find?_some (p := fun q : Int × T => decide (q.1 = j)) e)
    by_cases c : j = i
    · subst c; rw [e] at h; cases h
    · rw [if_neg c]
  | none =>
    simp only [Option.none_or, Option.map_none, List.find?_cons, List.find?_nil]
    by_cases c : j = i
    · subst c; simp
    · have c' : ¬ i = j := fun z => c z.symm
      simp [c, c']
/-- what a fit leaves: the table grows, every unknown of the pattern has a part, the parts are parts of the term -/
structure Fits (p t : T) (θ θ' : Tab) : Prop where
  keep : ∀ i x, look θ i = some x → look θ' i = some x
  has : ∀ i, Hd.u i ∈ p.heads → (look θ' i).isSome = true
  new : ∀ q ∈ θ', q ∈ θ ∨ q.2.size ≤ t.size ∧ ∀ h ∈ q.2.heads, h ∈ t.heads
  len : θ'.length ≤ θ.length + p.size
theorem fit_fits : ∀ {p t : T} {θ θ' : Tab}, fit p t θ = some θ' → Fits p t θ θ'
  | lf (.u i), t, θ, θ', h => by
    unfold fit at h
    cases e : look θ i with
    | some x =>
      rw [e] at h
      dsimp only at h
      by_cases c : x = t
      · rw [if_pos c] at h; cases h
        refine ⟨fun _ _ z => z, fun j hj => ?_, fun q hq => .inl hq, Nat.le_add_right _ _⟩
        have := List.mem_singleton.mp hj; cases this
        rw [e]; rfl
      · rw [if_neg c] at h; cases h
    | none =>
      rw [e] at h
      dsimp only at h
      cases h
      refine ⟨fun j x z => ?_, fun j hj => ?_, fun q hq => ?_, by simp [T.size]⟩
      · rw [look_snoc e]
        by_cases c : j = i
        · subst c; rw [e] at z; cases z
        · rw [if_neg c]; exact z
      · have := List.mem_singleton.mp hj; cases this
        rw [look_snoc e, if_pos rfl]; rfl
      · rcases List.mem_append.mp hq with hq | hq
        · exact .inl hq
        · have : q = (i, t) := by simpa using hq
          rw [this]; exact .inr ⟨Nat.le_refl _, fun _ z => z⟩
  | lf (.c x), t, θ, θ', h => by
    unfold fit at h
    by_cases c : lf (.c x) = t
    · rw [if_pos c] at h; cases h
      exact ⟨fun _ _ z => z, fun j hj => (by cases List.mem_singleton.mp hj), fun q hq => .inl hq, Nat.le_add_right _ _⟩
    · rw [if_neg c] at h; cases h
  | ap f a, ap g b, θ, θ', h => by
    unfold fit at h
    cases e : fit f g θ with
    | none => rw [e] at h; cases h
    | some θ1 =>
      rw [e] at h
      have h : fit a b θ1 = some θ' := h
      have F := fit_fits e
      have G := fit_fits h
      refine ⟨fun i x z => G.keep i x (F.keep i x z), fun i hi => ?_, fun q hq => ?_, ?_⟩
      · rcases List.mem_append.mp (show Hd.u i ∈ f.heads ++ a.heads from hi) with hi | hi
        · obtain ⟨x, hx⟩ := Option.isSome_iff_exists.mp (F.has i hi)
          rw [G.keep i x hx]; rfl
        · exact G.has i hi
      · rcases G.new q hq with hq | ⟨z1, z2⟩
        · rcases F.new q hq with hq | ⟨z1, z2⟩
          · exact .inl hq
          · exact .inr ⟨by simp only [T.size]; omega, fun h hh => List.mem_append_left _ (z2 h hh)⟩
        · exact .inr ⟨by simp only [T.size]; omega, fun h hh => List.mem_append_right _ (z2 h hh)⟩
      · have h1 := F.len
        have h2 := G.len
        simp only [T.size]
        omega
  | ap _ _, lf _, _, _, h => by unfold fit at h; cases h
def matchP (p t : T) : Option (List (Int × T)) := (fit p t []).map fun θ => (unks p).map fun i => (i, (look θ i).getD default)
/-- the parts of an instance -/
theorem matchP_parts {p t : T} {ps : List (Int × T)} (h : matchP p t = some ps) : ps.map (·.1) = unks p ∧ ∀ q ∈ ps, q.2.size ≤ t.size ∧ ∀ x ∈ q.2.heads, x ∈ t.heads := by
  unfold matchP at h
  cases e : fit p t [] with
  | none => rw [e] at h; cases h
  | some θ =>
    rw [e] at h
    have h : ((unks p).map fun i => (i, (look θ i).getD default)) = ps := Option.some.inj h
    subst h
    have F := fit_fits e
    refine ⟨by rw [List.map_map]; exact List.map_id' _, fun q hq => ?_⟩
    obtain ⟨i, hi, rfl⟩ := List.mem_map.mp hq
    obtain ⟨x, hx⟩ := Option.isSome_iff_exists.mp (F.has i (mem_unks.mp hi))
    rw [hx]
    rcases F.new _ (look_mem hx) with z | z
    · cases z
    · exact z
end DF

/-! data in the heap, frames, defs by their names -/
namespace DF
open PySem PySem.Spec PyProof.Rows L2
/-! ### frames: what is kept -/
/-- a tuple, a tuple whose object is told -/
def tupO : HO → Prop
  | .tup _ => True
  | .frz _ (.tup _) => True
  | _ => False
/-- outside S all is kept, tuples are kept -/
structure Fr (S : Addr → Prop) (H H' : Hp) : Prop where
  k : ∀ b o, ¬ S b → H b = some o → H' b = some o
  t : ∀ b u, tupO u → H b = some u → H' b = some u
abbrev No : Addr → Prop := fun _ => False
abbrev At (a : Addr) : Addr → Prop := fun b => b = a
section
variable {S S' : Addr → Prop} {H H1 H2 : Hp} {p : Addr} {o u : HO}
theorem Fr.refl : Fr S H H := ⟨fun _ _ _ h => h, fun _ _ _ h => h⟩
theorem Fr.trans (a : Fr S H H1) (b : Fr S H1 H2) : Fr S H H2 := ⟨fun c x n h => b.k c x n (a.k c x n h), fun c x z h => b.t c x z (a.t c x z h)⟩
theorem Fr.mono (a : Fr S H H1) (h : ∀ b, S b → S' b) : Fr S' H H1 := ⟨fun c x n e => a.k c x (fun z => n (h c z)) e, a.t⟩
theorem Fr.no (a : Fr No H H1) : Fr S H H1 := a.mono fun _ z => z.elim
theorem Fr.kn (a : Fr No H H1) {b : Addr} {x : HO} (e : H b = some x) : H1 b = some x := a.k b x (fun z => z) e
theorem Fr.free (a : Fr S H H1) (n : ¬ S p) (h : H1 p = none) : H p = none := by
  cases q : H p with
  | none => rfl
  | some x => rw [a.k p x n q] at h; cases h
theorem Fr.freeN (a : Fr No H H1) (h : H1 p = none) : H p = none := a.free (fun z => z) h
/-- an object that H does not know is new or changed -/
theorem Fr.new (a : Fr S H H1) (h : H p = none) : Fr S H (upd H1 p o) :=
  ⟨fun b x n e => by rw [upd_ne (ne_of_none e h)]; exact a.k b x n e, fun b x z e => by rw [upd_ne (ne_of_none e h)]; exact a.t b x z e⟩
theorem Fr.new0 (h : H p = none) : Fr S H (upd H p o) := Fr.refl.new h
/-- .. as the current heap tells it -/
theorem Fr.add (a : Fr S H H1) (h : H1 p = none) : Fr S H (upd H1 p o) := a.trans (Fr.new0 h)
/-- an object of S is changed -/
theorem Fr.mut (a : Fr S H H1) (s : S p) (e : H1 p = some u) (n : ¬ tupO u) : Fr S H (upd H1 p o) := by
  have ne : ∀ b x, tupO x → H b = some x → b ≠ p := fun b x t q z => by
    have r := a.t b x t q
    rw [z, e] at r
    exact n (Option.some.inj r ▸ t)
  refine ⟨fun b x nb q => ?_, fun b x t q => by rw [upd_ne (ne b x t q)]; exact a.t b x t q⟩
  rw [upd_ne (fun z : b = p => nb (by rw [z]; exact s))]
  exact a.k b x nb q
/-- what S tells more than S' stood not there -/
theorem Fr.less (a : Fr S H H1) (h : ∀ b, S b → ¬ S' b → H b = none) : Fr S' H H1 := ⟨fun b x n e => by
  by_cases c : S b
  · rw [h b c n] at e; cases e
  · exact a.k b x c e, a.t⟩
end
/-! ### a tuple that stands, data of tuples -/
def Tp (K : PySem.W.Frag) (H : Hp) (a : Addr) (xs : List V) : Prop :=
  H a = some (.tup xs) ∨ (∃ o, H a = some (.frz o (.tup xs))) ∨ ∃ (o : Obj) (its : Array Value) (n : Nat), K.lookup a = some o ∧ o.cls = .type "tuple" ∧ o.data = .seq its n ∧ its.size ≤ sizeLine ∧ Vals xs its.toList
section
variable {K : PySem.W.Frag} {H H' : Hp} {S : Addr → Prop} {a : Addr} {xs : List V}
theorem Tp.sq (h : Tp K H a xs) : SqT K H a xs := by
  rcases h with h | h | h
  · exact .inl (.inl h)
  · exact .inl (.inr h)
  · exact .inr h
theorem Tp.of (h : H a = some (.tup xs)) : Tp K H a xs := .inl h
theorem Tp.fr (f : Fr S H H') (h : Tp K H a xs) : Tp K H' a xs := by
  rcases h with h | ⟨o, h⟩ | h
  · exact .inl (f.t _ _ True.intro h)
  · exact .inr (.inl ⟨o, f.t _ _ True.intro h⟩)
  · exact .inr (.inr h)
end
mutual
inductive Is (K : PySem.W.Frag) (H : Hp) : V → PyData → Prop
  | non : Is K H .non .none
  | bl (b : Bool) : Is K H (.bl b) (.bool b)
  | int (i : Int) : Is K H (.int i) (.int i)
  | str (x : Str) : Is K H (.str x) (.str x)
  | tup {a : Addr} {xs : List V} {ds : List PyData} : Tp K H a xs → IsAll K H xs ds → Is K H (.ref a) (.tuple ds)
inductive IsAll (K : PySem.W.Frag) (H : Hp) : List V → List PyData → Prop
  | nil : IsAll K H [] []
  | cons {v : V} {vs : List V} {d : PyData} {ds : List PyData} : Is K H v d → IsAll K H vs ds → IsAll K H (v :: vs) (d :: ds)
end
section
variable {K : PySem.W.Frag} {H H' : Hp} {S : Addr → Prop} {a : Addr} {v : V} {xs ys : List V} {d : PyData} {ds es : List PyData}
mutual
theorem Is.fr (f : Fr S H H') : ∀ {d : PyData} {v : V}, Is K H v d → Is K H' v d
  | _, _, .non => .non
  | _, _, .bl b => .bl b
  | _, _, .int i => .int i
  | _, _, .str x => .str x
  | _, _, .tup h hs => .tup (h.fr f) (IsAll.fr f hs)
theorem IsAll.fr (f : Fr S H H') : ∀ {ds : List PyData} {xs : List V}, IsAll K H xs ds → IsAll K H' xs ds
  | _, _, .nil => .nil
  | _, _, .cons h hs => .cons (Is.fr f h) (IsAll.fr f hs)
end
mutual
theorem Is.dp : ∀ {d : PyData} {v : V}, Is K H v d → Dp K H v d
  | _, _, .non => .non
  | _, _, .bl b => .bl b
  | _, _, .int i => .int i
  | _, _, .str x => .str x
  | _, _, .tup h hs => .tup h.sq (IsAll.dp hs)
theorem IsAll.dp : ∀ {ds : List PyData} {xs : List V}, IsAll K H xs ds → DpAll K H xs ds
  | _, _, .nil => .nil
  | _, _, .cons h hs => .cons (Is.dp h) (IsAll.dp hs)
end
theorem IsAll.len : ∀ {ds : List PyData} {xs : List V}, IsAll K H xs ds → xs.length = ds.length
  | _, _, .nil => rfl
  | _, _, .cons _ hs => by rw [List.length_cons, List.length_cons, IsAll.len hs]
theorem IsAll.append : ∀ {ds : List PyData} {xs : List V}, IsAll K H xs ds → IsAll K H ys es → IsAll K H (xs ++ ys) (ds ++ es)
  | _, _, .nil, q => q
  | _, _, .cons h hs, q => .cons h (IsAll.append hs q)
theorem IsAll.snoc (h : IsAll K H xs ds) (q : Is K H v d) : IsAll K H (xs ++ [v]) (ds ++ [d]) := h.append (.cons q .nil)
theorem IsAll.get : ∀ {ds : List PyData} {xs : List V} {i : Nat} {x : V}, IsAll K H xs ds → xs[i]? = some x → ∃ d, ds[i]? = some d ∧ Is K H x d
  | _, _, _, _, .nil, e => by simp at e
  | _, _, 0, _, .cons h _, e => by simp at e; subst e; exact ⟨_, rfl, h⟩
  | _, _, i + 1, _, .cons _ hs, e => IsAll.get (i := i) hs (by simpa using e)
theorem IsAll.at : ∀ {ds : List PyData} {xs : List V} {i : Nat} {d : PyData}, IsAll K H xs ds → ds[i]? = some d → ∃ x, xs[i]? = some x ∧ Is K H x d
  | _, _, _, _, .nil, e => by simp at e
  | _, _, 0, _, .cons h _, e => by simp at e; subst e; exact ⟨_, rfl, h⟩
  | _, _, i + 1, _, .cons _ hs, e => IsAll.at (i := i) hs (by simpa using e)
theorem IsAll.take : ∀ {ds : List PyData} {xs : List V} (n : Nat), IsAll K H xs ds → IsAll K H (xs.take n) (ds.take n)
  | _, _, 0, _ => .nil
  | _, _, _ + 1, .nil => .nil
  | _, _, n + 1, .cons h hs => .cons h (IsAll.take n hs)
theorem IsAll.drop : ∀ {ds : List PyData} {xs : List V} (n : Nat), IsAll K H xs ds → IsAll K H (xs.drop n) (ds.drop n)
  | _, _, 0, r => r
  | _, _, _ + 1, .nil => .nil
  | _, _, n + 1, .cons _ hs => IsAll.drop n hs
theorem IsAll.rev : ∀ {ds : List PyData} {xs : List V}, IsAll K H xs ds → IsAll K H xs.reverse ds.reverse
  | _, _, .nil => .nil
  | _, _, .cons h hs => by rw [List.reverse_cons, List.reverse_cons]; exact (IsAll.rev hs).snoc h
end
/-! ### terms as data -/
def hdD : Hd → PyData
  | .u i => .int i
  | .c x => .str x.s
def hdV : Hd → V
  | .u i => .int i
  | .c x => .str x.s
def encA : T → List PyData
  | .lf _ => []
  | .ap f a => encA f ++ [.tuple [hdD a.hd, .tuple (encA a)]]
def enc (t : T) : PyData := .tuple [hdD t.hd, .tuple (encA t)]
theorem encA_eq : ∀ t : T, encA t = t.args.map enc
  | .lf _ => rfl
  | .ap f a => by
    show encA f ++ [enc a] = (f.args ++ [a]).map enc
    rw [List.map_append, encA_eq f]; rfl
theorem enc_eq (t : T) : enc t = .tuple [hdD t.hd, .tuple (t.args.map enc)] := by rw [← encA_eq]; rfl
theorem enc_mk (h : Hd) (as : List T) : enc ((T.lf h).aps as) = .tuple [hdD h, .tuple (as.map enc)] := by rw [enc_eq, T.hd_mk, T.args_mk]
section
variable {K : PySem.W.Frag} {H H' : Hp} {S : Addr → Prop} {a b : Addr} {v : V} {xs : List V} {t : T} {ts : List T} {h : Hd}
theorem is_hd : Is K H (hdV h) (hdD h) := by
  cases h with
  | u i => exact .int i
  | c x => exact .str x.s
theorem is_hd_inv (q : Is K H v (hdD h)) : v = hdV h := by
  cases h with
  | u i => cases q; rfl
  | c x => cases q; rfl
theorem hdV_inj {g h : Hd} (e : hdV g = hdV h) : g = h := by
  cases g with
  | u i =>
    cases h with
    | u j => cases e; rfl
    | c y => cases e
  | c x =>
    cases h with
    | u j => cases e
    | c y => injection e with e; rw [Nm.inj e]
/-- v stands for the term t -/
abbrev Tm (K : PySem.W.Frag) (H : Hp) (v : V) (t : T) : Prop := Is K H v (enc t)
/-- .. for the tuple of the terms ts -/
abbrev Tms (K : PySem.W.Frag) (H : Hp) (v : V) (ts : List T) : Prop := Is K H v (.tuple (ts.map enc))
theorem Is.tupE {ds : List PyData} (q : Is K H v (.tuple ds)) : ∃ a xs, v = .ref a ∧ Tp K H a xs ∧ IsAll K H xs ds := by
  cases q with
  | tup h hs => exact ⟨_, _, rfl, h, hs⟩
theorem Is.two {d e : PyData} (q : Is K H v (.tuple [d, e])) : ∃ a x y, v = .ref a ∧ Tp K H a [x, y] ∧ Is K H x d ∧ Is K H y e := by
  cases q with
  | tup h hs =>
    cases hs with
    | cons h1 hs =>
      cases hs with
      | cons h2 hs => cases hs; exact ⟨_, _, _, rfl, h, h1, h2⟩
theorem Is.three {d e f : PyData} (q : Is K H v (.tuple [d, e, f])) : ∃ a x y z, v = .ref a ∧ Tp K H a [x, y, z] ∧ Is K H x d ∧ Is K H y e ∧ Is K H z f := by
  cases q with
  | tup h hs =>
    cases hs with
    | cons h1 hs =>
      cases hs with
      | cons h2 hs =>
        cases hs with
        | cons h3 hs => cases hs; exact ⟨_, _, _, _, rfl, h, h1, h2, h3⟩
theorem Tm.dest (q : Tm K H v t) : ∃ a b xs, v = .ref a ∧ Tp K H a [hdV t.hd, .ref b] ∧ Tp K H b xs ∧ IsAll K H xs (t.args.map enc) := by
  rw [Tm, enc_eq] at q
  obtain ⟨a, x, y, rfl, h, h1, h2⟩ := q.two
  obtain ⟨b, xs, rfl, h3, h4⟩ := h2.tupE
  exact ⟨a, b, xs, rfl, is_hd_inv h1 ▸ h, h3, h4⟩
theorem Tm.mk {as : List T} (h1 : Tp K H a [hdV h, .ref b]) (h2 : Tp K H b xs) (h3 : IsAll K H xs (as.map enc)) : Tm K H (.ref a) ((T.lf h).aps as) := by
  rw [Tm, enc_mk]
  exact .tup h1 (.cons is_hd (.cons (.tup h2 h3) .nil))
theorem Tm.mk' (h1 : Tp K H a [hdV t.hd, .ref b]) (h2 : Tp K H b xs) (h3 : IsAll K H xs (t.args.map enc)) : Tm K H (.ref a) t := by
  rw [← T.eta t]; exact Tm.mk h1 h2 h3
theorem IsAll.tm {x : V} {i : Nat} (q : IsAll K H xs (ts.map enc)) (e : xs[i]? = some x) : ∃ t, ts[i]? = some t ∧ Tm K H x t := by
  obtain ⟨d, hd, hi⟩ := q.get e
  rw [List.getElem?_map] at hd
  cases q2 : ts[i]? with
  | none => rw [q2] at hd; cases hd
  | some t => rw [q2] at hd; cases hd; exact ⟨t, rfl, hi⟩
theorem IsAll.lenT (q : IsAll K H xs (ts.map enc)) : xs.length = ts.length := by rw [q.len, List.length_map]
end
/-- the promise's end: a value that stands for d, all else as it was -/
def Rt (K : PySem.W.Frag) (H : Hp) (Q : VK) (d : PyData) : Prop := ∀ v H', Fr No H H' → Is K H' v d → Q v H'
theorem Rt.of {K : PySem.W.Frag} {H H1 : Hp} {Q : VK} {d : PyData} (q : Rt K H Q d) (f : Fr No H H1) {v : V} (i : Is K H1 v d) : Q v H1 := q v H1 f i
/-! ### defs by their names -/
section
variable (CX : CXT) (P : Program) (w : World) (K : PySem.W.Frag) (mg : Str → Option Value) (base : Heap)
/-- a def of the module that may be called by its name -/
structure Cl (k : Nat) (x : Str) (sp : Sp) : Prop where
  ex : ∃ (f : Addr) (fd : FuncData) (ps : List Str), FnOk P w K mg base CX k f fd ps sp ∧ mg x = some (.ref f) ∧ PySem.W.keepIn K (.ref f) = true ∧ Binds K fd ps []
/-- a method of the class at C -/
structure Me (k : Nat) (C : Addr) (m : Str) (sp : Sp) : Prop where
  ex : ∃ (f : Addr) (fd : FuncData) (ps : List Str), Cls K C ∧ Meth K C m f ∧ FnOk P w K mg base CX k f fd ps sp ∧ Binds K fd ps []
/-- a class that may be made -/
structure Ma (k : Nat) (x : Str) (C : Addr) (sp : Sp) : Prop where
  ex : ∃ (f : Addr) (fd : FuncData) (ps : List Str), L2.Mk K C f ∧ FnOk P w K mg base CX k f fd ps sp ∧ mg x = some (.ref C) ∧ Binds K fd ps []
end
section
variable {CX : CXT} {P : Program} {w : World} {K : PySem.W.Frag} {mg : Str → Option Value} {base : Heap} {j k : Nat} {x m : Str} {C : Addr} {sp sp' : Sp}
theorem Cl.mono (c : Cl CX P w K mg base j x sp) (h : j ≤ k) : Cl CX P w K mg base k x sp := let ⟨f, fd, ps, F, r⟩ := c.ex; ⟨f, fd, ps, F.mono h, r⟩
theorem Cl.imp (c : Cl CX P w K mg base k x sp) (h : ∀ vs H Q E, sp' vs H Q E → sp vs H Q E) : Cl CX P w K mg base k x sp' := let ⟨f, fd, ps, F, r⟩ := c.ex; ⟨f, fd, ps, F.imp h, r⟩
theorem Me.mono (c : Me CX P w K mg base j C m sp) (h : j ≤ k) : Me CX P w K mg base k C m sp := let ⟨f, fd, ps, a, b, F, r⟩ := c.ex; ⟨f, fd, ps, a, b, F.mono h, r⟩
theorem Me.imp (c : Me CX P w K mg base k C m sp) (h : ∀ vs H Q E, sp' vs H Q E → sp vs H Q E) : Me CX P w K mg base k C m sp' := let ⟨f, fd, ps, a, b, F, r⟩ := c.ex; ⟨f, fd, ps, a, b, F.imp h, r⟩
/-- what the head tells of a def of the module -/
structure Dg (K : PySem.W.Frag) (mg : Str → Option Value) (x nm : Str) (st : Stmt) (ps : List Str) : Prop where
  ex : ∃ (f : Addr) (fd : FuncData), FunD K nm nm (defArgs st) (defBody st) (defScope st) [] [] f fd ∧ mg x = some (.ref f) ∧ Binds K fd ps []
structure Dm (K : PySem.W.Frag) (C : Addr) (m qual : Str) (st : Stmt) (ps : List Str) : Prop where
  ex : ∃ (f : Addr) (fd : FuncData), FunD K m qual (defArgs st) (defBody st) (defScope st) [] [] f fd ∧ Cls K C ∧ Meth K C m f ∧ Binds K fd ps []
/-- no def can be called with no room -/
theorem FnOk.zero {f : Addr} {fd : FuncData} {ps : List Str} (no : ∀ vs H Q E, ¬ sp vs H Q E) : FnOk P w K mg base CX k f fd ps sp :=
  ⟨fun vs H Q E h => absurd h (no vs H Q E), fun A outer s H args us vs Q E _ _ _ _ h => absurd h (no vs H Q E)⟩
theorem Dg.zero {nm : Str} {st : Stmt} {ps : List Str} (D : Dg K mg x nm st ps) (no : ∀ vs H Q E, ¬ sp vs H Q E) : Cl CX P w K mg base k x sp :=
  let ⟨f, fd, F, hm, b⟩ := D.ex; ⟨f, fd, ps, FnOk.zero no, hm, F.kp, b⟩
theorem Dm.zero {qual : Str} {st : Stmt} {ps : List Str} (D : Dm K C m qual st ps) (no : ∀ vs H Q E, ¬ sp vs H Q E) : Me CX P w K mg base k C m sp :=
  let ⟨f, fd, F, hc, hm, b⟩ := D.ex; ⟨f, fd, ps, hc, hm, FnOk.zero no, b⟩
/-- a def that lets no exception out -/
theorem Dg.ok {nm : Str} {st : Stmt} {N ps : List Str} (D : Dg K mg x nm st ps) (S : FnScope N ps (defScope st)) (len : ∀ vs H Q E, sp vs H Q E → vs.length = ps.length)
    (hbody : ∀ (f : Addr) (cdv : Value) (A : Around) (outer : List Env) (s : Shared) (H : Hp) (vs : List V) (Q : VK) (E : XK), Room k (A.deeper (envOfC nm (defScope st) s.heap.objs.size f cdv)) → sp vs H Q E →
      ∃ t, PSs (cxOf CX0 P w K mg base N nm (defScope st) f cdv A outer s H E).nox (defBody st) t ∧ t { nx := fun _ H' => Q .non H', rt := Q } (start N vs) H) : Cl CX0 P w K mg base (k + 1) x sp := by
  obtain ⟨f, fd, F, hm, b⟩ := D.ex
  refine ⟨f, fd, ps, F.ok S len fun cdv A outer s H vs Q E hr h => ?_, hm, F.kp, b⟩
  obtain ⟨t, h1, h2⟩ := hbody f cdv A outer s H vs Q E hr h
  exact ⟨t, h1.nox, h2⟩
/-- a def that may raise -/
theorem Dg.okX {nm : Str} {st : Stmt} {N ps : List Str} (D : Dg K mg x nm st ps) (S : FnScope N ps (defScope st)) (len : ∀ vs H Q E, sp vs H Q E → vs.length = ps.length)
    (hbody : ∀ (f : Addr) (cdv : Value) (A : Around) (outer : List Env) (s : Shared) (H : Hp) (vs : List V) (Q : VK) (E : XK), Room k (A.deeper (envOfC nm (defScope st) s.heap.objs.size f cdv)) → sp vs H Q E →
      ∃ t, PSs (cxOf (L2.CX P w) P w K mg base N nm (defScope st) f cdv A outer s H E) (defBody st) t ∧ t { nx := fun _ H' => Q .non H', rt := Q } (start N vs) H) : Cl (L2.CX P w) P w K mg base (k + 1) x sp := by
  obtain ⟨f, fd, F, hm, b⟩ := D.ex
  exact ⟨f, fd, ps, F.ok S len fun cdv A outer s H vs Q E hr h => hbody f cdv A outer s H vs Q E hr h, hm, F.kp, b⟩
theorem Dm.ok {qual : Str} {st : Stmt} {N ps : List Str} (D : Dm K C m qual st ps) (S : FnScope N ps (defScope st)) (len : ∀ vs H Q E, sp vs H Q E → vs.length = ps.length)
    (hbody : ∀ (f : Addr) (cdv : Value) (A : Around) (outer : List Env) (s : Shared) (H : Hp) (vs : List V) (Q : VK) (E : XK), Room k (A.deeper (envOfC qual (defScope st) s.heap.objs.size f cdv)) → sp vs H Q E →
      ∃ t, PSs (cxOf CX0 P w K mg base N qual (defScope st) f cdv A outer s H E).nox (defBody st) t ∧ t { nx := fun _ H' => Q .non H', rt := Q } (start N vs) H) : Me CX0 P w K mg base (k + 1) C m sp := by
  obtain ⟨f, fd, F, hc, hm, b⟩ := D.ex
  refine ⟨f, fd, ps, hc, hm, F.ok S len fun cdv A outer s H vs Q E hr h => ?_, b⟩
  obtain ⟨t, h1, h2⟩ := hbody f cdv A outer s H vs Q E hr h
  exact ⟨t, h1.nox, h2⟩
theorem Dm.okX {qual : Str} {st : Stmt} {N ps : List Str} (D : Dm K C m qual st ps) (S : FnScope N ps (defScope st)) (len : ∀ vs H Q E, sp vs H Q E → vs.length = ps.length)
    (hbody : ∀ (f : Addr) (cdv : Value) (A : Around) (outer : List Env) (s : Shared) (H : Hp) (vs : List V) (Q : VK) (E : XK), Room k (A.deeper (envOfC qual (defScope st) s.heap.objs.size f cdv)) → sp vs H Q E →
      ∃ t, PSs (cxOf (L2.CX P w) P w K mg base N qual (defScope st) f cdv A outer s H E) (defBody st) t ∧ t { nx := fun _ H' => Q .non H', rt := Q } (start N vs) H) : Me (L2.CX P w) P w K mg base (k + 1) C m sp := by
  obtain ⟨f, fd, F, hc, hm, b⟩ := D.ex
  exact ⟨f, fd, ps, hc, hm, F.ok S len fun cdv A outer s H vs Q E hr h => hbody f cdv A outer s H vs Q E hr h, b⟩
end
/-! ### calls -/
section
variable {X : Cx} {k j : Nat} {C : Addr} {x m : Str} {sp : Sp} {p pos apos : Pos} {e o : Expr} {es : List Expr} {ta : TE} {t : TA} {E : XK}
/-- f(..), f lets nothing out -/
theorem kc (c : Cl CX0 X.prog X.w X.K X.mg X.base k x sp) (hr : Room j X.A) (ha : PA X (e :: es) t) (hk : k ≤ j := by decide) (hg : Gl X x := by rfl)
    (hdb : (x == ("__debug__" : Str)) = false := by decide) (he : starEach (e :: es) X.env = (false, eval e X.env) :: starEach es X.env := by rfl) (hpl : (backTo pos (starEach es X.env)).any (·.1) = false := by rfl) :
    PE X (.Call (.Name x p) (e :: es) [] pos) (tCall sp [] E0 t) := by
  obtain ⟨f, fd, ps, F, hm, kp, b⟩ := c.ex
  exact pe_call F (hr.mono hk) hg hm kp b .nil pass0 ha hdb he hpl
theorem kc0 (c : Cl CX0 X.prog X.w X.K X.mg X.base k x sp) (hr : Room j X.A) (hk : k ≤ j := by decide) (hg : Gl X x := by rfl)
    (hdb : (x == ("__debug__" : Str)) = false := by decide) : PE X (.Call (.Name x p) [] [] pos) (tCall sp [] E0 tNil) := by
  obtain ⟨f, fd, ps, F, hm, kp, b⟩ := c.ex
  exact pe_call0 F (hr.mono hk) hg hm kp b .nil pass0 hdb
/-- .. f may raise: what is wished of that is E -/
theorem kcX (c : Cl (L2.CX X.prog X.w) X.prog X.w X.K X.mg X.base k x sp) (hr : Room j X.A) (hx : Passes (L2.CX X.prog X.w) X E) (ha : PA X (e :: es) t) (hk : k ≤ j := by decide) (hg : Gl X x := by rfl)
    (hdb : (x == ("__debug__" : Str)) = false := by decide) (he : starEach (e :: es) X.env = (false, eval e X.env) :: starEach es X.env := by rfl) (hpl : (backTo pos (starEach es X.env)).any (·.1) = false := by rfl) :
    PE X (.Call (.Name x p) (e :: es) [] pos) (tCall sp [] E t) := by
  obtain ⟨f, fd, ps, F, hm, kp, b⟩ := c.ex
  exact pe_call F (hr.mono hk) hg hm kp b .nil hx ha hdb he hpl
/-- C(..) -/
theorem kma (c : Ma CX0 X.prog X.w X.K X.mg X.base k x C sp) (hr : Room j X.A) (ha : PA X (e :: es) t) (hk : k + 1 ≤ j := by decide) (hg : Gl X x := by rfl)
    (hdb : (x == ("__debug__" : Str)) = false := by decide) (he : starEach (e :: es) X.env = (false, eval e X.env) :: starEach es X.env := by rfl) (hpl : (backTo pos (starEach es X.env)).any (·.1) = false := by rfl) :
    PE X (.Call (.Name x p) (e :: es) [] pos) (tMake C sp [] E0 t) := by
  obtain ⟨f, fd, ps, M, F, hm, b⟩ := c.ex
  exact pe_make M F (hr.mono hk) hg hm b .nil pass0 ha hdb he hpl
/-- o.m(..) -/
theorem kme {pl : Sem Bool} (c : Me CX0 X.prog X.w X.K X.mg X.base k C m sp) (hr : Room j X.A) (ho : PE X o ta) (ha : PA X (e :: es) t) (hk : k ≤ j := by decide)
    (hst : starEach (e :: es) X.env = (false, eval e X.env) :: starEach es X.env := by rfl) (hpl : (backTo pos (starEach es X.env)).any (·.1) = false := by rfl)
    (ht : eval (.Call (.Attribute o m apos) (e :: es) [] pos) X.env = (do
      let ov ← eval o X.env
      standAt apos.atName
      let (f, first) ← holding [ov] (getMethod ov m pl)
      callWith pos f first (backTo pos (starEach (e :: es) X.env)) (backToKw pos (keywordEach [] X.env))) := by rfl) :
    PE X (.Call (.Attribute o m apos) (e :: es) [] pos) (tMeth C m sp [] E0 ta t) := by
  obtain ⟨f, fd, ps, hc, hm, F, b⟩ := c.ex
  exact pe_meth (pl := pl) ho hc hm F (hr.mono hk) b .nil pass0 ha hst hpl ht
theorem kme0 {pl : Sem Bool} (c : Me CX0 X.prog X.w X.K X.mg X.base k C m sp) (hr : Room j X.A) (ho : PE X o ta) (hk : k ≤ j := by decide)
    (ht : eval (.Call (.Attribute o m apos) [] [] pos) X.env = (do
      let ov ← eval o X.env
      standAt apos.atName
      let (f, first) ← holding [ov] (getMethod ov m pl)
      callWith pos f first (backTo pos (starEach [] X.env)) (backToKw pos (keywordEach [] X.env))) := by rfl) :
    PE X (.Call (.Attribute o m apos) [] [] pos) (tMeth C m sp [] E0 ta tNil) := by
  obtain ⟨f, fd, ps, hc, hm, F, b⟩ := c.ex
  exact pe_meth0 (pl := pl) ho hc hm F (hr.mono hk) b .nil pass0 ht
theorem kmeX {pl : Sem Bool} (c : Me (L2.CX X.prog X.w) X.prog X.w X.K X.mg X.base k C m sp) (hr : Room j X.A) (hx : Passes (L2.CX X.prog X.w) X E) (ho : PE X o ta) (ha : PA X (e :: es) t) (hk : k ≤ j := by decide)
    (hst : starEach (e :: es) X.env = (false, eval e X.env) :: starEach es X.env := by rfl) (hpl : (backTo pos (starEach es X.env)).any (·.1) = false := by rfl)
    (ht : eval (.Call (.Attribute o m apos) (e :: es) [] pos) X.env = (do
      let ov ← eval o X.env
      standAt apos.atName
      let (f, first) ← holding [ov] (getMethod ov m pl)
      callWith pos f first (backTo pos (starEach (e :: es) X.env)) (backToKw pos (keywordEach [] X.env))) := by rfl) :
    PE X (.Call (.Attribute o m apos) (e :: es) [] pos) (tMeth C m sp [] E ta t) := by
  obtain ⟨f, fd, ps, hc, hm, F, b⟩ := c.ex
  exact pe_meth (pl := pl) ho hc hm F (hr.mono hk) b .nil hx ha hst hpl ht
end
end DF

/-! the head's facts by names -/
namespace DF
open PySem PySem.Spec PyProof.Rows L2
/-- what the head tells -/
structure Hf (K : PySem.W.Frag) (mg : Str → Option Value) : Prop where
  ex : ∃ h : Heap, K.In h ∧ h.Ns mainGlobals mg
  says : He.SaysD Tx.fa Tx.fn K
abbrev aR (K : PySem.W.Frag) : Addr := He.ga K "Reader"
abbrev aN (K : PySem.W.Frag) : Addr := He.ga K "Node"
abbrev aS (K : PySem.W.Frag) : Addr := He.ga K "Session"
abbrev aTL (K : PySem.W.Frag) : Addr := He.ga K "TooLarge"
abbrev aRf (K : PySem.W.Frag) : Addr := He.ga K "Refused"
section
variable {K : PySem.W.Frag} {mg : Str → Option Value}
theorem Hf.glo (T : Hf K mg) (i : Nat) {x : Str} (h : Tx.fa[i]? = some (.glo x)) : mg x = some (.ref (He.ga K x)) := let ⟨_, X, G⟩ := T.ex; He.glo_ok X G (T.says.fact i h)
theorem Hf.free (T : Hf K mg) (i : Nat) {x : Str} (h : Tx.fa[i]? = some (.free x)) : mg x = none := let ⟨_, X, G⟩ := T.ex; He.free_ok X G (T.says.fact i h)
theorem Hf.int (T : Hf K mg) (i : Nat) {x : Str} {n : Int} (h : Tx.fa[i]? = some (.int x n)) : ∃ t, mg x = some (.int n t) := let ⟨_, X, G⟩ := T.ex; He.int_ok X G (T.says.fact i h)
theorem Hf.dg (T : Hf K mg) (i j : Nat) {x nm : Str} {st : Stmt} {ps : List Str} (h : Tx.fa[i]? = some (.glo x)) (hd : Tx.fn[j]? = some ⟨(x, none), nm, nm, defArgs st, defBody st, defScope st, [], []⟩)
    (hb : ∀ (kV doc pm : Value) (an : Option Addr) (cdv ct : Value) (us : List Value), us.length = ps.length → bindArgs (PySem.W.fnOf nm nm (defArgs st) (defBody st) (defScope st) .none kV doc pm an cdv ct) ⟨us, []⟩ = pure (ps.zip us)) : Dg K mg x nm st ps := by
  obtain ⟨fd, F⟩ := T.says.def_ j hd
  exact ⟨_, fd, F, T.glo i h, F.bindsN hb⟩
theorem Hf.dm (T : Hf K mg) (i j c : Nat) {C m qual : Str} {st : Stmt} {ps : List Str} (h : Tx.fa[i]? = some (.meth C m)) (hc : Tx.fa[c]? = some (.cls C)) (hd : Tx.fn[j]? = some ⟨(C, some m), m, qual, defArgs st, defBody st, defScope st, [], []⟩)
    (hb : ∀ (kV doc pm : Value) (an : Option Addr) (cdv ct : Value) (us : List Value), us.length = ps.length → bindArgs (PySem.W.fnOf m qual (defArgs st) (defBody st) (defScope st) .none kV doc pm an cdv ct) ⟨us, []⟩ = pure (ps.zip us)) : Dm K (He.ga K C) m qual st ps := by
  obtain ⟨fd, F⟩ := T.says.def_ j hd
  exact ⟨_, fd, F, He.cls_ok (T.says.fact c hc), He.meth_ok (T.says.fact i h), F.bindsN hb⟩
theorem Hf.di (T : Hf K mg) (i j g : Nat) {C qual : Str} {st : Stmt} {ps : List Str} (h : Tx.fa[i]? = some (.mkr C)) (hg : Tx.fa[g]? = some (.glo C)) (hd : Tx.fn[j]? = some ⟨(C, some "__init__"), "__init__", qual, defArgs st, defBody st, defScope st, [], []⟩)
    (hb : ∀ (kV doc pm : Value) (an : Option Addr) (cdv ct : Value) (us : List Value), us.length = ps.length → bindArgs (PySem.W.fnOf "__init__" qual (defArgs st) (defBody st) (defScope st) .none kV doc pm an cdv ct) ⟨us, []⟩ = pure (ps.zip us)) :
    ∃ (f : Addr) (fd : FuncData), FunD K "__init__" qual (defArgs st) (defBody st) (defScope st) [] [] f fd ∧ L2.Mk K (He.ga K C) f ∧ mg C = some (.ref (He.ga K C)) ∧ Binds K fd ps [] := by
  obtain ⟨fd, F⟩ := T.says.def_ j hd
  exact ⟨_, fd, F, He.mkr_ok (T.says.fact i h), T.glo g hg, F.bindsN hb⟩
theorem Hf.c_Reader (T : Hf K mg) : Cls K (He.ga K "Reader") := He.cls_ok (T.says.fact 37 (f := .cls "Reader") rfl)
theorem Hf.n_Reader_program (T : Hf K mg) : NoAttr K (He.ga K "Reader") "program" := He.noat_ok (T.says.fact 39 (f := .noat "Reader" "program") rfl)
theorem Hf.n_Reader_graph (T : Hf K mg) : NoAttr K (He.ga K "Reader") "graph" := He.noat_ok (T.says.fact 40 (f := .noat "Reader" "graph") rfl)
theorem Hf.n_Reader_prefix (T : Hf K mg) : NoAttr K (He.ga K "Reader") "prefix" := He.noat_ok (T.says.fact 41 (f := .noat "Reader" "prefix") rfl)
theorem Hf.n_Reader_targets (T : Hf K mg) : NoAttr K (He.ga K "Reader") "targets" := He.noat_ok (T.says.fact 42 (f := .noat "Reader" "targets") rfl)
theorem Hf.n_Reader_known (T : Hf K mg) : NoAttr K (He.ga K "Reader") "known" := He.noat_ok (T.says.fact 43 (f := .noat "Reader" "known") rfl)
theorem Hf.c_Node (T : Hf K mg) : Cls K (He.ga K "Node") := He.cls_ok (T.says.fact 50 (f := .cls "Node") rfl)
theorem Hf.n_Node_term (T : Hf K mg) : NoAttr K (He.ga K "Node") "term" := He.noat_ok (T.says.fact 52 (f := .noat "Node" "term") rfl)
theorem Hf.n_Node_parent (T : Hf K mg) : NoAttr K (He.ga K "Node") "parent" := He.noat_ok (T.says.fact 53 (f := .noat "Node" "parent") rfl)
theorem Hf.n_Node_kind (T : Hf K mg) : NoAttr K (He.ga K "Node") "kind" := He.noat_ok (T.says.fact 54 (f := .noat "Node" "kind") rfl)
theorem Hf.n_Node_children (T : Hf K mg) : NoAttr K (He.ga K "Node") "children" := He.noat_ok (T.says.fact 55 (f := .noat "Node" "children") rfl)
theorem Hf.n_Node_target (T : Hf K mg) : NoAttr K (He.ga K "Node") "target" := He.noat_ok (T.says.fact 56 (f := .noat "Node" "target") rfl)
theorem Hf.n_Node_unknowns (T : Hf K mg) : NoAttr K (He.ga K "Node") "unknowns" := He.noat_ok (T.says.fact 57 (f := .noat "Node" "unknowns") rfl)
theorem Hf.c_Session (T : Hf K mg) : Cls K (He.ga K "Session") := He.cls_ok (T.says.fact 84 (f := .cls "Session") rfl)
theorem Hf.n_Session_program (T : Hf K mg) : NoAttr K (He.ga K "Session") "program" := He.noat_ok (T.says.fact 86 (f := .noat "Session" "program") rfl)
theorem Hf.n_Session_nodes (T : Hf K mg) : NoAttr K (He.ga K "Session") "nodes" := He.noat_ok (T.says.fact 87 (f := .noat "Session" "nodes") rfl)
theorem Hf.n_Session_deeds (T : Hf K mg) : NoAttr K (He.ga K "Session") "deeds" := He.noat_ok (T.says.fact 88 (f := .noat "Session" "deeds") rfl)
theorem Hf.i_MOST_BODY (T : Hf K mg) : ∃ t, mg "MOST_BODY" = some (.int 120 t) := T.int 104 rfl
theorem Hf.i_MOST_LINES (T : Hf K mg) : ∃ t, mg "MOST_LINES" = some (.int 200 t) := T.int 105 rfl
theorem Hf.i_MOST_NODES (T : Hf K mg) : ∃ t, mg "MOST_NODES" = some (.int 40 t) := T.int 106 rfl
theorem Hf.i_MOST_SIZE (T : Hf K mg) : ∃ t, mg "MOST_SIZE" = some (.int 60 t) := T.int 107 rfl
theorem Hf.e_TooLarge (T : Hf K mg) : PySem.W.exmOne K (.ref (He.ga K "TooLarge")) (.ref (He.ga K "TooLarge")) = some true := He.exm_ok (T.says.fact 109 (f := .exm "TooLarge" "TooLarge" true) rfl)
theorem Hf.e_Refused (T : Hf K mg) : PySem.W.exmOne K (.ref (He.ga K "Refused")) (.ref (He.ga K "Refused")) = some true := He.exm_ok (T.says.fact 110 (f := .exm "Refused" "Refused" true) rfl)
theorem Hf.n_Refused_reason (T : Hf K mg) : NoAttr K (He.ga K "Refused") "reason" := He.noat_ok (T.says.fact 111 (f := .noat "Refused" "reason") rfl)
theorem Hf.z_ValueError (T : Hf K mg) : mg "ValueError" = none := T.free 112 rfl
theorem Hf.z_abs (T : Hf K mg) : mg "abs" = none := T.free 113 rfl
theorem Hf.z_all (T : Hf K mg) : mg "all" = none := T.free 114 rfl
theorem Hf.z_any (T : Hf K mg) : mg "any" = none := T.free 115 rfl
theorem Hf.z_dict (T : Hf K mg) : mg "dict" = none := T.free 116 rfl
theorem Hf.z_enumerate (T : Hf K mg) : mg "enumerate" = none := T.free 117 rfl
theorem Hf.z_int (T : Hf K mg) : mg "int" = none := T.free 118 rfl
theorem Hf.z_isinstance (T : Hf K mg) : mg "isinstance" = none := T.free 119 rfl
theorem Hf.z_len (T : Hf K mg) : mg "len" = none := T.free 120 rfl
theorem Hf.z_list (T : Hf K mg) : mg "list" = none := T.free 121 rfl
theorem Hf.z_max (T : Hf K mg) : mg "max" = none := T.free 122 rfl
theorem Hf.z_range (T : Hf K mg) : mg "range" = none := T.free 123 rfl
theorem Hf.z_str (T : Hf K mg) : mg "str" = none := T.free 124 rfl
theorem Hf.z_sum (T : Hf K mg) : mg "sum" = none := T.free 125 rfl
theorem Hf.z_super (T : Hf K mg) : mg "super" = none := T.free 126 rfl
theorem Hf.z_tuple (T : Hf K mg) : mg "tuple" = none := T.free 127 rfl
theorem Hf.z_zip (T : Hf K mg) : mg "zip" = none := T.free 128 rfl
theorem Hf.m_TooLarge (T : Hf K mg) : mg "TooLarge" = some (.ref (aTL K)) := T.glo 1 rfl
theorem Hf.m_Refused (T : Hf K mg) : mg "Refused" = some (.ref (aRf K)) := T.glo 2 rfl
theorem Hf.x_TooLarge (T : Hf K mg) : PySem.W.excIn K (aTL K) He.veBase "ValueError.__new__" = true ∧ PySem.W.keepIn K (.ref (aTL K)) = true ∧ PySem.W.subIn K (.ref (aTL K)) (.type "BaseException") = some true ∧ PySem.W.typeIn K (.ref (aTL K)) = some (.type "type") := He.exc_ok (x := "TooLarge") (T.says.fact 108 rfl)
theorem Hf.d_heads (T : Hf K mg) : Dg K mg "heads" "heads" Tx.s_heads ["term"] := T.dg 3 0 rfl rfl fun _ _ _ _ _ _ us hl => match us, hl with | [_], _ => rfl
theorem Hf.d_size (T : Hf K mg) : Dg K mg "size" "size" Tx.s_size ["term"] := T.dg 4 1 rfl rfl fun _ _ _ _ _ _ us hl => match us, hl with | [_], _ => rfl
theorem Hf.d_unknowns (T : Hf K mg) : Dg K mg "unknowns" "unknowns" Tx.s_unknowns ["term"] := T.dg 5 2 rfl rfl fun _ _ _ _ _ _ us hl => match us, hl with | [_], _ => rfl
theorem Hf.d_names (T : Hf K mg) : Dg K mg "names" "names" Tx.s_names ["term"] := T.dg 6 3 rfl rfl fun _ _ _ _ _ _ us hl => match us, hl with | [_], _ => rfl
theorem Hf.d_applied (T : Hf K mg) : Dg K mg "applied" "applied" Tx.s_applied ["term", "arguments"] := T.dg 7 4 rfl rfl fun _ _ _ _ _ _ us hl => match us, hl with | [_, _], _ => rfl
theorem Hf.d_replaced (T : Hf K mg) : Dg K mg "replaced" "replaced" Tx.s_replaced ["term", "table"] := T.dg 8 5 rfl rfl fun _ _ _ _ _ _ us hl => match us, hl with | [_, _], _ => rfl
theorem Hf.d_put (T : Hf K mg) : Dg K mg "put" "put" Tx.s_put ["term", "parts"] := T.dg 9 6 rfl rfl fun _ _ _ _ _ _ us hl => match us, hl with | [_, _], _ => rfl
theorem Hf.d_function_part (T : Hf K mg) : Dg K mg "function_part" "function_part" Tx.s_function_part ["term"] := T.dg 10 7 rfl rfl fun _ _ _ _ _ _ us hl => match us, hl with | [_], _ => rfl
theorem Hf.d_fits (T : Hf K mg) : Dg K mg "fits" "fits" Tx.s_fits ["pattern", "term", "found"] := T.dg 11 8 rfl rfl fun _ _ _ _ _ _ us hl => match us, hl with | [_, _, _], _ => rfl
theorem Hf.d_match (T : Hf K mg) : Dg K mg "match" "match" Tx.s_match ["pattern", "term"] := T.dg 12 9 rfl rfl fun _ _ _ _ _ _ us hl => match us, hl with | [_, _], _ => rfl
theorem Hf.d_common (T : Hf K mg) : Dg K mg "common" "common" Tx.s_common ["first", "second", "pairs"] := T.dg 13 10 rfl rfl fun _ _ _ _ _ _ us hl => match us, hl with | [_, _, _], _ => rfl
theorem Hf.d_generalize (T : Hf K mg) : Dg K mg "generalize" "generalize" Tx.s_generalize ["first", "second"] := T.dg 14 11 rfl rfl fun _ _ _ _ _ _ us hl => match us, hl with | [_, _], _ => rfl
theorem Hf.d_function_of (T : Hf K mg) : Dg K mg "function_of" "function_of" Tx.s_function_of ["program", "name"] := T.dg 15 12 rfl rfl fun _ _ _ _ _ _ us hl => match us, hl with | [_, _], _ => rfl
theorem Hf.d_is_function (T : Hf K mg) : Dg K mg "is_function" "is_function" Tx.s_is_function ["head"] := T.dg 16 13 rfl rfl fun _ _ _ _ _ _ us hl => match us, hl with | [_], _ => rfl
theorem Hf.d_opened (T : Hf K mg) : Dg K mg "opened" "opened" Tx.s_opened ["body", "values", "rest"] := T.dg 17 14 rfl rfl fun _ _ _ _ _ _ us hl => match us, hl with | [_, _, _], _ => rfl
theorem Hf.d_rule_of (T : Hf K mg) : Dg K mg "rule_of" "rule_of" Tx.s_rule_of ["function", "constructor", "count"] := T.dg 18 15 rfl rfl fun _ _ _ _ _ _ us hl => match us, hl with | [_, _, _], _ => rfl
theorem Hf.d_own_demand (T : Hf K mg) : Dg K mg "own_demand" "own_demand" Tx.s_own_demand ["program", "term"] := T.dg 19 16 rfl rfl fun _ _ _ _ _ _ us hl => match us, hl with | [_, _], _ => rfl
theorem Hf.d_outer_demand (T : Hf K mg) : Dg K mg "outer_demand" "outer_demand" Tx.s_outer_demand ["program", "term", "inner"] := T.dg 20 17 rfl rfl fun _ _ _ _ _ _ us hl => match us, hl with | [_, _, _], _ => rfl
theorem Hf.d_demand (T : Hf K mg) : Dg K mg "demand" "demand" Tx.s_demand ["program", "term"] := T.dg 21 18 rfl rfl fun _ _ _ _ _ _ us hl => match us, hl with | [_, _], _ => rfl
theorem Hf.d_next_unknown (T : Hf K mg) : Dg K mg "next_unknown" "next_unknown" Tx.s_next_unknown ["term"] := T.dg 22 19 rfl rfl fun _ _ _ _ _ _ us hl => match us, hl with | [_], _ => rfl
theorem Hf.d_drive_running (T : Hf K mg) : Dg K mg "drive_running" "drive" Tx.s_drive_running ["program", "term"] := T.dg 23 20 rfl rfl fun _ _ _ _ _ _ us hl => match us, hl with | [_, _], _ => rfl
theorem Hf.d_is_variable_residuals (T : Hf K mg) : Dg K mg "is_variable_residuals" "is_variable" Tx.s_is_variable_residuals ["term"] := T.dg 24 21 rfl rfl fun _ _ _ _ _ _ us hl => match us, hl with | [_], _ => rfl
theorem Hf.d_prefix_of (T : Hf K mg) : Dg K mg "prefix_of" "prefix_of" Tx.s_prefix_of ["program"] := T.dg 25 22 rfl rfl fun _ _ _ _ _ _ us hl => match us, hl with | [_], _ => rfl
theorem Hf.d_count_lines (T : Hf K mg) : Dg K mg "count_lines" "count_lines" Tx.s_count_lines ["function"] := T.dg 26 23 rfl rfl fun _ _ _ _ _ _ us hl => match us, hl with | [_], _ => rfl
theorem Hf.d_Reader (T : Hf K mg) : ∃ (f : Addr) (fd : FuncData), FunD K "__init__" "Reader.__init__" (defArgs Tx.s_Reader___init__) (defBody Tx.s_Reader___init__) (defScope Tx.s_Reader___init__) [] [] f fd ∧ L2.Mk K (He.ga K "Reader") f ∧ mg "Reader" = some (.ref (He.ga K "Reader")) ∧ Binds K fd ["self", "program", "graph"] [] := T.di 38 24 27 rfl rfl rfl fun _ _ _ _ _ _ us hl => match us, hl with | [_, _, _], _ => rfl
theorem Hf.d_Reader_is_function_node (T : Hf K mg) : Dm K (He.ga K "Reader") "is_function_node" "Reader.is_function_node" Tx.s_Reader_is_function_node ["self", "number"] := T.dm 28 25 37 rfl rfl rfl fun _ _ _ _ _ _ us hl => match us, hl with | [_, _], _ => rfl
theorem Hf.d_Reader_parameters (T : Hf K mg) : Dm K (He.ga K "Reader") "parameters" "Reader.parameters" Tx.s_Reader_parameters ["self", "number"] := T.dm 29 26 37 rfl rfl rfl fun _ _ _ _ _ _ us hl => match us, hl with | [_, _], _ => rfl
theorem Hf.d_Reader_name (T : Hf K mg) : Dm K (He.ga K "Reader") "name" "Reader.name" Tx.s_Reader_name ["self", "number"] := T.dm 30 27 37 rfl rfl rfl fun _ _ _ _ _ _ us hl => match us, hl with | [_, _], _ => rfl
theorem Hf.d_Reader_bounded (T : Hf K mg) : Dm K (He.ga K "Reader") "bounded" "Reader.bounded" Tx.s_Reader_bounded ["self", "term"] := T.dm 31 28 37 rfl rfl rfl fun _ _ _ _ _ _ us hl => match us, hl with | [_, _], _ => rfl
theorem Hf.d_Reader_stands (T : Hf K mg) : Dm K (He.ga K "Reader") "stands" "Reader.stands" Tx.s_Reader_stands ["self", "number"] := T.dm 32 29 37 rfl rfl rfl fun _ _ _ _ _ _ us hl => match us, hl with | [_, _], _ => rfl
theorem Hf.d_Reader_made (T : Hf K mg) : Dm K (He.ga K "Reader") "made" "Reader.made" Tx.s_Reader_made ["self", "number"] := T.dm 33 30 37 rfl rfl rfl fun _ _ _ _ _ _ us hl => match us, hl with | [_, _], _ => rfl
theorem Hf.d_Reader_made_split (T : Hf K mg) : Dm K (He.ga K "Reader") "made_split" "Reader.made_split" Tx.s_Reader_made_split ["self", "number"] := T.dm 34 31 37 rfl rfl rfl fun _ _ _ _ _ _ us hl => match us, hl with | [_, _], _ => rfl
theorem Hf.d_Reader_made_folded (T : Hf K mg) : Dm K (He.ga K "Reader") "made_folded" "Reader.made_folded" Tx.s_Reader_made_folded ["self", "number"] := T.dm 35 32 37 rfl rfl rfl fun _ _ _ _ _ _ us hl => match us, hl with | [_, _], _ => rfl
theorem Hf.d_Reader_function (T : Hf K mg) : Dm K (He.ga K "Reader") "function" "Reader.function" Tx.s_Reader_function ["self", "number"] := T.dm 36 33 37 rfl rfl rfl fun _ _ _ _ _ _ us hl => match us, hl with | [_, _], _ => rfl
theorem Hf.d_residual (T : Hf K mg) : Dg K mg "residual" "residual" Tx.s_residual ["program", "graph"] := T.dg 44 34 rfl rfl fun _ _ _ _ _ _ us hl => match us, hl with | [_, _], _ => rfl
theorem Hf.d_add_places (T : Hf K mg) : Dg K mg "add_places" "add_places" Tx.s_add_places ["term", "rows"] := T.dg 45 35 rfl rfl fun _ _ _ _ _ _ us hl => match us, hl with | [_, _], _ => rfl
theorem Hf.d_same_leaf (T : Hf K mg) : Dg K mg "same_leaf" "same_leaf" Tx.s_same_leaf ["first", "second"] := T.dg 46 36 rfl rfl fun _ _ _ _ _ _ us hl => match us, hl with | [_, _], _ => rfl
theorem Hf.d_may_lie (T : Hf K mg) : Dg K mg "may_lie" "may_lie" Tx.s_may_lie ["first", "second"] := T.dg 47 37 rfl rfl fun _ _ _ _ _ _ us hl => match us, hl with | [_, _], _ => rfl
theorem Hf.d_within (T : Hf K mg) : Dg K mg "within" "within" Tx.s_within ["first", "second"] := T.dg 48 38 rfl rfl fun _ _ _ _ _ _ us hl => match us, hl with | [_, _], _ => rfl
theorem Hf.d_Node (T : Hf K mg) : ∃ (f : Addr) (fd : FuncData), FunD K "__init__" "Node.__init__" (defArgs Tx.s_Node___init__) (defBody Tx.s_Node___init__) (defScope Tx.s_Node___init__) [] [] f fd ∧ L2.Mk K (He.ga K "Node") f ∧ mg "Node" = some (.ref (He.ga K "Node")) ∧ Binds K fd ["self", "term", "parent"] [] := T.di 51 39 49 rfl rfl rfl fun _ _ _ _ _ _ us hl => match us, hl with | [_, _, _], _ => rfl
theorem Hf.d_is_variable_sessions (T : Hf K mg) : Dg K mg "is_variable_sessions" "is_variable" Tx.s_is_variable_sessions ["term"] := T.dg 58 40 rfl rfl fun _ _ _ _ _ _ us hl => match us, hl with | [_], _ => rfl
theorem Hf.d_may_expose (T : Hf K mg) : Dg K mg "may_expose" "may_expose" Tx.s_may_expose ["program", "term"] := T.dg 59 41 rfl rfl fun _ _ _ _ _ _ us hl => match us, hl with | [_, _], _ => rfl
theorem Hf.d_split_problem (T : Hf K mg) : Dg K mg "split_problem" "split_problem" Tx.s_split_problem ["term", "body", "parts"] := T.dg 60 42 rfl rfl fun _ _ _ _ _ _ us hl => match us, hl with | [_, _, _], _ => rfl
theorem Hf.d_fold_parts (T : Hf K mg) : Dg K mg "fold_parts" "fold_parts" Tx.s_fold_parts ["pattern", "term"] := T.dg 61 43 rfl rfl fun _ _ _ _ _ _ us hl => match us, hl with | [_, _], _ => rfl
theorem Hf.d_new_unknowns (T : Hf K mg) : Dg K mg "new_unknowns" "new_unknowns" Tx.s_new_unknowns ["term", "count"] := T.dg 62 44 rfl rfl fun _ _ _ _ _ _ us hl => match us, hl with | [_, _], _ => rfl
theorem Hf.d_taken_out (T : Hf K mg) : Dg K mg "taken_out" "taken_out" Tx.s_taken_out ["term", "body", "terms"] := T.dg 63 45 rfl rfl fun _ _ _ _ _ _ us hl => match us, hl with | [_, _, _], _ => rfl
theorem Hf.d_Session (T : Hf K mg) : ∃ (f : Addr) (fd : FuncData), FunD K "__init__" "Session.__init__" (defArgs Tx.s_Session___init__) (defBody Tx.s_Session___init__) (defScope Tx.s_Session___init__) [] [] f fd ∧ L2.Mk K (He.ga K "Session") f ∧ mg "Session" = some (.ref (He.ga K "Session")) ∧ Binds K fd ["self", "program", "start"] [] := T.di 85 46 64 rfl rfl rfl fun _ _ _ _ _ _ us hl => match us, hl with | [_, _, _], _ => rfl
theorem Hf.d_Session_open_at (T : Hf K mg) : Dm K (He.ga K "Session") "open_at" "Session.open_at" Tx.s_Session_open_at ["self", "number"] := T.dm 65 47 84 rfl rfl rfl fun _ _ _ _ _ _ us hl => match us, hl with | [_, _], _ => rfl
theorem Hf.d_Session_close (T : Hf K mg) : Dm K (He.ga K "Session") "close" "Session.close" Tx.s_Session_close ["self", "number", "kind", "terms", "deed"] := T.dm 66 48 84 rfl rfl rfl fun _ _ _ _ _ _ us hl => match us, hl with | [_, _, _, _, _], _ => rfl
theorem Hf.d_Session_expose (T : Hf K mg) : Dm K (He.ga K "Session") "expose" "Session.expose" Tx.s_Session_expose ["self", "node"] := T.dm 67 49 84 rfl rfl rfl fun _ _ _ _ _ _ us hl => match us, hl with | [_, _], _ => rfl
theorem Hf.d_Session_drive (T : Hf K mg) : Dm K (He.ga K "Session") "drive" "Session.drive" Tx.s_Session_drive ["self", "node"] := T.dm 68 50 84 rfl rfl rfl fun _ _ _ _ _ _ us hl => match us, hl with | [_, _], _ => rfl
theorem Hf.d_Session_split (T : Hf K mg) : Dm K (He.ga K "Session") "split" "Session.split" Tx.s_Session_split ["self", "node", "body", "parts"] := T.dm 69 51 84 rfl rfl rfl fun _ _ _ _ _ _ us hl => match us, hl with | [_, _, _, _], _ => rfl
theorem Hf.d_Session_fold (T : Hf K mg) : Dm K (He.ga K "Session") "fold" "Session.fold" Tx.s_Session_fold ["self", "node", "other"] := T.dm 70 52 84 rfl rfl rfl fun _ _ _ _ _ _ us hl => match us, hl with | [_, _, _], _ => rfl
theorem Hf.d_Session_leave (T : Hf K mg) : Dm K (He.ga K "Session") "leave" "Session.leave" Tx.s_Session_leave ["self", "node"] := T.dm 71 53 84 rfl rfl rfl fun _ _ _ _ _ _ us hl => match us, hl with | [_, _], _ => rfl
theorem Hf.d_Session_count (T : Hf K mg) : Dm K (He.ga K "Session") "count" "Session.count" Tx.s_Session_count ["self"] := T.dm 72 54 84 rfl rfl rfl fun _ _ _ _ _ _ us hl => match us, hl with | [_], _ => rfl
theorem Hf.d_Session_open_nodes (T : Hf K mg) : Dm K (He.ga K "Session") "open_nodes" "Session.open_nodes" Tx.s_Session_open_nodes ["self"] := T.dm 73 55 84 rfl rfl rfl fun _ _ _ _ _ _ us hl => match us, hl with | [_], _ => rfl
theorem Hf.d_Session_node_at (T : Hf K mg) : Dm K (He.ga K "Session") "node_at" "Session.node_at" Tx.s_Session_node_at ["self", "number"] := T.dm 74 56 84 rfl rfl rfl fun _ _ _ _ _ _ us hl => match us, hl with | [_, _], _ => rfl
theorem Hf.d_Session_node (T : Hf K mg) : Dm K (He.ga K "Session") "node" "Session.node" Tx.s_Session_node ["self", "number"] := T.dm 75 57 84 rfl rfl rfl fun _ _ _ _ _ _ us hl => match us, hl with | [_, _], _ => rfl
theorem Hf.d_Session_way (T : Hf K mg) : Dm K (He.ga K "Session") "way" "Session.way" Tx.s_Session_way ["self", "number"] := T.dm 76 58 84 rfl rfl rfl fun _ _ _ _ _ _ us hl => match us, hl with | [_, _], _ => rfl
theorem Hf.d_Session_whistle (T : Hf K mg) : Dm K (He.ga K "Session") "whistle" "Session.whistle" Tx.s_Session_whistle ["self", "number"] := T.dm 77 59 84 rfl rfl rfl fun _ _ _ _ _ _ us hl => match us, hl with | [_, _], _ => rfl
theorem Hf.d_Session_graph (T : Hf K mg) : Dm K (He.ga K "Session") "graph" "Session.graph" Tx.s_Session_graph ["self"] := T.dm 78 60 84 rfl rfl rfl fun _ _ _ _ _ _ us hl => match us, hl with | [_], _ => rfl
theorem Hf.d_Session_fold_on_way (T : Hf K mg) : Dm K (He.ga K "Session") "fold_on_way" "Session.fold_on_way" Tx.s_Session_fold_on_way ["self", "number"] := T.dm 79 61 84 rfl rfl rfl fun _ _ _ _ _ _ us hl => match us, hl with | [_, _], _ => rfl
theorem Hf.d_Session_split_by_whistle (T : Hf K mg) : Dm K (He.ga K "Session") "split_by_whistle" "Session.split_by_whistle" Tx.s_Session_split_by_whistle ["self", "number"] := T.dm 80 62 84 rfl rfl rfl fun _ _ _ _ _ _ us hl => match us, hl with | [_, _], _ => rfl
theorem Hf.d_Session_split_head (T : Hf K mg) : Dm K (He.ga K "Session") "split_head" "Session.split_head" Tx.s_Session_split_head ["self", "number"] := T.dm 81 63 84 rfl rfl rfl fun _ _ _ _ _ _ us hl => match us, hl with | [_, _], _ => rfl
theorem Hf.d_Session_attempt (T : Hf K mg) : Dm K (He.ga K "Session") "attempt" "Session.attempt" Tx.s_Session_attempt ["self", "number", "choice"] := T.dm 82 64 84 rfl rfl rfl fun _ _ _ _ _ _ us hl => match us, hl with | [_, _, _], _ => rfl
theorem Hf.d_Session_auto (T : Hf K mg) : Dm K (He.ga K "Session") "auto" "Session.auto" Tx.s_Session_auto ["self"] := T.dm 83 65 84 rfl rfl rfl fun _ _ _ _ _ _ us hl => match us, hl with | [_], _ => rfl
theorem Hf.d__law_tape (T : Hf K mg) : Dg K mg "_law_tape" "_law_tape" Tx.s__law_tape ["_law_script"] := T.dg 89 66 rfl rfl fun _ _ _ _ _ _ us hl => match us, hl with | [_], _ => rfl
theorem Hf.d__law_next (T : Hf K mg) : Dg K mg "_law_next" "_law_next" Tx.s__law_next ["_law_tape_here", "_law_many"] := T.dg 90 67 rfl rfl fun _ _ _ _ _ _ us hl => match us, hl with | [_, _], _ => rfl
theorem Hf.d__law_term (T : Hf K mg) : Dg K mg "_law_term" "_law_term" Tx.s__law_term ["_law_tape_here", "_law_heads_here", "_law_most", "_law_depth"] := T.dg 91 68 rfl rfl fun _ _ _ _ _ _ us hl => match us, hl with | [_, _, _, _], _ => rfl
theorem Hf.d__law_heads (T : Hf K mg) : Dg K mg "_law_heads" "_law_heads" Tx.s__law_heads [] := T.dg 92 69 rfl rfl fun _ _ _ _ _ _ us hl => match us, hl with | [], _ => rfl
theorem Hf.d__law_program (T : Hf K mg) : Dg K mg "_law_program" "_law_program" Tx.s__law_program ["_law_tape_here"] := T.dg 93 70 rfl rfl fun _ _ _ _ _ _ us hl => match us, hl with | [_], _ => rfl
theorem Hf.d__law_moved (T : Hf K mg) : Dg K mg "_law_moved" "_law_moved" Tx.s__law_moved ["_law_tape_here", "_law_session", "_law_number"] := T.dg 94 71 rfl rfl fun _ _ _ _ _ _ us hl => match us, hl with | [_, _, _], _ => rfl
theorem Hf.d__law_split (T : Hf K mg) : Dg K mg "_law_split" "_law_split" Tx.s__law_split ["_law_tape_here", "_law_term_here"] := T.dg 95 72 rfl rfl fun _ _ _ _ _ _ us hl => match us, hl with | [_, _], _ => rfl
theorem Hf.d__law_closed (T : Hf K mg) : Dg K mg "_law_closed" "_law_closed" Tx.s__law_closed ["_law_tape_here", "_law_program_here", "_law_start", "_law_moves"] := T.dg 96 73 rfl rfl fun _ _ _ _ _ _ us hl => match us, hl with | [_, _, _, _], _ => rfl
theorem Hf.d__law_prefix (T : Hf K mg) : Dg K mg "_law_prefix" "_law_prefix" Tx.s__law_prefix ["_law_program_here"] := T.dg 97 74 rfl rfl fun _ _ _ _ _ _ us hl => match us, hl with | [_], _ => rfl
theorem Hf.d__law_owner (T : Hf K mg) : Dg K mg "_law_owner" "_law_owner" Tx.s__law_owner ["_law_graph", "_law_number"] := T.dg 98 75 rfl rfl fun _ _ _ _ _ _ us hl => match us, hl with | [_, _], _ => rfl
theorem Hf.d__law_parameters (T : Hf K mg) : Dg K mg "_law_parameters" "_law_parameters" Tx.s__law_parameters ["_law_program_here", "_law_row"] := T.dg 99 76 rfl rfl fun _ _ _ _ _ _ us hl => match us, hl with | [_, _], _ => rfl
theorem Hf.d__law_stands (T : Hf K mg) : Dg K mg "_law_stands" "_law_stands" Tx.s__law_stands ["_law_state", "_law_number"] := T.dg 100 77 rfl rfl fun _ _ _ _ _ _ us hl => match us, hl with | [_, _], _ => rfl
theorem Hf.d__law_folded (T : Hf K mg) : Dg K mg "_law_folded" "_law_folded" Tx.s__law_folded ["_law_state", "_law_row"] := T.dg 101 78 rfl rfl fun _ _ _ _ _ _ us hl => match us, hl with | [_, _], _ => rfl
theorem Hf.d__law_function (T : Hf K mg) : Dg K mg "_law_function" "_law_function" Tx.s__law_function ["_law_state", "_law_number"] := T.dg 102 79 rfl rfl fun _ _ _ _ _ _ us hl => match us, hl with | [_, _], _ => rfl
theorem Hf.d_law (T : Hf K mg) : Dg K mg "law" "law" Tx.s_law ["_law_script"] := T.dg 103 80 rfl rfl fun _ _ _ _ _ _ us hl => match us, hl with | [_], _ => rfl
end
end DF

/-! more rules: deep comparisons, a tuple turned round, dict of a tuple of pairs, max with a default -/
namespace DF
open PySem PySem.Spec PyProof.Rows L2
/-! ### == of data of any depth -/
section
variable {X : Cx}
def rEqG (n : Nat) (K : PySem.W.Frag) : R2 := fun x y H Q => ∃ d e, Dp K H x d ∧ Dp K H y e ∧ d.canLay0 = true ∧ e.canLay0 = true ∧ min d.depth e.depth ≤ n ∧ Q (.bl (PyData.eqv d e)) H
def rNeG (n : Nat) (K : PySem.W.Frag) : R2 := fun x y H Q => ∃ d e, Dp K H x d ∧ Dp K H y e ∧ d.canLay0 = true ∧ e.canLay0 = true ∧ min d.depth e.depth ≤ n ∧ Q (.bl (!PyData.eqv d e)) H
theorem op_eqG {n : Nat} (hu : X.A.units + n < cLine) : OpR X (compareOp .Eq) (rEqG n X.K) := by
  intro pins s σ H x y v u Q I rx ry h
  obtain ⟨d, e, hd, he, sd, se, hn, q⟩ := h
  obtain ⟨as, r1⟩ := Dp.reads I d x v hd rx
  obtain ⟨bs, r2⟩ := Dp.reads I e y u he ry
  exact SeqAt.compareEq_reads r1 r2 sd se (by omega) ⟨.bl _, H, I, rfl, q⟩
theorem op_neG {n : Nat} (hu : X.A.units + n < cLine) : OpR X (compareOp .NotEq) (rNeG n X.K) := by
  intro pins s σ H x y v u Q I rx ry h
  obtain ⟨d, e, hd, he, sd, se, hn, q⟩ := h
  obtain ⟨as, r1⟩ := Dp.reads I d x v hd rx
  obtain ⟨bs, r2⟩ := Dp.reads I e y u he ry
  exact SeqAt.compareNe_reads r1 r2 sd se (by omega) ⟨.bl _, H, I, rfl, q⟩
/-- x not in l, the items data of any depth -/
def rNotInG (n : Nat) (K : PySem.W.Frag) : R2 := fun x y H Q => ∃ d ds, Dp K H x d ∧ Dp K H y (.list ds) ∧ d.canLay0 = true ∧ PyData.canLayAll0 ds = true ∧ d.depth ≤ n ∧ Q (.bl (!ds.any fun z => PyData.eqv z d)) H
theorem op_notInG {n : Nat} (hu : X.A.units + 1 + n < cLine) : OpR X (compareOp .NotIn) (rNotInG n X.K) := by
  intro pins s σ H x y v u Q I rx ry h
  obtain ⟨d, ds, hd, he, sd, se, hn, q⟩ := h
  obtain ⟨as, r1⟩ := Dp.reads I d x v hd rx
  obtain ⟨bs, r2⟩ := Dp.reads I (.list ds) y u he ry
  exact SeqAt.notIn_list_reads r2 r1 se sd (by omega) ⟨.bl _, H, I, rfl, q⟩
/-- l.index(x), x one of them -/
def rIndexG (n : Nat) (K : PySem.W.Frag) : V → List V → Hp → VK → Prop := fun x xs H Q => ∃ (a : Addr) (y : V) (d : PyData) (ds : List PyData) (j : Nat) (z : PyData), x = V.ref a ∧ xs = [y] ∧ Dp K H (V.ref a) (.list ds) ∧ Dp K H y d ∧
  PyData.canLayAll0 ds = true ∧ d.canLay0 = true ∧ d.depth ≤ n ∧ ds[j]? = some z ∧ PyData.eqv z d = true ∧ (∀ (m : Nat) (z' : PyData), m < j → ds[m]? = some z' → PyData.eqv z' d = false) ∧ Q (.int (j : Nat)) H
theorem mt_indexG {n : Nat} (hu : X.A.units + 1 + n < cLine) : MtR X "list.index" (rIndexG n X.K) := by
  intro pins s σ H x xs v us Q I rx rxs h
  obtain ⟨a, y, d, ds, j, z, rfl, rfl, hl, hy, sl, sd, hn, hz, hzj, hno, q⟩ := h
  cases rx
  cases rxs with
  | cons ry rt =>
    rename_i uy ut
    cases rt
    obtain ⟨bs, r1⟩ := Dp.reads I d y uy hy ry
    have room : X.A.units + 1 + min (PyData.depthAll ds) d.depth < cLine := by
      have := Nat.min_le_right (PyData.depthAll ds) d.depth
      omega
    cases hl with
    | lst hs ha =>
      obtain ⟨its, rv, ⟨⟨cls, dd, data, sls⟩, n', ho, hc, hdn, hdt⟩, hlen⟩ := I.list hs
      simp only at hc hdt
      subst hc hdt
      obtain ⟨as, h4⟩ := Dp.readsAll I ds _ its ha rv
      have hln : its.length = ds.length := SeqAt.ReadsAll.length ds its as h4
      have hmap : its.map (SeqAt.readOf s.heap) = ds := SeqAt.readsAll_map ds its as sl h4
      have hvl := rv.length
      have hsl := sizeLine_eq
      obtain ⟨hjd, _⟩ := List.getElem?_eq_some_iff.mp hz
      have hjl : j < its.length := by omega
      have hj : j < its.toArray.size := by simpa using hjl
      have look_ : ∀ (m : Nat) (hm : m < its.toArray.size) (z' : PyData), ds[m]? = some z' → SeqAt.readOf s.heap its.toArray[m] = z' := by
        intro m hm z' hz'
        have hml : m < its.length := by simpa using hm
        rw [← hmap, List.getElem?_map, List.getElem?_eq_getElem hml] at hz'
        have e1 : SeqAt.readOf s.heap its[m] = z' := Option.some.inj (show some (SeqAt.readOf s.heap its[m]) = some z' from hz')
        simpa using e1
      refine call_meets PySem.F.slot_list_index ⟨_, ho, rfl⟩ PySem.F.entry_list_index (PySem.F.args_list_index_2 _ _)
        (SeqAt.list_indexAt a its.toArray n' dd sls uy (fun u => PyData.eqv (SeqAt.readOf s.heap u) d) j hj (by omega) ?_ ?_) ⟨ho, SeqAt.items_eqAt (vs := its.toArray) (show ReadsAll s.heap its.toArray.toList ds as from h4) r1 sl sd room, ?_⟩
      · show PyData.eqv (SeqAt.readOf s.heap its.toArray[j]) d = true
        rw [look_ j hj z hz]; exact hzj
      · intro m hm hmj
        have hz' : ds[m]? = some ds[m] := List.getElem?_eq_getElem (by omega)
        show PyData.eqv (SeqAt.readOf s.heap its.toArray[m]) d = false
        rw [look_ m hm _ hz']; exact hno m _ hmj hz'
      · exact ⟨.int (j : Nat), H, I.tok _, ⟨_, rfl⟩, q⟩
end
/-! ### t[::-1] of a tuple -/
theorem pick_back (xs : List Value) : (List.range xs.length).filterMap (fun (k : Nat) => xs.toArray[(((xs.length : Int) - 1) + (k : Int) * (-1)).toNat]?) = xs.reverse := by
  have e1 : ∀ k ∈ List.range xs.length, xs.toArray[(((xs.length : Int) - 1) + (k : Int) * (-1)).toNat]? = xs.reverse[k]? := fun k hk => by
    have hk := List.mem_range.mp hk
    have : (((xs.length : Int) - 1) + (k : Int) * (-1)).toNat = xs.length - 1 - k := by omega
    rw [this, List.getElem?_toArray, List.getElem?_reverse hk]
  have e2 : (List.range xs.length).filterMap (fun (k : Nat) => xs.toArray[(((xs.length : Int) - 1) + (k : Int) * (-1)).toNat]?) = (List.range xs.length).filterMap (fun k => xs.reverse[k]?) := by
    have gen : ∀ l : List Nat, (∀ k ∈ l, xs.toArray[(((xs.length : Int) - 1) + (k : Int) * (-1)).toNat]? = xs.reverse[k]?) → l.filterMap (fun (k : Nat) => xs.toArray[(((xs.length : Int) - 1) + (k : Int) * (-1)).toNat]?) = l.filterMap (fun k => xs.reverse[k]?) := by
      intro l
      induction l with
      | nil => intro _; rfl
      | cons a l ih =>
        intro h
        rw [List.filterMap_cons, List.filterMap_cons, h a List.mem_cons_self, ih fun k hk => h k (List.mem_cons_of_mem _ hk)]
    exact gen _ e1
  rw [e2]
  have gen : ∀ l : List Value, (List.range l.length).filterMap (fun k => l[k]?) = l := by
    intro l
    induction l with
    | nil => rfl
    | cons a l ih =>
      rw [List.length_cons, List.range_succ_eq_map, List.filterMap_cons]
      simp only [List.getElem?_cons_zero]
      rw [List.filterMap_map]
      show a :: (List.range l.length).filterMap (fun k => (a :: l)[k + 1]?) = a :: l
      simp only [List.getElem?_cons_succ]
      rw [ih]
  have := gen xs.reverse
  rwa [List.length_reverse] at this
section
variable {prog : Program} {w : World} {A : Around} {E : Value → Shared → Prop} {s : Shared}
theorem adjust_back (n : Nat) : Builtin.Slice.sliceAdjust none none (-1) (n : Int) = ((n : Int) - 1, -1) := by
  unfold Builtin.Slice.sliceAdjust
  simp
theorem places_back (n : Nat) : Builtin.Slice.slicePlaces ((n : Int) - 1) (-1) (-1) = n := by
  unfold Builtin.Slice.slicePlaces
  have h1 : ¬ ((-1 : Int) > 0) := by omega
  simp only [h1, if_false]
  split
  · simp
  · omega
theorem sliceApplied_back {sl : Addr} {vs : Value} {n : Nat} {Q : Int × Int × Nat → Shared → Prop} (hs : s.heap.IsSliceOf sl .none .none vs) (ps : IsPart vs (some (-1)))
    (h : Q ((n : Int) - 1, -1, n) s) : wpAny (model prog w) A (Builtin.Slice.sliceApplied (.ref sl) (pure (n : Int))) Q E s := by
  obtain ⟨os, hos, hcs, hds⟩ := id hs
  unfold Builtin.Slice.sliceApplied Builtin.Slice.sliceFields
  refine wpAny_bind (wpAny_bind (wpAny_field hos hds (x := .none) rfl (wpAny_bind (wpAny_field hos hds (x := .none) rfl (wpAny_bind (wpAny_field hos hds (x := vs) rfl (wpAny_pure ?_)))))))
  refine wpAny_bind (HT.slicePart_ ps ?_)
  show wpAny _ _ (if ((-1 : Int) == 0) = true then _ else _) _ _ s
  rw [if_neg (by decide)]
  refine wpAny_bind (slicePart_none (wpAny_bind (slicePart_none (wpAny_bind (wpAny_pure ?_)))))
  show wpAny _ _ (match Builtin.Slice.sliceAdjust none none (-1) (n : Int) with | (lo, hi) => pure (lo, (-1 : Int), Builtin.Slice.slicePlaces lo hi (-1))) _ _ s
  rw [adjust_back n]
  show wpAny _ _ (pure ((n : Int) - 1, (-1 : Int), Builtin.Slice.slicePlaces ((n : Int) - 1) (-1) (-1))) _ _ s
  rw [places_back]
  exact wpAny_pure h
theorem getItem_tuple_back {t sl : Addr} {its : List Value} {vs : Value} {Q : Value → Shared → Prop} (ht : IsTup s.heap t its.toArray) (hs : s.heap.IsSliceOf sl .none .none vs) (ps : IsPart vs (some (-1)))
    (h : Q (.ref s.heap.objs.size) { s with heap := s.heap.push { cls := .type "tuple", data := .seq its.reverse.toArray } }) (hsz : its.length ≤ sizeLine) : wpAny (model prog w) A (getItem (.ref t) (.ref sl)) Q E s := by
  have hz : sizeOk (.seq its.reverse.toArray) := by
    show its.reverse.toArray.size ≤ sizeLine
    rw [List.size_toArray, List.length_reverse]; exact hsz
  obtain ⟨os, hos, hcs, hds⟩ := id hs
  have hTs : s.TypeIs (.ref sl) "slice" := ⟨os, hos, hcs⟩
  unfold getItem
  try with_reducible refine wpAny_holding ?_
  first | refine wpAny_bind (wpAny_pure ?_) | skip
  refine wpAny_bind (wpAny_sequenceKey ht.typeIs (by decide) ?_)
  refine wpAny_bind (wpAny_callSpecial?_slot (name := Str.ofString "__getitem__") ht.typeIs PyProof.Rows.slot_tuple_getitem
    (wpAny_call_entry PyProof.Rows.slot_tuple_getitem ht.typeIs entry_tuple_getitem ?_ (args_tuple_getitem _ _)))
  show wpAny _ _ (Builtin.Tuple.tupleItemsOf (.ref t) >>= _) _ _ s
  refine wpAny_bind (tupleItemsOf_ ht ?_)
  refine wpAny_bind (wpAny_typeOf hTs ?_)
  rw [if_pos (by decide)]
  refine wpAny_bind (sliceApplied_back hs ps ?_)
  have hno : ¬ ((((its.toArray.size : Nat) : Int) - 1 == 0 && (-1 : Int) == 1 && its.toArray.size == its.toArray.size) = true) := by simp
  show wpAny _ _ (if (((its.toArray.size : Nat) : Int) - 1 == 0 && (-1 : Int) == 1 && its.toArray.size == its.toArray.size) = true then _ else _) _ _ s
  rw [if_neg hno]
  have e : ((List.range its.toArray.size).filterMap fun (k : Nat) => its.toArray[((((its.toArray.size : Nat) : Int) - 1) + (k : Int) * (-1)).toNat]?).toArray = its.reverse.toArray := by
    rw [List.size_toArray, pick_back]
  rw [e]
  first
    | exact wpAny_bind (m := Builtin.Tuple.tupleExact _) (wpAny_newObj_type (wpAny_pure ⟨_, rfl, wpAny_pure h⟩) hz)
    | exact wpAny_bind (m := Builtin.Tuple.tupleExact _) (wpAny_newObj_type (wpAny_bind (wpAny_pure (wpAny_pure ⟨_, rfl, wpAny_pure h⟩))) hz)
    | exact wpAny_bind (wpAny_bind (m := Builtin.Tuple.tupleExact _) (wpAny_newObj_type (wpAny_pure (wpAny_pure ⟨_, rfl, wpAny_pure h⟩)) hz))
    | exact wpAny_bind (wpAny_bind (m := Builtin.Tuple.tupleExact _) (wpAny_newObj_type (wpAny_pure ⟨_, rfl, wpAny_pure h⟩) hz))
end
section
variable {X : Cx}
/-- an object as it was made -/
def Bare (o : Obj) : Prop := o.dict = none ∧ o.slots = #[]
/-- a new tuple, its object told -/
def newT (H : Hp) (xs : List V) (Q : VK) : Prop := ∀ p o, H p = none → Bare o → Q (.ref p) (upd H p (.frz o (.tup xs)))
def tBackT (K : PySem.W.Frag) (te : TE) : TE := fun σ H Q => te σ H fun x H1 => ∃ a xs, x = .ref a ∧ SqT K H1 a xs ∧ newT H1 xs.reverse Q
theorem pe_backT {e : Expr} {te : TE} {k : Nat} {p1 p2 p3 pos : Pos} (he : PE X e te) : PE X (.Subscript e (.Slice none none (some (.UnaryOp .USub (.Constant (.int 1) k p1) p2)) p3) pos) (tBackT X.K te) := by
  refine ⟨fun pins s σ H Q I h => ?_⟩
  refine Subscript_ (thn (he.run pins s σ H _ I h) fun v s1 ⟨x, H1, I1, r1, q1⟩ => ?_)
  obtain ⟨a, xs, rfl, hx, q⟩ := q1
  cases r1
  have hst : PO X (some (.UnaryOp .USub (.Constant (.int 1) k p1) p2)) (tPart (tUn (rU fun i => .int (-i)) (tC (.int 1)))) := po_some (pe_un un_neg pe_int)
  refine wpAny_Slice (thn (po_none.run pins s1 σ H1 (fun o H2 => o = none ∧ H2 = H1) I1 ⟨rfl, rfl⟩) fun vl s2 ⟨l, H2, I2, pl, el, e2⟩ => ?_)
  subst el e2
  refine thn (po_none.run pins s2 σ H2 (fun o H3 => o = none ∧ H3 = H2) I2 ⟨rfl, rfl⟩) fun vu s3 ⟨u, H3, I3, pu, eu, e3⟩ => ?_
  subst eu e3
  refine thn (hst.run pins s3 σ H3 (fun o H4 => o = some (-1) ∧ H4 = H3) I3 ⟨1, rfl, -1, rfl, rfl, rfl⟩) fun vs s4 ⟨o, H4, I4, ps, eo, e4⟩ => ?_
  subst eo e4
  cases pl
  cases pu
  have I5 : Inv X pins σ H4 { s4 with heap := s4.heap.push { cls := .type "slice", data := .fields #[.none, .none, vs] } } := I4.kept (t' := s4.toks) fun b ob q => Heap.get?_push_of_some _ q
  obtain ⟨its, r, ht, hz⟩ := I5.tuple hx
  have hlen := r.length
  show wpAny (model X.prog X.w) X.A (subscriptTail e (.Slice none none (some (.UnaryOp .USub (.Constant (.int 1) k p1) p2)) p3) (.ref a) (.ref s4.heap.objs.size)) (EP X pins σ Q) X.xe { s4 with heap := s4.heap.push { cls := .type "slice", data := .fields #[.none, .none, vs] } }
  refine tail_any (ops := [.ref a, .ref s4.heap.objs.size]) ht.typeIs (PyProof.Rows.slot_tuple_getitem.lookup) ?_ (by with_unfolding_all rfl)
  refine getItem_tuple_back ht (Heap.IsSliceOf.new _ .none .none vs) ps ?_ (by omega)
  have e := Heap.get?_push_size (s4.heap.push { cls := .type "slice", data := .fields #[.none, .none, vs] }) (o := { cls := .type "tuple", data := .seq its.reverse.toArray }) rfl
  exact ⟨.ref _, _, I5.laid (t' := s4.toks) (o := .frz { cls := .type "tuple", data := .seq its.reverse.toArray } (.tup xs.reverse)) (fun b ob q => Heap.get?_push_of_some _ q) (Nat.le_refl _)
    ⟨e, by rw [List.length_reverse]; exact hz, _, r.reverse, ⟨_, e, rfl, _, rfl⟩⟩, rfl, q _ _ (I5.hok.fresh (Nat.le_refl _)) ⟨rfl, rfl⟩⟩
end
end DF
namespace DF
open PySem PySem.Spec PyProof.Rows L2
/-! ### tuples whose object is told, dict of them -/
section
variable {X : Cx}
/-- (a, b, ..), its object told -/
def tTupF (t : TA) : TE := fun σ H Q => t σ H fun xs H1 => xs.length ≤ sizeLine ∧ newT H1 xs Q
theorem pe_tupF {es : List Expr} {t : TA} {pos : Pos} {x1} (h : PA X es t) : PE X (.Tuple es x1 pos) (tTupF t) := by
  refine ⟨fun pins s σ H Q I hq => ?_⟩
  refine wpAny_Tuple_spliced (thn (h.run pos pins s σ H _ I hq) fun us s1 ⟨xs, H1, I1, r, z, q⟩ => ⟨by rw [← r.length]; exact z, ?_⟩)
  have hf : H1 s1.heap.objs.size = none := I1.hok.fresh (Nat.le_refl _)
  have e := Heap.get?_push_size s1.heap (o := { cls := .type "tuple", data := .seq us.toArray }) rfl
  exact ⟨.ref s1.heap.objs.size, _, I1.laid (t' := s1.toks) (o := .frz { cls := .type "tuple", data := .seq us.toArray } (.tup xs)) (fun b u e => Heap.get?_push_of_some _ e) (Nat.le_refl _) ⟨e, z, us, r, ⟨_, e, rfl, _, rfl⟩⟩, rfl, q _ _ hf ⟨rfl, rfl⟩⟩
/-- tuple(l) of a list, its object told -/
theorem call_tupleF : CallR X (.type "tuple") (fun xs H Q => ∃ p ys, xs = [.ref p] ∧ SqL X.K H p ys ∧ newT H ys Q) := by
  intro pins s σ H xs us Q I r h
  obtain ⟨p, ys, rfl, hq, q⟩ := h
  obtain ⟨u, rfl, rx⟩ := vals1 r
  cases rx
  obtain ⟨its, r', pl, hz⟩ := I.list hq
  have hlen := r'.length
  refine call_tuple_list pl.isList (fun h' kp => ?_) (by simp only [List.size_toArray] <;> omega)
  have I1 : Inv X pins σ H { s with heap := h' } := I.kept (t' := s.toks) kp
  have e := Heap.get?_push_size h' (o := { cls := .type "tuple", data := .seq its.toArray }) rfl
  exact ⟨.ref h'.objs.size, _, I1.laid (t' := s.toks) (o := .frz { cls := .type "tuple", data := .seq its.toArray } (.tup ys)) (fun b o e => Heap.get?_push_of_some _ e) (Nat.le_refl _) ⟨e, hz, its, r', ⟨_, e, rfl, _, rfl⟩⟩, rfl, q _ _ (I1.hok.fresh (Nat.le_refl _)) ⟨rfl, rfl⟩⟩
theorem pairs_of2 {pins : List (Addr × Obj)} {σ : L2.St} {H : Hp} {s : Shared} (I : Inv X pins σ H s) : ∀ {ps : List Addr} {kvs : List (Key × V)}, Paired (fun p kv => SqT X.K H p [kV kv.1, kv.2]) ps kvs →
    ∃ (prs : List (Key × Value)) (vs : List (Value × Value)), KV kvs prs ∧ prs.length = ps.length ∧ vs.length = ps.length ∧
      ∀ (j : Nat) (k v : Value), vs[j]? = some (k, v) → ∃ (b : Addr) (y : Key), ps[j]? = some b ∧ IsTup s.heap b #[k, v] ∧ prs[j]? = some (y, v) ∧ keyIs y k = true
  | _, _, .nil => ⟨[], [], .nil, rfl, rfl, fun j k v e => by simp at e⟩
  | _, _, .cons (a := p) (b := kv) h t => by
    obtain ⟨prs, vs, r, hl, hl2, hp⟩ := pairs_of2 I t
    obtain ⟨its, rv, ht, _⟩ := I.tuple h
    obtain ⟨u, y, rfl, ru, ry⟩ := vals2 rv
    refine ⟨(kv.1, y) :: prs, (u, y) :: vs, .cons ⟨rfl, ry⟩ r, by rw [List.length_cons, List.length_cons, hl], by rw [List.length_cons, List.length_cons, hl2], fun j k v e => ?_⟩
    cases j with
    | zero =>
      have e' : (u, y) = (k, v) := Option.some.inj e
      cases e'
      exact ⟨p, kv.1, rfl, ht, rfl, kV_is (P := X.prog) (w := X.w) ru⟩
    | succ j =>
      obtain ⟨b, y', e1, e2, e3, e4⟩ := hp j k v (by simpa using e)
      exact ⟨b, y', by simpa using e1, e2, by simpa using e3, e4⟩
/-- l.extend(t), t a new tuple -/
def rExtT : V → List V → Hp → VK → Prop := fun x vs H Q => ∃ (l b : Addr) (xs zs : List V) (o : Obj), x = .ref l ∧ vs = [.ref b] ∧ H l = some (.lst xs) ∧ H b = some (.frz o (.tup zs)) ∧ Bare o ∧ xs.length + zs.length ≤ sizeLine ∧ Q .non (upd H l (.lst (xs ++ zs)))
theorem mt_extendT : MtM X "list.extend" rExtT := by
  intro pins s σ H x vs v us Q I rx rv h
  obtain ⟨l, b, xs, zs, o, rfl, rfl, hH, hB, ⟨od, os⟩, hz, q⟩ := h
  cases rx
  obtain ⟨u, rfl, ru⟩ := rv.one
  cases ru
  obtain ⟨z, its, n, r, hl, e⟩ := I.lstM hH
  obtain ⟨e2, z2, its2, r2, o', ho', hcl, n2, hdat⟩ := (show ObjOk X.prog X.w H s.heap b (.frz o (.tup zs)) from I.hok b _ hB)
  rw [e2] at ho'
  cases ho'
  obtain ⟨oc, odd, odt, osl⟩ := o
  simp only at hcl hdat od os
  subst hcl hdat od os
  have hl2 := r2.length
  have hsz : its.toArray.size + its2.toArray.size ≤ sizeLine := by rw [List.size_toArray, List.size_toArray]; omega
  have hlong : ¬ (!its.toArray.isEmpty && Builtin.List.listTooLong (its.toArray.size + its2.toArray.size)) = true := by
    rw [notLongL hsz, Bool.and_false]
    exact Bool.false_ne_true
  refine call_meets F.slot_list_extend ⟨_, e, rfl⟩ F.entry_list_extend (F.args_list_extend_2 _ _)
    (AutoSeq1.list_extend_list_tuple_0 l its.toArray n b its2.toArray n2 hlong (by rw [List.size_toArray]; omega) (by omega)) ⟨e, e2, ?_⟩
  refine ⟨.non, _, I.lset (its' := its ++ its2) hH e (by simp) (r.append r2) ?_, rfl, q⟩
  rw [List.length_append]
  omega
/-- dict(t), t a tuple of pairs -/
def rDictT (K : PySem.W.Frag) : List V → Hp → VK → Prop := fun xs H Q => ∃ (a : Addr) (o : Obj) (ps : List Addr) (kvs : List (Key × V)), xs = [.ref a] ∧ H a = some (.frz o (.tup (ps.map V.ref))) ∧ Bare o ∧ Paired (fun p kv => SqT K H p [kV kv.1, kv.2]) ps kvs ∧
  ∀ p, H p = none → Q (.ref p) (upd H p (.dK (mergeK [] kvs)))
theorem cr_dictT (hc : X.calm = true) : CallR X (.type "dict") (rDictT X.K) := by
  intro pins s σ H xs us Q I r q
  obtain ⟨a, o, ps, kvs, rfl, ha, ⟨hd, _⟩, hp, q⟩ := q
  obtain ⟨u, rfl, rx⟩ := vals1 r
  cases rx
  obtain ⟨ho, hz, its, rv, ht⟩ := (show ObjOk X.prog X.w H s.heap a (.frz o (.tup (ps.map V.ref))) from I.hok a _ ha)
  have ei := refs_at rv
  subst ei
  rw [List.length_map] at hz
  obtain ⟨prs, vs, rel, hl, hl2, hpr⟩ := pairs_of2 I hp
  obtain ⟨o', ho', hcl, n, hdat⟩ := id ht
  rw [ho] at ho'
  cases ho'
  have P := PairArg.tuple (prog := X.prog) (w := X.w) a (ps.map Value.ref).toArray (fun j => ps.getD j 0) vs
  refine PySem.call_dict_pairs (knd := mixKind X.prog X.w) (kvs := prs) P (I.ok.hd hc) ⟨⟨o, n, ho, hcl, hd, hdat⟩, by simp [hl2], fun j k v e => ?_⟩ ⟨by rw [hl, hl2], fun i key v e => ?_⟩ (by rw [hl2]; exact hz) fun h' tk hd' kk => ?_
  · obtain ⟨b, y, e1, e2, _⟩ := hpr j k v e
    have e3 : ps.getD j 0 = b := by simp [List.getD, e1]
    refine ⟨?_, .inl ?_⟩
    · show (ps.map Value.ref).toArray[j]? = some (.ref (ps.getD j 0))
      rw [e3]
      simp [e1]
    · show s.heap.IsTuple (ps.getD j 0) #[k, v]
      rw [e3]; exact e2
  · obtain ⟨b, y, e1, e2, e3, e4⟩ := hpr i key v e
    exact ⟨y, e3, e4⟩
  · have hm : (s.heap.objs.size == sysModules) = false := beq_eq_false_iff_ne.mpr (Nat.ne_of_gt I.big)
    have hlen : (mergeK [] kvs).length ≤ sizeLine := by
      refine Nat.le_trans (length_mergeK kvs []) ?_
      rw [List.length_nil, Nat.zero_add, rel.length, hl]
      exact hz
    exact ⟨.ref s.heap.objs.size, upd H s.heap.objs.size (.dK (mergeK [] kvs)), I.laid (t' := tk) (fun b ob e => kk b ob (by simp) e) (Nat.le_refl _) (show ObjOk X.prog X.w _ _ _ (.dK (mergeK [] kvs)) from ⟨hlen, hm, merged [] prs, KV.merge rel .nil, hd'⟩), rfl, q _ (I.hok.fresh (Nat.le_refl _))⟩
end
end DF

/-! y = {k: v for ..}; max(l, default=d) -/
namespace DF
open PySem PySem.Spec PyProof.Rows L2
abbrev St := L2.St
section
variable {X : Cx}
theorem sw_trueD {kx vx : Expr} {gs : List Comprehension} {scope : Scope} {pos py : Pos} {y : Str} {l : Nat} {env : Env} (hk : env.scope.kind = .function) (hy : env.scope.names.lookup y = some .local) (hl : (py.line == pos.line) = true)
    (ha : (scope.names.any fun (n, k) => n == y && (k == .local || k == .cell)) = false) : swapsWith (.DictComp kx vx gs scope pos) (some (.Name y py)) l env = pure true := by
  have ky : env.kindOf y = some .local := hy
  have hb : env.blockKind = .function := by unfold Env.blockKind; rw [hk]; rfl
  unfold swapsWith
  simp only [hb, ky, ha, Expr.pos, hl]
  rfl
theorem ps_setDc {i : Nat} {y : Str} {py : Pos} {kx vx tg iter : Expr} {ifs : List Expr} {scope : Scope} {own : List (Str × Nat)} {pos spos : Pos} {wi : TI} {g : TG} {tt : TT} {tk tv : TE} (hc : X.calm = true) (hN : X.N.Nodup) (hy : X.N[i]? = some y) (hyl : X.env.scope.names.lookup y = some .local)
    (hsw : swapsWith (.DictComp kx vx [⟨tg, iter, ifs, 0⟩] scope pos) (some (.Name y py)) spos.line X.env = pure true) (hi : PI X tg iter wi) (ok : BlkOk X.N X.env.scope scope own)
    (hg : ∀ (s : Shared) (H : Hp) (C : Addr) (cl : List (Str × Addr)) (fp : List Addr), PG (X.blk s H scope (compEnvC scope cl C X.env) fp) tg g) (ht : ∀ (s : Shared) (H : Hp) (C : Addr) (cl : List (Str × Addr)) (fp : List Addr), PTs (X.blk s H scope (compEnvC scope cl C X.env) fp) ifs tt)
    (hk : ∀ (s : Shared) (H : Hp) (C : Addr) (cl : List (Str × Addr)) (fp : List Addr), PE (X.blk s H scope (compEnvC scope cl C X.env) fp) kx tk)
    (he : ∀ (s : Shared) (H : Hp) (C : Addr) (cl : List (Str × Addr)) (fp : List Addr), PE (X.blk s H scope (compEnvC scope cl C X.env) fp) vx tv) (hs : ∀ x, foldedSetIterable iter X.env x = pure x := by intro _; rfl) :
    PS X (.Assign [.Name y py] (.DictComp kx vx [⟨tg, iter, ifs, 0⟩] scope pos) spos) (tAsg (tDc wi g tt tk tv (own.map (·.2))) (gName i)) := by
  refine ⟨fun pins s σ H D I h => ?_⟩
  rw [exec_Assign_Name_used _ _ _ _ hsw]
  refine wpAny_bind (wpAny_standAt (wpAny_bind ?_))
  show wpAny _ X.A (do let _ ← comprehension (.DictComp kx vx [⟨tg, iter, ifs, 0⟩] scope pos) scope X.env (firstIterPos [⟨tg, iter, ifs, 0⟩] pos) newDict false (eval iter X.env) (some (assign (.Name y py) X.env))) _ _ s
  have h : tDc wi g tt tk tv (own.map (·.2)) σ H (fun x H1 => gName i x σ H1 D.nx) := h
  refine wpAny_bind (thn (dc_core (Qf := fun _ s' => SP X pins D .next s') hc hN I hi ok hg ht hk he hs h fun L C s' m H' I' q hn f => ?_) fun _ s' hq => wpAny_pure (wpAny_pure hq))
  show wpAny _ _ (assign (.Name y py) X.env (.ref L)) _ _ _
  refine wpAny_assign_Name (store_ok2 (v := V.ref L) I' hN hy (.inl hyl) rfl (fun s2 I2 ⟨a, sb, ha⟩ => ?_) (.inr hyl))
  obtain ⟨f0, f1, f2, f3, f4, f5⟩ := f
  have haC : C ≠ a := by
    rcases ha with z | z
    · rw [z]; exact f1
    · exact fun e => f4 y a z e.symm
  refine ⟨m, hn.sameBut sb haC, fun h3 sb3 => ?_⟩
  exact ⟨_, H', I2.turned (t' := s2.toks) (fun b o hb e => (sb3.2 b hb).trans e) f0 f1 f3 f4 f5, q⟩
theorem dc_list {K : PySem.W.Frag} {a : Addr} {xs : List V} {g : TG} {tt : TT} {tk tv : TE} {vs : List Nat} {σ : St} {H1 : Hp} {D : Addr} {Qd : Hp → Prop} (Pv : Nat → Hp → Prop) (h0 : Pv 0 (upd H1 D (.dK []))) (hl : ∀ i H, i ≤ xs.length → Pv i H → SqL K H a xs)
    (hs : ∀ i x H, xs[i]? = some x → Pv i H → g x (wipe σ vs) H fun σ2 H2 => wipe σ2 vs = wipe σ vs ∧ tt σ2 H2 fun b H3 =>
      if b = true then tk σ2 H3 fun y H4 => tv σ2 H4 fun z H5 => ∃ kvs k, y = kV k ∧ H5 D = some (.dK kvs) ∧ kvs.length < sizeLine ∧ Pv (i + 1) (upd H5 D (.dK (putK kvs k z))) else Pv (i + 1) H3) (hd : ∀ H, Pv xs.length H → Qd H) :
    ∃ W : Nat → Nat → Hp → Prop, (∃ m, W 0 m (upd H1 D (.dK []))) ∧ ∀ i m H, W i m H →
      ((Itl K a).stop i H ∧ Qd H) ∨ ((Itl K a).go i H ∧ ∃ Nx : Hp → Prop, (∀ H', Nx H' → ∃ m', m' < m ∧ W (i + 1) m' H') ∧ ∀ x H', (Itl K a).yld i H x H' → g x (wipe σ vs) H' fun σ2 H2 => wipe σ2 vs = wipe σ vs ∧ tt σ2 H2 fun b H3 =>
        if b = true then tk σ2 H3 fun y H4 => tv σ2 H4 fun z H5 => ∃ kvs k, y = kV k ∧ H5 D = some (.dK kvs) ∧ kvs.length < sizeLine ∧ Nx (upd H5 D (.dK (putK kvs k z))) else Nx H3) := by
  refine ⟨fun i m H => m = xs.length - i ∧ i ≤ xs.length ∧ Pv i H, ⟨xs.length, by simp, Nat.zero_le _, h0⟩, ?_⟩
  rintro i m H ⟨rfl, hi, p⟩
  have q := hl i H hi p
  by_cases hlt : i < xs.length
  · refine .inr ⟨⟨xs, xs[i], q, by simp [hlt]⟩, Pv (i + 1), fun H' p' => ⟨xs.length - (i + 1), by omega, rfl, hlt, p'⟩, fun x H' y => ?_⟩
    obtain ⟨e, y⟩ := y
    subst e
    exact hs i x _ (y xs q) p
  · have e : i = xs.length := by omega
    subst e
    exact .inl ⟨⟨xs, q, Nat.le_refl _⟩, hd H p⟩
end
/-! ### max(l, default=d) -/
section
variable {prog : Program} {w : World} {A : Around} {R : Result → Shared → Prop} {I : Addr} {fp wr : List Addr} {n : Nat} {P : Nat → Value → Prop} {St : Nat → Heap → Prop}
theorem max_loopK (W : Walks prog w A.in1 I fp wr n P St) (bt : Nat → Nat → Bool) (hcmp : CmpOf prog w A.in1 .Gt P bt) (S : Addr) (hSf : S ∉ fp) (kw : List (Str × Value)) :
    ∀ (k j : Nat) (s : Shared) (vb : Value) (c : Nat), n - (j + 1) = k → j + 1 ≤ n → St (j + 1) s.heap → P (argBest bt j) vb →
    s.heap.get? S = some { cls := .type "list", dict := none, data := .seq #[vb, vb] c, slots := #[] } →
    (∀ v h' tk, P (argBest bt (n - 1)) v → (∀ b o, b ∉ wr → b ≠ S → s.heap.get? b = some o → h'.get? b = some o) → R (.ok (.ret v)) { s with heap := h', toks := tk }) →
    codeAny (model prog w) A (.builtin "max.loop" ⟨[.ref I, .none, .ref S], kw⟩) R s := by
  have hSw : S ∉ wr := fun h => hSf (W.sub _ h)
  have nm : (toString "max" ++ toString ".loop" : String) = "max.loop" := by decide
  intro k
  induction k with
  | zero =>
    intro j s vb c hk hj hst hPb hS hR
    have hin : j + 1 = n := by omega
    refine codeAny_builtin F.entry_max_loop ?_
    rw [Around.under_plainId F.plain_max_loop _]
    show wpAny _ A.in1 (seqItems? (.ref S) >>= _) _ _ s
    refine wpAny_bind (wpAny_seqItems hS rfl ?_)
    show wpAny _ A.in1 (tryCatch (pyNext (.ref I)) _ >>= _) _ _ s
    refine wpAny_bind (wpAny_tryCatch (W.done s _ _ (hin ▸ hst) fun h' tk hk' => ?_))
    have hS' := hk' S _ hSw hS
    show wpAny _ A.in1 (updateSeq S (fun _ => #[]) >>= _) _ _ _
    refine wpAny_bind ?_
    refine wpAny_updateSeq hS' rfl (wpAny_bind (wpAny_letGo (wpAny_pure ?_)))
    exact hR vb _ tk (by rw [← hin]; exact hPb) fun b o hbw hbS e => (Heap.get?_update_other _ _ (Ne.symm hbS)).trans (hk' b o hbw e)
  | succ k ih =>
    intro j s vb c hk hj hst hPb hS hR
    have hlt : j + 1 < n := by omega
    refine codeAny_builtin F.entry_max_loop ?_
    rw [Around.under_plainId F.plain_max_loop _]
    show wpAny _ A.in1 (seqItems? (.ref S) >>= _) _ _ s
    refine wpAny_bind (wpAny_seqItems hS rfl ?_)
    show wpAny _ A.in1 (tryCatch (pyNext (.ref I)) _ >>= _) _ _ s
    refine wpAny_bind (wpAny_tryCatch (W.item (j + 1) s _ _ hlt hst fun v h' tk hP hst' hk' => ?_))
    have hS' := hk' S _ hSw hS
    show wpAny _ A.in1 (tryCatch (holding [v, v] (richCompare .Gt v vb >>= _)) _ >>= _) _ _ _
    refine wpAny_bind (wpAny_tryCatch (wpAny_holding (wpAny_bind (hcmp (j + 1) (argBest bt j) v vb _ _ _ hP hPb ?_))))
    refine wpAny_bind (wpAny_holding (wpAny_truthy_bool ?_))
    refine wpAny_bind (wpAny_letGo (wpAny_pure ?_))
    cases hb : bt (j + 1) (argBest bt j) with
    | true =>
      simp only [if_true]
      refine wpAny_bind ?_
      refine wpAny_updateSeq hS' rfl (wpAny_bind (wpAny_letGo ?_))
      rw [nm]
      refine wpAny_pure ⟨plainId_quiet F.plain_max_loop _, ih (j + 1) _ v _ (by omega) hlt (W.frame _ _ _ hst' fun b hbf o e => ?_) (by simp only [argBest, hb, if_true]; exact hP) (Heap.get?_update_self _ hS' rfl)
        fun v' h'' tk'' hP' hk'' => ?_⟩
      · exact (Heap.get?_update_other _ _ (fun h : S = b => hSf (by rw [h]; exact hbf))).trans e
      · exact hR v' h'' tk'' hP' fun b o hbw hbS e => hk'' b o hbw hbS ((Heap.get?_update_other _ _ (Ne.symm hbS)).trans (hk' b o hbw e))
    | false =>
      simp only [Bool.false_eq_true, if_false]
      refine wpAny_bind (wpAny_letGo ?_)
      rw [nm]
      refine wpAny_pure ⟨plainId_quiet F.plain_max_loop _, ih (j + 1) _ vb c (by omega) hlt hst' (by simp only [argBest, hb, Bool.false_eq_true, if_false]; exact hPb) hS' fun v' h'' tk'' hP' hk'' => ?_⟩
      exact hR v' h'' tk'' hP' fun b o hbw hbS e => hk'' b o hbw hbS (hk' b o hbw e)
theorem max_firstK (W : Walks prog w A.in1 I fp wr n P St) (bt : Nat → Nat → Bool) (hcmp : CmpOf prog w A.in1 .Gt P bt) (S : Addr) (hSf : S ∉ fp) (kw : List (Str × Value)) (hn : 0 < n) {s : Shared} {c : Nat} (hst : St 0 s.heap)
    (hS : s.heap.get? S = some { cls := .type "list", dict := none, data := .seq #[] c, slots := #[] })
    (hR : ∀ v h' tk, P (argBest bt (n - 1)) v → (∀ b o, b ∉ wr → b ≠ S → s.heap.get? b = some o → h'.get? b = some o) → R (.ok (.ret v)) { s with heap := h', toks := tk }) :
    codeAny (model prog w) A (.builtin "max.loop" ⟨[.ref I, .none, .ref S], kw⟩) R s := by
  have hSw : S ∉ wr := fun h => hSf (W.sub _ h)
  have nm : (toString "max" ++ toString ".loop" : String) = "max.loop" := by decide
  refine codeAny_builtin F.entry_max_loop ?_
  rw [Around.under_plainId F.plain_max_loop _]
  show wpAny _ A.in1 (seqItems? (.ref S) >>= _) _ _ s
  refine wpAny_bind (wpAny_seqItems hS rfl ?_)
  show wpAny _ A.in1 (tryCatch (pyNext (.ref I)) _ >>= _) _ _ s
  refine wpAny_bind (wpAny_tryCatch (W.item 0 s _ _ hn hst fun v h' tk hP hst' hk' => ?_))
  have hS' := hk' S _ hSw hS
  show wpAny _ A.in1 (updateSeq S (fun _ => #[v, v]) >>= _) _ _ _
  refine wpAny_bind ?_
  refine wpAny_updateSeq hS' rfl ?_
  rw [nm]
  refine wpAny_pure ⟨plainId_quiet F.plain_max_loop _, max_loopK W bt hcmp S hSf kw _ 0 _ v _ rfl hn (W.frame _ _ _ hst' fun b hbf o e => ?_) hP (Heap.get?_update_self _ hS' rfl) fun v' h'' tk'' hP' hk'' => ?_⟩
  · exact (Heap.get?_update_other _ _ (fun h : S = b => hSf (by rw [h]; exact hbf))).trans e
  · exact hR v' h'' tk'' hP' fun b o hbw hbS e => hk'' b o hbw hbS ((Heap.get?_update_other _ _ (Ne.symm hbS)).trans (hk' b o hbw e))
end
section
variable {prog : Program} {w : World} {A : Around} {E : Value → Shared → Prop} {s : Shared}
theorem call_treeK {id : String} {b : Builtin} {args : List Value} {kw : List (Str × Value)} {Q : Value → Shared → Prop} (hk : builtinKind id = none) (hp : plainId id = true) (hb : entryFor table id = some b) (ha : argsOk id ⟨args, kw⟩)
    (hc : wpAny (model prog w) A.in1 (b ⟨args, kw⟩) (fun fin s' => match fin with
      | .done f => (match (Except.ok f : Result) with | .ok (.ret v) => Q v s' | .ok _ => False | .error e => E e s')
      | .again c' => c'.quiet = true ∧ codeAny (model prog w) A c' (fun r s' => match r with | .ok (.ret v) => Q v s' | .ok _ => False | .error e => E e s') s') E s) :
    wpAny (model prog w) A (call (.builtin id) args kw) Q E s := by
  refine wpAny_call (codeAny_call_builtin hp hb ?_)
  simp only [checkBuiltinCall, hk]
  cases hsig : Manifest.signature? id with
  | none => exact wpAny_pure hc
  | some sig =>
    have ha' : Bind.checkArgs id sig ⟨args, kw⟩ = pure () := by simpa only [argsOk, hsig] using ha
    show wpAny _ A.in1 (Bind.checkArgs id sig ⟨args, kw⟩) _ _ s
    rw [ha']; exact wpAny_pure hc
theorem args_maxK (a d : Value) : argsOk "max" ⟨[a], [("default", d)]⟩ := by unfold argsOk; kernel_rfl
theorem call_maxK {x d : Value} {Q : Value → Shared → Prop}
    (h : wpAny (model prog w) A.in1 (pyIter x) (fun it s₂ => ∃ I fp wr n P St bt, it = .ref I ∧ Walks prog w A.in1 I fp wr n P St ∧ St 0 s₂.heap ∧ (∀ b ∈ fp, b < s₂.heap.objs.size) ∧ 0 < n ∧ CmpOf prog w A.in1 .Gt P bt ∧
      ∀ v h' tk, P (argBest bt (n - 1)) v → (∀ b o, b ∉ wr → s₂.heap.get? b = some o → h'.get? b = some o) → Q v { s₂ with heap := h', toks := tk }) E s) :
    wpAny (model prog w) A (call (.builtin "max") [x] [("default", d)]) Q E s := by
  have nm : (toString "max" ++ toString ".loop" : String) = "max.loop" := by decide
  refine call_treeK F.kind_max F.plain_max F.entry_max (args_maxK _ _) ?_
  show wpAny _ A.in1 (Builtin.Builtins.bindParams "max" ["key", "default"] 0 ⟨[], [("default", d)]⟩ >>= _) _ _ s
  refine wpAny_bind (wpAny_of_eq (show Builtin.Builtins.bindParams "max" ["key", "default"] 0 ⟨[], [("default", d)]⟩ = pure [none, some d] from rfl) ?_)
  refine wpAny_bind (wpAny_pure ?_)
  refine wpAny_bind (wpAny_mono h (fun it s₂ h₂ => ?_) fun _ _ e => e)
  obtain ⟨I, fp, wr, n, P, St, bt, rfl, W, hst, hfp, hn, hcmp, hQ⟩ := h₂
  refine wpAny_bind (wpAny_newObj_type ?_)
  have hSf : s₂.heap.objs.size ∉ fp := fun hm => Nat.lt_irrefl _ (hfp _ hm)
  rw [nm]
  refine wpAny_pure ⟨plainId_quiet F.plain_max_loop _, max_firstK W bt hcmp s₂.heap.objs.size hSf _ hn (W.frame _ _ _ hst fun b _ o e => Heap.get?_push_of_some _ e) (Heap.get?_push_size _ rfl) fun v h' tk hP hk => ?_⟩
  exact hQ v h' tk hP fun b o hbw e => hk b o hbw (Nat.ne_of_lt (Heap.lt_size e)) (Heap.get?_push_of_some _ e)
theorem max_rawK {l : Addr} {its : List Value} {ns : List Int} {d : Value} {Q : Value → Shared → Prop} (hh : A.handled = none) (hl : s.heap.IsList l its.toArray) (hi : IntsAre its ns) (hne : 0 < ns.length)
    (h : ∀ h' tk M t', (∀ b o, s.heap.get? b = some o → h'.get? b = some o) → M ∈ ns → (∀ a, a ∈ ns → a ≤ M) → Q (.int M t') { s with heap := h', toks := tk }) : wpAny (model prog w) A (call (.builtin "max") [.ref l] [("default", d)]) Q E s := by
  obtain ⟨xs, e⟩ := hi.allInts.items
  have hn : numsOf (intItems xs).toList = ns := by rw [← e]; exact hi.numsOf
  rw [nums_intItems] at hn
  subst hn
  rw [e] at hl
  have hsz : 0 < xs.size := by simpa using hne
  refine call_maxK (iter_intList hl fun s₂ e st hfp hlI => ?_)
  subst e
  refine ⟨_, _, _, _, _, _, _, rfl, Walks.list (A := A.in1) hh _ l hlI (intItems xs), st, hfp, by simpa [intItems] using hsz, CmpOf.ints_gt (numAt xs) (fun _ _ => intItems_at), fun v h' tk hP hk => ?_⟩
  obtain ⟨t, rfl⟩ := intItems_at (show (intItems xs)[argBest (fun i j => decide (numAt xs i > numAt xs j)) (xs.size - 1)]? = some v by simpa [intItems] using hP)
  obtain ⟨h1, h2⟩ := argBest_gt (numAt xs) (xs.size - 1)
  refine h h' tk _ t (old_kept hk) ?_ fun a ha => ?_
  · rw [numAt_eq]; exact PySem.getD_mem (by rw [List.length_map, Array.length_toList]; exact Nat.lt_of_le_of_lt h1 (by omega))
  · obtain ⟨j, hj, rfl⟩ := mem_getD ha
    rw [List.length_map, Array.length_toList] at hj
    have := h2 j (by omega)
    rw [← numAt_eq]
    simpa [intItems] using this
end
section
variable {X : Cx}
/-- max(l, default=d) of a list of ints that is not empty -/
def tMaxD (K : PySem.W.Frag) (ta td : TE) : TE := fun σ H Q => tCons ta tNil σ H fun vs H1 => tCons td tNil σ H1 fun ws H2 => ∃ (a : Addr) (ns : List Int) (z : V), vs = [.ref a] ∧ ws = [z] ∧ SqL K H2 a (ns.map V.int) ∧ 0 < ns.length ∧ ∀ m, m ∈ ns → (∀ y, y ∈ ns → y ≤ m) → Q (.int m) H2
theorem pe_maxD {e d : Expr} {ta td : TE} {p pos kp : Pos} (hc : X.calm = true) (hm : X.mg "max" = none) (ha : PE X e ta) (hd : PE X d td) (hg : Gl X "max" := by rfl) (hs : starEach [e] X.env = [(false, eval e X.env)] := by rfl) :
    PE X (.Call (.Name "max" p) [e] [⟨some "default", d, kp⟩] pos) (tMaxD X.K ta td) := by
  refine ⟨fun pins s σ H Q I h => ?_⟩
  refine wpAny_Call_Name_kw (ld_blt I hg hm (u := .builtin "max") (by decide +kernel) ?_)
  have hpa : PA X [e] (tCons ta tNil) := pa_cons ha pa_nil hs
  have hpk : PK X [⟨some "default", d, kp⟩] (tCons td tNil) := pk_cons hd pk_nil
  refine PyProof.Rows.callWith_kw (thn (hpa.run pos pins s σ H _ I h) fun us s1 ⟨vs, H1, I1, r1, q1⟩ => ?_) (by rw [hs]; rfl) (by rw [hs]; rfl) (by rfl) (by rfl)
  refine thn (hpk.run pos pins s1 σ H1 _ I1 q1) fun ws s2 ⟨zs, H2, I2, r2, a, ns, z, e1, e2, hl, hne, q⟩ => ?_
  subst e1 e2
  cases r1 with
  | cons ra rn =>
    cases rn
    cases ra
    cases r2 with
    | cons rz rn =>
      cases rn
      obtain ⟨its, rv, pl, _⟩ := I2.list hl
      show wpAny _ _ (call (.builtin "max") [.ref a] [("default", _)]) _ _ _
      exact max_rawK (I2.ok.hd hc) pl.isList rv.ints hne fun h' tk m t' hk h1 h2 => ⟨.int _, H2, I2.kept hk, ⟨_, rfl⟩, q m h1 h2⟩
end
end DF

namespace DF
open PySem PySem.Spec PyProof.Rows L2
/-- tuples kept alone -/
abbrev Any : Addr → Prop := fun _ => True
theorem Fr.any {S : Addr → Prop} {H H' : Hp} (f : Fr S H H') : Fr Any H H' := f.mono fun _ _ => True.intro
theorem Fr.updA {S : Addr → Prop} {H H' : Hp} {p : Addr} {o : HO} (f : Fr S H H') (n : ∀ u, H' p = some u → ¬ tupO u) : Fr Any H (upd H' p o) := by
  refine ⟨fun b x nb => (nb True.intro).elim, fun b u t e => ?_⟩
  have e' := f.t b u t e
  rw [upd_ne (fun z : b = p => n u (by rw [← z]; exact e') t)]
  exact e'
theorem le_line {n : Nat} (h : n ≤ 16000000) : n ≤ sizeLine := by rw [sizeLine_eq]; omega
theorem lt_line {n : Nat} (h : n < 16000000) : n < sizeLine := by rw [sizeLine_eq]; omega
/-! ### built-ins, shortly -/
section
variable {X : Cx} {e : Expr} {te : TE} {p1 p2 pos : Pos}
def tIsi (K : PySem.W.Frag) (te : TE) : TE := tCB (rIsi K) (tCons te (tCons (tC (.ty "str")) tNil))
theorem k_isi (h1 : X.mg "isinstance" = none) (h2 : X.mg "str" = none) (he : PE X e te) (g1 : Gl X "isinstance" := by rfl) (g2 : Gl X "str" := by rfl)
    (st : starEach (e :: [.Name "str" p2]) X.env = (false, eval e X.env) :: starEach [.Name "str" p2] X.env := by rfl) (hpl : (backTo pos (starEach [.Name "str" p2] X.env)).any (·.1) = false := by rfl) :
    PE X (.Call (.Name "isinstance" p1) [e, .Name "str" p2] [] pos) (tIsi X.K te) :=
  pe_callB call_isi g1 h1 (by decide +kernel) (pa_cons he (hs := st) (pa_cons (pe_bltn (v := .ty "str") g2 h2 (by decide +kernel) rfl) pa_nil)) (he := st) (hpl := hpl)
theorem k_len (h1 : X.mg "len" = none) (he : PE X e te) (g1 : Gl X "len" := by rfl)
    (st : starEach (e :: []) X.env = (false, eval e X.env) :: starEach [] X.env := by rfl) (hpl : (backTo pos (starEach [] X.env)).any (·.1) = false := by rfl) :
    PE X (.Call (.Name "len" p1) [e] [] pos) (tCB (fun xs H Q => ∃ a ys, xs = [.ref a] ∧ (SqL X.K H a ys ∨ SqT X.K H a ys) ∧ Q (.int ys.length) H) (tCons te tNil)) :=
  pe_callB call_len_seq g1 h1 PySem.boot_len (pa_cons he pa_nil (hs := st)) (he := st) (hpl := hpl)
end
section
variable {P : Program} {w : World} {K : PySem.W.Frag} {mg : Str → Option Value} {base : Heap}
/-! ### heads -/
def sp_heads (K : PySem.W.Frag) : Sp := fun vs H Q _ => ∃ v t, vs = [v] ∧ Tm K H v t ∧ t.size ≤ 1000000 ∧ ∀ H' p, Fr No H H' → H p = none → H' p = some (.lst (t.heads.map hdV)) → Q (.ref p) H'
theorem sc_heads : FnScope ["term", "found", "left", "head", "arguments"] ["term"] (defScope Tx.s_heads) := C8.fnScope_by (by decide +kernel)
theorem ok_heads (Y : Hf K mg) : Cl CX0 P w K mg base 1 "heads" (sp_heads K) := by
  refine Y.d_heads.ok sc_heads (fun vs H Q E h => ?_) (fun f cdv A outer s H vs Q E hr h => ?_)
  · obtain ⟨v, t, rfl, _⟩ := h; rfl
  have nd := sc_heads.nd
  refine ⟨_, pss_cons (ps_set (i := 1) nd rfl (.inl rfl) (pe_lst pa_nil))
    (pss_cons (ps_set (i := 2) nd rfl (.inl rfl) (pe_lst (pa_cons (pv 0) pa_nil)))
    (pss_cons (ps_while PassesOwn.never (pt_truth (pv 2) (by intro _; rfl))
      (pss_cons (ps_asg (pe_bm0 PySem.F.plainAttrs_list PySem.F.slot_list_pop PySem.F.type_list_pop mt_pop (pv 2)) (pg_tup rfl (pgs_cons (pg_name (i := 3) nd rfl (.inl rfl)) (pgs_cons (pg_name (i := 4) nd rfl (.inl rfl)) pgs_nil))))
      (pss_cons (ps_expr (pe_bm PySem.F.plainAttrs_list PySem.F.slot_list_append PySem.F.type_list_append mt_append (pv 1) (pa_cons (pv 3) pa_nil)))
      (pss_one (ps_expr (pe_bm PySem.F.plainAttrs_list PySem.F.slot_list_extend PySem.F.type_list_extend mt_extendT (pv 2) (pa_cons (pe_backT (pv 4)) pa_nil)))))))
    (pss_one (ps_ret (pv 1))))), ?_⟩
  obtain ⟨v, t, rfl, ht, hz, q⟩ := h
  refine ⟨Nat.zero_le _, fun f hf => ⟨_, rfl, le_line (by show 1 ≤ 16000000; decide), fun l hl => ?_⟩⟩
  have nfl : f ≠ l := ne_of_none upd_same hl
  have hl0 : H l = none := by rwa [upd_ne nfl.symm] at hl
  refine ⟨fun m σ H' => ∃ x3 x4 done st xs, m = T.sizes st ∧ σ = [some v, some (.ref f), some (.ref l), x3, x4] ∧ Fr No H H' ∧ H' f = some (.lst (done.map hdV)) ∧ H' l = some (.lst xs) ∧ IsAll K H' xs (st.map enc) ∧ done ++ (st.reverse.map T.heads).flatten = t.heads,
    ⟨_, none, none, [], [t], [v], rfl, rfl, (Fr.new0 hf).add hl, by rw [upd_ne nfl]; exact upd_same, upd_same, .cons (ht.fr ((Fr.new0 hf).add (S := No) hl)) .nil, by simp⟩, ?_⟩
  rintro m σ H1 ⟨x3, x4, done, st, xs, rfl, rfl, f1, hf1, hl1, hi, he⟩
  refine ⟨_, rfl, !xs.isEmpty, .inl ⟨xs, SqL.of hl1, rfl⟩, ?_⟩
  have hlen := hi.lenT
  rcases List.eq_nil_or_concat st with rfl | ⟨st', u, rfl⟩
  · have : xs = [] := List.eq_nil_of_length_eq_zero (by simpa using hlen)
    subst this
    refine iteF ⟨_, rfl, q H1 f f1 hf ?_⟩
    simp at he
    rw [hf1, he]
  · rw [List.concat_eq_append] at hi hlen he ⊢
    rcases List.eq_nil_or_concat xs with rfl | ⟨xs', y, rfl⟩
    · simp at hlen
    rw [List.concat_eq_append] at hl1 hi hlen ⊢
    have hne : (!(xs' ++ [y]).isEmpty) = true := by simp
    rw [hne]
    refine iteT ⟨_, fun σ' H' n => n, ?_⟩
    have hlen' : xs'.length = st'.length := by simpa using hlen
    obtain ⟨u', hu', iy⟩ := hi.tm (i := xs'.length) (x := y) (by simp)
    rw [hlen'] at hu'
    simp at hu'
    subst hu'
    have hi' : IsAll K H1 xs' (st'.map enc) := by
      have := hi.take xs'.length
      rw [List.take_left' rfl, List.map_append, List.take_left' (by rw [List.length_map]; omega)] at this
      exact this
    obtain ⟨a, b, as, rfl, ta, tb, ia⟩ := iy.dest
    have f2 : Fr No H (upd H1 l (.lst xs')) := f1.new hl0
    have g2 : Fr (At l) H1 (upd H1 l (.lst xs')) := Fr.refl.mut rfl hl1 fun z => z
    refine ⟨_, rfl, .inl ⟨rfl, _, SqL.of hl1⟩, l, _, .ref a, rfl, rfl, hl1, by simp, ?_⟩
    rw [List.dropLast_concat]
    refine ⟨a, _, rfl, (ta.fr g2).sq, rfl, _, _, rfl, _, _, rfl, rfl, ?_⟩
    have hf2 : upd H1 l (.lst xs') f = some (.lst (done.map hdV)) := by rw [upd_ne nfl]; exact hf1
    have hdl : done.length ≤ t.size := by
      have := congrArg List.length he
      rw [List.length_append, T.heads_len] at this
      omega
    refine ⟨_, rfl, .inl ⟨rfl, _, SqL.of hf2⟩, _, rfl, f, _, _, rfl, rfl, hf2, lt_line (by rw [List.length_map]; omega), ?_⟩
    have g3 : Fr (At f) (upd H1 l (.lst xs')) (upd (upd H1 l (.lst xs')) f (.lst (done.map hdV ++ [hdV u.hd]))) := Fr.refl.mut rfl hf2 fun z => z
    have f3 : Fr No H (upd (upd H1 l (.lst xs')) f (.lst (done.map hdV ++ [hdV u.hd]))) := f2.new hf
    have hl3 : (upd (upd H1 l (.lst xs')) f (.lst (done.map hdV ++ [hdV u.hd]))) l = some (.lst xs') := by rw [upd_ne nfl.symm]; exact upd_same
    refine ⟨_, rfl, .inl ⟨rfl, _, SqL.of hl3⟩, _, rfl, b, as, rfl, ((tb.fr g2).fr g3).sq, fun r o hr0 bo => ?_⟩
    have g4 : Fr No (upd (upd H1 l (.lst xs')) f (.lst (done.map hdV ++ [hdV u.hd]))) (upd (upd (upd H1 l (.lst xs')) f (.lst (done.map hdV ++ [hdV u.hd]))) r (.frz o (.tup as.reverse))) := Fr.new0 hr0
    have hl4 := g4.kn hl3
    have hA : (T.sizes (u.args)) < u.size := by rw [T.size_eq u]; omega
    have hS := T.sizes_append st' [u]
    have h1 := T.len_sizes st'
    have h2 := T.len_sizes u.args
    have h3 := ia.lenT
    have hst : T.sizes (st' ++ [u]) ≤ t.size := by
      have := congrArg List.length he
      rw [List.length_append, T.heads_len] at this
      have e2 : ∀ l : List T, (l.reverse.map T.heads).flatten.length = T.sizes l := by
        intro l
        induction l with
        | nil => rfl
        | cons a l ih => simp [T.sizes_cons, T.heads_len] at ih ⊢; omega
      rw [e2] at this
      omega
    have hone : T.sizes [u] = u.size := by simp [T.sizes]
    refine ⟨l, r, xs', as.reverse, o, rfl, rfl, hl4, upd_same, bo, le_line (by rw [List.length_reverse]; omega), ?_⟩
    have g5 : Fr (At l) (upd (upd (upd H1 l (.lst xs')) f (.lst (done.map hdV ++ [hdV u.hd]))) r (.frz o (.tup as.reverse))) (upd (upd (upd (upd H1 l (.lst xs')) f (.lst (done.map hdV ++ [hdV u.hd]))) r (.frz o (.tup as.reverse))) l (.lst (xs' ++ as.reverse))) := Fr.refl.mut rfl hl4 fun z => z
    refine ⟨T.sizes (st' ++ u.args.reverse), ?_, some (hdV u.hd), some (.ref b), done ++ [u.hd], st' ++ u.args.reverse, xs' ++ as.reverse, rfl, rfl, (f3.add hr0).new hl0, ?_, upd_same, ?_, ?_⟩
    · have e4 := T.sizes_append st' u.args.reverse
      have e5 : T.sizes u.args.reverse = T.sizes u.args := by simp [T.sizes]
      omega
    · rw [upd_ne nfl, upd_ne (ne_of_none upd_same hr0), upd_same]; simp
    · have k1 := (((hi'.fr g2).fr g3).fr g4).fr g5
      have k2 := (((ia.fr g2).fr g3).fr g4).fr g5
      have := k1.append k2.rev
      rw [List.map_append, List.map_reverse]
      exact this
    · rw [List.reverse_append, List.reverse_reverse, List.map_append, List.flatten_append]
      rw [List.reverse_append, List.map_append, List.flatten_append] at he
      rw [← he]
      simp [T.heads_eq u]
/-! ### size -/
def sp_size (K : PySem.W.Frag) : Sp := fun vs H Q _ => ∃ v t, vs = [v] ∧ Tm K H v t ∧ t.size ≤ 1000000 ∧ ∀ H', Fr No H H' → Q (.int t.size) H'
theorem sc_size : FnScope ["term"] ["term"] (defScope Tx.s_size) := C8.fnScope_by (by decide +kernel)
theorem ok_size (Y : Hf K mg) : Cl CX0 P w K mg base 2 "size" (sp_size K) := by
  refine Y.d_size.ok sc_size (fun vs H Q E h => ?_) (fun f cdv A outer s H vs Q E hr h => ?_)
  · obtain ⟨v, t, rfl, _⟩ := h; rfl
  refine ⟨_, pss_one (ps_ret (pe_callB call_len_seq rfl Y.z_len PySem.boot_len (pa_cons (kc (ok_heads Y) hr (pa_cons (pv 0) pa_nil)) pa_nil))), ?_⟩
  obtain ⟨v, t, rfl, ht, hz, q⟩ := h
  refine ⟨_, rfl, v, t, rfl, ht, hz, fun H1 p f1 hn hp => ⟨p, _, rfl, .inl (SqL.of hp), ?_⟩⟩
  have := q H1 f1
  rw [List.length_map, T.heads_len]
  exact this
/-! ### unknowns, names -/
def isC : Hd → Bool
  | .u _ => false
  | .c _ => true
theorem isi_hd {H : Hp} {Q : VK} (h : Hd) (q : Q (.bl (isC h)) H) : rIsi K [hdV h, .ty "str"] H Q := by
  cases h with
  | u i => exact ⟨_, _, .type "int", .type "str", false, rfl, .ty _, .base (.int i), kit_ty (by decide +kernel), q⟩
  | c x => exact ⟨_, _, .type "str", .type "str", true, rfl, .ty _, .base (.str x.s), kit_ty (by decide +kernel), q⟩
theorem isiE {σ : St} {H : Hp} {Q : VK} (h : Hd) (q : Q (.bl (isC h)) H) : tCons (tC (.ty "str")) tNil σ H (fun xs H2 => rIsi K (hdV h :: xs) H2 Q) := isi_hd h q
theorem tIsi_var {i : Nat} {σ : St} {H : Hp} {Q : VK} {h : Hd} (e : σ[i]? = some (some (hdV h))) (q : Q (.bl (isC h)) H) : tIsi K (tVar i) σ H Q := ⟨_, e, isiE h q⟩
/-- a dict of truths -/
def trues {α : Type} (key : α → Key) (us : List α) : List (Key × V) := us.map fun a => (key a, .bl true)
theorem trues_put {α : Type} [DecidableEq α] {key : α → Key} (inj : ∀ a b, key a = key b → a = b) (us : List α) (x : α) : putK (trues key us) (key x) (.bl true) = trues key (addK us x) := by
  have hm : ((trues key us).any fun kv => decide (kv.1 = key x)) = decide (x ∈ us) := by
    unfold trues
    rw [List.any_map, Bool.eq_iff_iff, List.any_eq_true, decide_eq_true_iff]
    constructor
    · rintro ⟨a, ha, e⟩
      exact inj _ _ (of_decide_eq_true e) ▸ ha
    · intro h; exact ⟨x, h, decide_eq_true rfl⟩
  unfold putK addK
  rw [hm]
  by_cases h : x ∈ us
  · rw [if_pos (decide_eq_true h), if_pos h]
    unfold trues
    rw [List.map_map]
    refine List.map_congr_left fun a ha => ?_
    show (if key a = key x then (key a, V.bl true) else (key a, V.bl true)) = (key a, V.bl true)
    split <;> rfl
  · rw [if_neg (by simpa using h), if_neg h]
    unfold trues
    rw [List.map_append]; rfl
theorem uniq_snoc {α : Type} [DecidableEq α] (l : List α) (x : α) : uniq (l ++ [x]) = addK (uniq l) x := by unfold uniq; rw [List.foldl_append]; rfl
theorem take_snoc {α : Type} {l : List α} {i : Nat} {x : α} (h : l[i]? = some x) : l.take (i + 1) = l.take i ++ [x] := by
  obtain ⟨hi, e⟩ := List.getElem?_eq_some_iff.mp h
  rw [List.take_succ_eq_append_getElem hi, e]
theorem isAll_ints {H : Hp} : ∀ l : List Int, IsAll K H (l.map V.int) (l.map PyData.int)
  | [] => .nil
  | i :: l => .cons (.int i) (isAll_ints l)
theorem isAll_strs {H : Hp} : ∀ l : List Nm, IsAll K H (l.map fun x => V.str x.s) (l.map fun x => PyData.str x.s)
  | [] => .nil
  | x :: l => .cons (.str x.s) (isAll_strs l)
def sp_unknowns (K : PySem.W.Frag) : Sp := fun vs H Q _ => ∃ v t, vs = [v] ∧ Tm K H v t ∧ t.size ≤ 1000000 ∧ Rt K H Q (.tuple ((unks t).map PyData.int))
def sp_names (K : PySem.W.Frag) : Sp := fun vs H Q _ => ∃ v t, vs = [v] ∧ Tm K H v t ∧ t.size ≤ 1000000 ∧ Rt K H Q (.tuple ((nams t).map fun x => PyData.str x.s))
theorem sc_unknowns : FnScope ["term", "found", "head"] ["term"] (defScope Tx.s_unknowns) := C8.fnScope_by (by decide +kernel)
theorem sc_names : FnScope ["term", "found", "head"] ["term"] (defScope Tx.s_names) := C8.fnScope_by (by decide +kernel)
theorem dc_heads {t : T} {H H1 : Hp} {p : Addr} {α : Type} [DecidableEq α] {key : α → Key} (inj : ∀ a b, key a = key b → a = b) {of : Hd → Option α} {tt : TT} {σ : St} {Qd : Addr → Hp → Prop} (hz : t.size ≤ 1000000) (f1 : Fr No H H1) (hp : H1 p = some (.lst (t.heads.map hdV)))
    (hl : (wipe σ [2]).length = 3) (key_ : ∀ h x, of h = some x → hdV h = kV (key x)) (ht : ∀ (h : Hd) (H2 : Hp) (Q2 : Bool → Hp → Prop), Q2 (of h).isSome H2 → tt ((wipe σ [2]).set 2 (some (hdV h))) H2 Q2)
    (hq : ∀ H2 D, Fr No H H2 → H2 D = some (.dK (trues key (uniq (t.heads.filterMap of)))) → H D = none → Qd D H2) :
    ∀ D, H1 D = none → ∃ W : Nat → Nat → Hp → Prop, (∃ m, W 0 m (upd H1 D (.dK []))) ∧ ∀ i m H, W i m H →
      ((Itl K p).stop i H ∧ Qd D H) ∨ ((Itl K p).go i H ∧ ∃ Nx : Hp → Prop, (∀ H', Nx H' → ∃ m', m' < m ∧ W (i + 1) m' H') ∧ ∀ x H', (Itl K p).yld i H x H' → gName 2 x (wipe σ [2]) H' fun σ2 H2 => wipe σ2 [2] = wipe σ [2] ∧ tt σ2 H2 fun b H3 =>
        if b = true then tVar 2 σ2 H3 fun y H4 => tC (.bl true) σ2 H4 fun z H5 => ∃ kvs k, y = kV k ∧ H5 D = some (.dK kvs) ∧ kvs.length < sizeLine ∧ Nx (upd H5 D (.dK (putK kvs k z))) else Nx H3) := fun D hD => by
  have npD : p ≠ D := ne_of_none hp hD
  have hw : ∀ x : V, wipe ((wipe σ [2]).set 2 (some x)) [2] = wipe σ [2] := fun x => by
    have hl' : σ.length = 3 := by rw [← wipe_length σ [2]]; exact hl
    match σ, hl' with
    | [a, b, c], _ => rfl
  have h2 : ∀ x : V, ((wipe σ [2]).set 2 (some x))[2]? = some (some x) := fun x => by
    rw [List.getElem?_set_self (by rw [hl]; decide)]
  refine dc_list (xs := t.heads.map hdV) (fun i H2 => Fr No H H2 ∧ H2 p = some (.lst (t.heads.map hdV)) ∧ H2 D = some (.dK (trues key (uniq ((t.heads.take i).filterMap of)))))
    ⟨f1.add hD, by rw [upd_ne npD]; exact hp, upd_same⟩ (fun i H2 _ z => SqL.of z.2.1) (fun i x H2 hi z => ?_) (fun H2 z => ?_)
  · obtain ⟨z1, z2, z3⟩ := z
    rw [List.getElem?_map] at hi
    cases e : t.heads[i]? with
    | none => rw [e] at hi; cases hi
    | some h =>
      rw [e] at hi
      cases hi
      refine ⟨hw _, ht h H2 _ ?_⟩
      have hlen : (uniq ((t.heads.take i).filterMap of)).length ≤ t.size := by
        have h1 := len_uniq ((t.heads.take i).filterMap of)
        have h2 := List.length_filterMap_le of (t.heads.take i)
        have h3 := List.length_take_le' i t.heads
        rw [T.heads_len] at h3
        omega
      cases e2 : of h with
      | none =>
        refine iteF ⟨z1, z2, ?_⟩
        rw [take_snoc e, List.filterMap_append, List.filterMap_cons, e2]
        simpa using z3
      | some x =>
        refine iteT ⟨_, h2 _, _, key x, key_ h x e2, z3, lt_line (by unfold trues; rw [List.length_map]; omega), (z1.new (f1.freeN hD)), by rw [upd_ne npD]; exact z2, ?_⟩
        rw [take_snoc e, List.filterMap_append, List.filterMap_cons, e2, trues_put inj, upd_same]
        show some (HO.dK (trues key (addK _ x))) = some (HO.dK (trues key (uniq (_ ++ [x]))))
        rw [uniq_snoc]
  · obtain ⟨z1, z2, z3⟩ := z
    rw [List.length_map, List.take_length] at z3
    exact hq H2 D z1 z3 (f1.freeN hD)
theorem ok_unknowns (Y : Hf K mg) : Cl CX0 P w K mg base 2 "unknowns" (sp_unknowns K) := by
  refine Y.d_unknowns.ok sc_unknowns (fun vs H Q E h => ?_) (fun f cdv A outer s H vs Q E hr h => ?_)
  · obtain ⟨v, t, rfl, _⟩ := h; rfl
  have nd := sc_unknowns.nd
  refine ⟨_, pss_cons (ps_setDc (i := 1) (own := [("head", 2)]) (g := gName 2) (tt := tNot (tB (tIsi K (tVar 2)))) (tk := tVar 2) (tv := tC (.bl true)) rfl nd rfl rfl (sw_trueD rfl rfl rfl (by decide +kernel)) (pi_list (kc (ok_heads Y) hr (pa_cons (pv 0) pa_nil))) (blkOk_by (own := [("head", 2)]) (N := ["term", "found", "head"]) (sc := defScope Tx.s_unknowns) (by decide +kernel))
      (fun _ _ _ _ _ => pg_name (i := 2) nd rfl (Or.inl rfl)) (fun _ _ _ _ _ => pts_one (pt_not (pt_val (k_isi Y.z_isinstance Y.z_str (pv 2))))) (fun _ _ _ _ _ => pv 2) (fun _ _ _ _ _ => pe_bl))
    (pss_one (ps_ret (pe_callTy call_tuple_of rfl Y.z_tuple (by decide +kernel) (pa_cons (pe_callTy (call_listD rfl) rfl Y.z_list (by decide +kernel) (pa_cons (pv 1) pa_nil)) pa_nil)))), ?_⟩
  obtain ⟨v, t, rfl, ht, hz, q⟩ := h
  refine ⟨_, rfl, v, t, rfl, ht, hz, fun H1 p f1 hn hp => ⟨p, rfl, ⟨_, SqL.of hp⟩, dc_heads (key := fun i : Int => (.inl i : Key)) (of := unkOf) (fun a b e => Sum.inl.inj e) hz f1 hp rfl (fun h x e => ?_) (fun h H2 Q2 q2 => ?_) fun H2 D f2 hD hD0 => ?_⟩⟩
  · cases h with
    | u i => cases e; rfl
    | c y => cases e
  · refine tIsi_var (h := h) rfl ⟨_, rfl, ?_⟩
    cases h with
    | u i => exact q2
    | c y => exact q2
  · refine ⟨_, rfl, D, _, rfl, .inl hD, fun l hl => ⟨l, _, rfl, .inl ⟨SqL.of upd_same, fun r hr' => ?_⟩⟩⟩
    refine q _ _ ((f2.add hl).add hr') (.tup (.of upd_same) ?_)
    have e : (trues (fun i : Int => (.inl i : Key)) (uniq (t.heads.filterMap unkOf))).map (fun kv => kV kv.1) = (unks t).map V.int := by
      unfold trues unks
      rw [List.map_map]; rfl
    rw [e]
    exact isAll_ints _
theorem ok_names (Y : Hf K mg) : Cl CX0 P w K mg base 2 "names" (sp_names K) := by
  refine Y.d_names.ok sc_names (fun vs H Q E h => ?_) (fun f cdv A outer s H vs Q E hr h => ?_)
  · obtain ⟨v, t, rfl, _⟩ := h; rfl
  have nd := sc_names.nd
  refine ⟨_, pss_cons (ps_setDc (i := 1) (own := [("head", 2)]) (g := gName 2) (tt := tB (tIsi K (tVar 2))) (tk := tVar 2) (tv := tC (.bl true)) rfl nd rfl rfl (sw_trueD rfl rfl rfl (by decide +kernel)) (pi_list (kc (ok_heads Y) hr (pa_cons (pv 0) pa_nil))) (blkOk_by (own := [("head", 2)]) (N := ["term", "found", "head"]) (sc := defScope Tx.s_names) (by decide +kernel))
      (fun _ _ _ _ _ => pg_name (i := 2) nd rfl (Or.inl rfl)) (fun _ _ _ _ _ => pts_one (pt_val (k_isi Y.z_isinstance Y.z_str (pv 2)))) (fun _ _ _ _ _ => pv 2) (fun _ _ _ _ _ => pe_bl))
    (pss_one (ps_ret (pe_callTy call_tuple_of rfl Y.z_tuple (by decide +kernel) (pa_cons (pe_callTy (call_listD rfl) rfl Y.z_list (by decide +kernel) (pa_cons (pv 1) pa_nil)) pa_nil)))), ?_⟩
  obtain ⟨v, t, rfl, ht, hz, q⟩ := h
  refine ⟨_, rfl, v, t, rfl, ht, hz, fun H1 p f1 hn hp => ⟨p, rfl, ⟨_, SqL.of hp⟩, dc_heads (key := fun x : Nm => (.inr x.s : Key)) (of := namOf) (fun a b e => Nm.inj (Sum.inr.inj e)) hz f1 hp rfl (fun h x e => ?_) (fun h H2 Q2 q2 => ?_) fun H2 D f2 hD hD0 => ?_⟩⟩
  · cases h with
    | u i => cases e
    | c y => cases e; rfl
  · refine tIsi_var (h := h) rfl ⟨_, rfl, ?_⟩
    cases h with
    | u i => exact q2
    | c y => exact q2
  · refine ⟨_, rfl, D, _, rfl, .inl hD, fun l hl => ⟨l, _, rfl, .inl ⟨SqL.of upd_same, fun r hr' => ?_⟩⟩⟩
    refine q _ _ ((f2.add hl).add hr') (.tup (.of upd_same) ?_)
    have e : (trues (fun x : Nm => (.inr x.s : Key)) (uniq (t.heads.filterMap namOf))).map (fun kv => kV kv.1) = (nams t).map fun x => V.str x.s := by
      unfold trues nams
      rw [List.map_map]; rfl
    rw [e]
    exact isAll_strs _
end
end DF

/-! data of tuples: == told, rules over them -/
namespace DF
open PySem PySem.Spec PyProof.Rows L2
/-! ### data without truths -/
mutual
/-- no truths, no lists, names only that fit -/
def fine : PyData → Bool
  | .none => true
  | .bool _ => false
  | .int _ => true
  | .str x => PyData.strOk x
  | .list _ => false
  | .tuple xs => fineA xs
  | .dict _ => false
def fineA : List PyData → Bool
  | [] => true
  | x :: xs => fine x && fineA xs
end
mutual
theorem fine_lay : ∀ {d : PyData}, fine d = true → d.canLay0 = true
  | .none, _ => rfl
  | .int _, _ => rfl
  | .str x, h => h
  | .tuple xs, h => fineA_lay (show fineA xs = true from h)
  | .bool _, h => nomatch h
  | .list _, h => nomatch h
  | .dict _, h => nomatch h
theorem fineA_lay : ∀ {xs : List PyData}, fineA xs = true → PyData.canLayAll0 xs = true
  | [], _ => rfl
  | x :: xs, h => by
    have h' := Bool.and_eq_true_iff.mp (show (fine x && fineA xs) = true from h)
    show (x.canLay0 && PyData.canLayAll0 xs) = true
    rw [fine_lay h'.1, fineA_lay h'.2]; rfl
end
mutual
theorem eqv_fine : ∀ {d e : PyData}, fine d = true → fine e = true → PyData.eqv d e = true → d = e
  | .none, .none, _, _, _ => rfl
  | .int i, .int j, _, _, q => by rw [show i = j by simpa [PyData.eqv] using q]
  | .str x, .str y, _, _, q => by rw [show x = y by simpa [PyData.eqv] using q]
  | .tuple xs, .tuple ys, h, g, q => by rw [eqvAll_fine (show fineA xs = true from h) (show fineA ys = true from g) (by simpa [PyData.eqv] using q)]
  | .bool _, _, h, _, _ => nomatch h
  | .list _, _, h, _, _ => nomatch h
  | .dict _, _, h, _, _ => nomatch h
  | _, .bool _, _, g, _ => nomatch g
  | _, .list _, _, g, _ => nomatch g
  | _, .dict _, _, g, _ => nomatch g
  | .none, .int _, _, _, q => by simp [PyData.eqv] at q
  | .none, .str _, _, _, q => by simp [PyData.eqv] at q
  | .none, .tuple _, _, _, q => by simp [PyData.eqv] at q
  | .int _, .none, _, _, q => by simp [PyData.eqv] at q
  | .int _, .str _, _, _, q => by simp [PyData.eqv] at q
  | .int _, .tuple _, _, _, q => by simp [PyData.eqv] at q
  | .str _, .none, _, _, q => by simp [PyData.eqv] at q
  | .str _, .int _, _, _, q => by simp [PyData.eqv] at q
  | .str _, .tuple _, _, _, q => by simp [PyData.eqv] at q
  | .tuple _, .none, _, _, q => by simp [PyData.eqv] at q
  | .tuple _, .int _, _, _, q => by simp [PyData.eqv] at q
  | .tuple _, .str _, _, _, q => by simp [PyData.eqv] at q
theorem eqvAll_fine : ∀ {xs ys : List PyData}, fineA xs = true → fineA ys = true → PyData.eqvAll xs ys = true → xs = ys
  | [], [], _, _, _ => rfl
  | x :: xs, y :: ys, h, g, q => by
    have h' := Bool.and_eq_true_iff.mp (show (fine x && fineA xs) = true from h)
    have g' := Bool.and_eq_true_iff.mp (show (fine y && fineA ys) = true from g)
    have q' := Bool.and_eq_true_iff.mp (show (PyData.eqv x y && PyData.eqvAll xs ys) = true by simpa [PyData.eqvAll] using q)
    rw [eqv_fine h'.1 g'.1 q'.1, eqvAll_fine h'.2 g'.2 q'.2]
  | [], _ :: _, _, _, q => by simp [PyData.eqvAll] at q
  | _ :: _, [], _, _, q => by simp [PyData.eqvAll] at q
end
theorem eqv_iff {d e : PyData} (h : fine d = true) (g : fine e = true) : PyData.eqv d e = true ↔ d = e := ⟨eqv_fine h g, fun q => q ▸ SeqAt.eqv_refl d (fine_lay h)⟩
theorem fineA_append : ∀ {xs ys : List PyData}, fineA (xs ++ ys) = (fineA xs && fineA ys)
  | [], _ => rfl
  | x :: xs, ys => by
    show (fine x && fineA (xs ++ ys)) = (fine x && fineA xs && fineA ys)
    rw [fineA_append, Bool.and_assoc]
theorem fineA_map {α : Type} {f : α → PyData} (h : ∀ a, fine (f a) = true) : ∀ l : List α, fineA (l.map f) = true
  | [] => rfl
  | a :: l => by
    show (fine (f a) && fineA (l.map f)) = true
    rw [h a, fineA_map h l]; rfl
theorem fineA_mapM {α : Type} {f : α → PyData} : ∀ {l : List α}, (∀ a ∈ l, fine (f a) = true) → fineA (l.map f) = true
  | [], _ => rfl
  | a :: l, h => by
    show (fine (f a) && fineA (l.map f)) = true
    rw [h a List.mem_cons_self, fineA_mapM fun b hb => h b (List.mem_cons_of_mem _ hb)]; rfl
theorem nm_ok (x : Nm) : PyData.strOk x.s = true := (Bool.and_eq_true_iff.mp x.ok).1
theorem fine_hd (h : Hd) : fine (hdD h) = true := by
  cases h with
  | u i => rfl
  | c x => exact nm_ok x
theorem fine_encA : ∀ t : T, fineA (encA t) = true
  | .lf _ => rfl
  | .ap f a => by
    show fineA (encA f ++ [.tuple [hdD a.hd, .tuple (encA a)]]) = true
    rw [fineA_append, fine_encA f]
    show (true && (fine (hdD a.hd) && (fineA (encA a) && true) && true)) = true
    rw [fine_hd, fine_encA a]; rfl
theorem fine_enc (t : T) : fine (enc t) = true := by
  show (fine (hdD t.hd) && (fineA (encA t) && true)) = true
  rw [fine_hd, fine_encA t]; rfl
theorem hdD_inj {g h : Hd} (e : hdD g = hdD h) : g = h := by
  cases g with
  | u i =>
    cases h with
    | u j => injection e with e; rw [e]
    | c y => cases e
  | c x =>
    cases h with
    | u j => cases e
    | c y => injection e with e; rw [Nm.inj e]
theorem encA_inj : ∀ {t u : T}, encA t = encA u → t.hd = u.hd → t = u
  | .lf g, .lf h, _, e => by rw [show g = h from e]
  | .lf g, .ap f a, q, _ => by
    have q : [] = encA f ++ [.tuple [hdD a.hd, .tuple (encA a)]] := q
    simp at q
  | .ap f a, .lf g, q, _ => by
    have q : encA f ++ [.tuple [hdD a.hd, .tuple (encA a)]] = [] := q
    simp at q
  | .ap f a, .ap g b, q, e => by
    have q : encA f ++ [.tuple [hdD a.hd, .tuple (encA a)]] = encA g ++ [.tuple [hdD b.hd, .tuple (encA b)]] := q
    obtain ⟨q1, q2⟩ := List.append_inj' q rfl
    have q3 : hdD a.hd = hdD b.hd ∧ encA a = encA b := by simpa using q2
    rw [encA_inj q1 e, encA_inj q3.2 (hdD_inj q3.1)]
theorem enc_inj {t u : T} (q : enc t = enc u) : t = u := by
  have q3 : hdD t.hd = hdD u.hd ∧ encA t = encA u := by
    have q : PyData.tuple [hdD t.hd, .tuple (encA t)] = PyData.tuple [hdD u.hd, .tuple (encA u)] := q
    simpa using q
  exact encA_inj q3.2 (hdD_inj q3.1)
theorem eqv_enc (t u : T) : PyData.eqv (enc t) (enc u) = decide (t = u) := by
  rw [Bool.eq_iff_iff, eqv_iff (fine_enc t) (fine_enc u), decide_eq_true_iff]
  exact ⟨enc_inj, fun e => e ▸ rfl⟩
theorem depthAll_append : ∀ {xs ys : List PyData}, PyData.depthAll (xs ++ ys) = max (PyData.depthAll xs) (PyData.depthAll ys)
  | [], ys => by simp [PyData.depthAll]
  | x :: xs, ys => by
    show max (PyData.depth x) (PyData.depthAll (xs ++ ys)) = max (max (PyData.depth x) (PyData.depthAll xs)) (PyData.depthAll ys)
    rw [depthAll_append, Nat.max_assoc]
theorem depth_hd (h : Hd) : (hdD h).depth = 0 := by cases h <;> rfl
theorem depth_encA : ∀ t : T, PyData.depthAll (encA t) + 2 ≤ 2 * t.size
  | .lf _ => Nat.le_refl _
  | .ap f a => by
    have h1 := depth_encA f
    have h2 := depth_encA a
    have h3 := f.size_pos
    show PyData.depthAll (encA f ++ [.tuple [hdD a.hd, .tuple (encA a)]]) + 2 ≤ 2 * (f.size + a.size)
    rw [depthAll_append]
    show max (PyData.depthAll (encA f)) (max (max (PyData.depth (hdD a.hd)) (max (PyData.depthAll (encA a) + 1) 0) + 1) 0) + 2 ≤ _
    rw [depth_hd]
    omega
theorem depth_enc (t : T) : (enc t).depth ≤ 2 * t.size := by
  have h := depth_encA t
  show max (PyData.depth (hdD t.hd)) (max (PyData.depthAll (encA t) + 1) 0) + 1 ≤ _
  rw [depth_hd]
  omega
/-! ### a cut of data -/
def cut {α : Type} (ds : List α) (lo hi : Option Int) : List α := (ds.drop (HT.sIx ds.length 0 lo)).take (HT.sIx ds.length ds.length hi - HT.sIx ds.length 0 lo)
theorem cut_to {α : Type} (ds : List α) (k : Nat) : cut ds none (some (k : Int)) = ds.take k := by
  unfold cut
  rw [HT.sIx_none, HT.sIx_nat, List.drop_zero, Nat.sub_zero, Nat.min_def]
  split
  · rfl
  · rw [List.take_of_length_le (Nat.le_refl _), List.take_of_length_le (show ds.length ≤ k by omega)]
theorem cut_from {α : Type} (ds : List α) (k : Nat) : cut ds (some (k : Int)) none = ds.drop k := by
  unfold cut
  rw [HT.sIx_none, HT.sIx_nat, Nat.min_def]
  split
  · rw [List.take_of_length_le (by rw [List.length_drop]; omega)]
  · rw [Nat.sub_self, List.take_zero, List.drop_eq_nil_of_le (by omega)]
theorem cut_last {α : Type} (ds : List α) : cut ds none (some (-1)) = ds.dropLast := by
  unfold cut
  have e : HT.sIx ds.length ds.length (some (-1)) = ds.length - 1 := by
    show (if (-1 : Int) < 0 then ((-1 : Int) + (ds.length : Int)).toNat else min (-1 : Int).toNat ds.length) = _
    rw [if_pos (by omega)]
    omega
  rw [HT.sIx_none, e, List.drop_zero, Nat.sub_zero, List.dropLast_eq_take]
theorem cut_map {α β : Type} (f : α → β) (ds : List α) (lo hi : Option Int) : cut (ds.map f) lo hi = (cut ds lo hi).map f := by
  unfold cut
  rw [List.length_map, List.map_take, List.map_drop]
section
variable {K : PySem.W.Frag} {H H' : Hp} {S : Addr → Prop} {a b : Addr} {v : V} {xs : List V} {d : PyData} {ds : List PyData}
theorem IsAll.cut (h : IsAll K H xs ds) (lo hi : Option Int) : IsAll K H (cutV xs lo hi) (cut ds lo hi) := by
  unfold cutV DF.cut
  rw [h.len]
  exact (h.drop _).take _
theorem IsAll.atI (h : IsAll K H xs ds) {i : Int} (e : L2.atI ds i = some d) : ∃ x, L2.atI xs i = some x ∧ Is K H x d := by
  unfold L2.atI at e ⊢
  rw [h.len]
  cases q : ixN ds.length i with
  | none => rw [q] at e; cases e
  | some j =>
    rw [q] at e
    obtain ⟨x, h1, h2⟩ := h.at (show ds[j]? = some d from e)
    exact ⟨x, h1, h2⟩
theorem Tm.is {t : T} (h : Tm K H v t) : Is K H v (.tuple [hdD t.hd, .tuple (t.args.map enc)]) := enc_eq t ▸ h
theorem Tm.of {t : T} (h : Is K H v (.tuple [hdD t.hd, .tuple (t.args.map enc)])) : Tm K H v t := by rw [Tm, enc_eq]; exact h
theorem Tm.ofMk {h : Hd} {as : List T} (q : Is K H v (.tuple [hdD h, .tuple (as.map enc)])) : Tm K H v ((T.lf h).aps as) := by rw [Tm, enc_mk]; exact q
theorem flat_int {is : List Int} : (is.map V.int).all flatV = true := by rw [List.all_eq_true]; intro x hx; obtain ⟨i, _, rfl⟩ := List.mem_map.mp hx; rfl
theorem inV_ints {i : Int} {is : List Int} : inV (.int i) (is.map V.int) = decide (i ∈ is) := by
  unfold inV
  rw [List.any_map, Bool.eq_iff_iff, List.any_eq_true, decide_eq_true_iff]
  constructor
  · rintro ⟨j, hj, e⟩
    have e : (j == i) = true := e
    exact eq_of_beq e ▸ hj
  · intro h; exact ⟨i, h, show (i == i) = true from beq_self_eq_true i⟩
theorem inV_strs {x : Str} {l : List Str} : inV (.str x) (l.map V.str) = decide (x ∈ l) := by
  unfold inV
  rw [List.any_map, Bool.eq_iff_iff, List.any_eq_true, decide_eq_true_iff]
  constructor
  · rintro ⟨j, hj, e⟩
    have e : (j == x) = true := e
    exact eq_of_beq e ▸ hj
  · intro h; exact ⟨x, h, show (x == x) = true from beq_self_eq_true x⟩
theorem flat_str {l : List Str} : (l.map V.str).all flatV = true := by rw [List.all_eq_true]; intro x hx; obtain ⟨i, _, rfl⟩ := List.mem_map.mp hx; rfl
theorem isAll_intsV {H : Hp} : ∀ {is : List Int} {xs : List V}, IsAll K H xs (is.map PyData.int) → xs = is.map V.int
  | [], _, .nil => rfl
  | i :: is, _, .cons (.int _) t => by rw [isAll_intsV t]; rfl
theorem isAll_strsV {H : Hp} : ∀ {l : List Str} {xs : List V}, IsAll K H xs (l.map PyData.str) → xs = l.map V.str
  | [], _, .nil => rfl
  | i :: is, _, .cons (.str _) t => by rw [isAll_strsV t]; rfl
theorem Is.intE {i : Int} (h : Is K H v (.int i)) : v = .int i := by cases h; rfl
theorem Is.strE {x : Str} (h : Is K H v (.str x)) : v = .str x := by cases h; rfl
theorem Is.nonE (h : Is K H v .none) : v = .non := by cases h; rfl
end
/-! ### the rules -/
section
variable {X : Cx}
/-- t[i] of data -/
def rD (K : PySem.W.Frag) : R2 := fun x y H Q => ∃ ds i d, y = .int i ∧ Is K H x (.tuple ds) ∧ L2.atI ds i = some d ∧ ∀ w, Is K H w d → Q w H
theorem ix_d : IxR X (rD X.K) := by
  intro value slice pins s σ H x y v u Q I rx ry h hs
  obtain ⟨ds, i, d, rfl, hx, e, q⟩ := h
  obtain ⟨a, xs, rfl, ht, ha⟩ := hx.tupE
  obtain ⟨w, h1, h2⟩ := ha.atI e
  exact ix_tup value slice pins s σ H _ _ v u Q I rx ry ⟨a, xs, i, w, rfl, rfl, ht.sq, h1, q w h2⟩ hs
/-- t[0] of a term -/
def rT0 (K : PySem.W.Frag) : R2 := fun x y H Q => ∃ t, y = .int 0 ∧ Tm K H x t ∧ Q (hdV t.hd) H
theorem ix_t0 : IxR X (rT0 X.K) := by
  intro value slice pins s σ H x y v u Q I rx ry h hs
  obtain ⟨t, rfl, hx, q⟩ := h
  exact ix_d value slice pins s σ H _ _ v u Q I rx ry ⟨_, 0, _, rfl, hx.is, rfl, fun w hw => is_hd_inv hw ▸ q⟩ hs
/-- t[1] of a term -/
def rT1 (K : PySem.W.Frag) : R2 := fun x y H Q => ∃ t, y = .int 1 ∧ Tm K H x t ∧ ∀ w, Tms K H w t.args → Q w H
theorem ix_t1 : IxR X (rT1 X.K) := by
  intro value slice pins s σ H x y v u Q I rx ry h hs
  obtain ⟨t, rfl, hx, q⟩ := h
  exact ix_d value slice pins s σ H _ _ v u Q I rx ry ⟨_, 1, _, rfl, hx.is, rfl, q⟩ hs
/-- one of the terms of a tuple -/
def rTi (K : PySem.W.Frag) : R2 := fun x y H Q => ∃ ts i t, y = .int i ∧ Tms K H x ts ∧ L2.atI ts i = some t ∧ ∀ w, Tm K H w t → Q w H
theorem atI_map {α β : Type} (f : α → β) (l : List α) (i : Int) : L2.atI (l.map f) i = (L2.atI l i).map f := by
  unfold L2.atI
  rw [List.length_map]
  cases ixN l.length i with
  | none => rfl
  | some j => exact List.getElem?_map
theorem ix_ti : IxR X (rTi X.K) := by
  intro value slice pins s σ H x y v u Q I rx ry h hs
  obtain ⟨ts, i, t, rfl, hx, e, q⟩ := h
  exact ix_d value slice pins s σ H _ _ v u Q I rx ry ⟨_, i, _, rfl, hx, by rw [atI_map, e]; rfl, q⟩ hs
/-- t + u -/
def rCatD (K : PySem.W.Frag) : R2 := fun x y H Q => ∃ ds es, Is K H x (.tuple ds) ∧ Is K H y (.tuple es) ∧ ds.length + es.length ≤ 16000000 ∧ ∀ w H', Fr No H H' → Is K H' w (.tuple (ds ++ es)) → Q w H'
theorem op_catD : OpR X (binaryOp .Add) (rCatD X.K) := by
  intro pins s σ H x y v u Q I rx ry h
  obtain ⟨ds, es, hx, hy, hz, q⟩ := h
  obtain ⟨a, xs, rfl, ta, ia⟩ := hx.tupE
  obtain ⟨b, ys, rfl, tb, ib⟩ := hy.tupE
  refine op_catA pins s σ H _ _ v u Q I rx ry ⟨a, b, xs, ys, rfl, rfl, ta.sq, tb.sq, le_line (by rw [ia.len, ib.len]; exact hz), fun e => ?_, fun _ e => ?_, fun _ _ p hp => ?_⟩
  · subst e
    cases ia
    exact q _ _ .refl hy
  · subst e
    cases ib
    rw [List.append_nil] at q
    exact q _ _ .refl hx
  · exact q _ _ (Fr.new0 hp) (.tup (.of upd_same) ((ia.fr (Fr.new0 (S := No) hp)).append (ib.fr (Fr.new0 (S := No) hp))))
/-- t[lo:hi] -/
def rSlD (K : PySem.W.Frag) : V → Option Int → Option Int → Hp → VK → Prop := fun x lo hi H Q => ∃ ds, Is K H x (.tuple ds) ∧ ∀ w H', Fr No H H' → Is K H' w (.tuple (cut ds lo hi)) → Q w H'
theorem sl_d : SlR X (rSlD X.K) := by
  intro pins s σ H x v vl vu lo hi sl Q I rx hs pl pu h
  obtain ⟨ds, hx, q⟩ := h
  obtain ⟨a, xs, rfl, ta, ia⟩ := hx.tupE
  have hl := ia.len
  refine sl_tupA pins s σ H _ v vl vu lo hi sl Q I rx hs pl pu ⟨a, xs, rfl, ta.sq, fun e => ?_, fun _ p hp => ?_⟩
  · refine q _ _ .refl ?_
    have : cut ds lo hi = ds := by
      unfold cut
      rw [← hl, e.1, e.2, List.drop_zero, Nat.sub_zero, hl, List.take_of_length_le (Nat.le_refl _)]
    rw [this]
    exact hx
  · exact q _ _ (Fr.new0 hp) (.tup (.of upd_same) ((ia.cut lo hi).fr (Fr.new0 (S := No) hp)))
/-- (a, b, ..) of data -/
def tTupD (K : PySem.W.Frag) (t : TA) : TE := fun σ H Q => t σ H fun xs H1 => ∃ ds, IsAll K H1 xs ds ∧ ds.length ≤ 16000000 ∧ ∀ w H', Fr No H1 H' → Is K H' w (.tuple ds) → Q w H'
theorem pe_tupD {es : List Expr} {t : TA} {pos : Pos} {x1} (h : PA X es t) : PE X (.Tuple es x1 pos) (tTupD X.K t) := by
  refine ⟨fun pins s σ H Q I hq => ?_⟩
  refine wpAny_Tuple_spliced (thn (h.run pos pins s σ H _ I hq) fun us s1 ⟨xs, H1, I1, r, ds, ia, z, q⟩ => ⟨by rw [← r.length, ia.len]; exact le_line z, ?_⟩)
  have hf : H1 s1.heap.objs.size = none := I1.hok.fresh (Nat.le_refl _)
  have zl : xs.length ≤ sizeLine := by rw [ia.len]; exact le_line z
  exact ⟨.ref s1.heap.objs.size, _, I1.laid (t' := s1.toks) (o := .tup xs) (fun b u e => Heap.get?_push_of_some _ e) (Nat.le_refl _) ⟨zl, us, r, _, Heap.get?_push_size s1.heap (o := { cls := .type "tuple", data := .seq us.toArray }) rfl, rfl, _, rfl⟩, rfl,
    q _ _ (Fr.new0 hf) (.tup (.of upd_same) (ia.fr (Fr.new0 (S := No) hf)))⟩
/-- x == y -/
def rEqD (n : Nat) (K : PySem.W.Frag) : R2 := fun x y H Q => ∃ d e, Is K H x d ∧ Is K H y e ∧ fine d = true ∧ fine e = true ∧ min d.depth e.depth ≤ n ∧ Q (.bl (PyData.eqv d e)) H
theorem op_eqD {n k : Nat} (hr : Room k X.A) (hn : n ≤ 200 + 16 * k := by omega) : OpR X (compareOp .Eq) (rEqD n X.K) := by
  intro pins s σ H x y v u Q I rx ry h
  obtain ⟨d, e, hd, he, sd, se, hm, q⟩ := h
  refine op_eqG (n := n) (by have := hr.un; omega) pins s σ H x y v u Q I rx ry ⟨d, e, hd.dp, he.dp, fine_lay sd, fine_lay se, hm, q⟩
def rNeD (n : Nat) (K : PySem.W.Frag) : R2 := fun x y H Q => ∃ d e, Is K H x d ∧ Is K H y e ∧ fine d = true ∧ fine e = true ∧ min d.depth e.depth ≤ n ∧ Q (.bl (!PyData.eqv d e)) H
theorem op_neD {n k : Nat} (hr : Room k X.A) (hn : n ≤ 200 + 16 * k := by omega) : OpR X (compareOp .NotEq) (rNeD n X.K) := by
  intro pins s σ H x y v u Q I rx ry h
  obtain ⟨d, e, hd, he, sd, se, hm, q⟩ := h
  refine op_neG (n := n) (by have := hr.un; omega) pins s σ H x y v u Q I rx ry ⟨d, e, hd.dp, he.dp, fine_lay sd, fine_lay se, hm, q⟩
/-- i in / not in a tuple or list of ints -/
def InI (K : PySem.W.Frag) (H : Hp) (y : V) (is : List Int) : Prop := Is K H y (.tuple (is.map PyData.int)) ∨ ∃ p, y = .ref p ∧ H p = some (.lst (is.map V.int))
def rInI (K : PySem.W.Frag) (neg : Bool) : R2 := fun x y H Q => ∃ i is, x = .int i ∧ InI K H y is ∧ Q (.bl (if neg then !decide (i ∈ is) else decide (i ∈ is))) H
theorem rInI_seq {neg : Bool} {x y : V} {H : Hp} {Q : VK} (h : rInI X.K neg x y H Q) : rIn X.K neg x y H Q := by
  obtain ⟨i, is, rfl, hy, q⟩ := h
  rcases hy with hy | ⟨p, rfl, hp⟩
  · obtain ⟨a, xs, rfl, ta, ia⟩ := hy.tupE
    rw [isAll_intsV ia] at ta
    exact ⟨a, _, rfl, .inr ta.sq, rfl, flat_int, by rw [inV_ints]; exact q⟩
  · exact ⟨p, _, rfl, .inl (SqL.of hp), rfl, flat_int, by rw [inV_ints]; exact q⟩
theorem op_inI : OpR X (compareOp .In) (rInI X.K false) := fun pins s σ H x y v u Q I rx ry h => op_in_seq pins s σ H x y v u Q I rx ry (rInI_seq h)
theorem op_ninI : OpR X (compareOp .NotIn) (rInI X.K true) := fun pins s σ H x y v u Q I rx ry h => op_notIn_seq pins s σ H x y v u Q I rx ry (rInI_seq h)
/-- a text in a tuple of texts -/
def rInS (K : PySem.W.Frag) (neg : Bool) : R2 := fun x y H Q => ∃ (z : Str) (l : List Str), x = .str z ∧ Is K H y (.tuple (l.map PyData.str)) ∧ Q (.bl (if neg then !decide (z ∈ l) else decide (z ∈ l))) H
theorem rInS_seq {neg : Bool} {x y : V} {H : Hp} {Q : VK} (h : rInS X.K neg x y H Q) : rIn X.K neg x y H Q := by
  obtain ⟨z, l, rfl, hy, q⟩ := h
  obtain ⟨a, xs, rfl, ta, ia⟩ := hy.tupE
  rw [isAll_strsV ia] at ta
  exact ⟨a, _, rfl, .inr ta.sq, rfl, flat_str, by rw [inV_strs]; exact q⟩
theorem op_inS : OpR X (compareOp .In) (rInS X.K false) := fun pins s σ H x y v u Q I rx ry h => op_in_seq pins s σ H x y v u Q I rx ry (rInS_seq h)
theorem op_ninS : OpR X (compareOp .NotIn) (rInS X.K true) := fun pins s σ H x y v u Q I rx ry h => op_notIn_seq pins s σ H x y v u Q I rx ry (rInS_seq h)
/-- if t: of a tuple -/
def tTru (K : PySem.W.Frag) (te : TE) : TT := fun σ H Q => te σ H fun x H1 => ∃ ds, Is K H1 x (.tuple ds) ∧ Q (!ds.isEmpty) H1
theorem TruV.tupD {K : PySem.W.Frag} {H : Hp} {x : V} {ds : List PyData} (h : Is K H x (.tuple ds)) : TruV K x H (!ds.isEmpty) := by
  obtain ⟨a, xs, rfl, ta, ia⟩ := h.tupE
  have e : ds.isEmpty = xs.isEmpty := by
    have := ia.len
    cases ds <;> cases xs <;> simp_all
  rw [e]
  exact .inr (.inl ⟨xs, ta.sq, rfl⟩)
theorem pt_tru {e : Expr} {te : TE} (he : PE X e te) (ht : ∀ whole, isTrue e X.env whole = (do let v ← whole; standAt e.pos; holding [v] (truthy v)) := by intro _; rfl) : PT X e (tTru X.K te) := by
  refine ⟨fun pins s σ H Q I h => ?_⟩
  refine isTrue_plain (thn (he.run pins s σ H _ I h) fun v s1 ⟨x, H1, I1, r1, ds, hx, q⟩ => tru_ok pins s1 σ H1 x v Q I1 r1 ⟨_, TruV.tupD hx, q⟩) (ht _)
/-- len(t) of a tuple -/
theorem call_lenD : CallR X (.builtin "len") (fun xs H Q => ∃ x ds, xs = [x] ∧ Is X.K H x (.tuple ds) ∧ Q (.int ds.length) H) := by
  intro pins s σ H xs us Q I r h
  obtain ⟨x, ds, rfl, hx, q⟩ := h
  obtain ⟨a, ys, rfl, ta, ia⟩ := hx.tupE
  exact call_len_seq pins s σ H _ us Q I r ⟨a, ys, rfl, .inr ta.sq, by rw [ia.len]; exact q⟩
theorem k_lenD {e : Expr} {te : TE} {p1 pos : Pos} (h1 : X.mg "len" = none) (he : PE X e te) (g1 : Gl X "len" := by rfl)
    (st : starEach (e :: []) X.env = (false, eval e X.env) :: starEach [] X.env := by rfl) (hpl : (backTo pos (starEach [] X.env)).any (·.1) = false := by rfl) :
    PE X (.Call (.Name "len" p1) [e] [] pos) (tCB (fun xs H Q => ∃ x ds, xs = [x] ∧ Is X.K H x (.tuple ds) ∧ Q (.int ds.length) H) (tCons te tNil)) :=
  pe_callB call_lenD g1 h1 PySem.boot_len (pa_cons he pa_nil (hs := st)) (he := st) (hpl := hpl)
/-- tuple(l), l a list of data -/
theorem call_tupD : CallR X (.type "tuple") (fun xs H Q => ∃ p ys ds, xs = [.ref p] ∧ H p = some (.lst ys) ∧ IsAll X.K H ys ds ∧ ∀ w H', Fr No H H' → Is X.K H' w (.tuple ds) → Q w H') := by
  intro pins s σ H xs us Q I r h
  obtain ⟨p, ys, ds, rfl, hp, ia, q⟩ := h
  exact call_tuple_of pins s σ H _ us Q I r ⟨p, ys, rfl, .inl ⟨SqL.of hp, fun a ha => q _ _ (Fr.new0 ha) (.tup (.of upd_same) (ia.fr (Fr.new0 (S := No) ha)))⟩⟩
end
/-! ### walks over data -/
/-- J gives ds, turn by turn, while all of H1 outside S is as it was -/
abbrev DW (K : PySem.W.Frag) (S : Addr → Prop) (J : It) (H1 : Hp) (ds : List PyData) : Prop :=
  L2.Walk J ds.length (fun H => Fr S H1 H) fun i H x H' => Fr No H H' ∧ ∃ d, ds[i]? = some d ∧ Is K H' x d
section
variable {K : PySem.W.Frag} {S : Addr → Prop} {H H1 : Hp} {a b D : Addr} {xs ys : List V} {ds es : List PyData} {J : It}
theorem dwT (h : Tp K H1 a xs) (hi : IsAll K H1 xs ds) : DW K S (Itt K a) H1 ds := by
  have w := walk_tup (K := K) (a := a) (xs := xs)
  rw [hi.len] at w
  refine w.mono (fun H f => (h.fr f).sq) fun i H x H' _ f y => ?_
  obtain ⟨rfl, e⟩ := y
  exact ⟨.refl, (hi.fr f).get e⟩
theorem dwL (h : H1 a = some (.lst xs)) (hi : IsAll K H1 xs ds) (n : ¬ S a) : DW K S (Itl K a) H1 ds := by
  have w := walk_list (K := K) (a := a) (xs := xs)
  rw [hi.len] at w
  refine w.mono (fun H f => SqL.of (f.k _ _ n h)) fun i H x H' _ f y => ?_
  obtain ⟨rfl, e⟩ := y
  exact ⟨.refl, (hi.fr f).get e⟩
theorem dwR {lo : Int} {n : Nat} : DW K S (Itr lo n) H1 ((List.range n).map fun (i : Nat) => .int (lo + i)) := by
  have w := walk_range (lo := lo) (n := n)
  refine ⟨fun i H hi f => w.goes i H (by simpa using hi) True.intro, fun H f => ?_, fun i H x H' hi f y => ?_⟩
  · have := w.stops H True.intro
    simpa using this
  · have hi' : i < n := by simpa using hi
    obtain ⟨rfl, rfl⟩ := w.yields i H x H' hi' True.intro y
    exact ⟨.refl, _, by simp [hi'], .int _⟩
/-- [f(x) for x in .. if ..] of data, the block pure -/
theorem lcD {α : Type} {l : List α} {en : α → PyData} {f : α → Option PyData} {g : TG} {tt : TT} {te : TE} {vs : List Nat} {σ : St} {Qd : Hp → Prop} (w : DW K No J H1 (l.map en)) (hD : H1 D = none) (hn : l.length ≤ 15000000)
    (hs : ∀ (a : α) (x : V) (H : Hp) (yes : V → Hp → Prop) (no : Hp → Prop), a ∈ l → Fr No H1 H → Is K H x (en a) → (∀ y H' e, Fr No H H' → Is K H' y e → f a = some e → yes y H') → (∀ H', Fr No H H' → f a = none → no H') →
      g x (wipe σ vs) H fun σ2 H2 => wipe σ2 vs = wipe σ vs ∧ tt σ2 H2 fun b H3 => if b = true then te σ2 H3 yes else no H3)
    (hd : ∀ H ys, Fr No H1 H → H D = some (.lst ys) → IsAll K H ys (l.filterMap f) → Qd H) :
    ∃ W : Nat → Nat → Hp → Prop, (∃ m, W 0 m (upd H1 D (.lst []))) ∧ ∀ i m H, W i m H →
      (J.stop i H ∧ Qd H) ∨ (J.go i H ∧ ∃ Nx : Hp → Prop, (∀ H', Nx H' → ∃ m', m' < m ∧ W (i + 1) m' H') ∧ ∀ x H', J.yld i H x H' → g x (wipe σ vs) H' fun σ2 H2 => wipe σ2 vs = wipe σ vs ∧ tt σ2 H2 fun b H3 =>
        if b = true then te σ2 H3 fun y H4 => ∃ acc, H4 D = some (.lst acc) ∧ acc.length < sizeLine ∧ Nx (upd H4 D (.lst (acc ++ [y]))) else Nx H3) := by
  refine lc_it w (fun i H => Fr No H1 H ∧ ∃ ys, H D = some (.lst ys) ∧ IsAll K H ys ((l.take i).filterMap f)) ⟨Fr.new0 hD, [], upd_same, .nil⟩ (fun i H _ z => z.1) (fun i x H H' hi z y => ?_) fun H z => ?_
  · obtain ⟨z1, ys, z2, z3⟩ := z
    obtain ⟨f1, d, hd1, hx⟩ := y
    rw [List.getElem?_map] at hd1
    cases e : l[i]? with
    | none => rw [e] at hd1; cases hd1
    | some a =>
      rw [e] at hd1
      cases hd1
      refine hs a x H' _ _ (List.mem_of_getElem? e) (z1.trans f1) hx (fun y H4 e4 f4 hy fe => ?_) fun H3 f3 fe => ?_
      · have hD4 : H4 D = some (.lst ys) := f4.kn (f1.kn z2)
        have ia := (z3.fr f1).fr f4
        refine ⟨ys, hD4, ?_, (((z1.trans f1).trans f4).new hD), ys ++ [y], upd_same, ?_⟩
        · refine lt_line ?_
          rw [ia.len]
          have h1 := List.length_filterMap_le f (l.take i)
          have h2 := List.length_take_le' i l
          omega
        · rw [take_snoc e, List.filterMap_append, List.filterMap_cons, fe]
          have g4 : Fr (At D) H4 (upd H4 D (.lst (ys ++ [y]))) := Fr.refl.mut rfl hD4 fun z => z
          exact ((ia.fr g4).snoc (hy.fr g4))
      · refine ⟨(z1.trans f1).trans f3, ys, f3.kn (f1.kn z2), ?_⟩
        rw [take_snoc e, List.filterMap_append, List.filterMap_cons, fe, List.filterMap_nil, List.append_nil]
        exact (z3.fr f1).fr f3
  · obtain ⟨z1, ys, z2, z3⟩ := z
    rw [List.length_map, List.take_length] at z3
    exact hd H ys z1 z2 z3
end
end DF

/-! calls of built-ins, shortly; tables in dicts -/
namespace DF
open PySem PySem.Spec PyProof.Rows L2
theorem fm_some {α β : Type} (f : α → β) : ∀ l : List α, l.filterMap (fun a => some (f a)) = l.map f
  | [] => rfl
  | a :: l => by rw [List.filterMap_cons, List.map_cons, fm_some f l]
theorem hu1 {k : Nat} {A : Around} (hr : Room k A) : A.units + 1 < cLine := by have := hr.un; omega
theorem hu3 {k : Nat} {A : Around} (hr : Room k A) : A.units + 1 + 150 < cLine := by have := hr.un; omega
section
variable {X : Cx} {e : Expr} {te : TE} {p1 p2 pos : Pos}
theorem pe_mint {x : Str} (n : Int) {p : Pos} (hg : Gl X x) (hm : ∃ t, X.mg x = some (.int n t)) (hd : (x == ("__debug__" : Str)) = false := by decide) : PE X (.Name x p) (tC (.int n)) :=
  ⟨fun _ _ _ H _ I h => let ⟨t, e⟩ := hm; ld_glob I hg e ⟨.int n, H, I, ⟨t, rfl⟩, h⟩ hd⟩
def tLenL (K : PySem.W.Frag) (te : TE) : TE := tCB (fun xs H Q => ∃ p ys, xs = [.ref p] ∧ (SqL K H p ys ∨ SqT K H p ys) ∧ Q (.int ys.length) H) (tCons te tNil)
def tLenT (K : PySem.W.Frag) (te : TE) : TE := tCB (fun xs H Q => ∃ x ds, xs = [x] ∧ Is K H x (.tuple ds) ∧ Q (.int ds.length) H) (tCons te tNil)
def tTupL (K : PySem.W.Frag) (te : TE) : TE := tCB (fun xs H Q => ∃ p ys ds, xs = [.ref p] ∧ H p = some (.lst ys) ∧ IsAll K H ys ds ∧ ∀ w H', Fr No H H' → Is K H' w (.tuple ds) → Q w H') (tCons te tNil)
def tTupF0 (K : PySem.W.Frag) (te : TE) : TE := tCB (fun xs H Q => ∃ p ys, xs = [.ref p] ∧ SqL K H p ys ∧ newT H ys Q) (tCons te tNil)
def tDictT (K : PySem.W.Frag) (te : TE) : TE := tCB (rDictT K) (tCons te tNil)
variable (he : PE X e te) (st : starEach (e :: []) X.env = (false, eval e X.env) :: starEach [] X.env := by rfl) (hpl : (backTo pos (starEach [] X.env)).any (·.1) = false := by rfl)
theorem k_lenL (h1 : X.mg "len" = none) (he : PE X e te) (g1 : Gl X "len" := by rfl) (st : starEach (e :: []) X.env = (false, eval e X.env) :: starEach [] X.env := by rfl) (hpl : (backTo pos (starEach [] X.env)).any (·.1) = false := by rfl) :
    PE X (.Call (.Name "len" p1) [e] [] pos) (tLenL X.K te) := pe_callB call_len_seq g1 h1 PySem.boot_len (pa_cons he pa_nil (hs := st)) (he := st) (hpl := hpl)
theorem k_lenT (h1 : X.mg "len" = none) (he : PE X e te) (g1 : Gl X "len" := by rfl) (st : starEach (e :: []) X.env = (false, eval e X.env) :: starEach [] X.env := by rfl) (hpl : (backTo pos (starEach [] X.env)).any (·.1) = false := by rfl) :
    PE X (.Call (.Name "len" p1) [e] [] pos) (tLenT X.K te) := pe_callB call_lenD g1 h1 PySem.boot_len (pa_cons he pa_nil (hs := st)) (he := st) (hpl := hpl)
theorem k_tup (h1 : X.mg "tuple" = none) (he : PE X e te) (g1 : Gl X "tuple" := by rfl) (st : starEach (e :: []) X.env = (false, eval e X.env) :: starEach [] X.env := by rfl) (hpl : (backTo pos (starEach [] X.env)).any (·.1) = false := by rfl) :
    PE X (.Call (.Name "tuple" p1) [e] [] pos) (tTupL X.K te) := pe_callTy call_tupD g1 h1 (by decide +kernel) (pa_cons he pa_nil (hs := st)) (he := st) (hpl := hpl)
theorem k_tupF (h1 : X.mg "tuple" = none) (he : PE X e te) (g1 : Gl X "tuple" := by rfl) (st : starEach (e :: []) X.env = (false, eval e X.env) :: starEach [] X.env := by rfl) (hpl : (backTo pos (starEach [] X.env)).any (·.1) = false := by rfl) :
    PE X (.Call (.Name "tuple" p1) [e] [] pos) (tTupF0 X.K te) := pe_callTy call_tupleF g1 h1 (by decide +kernel) (pa_cons he pa_nil (hs := st)) (he := st) (hpl := hpl)
theorem k_dict (h1 : X.mg "dict" = none) (he : PE X e te) (hc : X.calm = true := by rfl) (g1 : Gl X "dict" := by rfl) (st : starEach (e :: []) X.env = (false, eval e X.env) :: starEach [] X.env := by rfl) (hpl : (backTo pos (starEach [] X.env)).any (·.1) = false := by rfl) :
    PE X (.Call (.Name "dict" p1) [e] [] pos) (tDictT X.K te) := pe_callTy (cr_dictT hc) g1 h1 (by decide +kernel) (pa_cons he pa_nil (hs := st)) (he := st) (hpl := hpl)
theorem k_all (h1 : X.mg "all" = none) (he : PE X e te) (hc : X.calm = true := by rfl) (g1 : Gl X "all" := by rfl) (st : starEach (e :: []) X.env = (false, eval e X.env) :: starEach [] X.env := by rfl) (hpl : (backTo pos (starEach [] X.env)).any (·.1) = false := by rfl) :
    PE X (.Call (.Name "all" p1) [e] [] pos) (tCB (rAll X.K) (tCons te tNil)) := pe_callB (cr_all hc) g1 h1 (by decide +kernel) (pa_cons he pa_nil (hs := st)) (he := st) (hpl := hpl)
theorem k_any (h1 : X.mg "any" = none) (he : PE X e te) (hc : X.calm = true := by rfl) (g1 : Gl X "any" := by rfl) (st : starEach (e :: []) X.env = (false, eval e X.env) :: starEach [] X.env := by rfl) (hpl : (backTo pos (starEach [] X.env)).any (·.1) = false := by rfl) :
    PE X (.Call (.Name "any" p1) [e] [] pos) (tCB (rAny X.K) (tCons te tNil)) := pe_callB (cr_any hc) g1 h1 (by decide +kernel) (pa_cons he pa_nil (hs := st)) (he := st) (hpl := hpl)
theorem k_sum (h1 : X.mg "sum" = none) (he : PE X e te) (hc : X.calm = true := by rfl) (g1 : Gl X "sum" := by rfl) (st : starEach (e :: []) X.env = (false, eval e X.env) :: starEach [] X.env := by rfl) (hpl : (backTo pos (starEach [] X.env)).any (·.1) = false := by rfl) :
    PE X (.Call (.Name "sum" p1) [e] [] pos) (tCB (rSum X.K) (tCons te tNil)) := pe_callB (cr_sum hc) g1 h1 (by decide +kernel) (pa_cons he pa_nil (hs := st)) (he := st) (hpl := hpl)
theorem k_max (h1 : X.mg "max" = none) (he : PE X e te) (hc : X.calm = true := by rfl) (g1 : Gl X "max" := by rfl) (st : starEach (e :: []) X.env = (false, eval e X.env) :: starEach [] X.env := by rfl) (hpl : (backTo pos (starEach [] X.env)).any (·.1) = false := by rfl) :
    PE X (.Call (.Name "max" p1) [e] [] pos) (tCB (rMax X.K) (tCons te tNil)) := pe_callB (cr_max hc) g1 h1 (by decide +kernel) (pa_cons he pa_nil (hs := st)) (he := st) (hpl := hpl)
def tTruL (K : PySem.W.Frag) (te : TE) : TT := fun σ H Q => te σ H fun x H1 => ∃ p ys, x = .ref p ∧ SqL K H1 p ys ∧ Q (!ys.isEmpty) H1
theorem pt_truL (he : PE X e te) (ht : ∀ whole, isTrue e X.env whole = (do let v ← whole; standAt e.pos; holding [v] (truthy v)) := by intro _; rfl) : PT X e (tTruL X.K te) := by
  refine ⟨fun pins s σ H Q I h => ?_⟩
  refine isTrue_plain (thn (he.run pins s σ H _ I h) fun v s1 ⟨x, H1, I1, r1, p, ys, ex, hx, q⟩ => ?_) (ht _)
  subst ex
  exact tru_ok pins s1 σ H1 _ v Q I1 r1 ⟨_, .inl ⟨ys, hx, rfl⟩, q⟩
end
theorem yesT {σ : St} {H : Hp} {A B : Hp → Prop} (h : A H) : tYes σ H (fun b H3 => if b = true then A H3 else B H3) := h
theorem nextE {D : Ends} {σ : St} {H : Hp} (h : D.nx σ H) : tNext D σ H := h
theorem andE {t1 t2 : TT} {σ : St} {H : Hp} {c1 c2 : Bool} {k : Bool → Hp → Prop} (h1 : ∀ Q : Bool → Hp → Prop, Q c1 H → t1 σ H Q) (h2 : c1 = true → ∀ Q : Bool → Hp → Prop, Q c2 H → t2 σ H Q) (q : k (c1 && c2) H) : tAnd t1 t2 σ H k := by
  refine h1 _ ?_
  cases c1 with
  | true => exact h2 rfl _ q
  | false => exact q
theorem orE {t1 t2 : TT} {σ : St} {H : Hp} {c1 c2 : Bool} {k : Bool → Hp → Prop} (h1 : ∀ Q : Bool → Hp → Prop, Q c1 H → t1 σ H Q) (h2 : c1 = false → ∀ Q : Bool → Hp → Prop, Q c2 H → t2 σ H Q) (q : k (c1 || c2) H) : tOr t1 t2 σ H k := by
  refine h1 _ ?_
  cases c1 with
  | false => exact h2 rfl _ q
  | true => exact q
theorem tru1 {K : PySem.W.Frag} {σ : St} {H : Hp} {i : Nat} {v : V} {t : T} {Q : Bool → Hp → Prop} (ht : Tm K H v t) (e : σ[i]? = some (some v)) (q : Q (!t.args.isEmpty) H) : tTru K (tOp (rD K) (tVar i) (tC (.int 1))) σ H Q := by
  refine ⟨v, e, _, 1, _, rfl, ht.is, rfl, fun x hx => ⟨_, hx, ?_⟩⟩
  rw [List.isEmpty_map]
  exact q
theorem isi0 {K : PySem.W.Frag} {σ : St} {H : Hp} {i : Nat} {v : V} {t : T} {Q : VK} (ht : Tm K H v t) (e : σ[i]? = some (some v)) (q : Q (.bl (isC t.hd)) H) : tIsi K (tOp (rD K) (tVar i) (tC (.int 0))) σ H Q := by
  refine ⟨v, e, _, 0, _, rfl, ht.is, rfl, fun x hx => ?_⟩
  obtain rfl := is_hd_inv hx
  exact isiE _ q
theorem isi0B {K : PySem.W.Frag} {σ : St} {H : Hp} {i : Nat} {v : V} {t : T} {Q : Bool → Hp → Prop} (ht : Tm K H v t) (e : σ[i]? = some (some v)) (q : Q (isC t.hd) H) : tB (tIsi K (tOp (rD K) (tVar i) (tC (.int 0)))) σ H Q := isi0 ht e ⟨_, rfl, q⟩
/-! ### a table in a dict -/
inductive DTab (K : PySem.W.Frag) (H : Hp) : List (Key × V) → Tab → Prop
  | nil : DTab K H [] []
  | cons {v : V} {t : T} {i : Int} {kvs : List (Key × V)} {θ : Tab} : Tm K H v t → DTab K H kvs θ → DTab K H ((.inl i, v) :: kvs) ((i, t) :: θ)
section
variable {K : PySem.W.Frag} {H H' : Hp} {S : Addr → Prop} {a b : Addr} {v : V} {t : T} {i : Int}
theorem DTab.fr (f : Fr S H H') : ∀ {kvs : List (Key × V)} {θ : Tab}, DTab K H kvs θ → DTab K H' kvs θ
  | _, _, .nil => .nil
  | _, _, .cons h t => .cons (h.fr f) (t.fr f)
theorem DTab.len : ∀ {kvs : List (Key × V)} {θ : Tab}, DTab K H kvs θ → kvs.length = θ.length
  | _, _, .nil => rfl
  | _, _, .cons _ t => by rw [List.length_cons, List.length_cons, t.len]
theorem valV_cons {kvs : List (Key × V)} {k k' : Key} : valV ((k', v) :: kvs) k = if k' = k then some v else valV kvs k := by
  unfold valV
  rw [List.find?_cons]
  by_cases h : k' = k
  · simp [h]
  · simp [h]
theorem look_cons {θ : Tab} {j : Int} : look ((j, t) :: θ) i = if j = i then some t else look θ i := by
  unfold look
  rw [List.find?_cons]
  by_cases h : j = i
  · simp [h]
  · simp [h]
theorem DTab.str {s : Str} : ∀ {kvs : List (Key × V)} {θ : Tab}, DTab K H kvs θ → valV kvs (.inr s) = none
  | _, _, .nil => rfl
  | _, _, .cons _ t => by rw [valV_cons, if_neg (by intro z; cases z), t.str]
theorem DTab.get : ∀ {kvs : List (Key × V)} {θ : Tab}, DTab K H kvs θ → (look θ i = none ∧ valV kvs (.inl i) = none) ∨ ∃ t v, look θ i = some t ∧ valV kvs (.inl i) = some v ∧ Tm K H v t
  | _, _, .nil => .inl ⟨rfl, rfl⟩
  | _, _, .cons (v := v) (t := t) (i := j) h r => by
    rw [valV_cons, look_cons]
    by_cases e : j = i
    · subst e
      rw [if_pos rfl, if_pos rfl]
      exact .inr ⟨t, v, rfl, rfl, h⟩
    · rw [if_neg e, if_neg (fun z => e (Sum.inl.inj z))]
      exact r.get
theorem DTab.append : ∀ {kvs kvs' : List (Key × V)} {θ θ' : Tab}, DTab K H kvs θ → DTab K H kvs' θ' → DTab K H (kvs ++ kvs') (θ ++ θ')
  | _, _, _, _, .nil, q => q
  | _, _, _, _, .cons h r, q => .cons h (r.append q)
theorem DTab.any : ∀ {kvs : List (Key × V)} {θ : Tab}, DTab K H kvs θ → (kvs.any fun kv => decide (kv.1 = .inl i)) = θ.any fun p => decide (p.1 = i)
  | _, _, .nil => rfl
  | _, _, .cons (i := j) h r => by
    rw [List.any_cons, List.any_cons, r.any]
    congr 1
    by_cases e : j = i
    · simp [e]
    · have : ¬ ((Sum.inl j : Key) = .inl i) := fun z => e (Sum.inl.inj z)
      simp [e, this]
theorem DTab.put (h : Tm K H v t) {kvs : List (Key × V)} {θ : Tab} (d : DTab K H kvs θ) : DTab K H (putK kvs (.inl i) v) (set1 θ i t) := by
  unfold putK set1
  rw [d.any]
  split
  · rename_i hh
    clear hh
    induction d with
    | nil => exact .nil
    | cons h' r ih =>
      rename_i v' t' j kvs θ
      rw [List.map_cons, List.map_cons]
      by_cases e : j = i
      · subst e
        rw [if_pos rfl, if_pos rfl]
        exact .cons h ih
      · have : ¬ ((Sum.inl j : Key) = .inl i) := fun z => e (Sum.inl.inj z)
        simp only [e, this, if_false]
        exact .cons h' ih
  · exact d.append (.cons h .nil)
end
end DF

namespace DF
open PySem PySem.Spec PyProof.Rows L2
section
variable {P : Program} {w : World} {K : PySem.W.Frag} {mg : Str → Option Value} {base : Heap}
/-! ### applied, replaced, put -/
def sp_applied (K : PySem.W.Frag) : Sp := fun vs H Q _ => ∃ v u t ts, vs = [v, u] ∧ Tm K H v t ∧ Tms K H u ts ∧ t.args.length + ts.length ≤ 16000000 ∧ Rt K H Q (enc (t.aps ts))
theorem sc_applied : FnScope ["term", "arguments"] ["term", "arguments"] (defScope Tx.s_applied) := C8.fnScope_by (by decide +kernel)
theorem enc_aps (t : T) (ts : List T) : enc (t.aps ts) = .tuple [hdD t.hd, .tuple (t.args.map enc ++ ts.map enc)] := by rw [enc_eq, T.hd_aps, T.args_aps, List.map_append]
theorem ok_applied (Y : Hf K mg) : Cl CX0 P w K mg base 1 "applied" (sp_applied K) := by
  refine Y.d_applied.ok sc_applied (fun vs H Q E h => ?_) (fun f cdv A outer s H vs Q E hr h => ?_)
  · obtain ⟨v, u, t, ts, rfl, _⟩ := h; rfl
  have nd := sc_applied.nd
  refine ⟨_, ((pss_one (ps_ret (pe_tupD (pa_cons (pe_ix ix_d (pv 0) pe_int fun _ _ => rfl) (pa_cons (pe_op op_catD (pe_ix ix_d (pv 0) pe_int fun _ _ => rfl) (pv 1)) pa_nil)))))), ?_⟩
  obtain ⟨v, u, t, ts, rfl, ht, hu, hz, q⟩ := h
  refine ⟨_, rfl, _, 0, _, rfl, ht.is, rfl, fun x hx => ⟨_, rfl, _, 1, _, rfl, ht.is, rfl, fun y hy => ⟨_, rfl, _, _, hy, hu, by rw [List.length_map, List.length_map]; exact hz, fun z H1 f1 hz1 => ?_⟩⟩⟩
  refine ⟨_, .cons (hx.fr f1) (.cons hz1 .nil), by show 2 ≤ 16000000; decide, fun w H2 f2 hw => q _ _ (f1.trans f2) ?_⟩
  rw [enc_aps]
  exact hw
def sp_replaced (K : PySem.W.Frag) (n : Nat) : Sp := fun vs H Q _ => ∃ v t p kvs θ, vs = [v, .ref p] ∧ Tm K H v t ∧ H p = some (.dK kvs) ∧ DTab K H kvs θ ∧ t.size ≤ n ∧ t.size ≤ 1000000 ∧ TabLe θ 1000000 ∧ Rt K H Q (enc (rep θ t))
theorem sc_replaced : FnScope ["term", "table", "head", "arguments", "found", "argument"] ["term", "table"] (defScope Tx.s_replaced) := C8.fnScope_by (by decide +kernel)
theorem ok_replaced (Y : Hf K mg) : ∀ n, Cl CX0 P w K mg base (n + 2) "replaced" (sp_replaced K n)
  | 0 => Y.d_replaced.zero fun vs H Q E h => by
    obtain ⟨v, t, p, kvs, θ, _, _, _, _, h0, _⟩ := h
    have := t.size_pos
    omega
  | n + 1 => by
    have ih := ok_replaced Y n
    refine Y.d_replaced.ok sc_replaced (fun vs H Q E h => ?_) (fun f cdv A outer s H vs Q E hr h => ?_)
    · obtain ⟨v, t, p, kvs, θ, rfl, _⟩ := h; rfl
    have nd := sc_replaced.nd
    refine ⟨_, ((pss_cons (ps_asg (pv 0) (pg_tup rfl (pgs_cons (pg_name (i := 2) nd rfl (by first | exact .inl rfl | exact .inr rfl)) (pgs_cons (pg_name (i := 3) nd rfl (by first | exact .inl rfl | exact .inr rfl)) pgs_nil))))
    (pss_cons (ps_set (i := 4) nd rfl (by first | exact .inl rfl | exact .inr rfl) (pe_lst pa_nil))
    (pss_cons (ps_for PassesOwn.never rfl (pi_tup (pv 3)) (pg_name (i := 5) nd rfl (by first | exact .inl rfl | exact .inr rfl))
        (pss_one (ps_expr (pe_bm PySem.F.plainAttrs_list PySem.F.slot_list_append PySem.F.type_list_append mt_append (pv 4) (pa_cons (kc ih hr (pa_cons (pv 5) (pa_cons (pv 1) pa_nil)) (hk := by omega)) pa_nil)))))
    (pss_cons (ps_if (PW.pt (pw_or (pt_val (k_isi Y.z_isinstance Y.z_str (pv 2))) (pw_or1 (pt_cmp (pc_dnotin (hu1 hr) (pv 2) (pv 1))))))
        (pss_one (ps_ret (pe_tupD (pa_cons (pv 2) (pa_cons (k_tup Y.z_tuple (pv 4)) pa_nil))))) pss_nil)
    (pss_one (ps_ret (kc (ok_applied Y) hr (pa_cons (pe_dget (hu1 hr) (pv 1) (pv 2) fun _ _ => rfl) (pa_cons (k_tup Y.z_tuple (pv 4)) pa_nil)) (hk := by omega))))))))), ?_⟩
    obtain ⟨v, t, p, kvs, θ, rfl, ht, hp, hT, hn, hz, hM, q⟩ := h
    obtain ⟨a, b, as, rfl, ta, tb, ia⟩ := ht.dest
    refine ⟨_, rfl, a, _, rfl, ta.sq, rfl, _, _, rfl, _, _, rfl, rfl, ?_⟩
    refine ⟨Nat.zero_le _, fun g hg => ⟨_, rfl, b, rfl, ⟨_, (tb.fr (Fr.new0 (S := No) hg)).sq⟩, ?_⟩⟩
    have npg : p ≠ g := ne_of_none hp hg
    refine for_it (dwT (S := No) tb ia) (fun i σ H' => ∃ x5 fs, σ = [some (.ref a), some (.ref p), some (hdV t.hd), some (.ref b), some (.ref g), x5] ∧ Fr No H H' ∧ H' g = some (.lst fs) ∧ IsAll K H' fs (((t.args.take i).map (rep θ)).map enc))
      ⟨none, [], rfl, Fr.new0 hg, upd_same, .nil⟩ (fun i σ H' _ z => let ⟨_, _, _, z, _⟩ := z; z) (fun i x σ H1 H2 hi z y => ?_) fun σ H1 z => ?_
    · obtain ⟨x5, fs, rfl, f1, hg1, i1⟩ := z
      obtain ⟨f2, d, hd, hx⟩ := y
      rw [List.getElem?_map] at hd
      cases e : t.args[i]? with
      | none => rw [e] at hd; cases hd
      | some u =>
        rw [e] at hd
        cases hd
        have hu := T.arg_lt (List.mem_of_getElem? e)
        refine ⟨_, rfl, .inl ⟨rfl, _, SqL.of (f2.kn hg1)⟩, _, rfl, _, rfl, x, u, p, kvs, θ, rfl, hx, (f1.trans f2).kn hp, hT.fr (f1.trans f2), by omega, by omega, hM, fun r H3 f3 hr3 => ?_⟩
        have hg3 := f3.kn (f2.kn hg1)
        refine ⟨g, _, _, rfl, rfl, hg3, lt_line ?_, some x, _, rfl, ((f1.trans f2).trans f3).new hg, upd_same, ?_⟩
        · rw [i1.len, List.length_map, List.length_map]
          have h1 := List.length_take_le' i t.args
          have h2 := t.args_len
          omega
        · rw [take_snoc e, List.map_append, List.map_append]
          have g4 : Fr (At g) H3 (upd H3 g (.lst (fs ++ [r]))) := Fr.refl.mut rfl hg3 fun z => z
          exact (((i1.fr f2).fr f3).fr g4).append (.cons (hr3.fr g4) .nil)
    · obtain ⟨x5, fs, rfl, f1, hg1, i1⟩ := z
      rw [List.length_map, List.take_length] at i1
      have hp1 := f1.kn hp
      have hT1 := hT.fr f1
      have e0 : rep θ t = (putH θ t.hd).aps (t.args.map (rep θ)) := rep_eq θ t
      cases hh : t.hd with
      | c x =>
        rw [hh] at e0
        refine tIsi_var (h := .c x) rfl ⟨_, rfl, ?_⟩
        refine iteT (iteT ⟨_, rfl, ⟨_, rfl, g, fs, _, rfl, hg1, i1, fun z H2 f2 hz2 => ⟨_,   .cons (is_hd (h := .c x)) (.cons hz2 .nil), by show 2 ≤ 16000000; decide, fun r H3 f3 hr3 => q _ _ ((f1.trans f2).trans f3) ?_⟩⟩⟩)
        rw [e0, show putH θ (.c x) = T.lf (.c x) from rfl, enc_mk]
        exact hr3
      | u j =>
        rw [hh] at e0
        refine tIsi_var (h := .u j) rfl ⟨_, rfl, ?_⟩
        refine iteF ⟨_, rfl, _, rfl, p, _, rfl, DGet.k (k := .inl j) hp1, _, rfl, ?_⟩
        rcases hT1.get (i := j) with ⟨l1, l2⟩ | ⟨u, y, l1, l2, hy⟩
        · rw [l2]
          refine iteT ⟨_, rfl, ⟨_, rfl, g, fs, _, rfl, hg1, i1, fun z H2 f2 hz2 => ⟨_,   .cons (is_hd (h := .u j)) (.cons hz2 .nil), by show 2 ≤ 16000000; decide, fun r H3 f3 hr3 => q _ _ ((f1.trans f2).trans f3) ?_⟩⟩⟩
          rw [e0, show putH θ (.u j) = T.lf (.u j) by show (look θ j).getD _ = _; rw [l1]; rfl, enc_mk]
          exact hr3
        · rw [l2]
          refine iteF ⟨_, rfl, _, rfl, p, _, rfl, by rw [← l2]; exact DGet.k (k := .inl j) hp1, ⟨_, rfl, g, fs, _, rfl, hg1, i1, fun z H2 f2 hz2 => ?_⟩⟩
          have hu := hM.look l1
          refine ⟨y, z, u, t.args.map (rep θ), rfl, hy.fr f2, hz2, ?_, fun r H3 f3 hr3 => q _ _ ((f1.trans f2).trans f3) ?_⟩
          · rw [List.length_map]
            have h1 := u.args_len
            have h2 := t.args_len
            omega
          · rw [e0, show putH θ (.u j) = u by show (look θ j).getD _ = _; rw [l1]; rfl]
            exact hr3
def prD (p : Int × T) : PyData := .tuple [.int p.1, enc p.2]
/-- parts: a new tuple of pairs -/
def Prt (K : PySem.W.Frag) (H : Hp) (v : V) (ps : List (Int × T)) : Prop := ∃ a o xs, v = .ref a ∧ H a = some (.frz o (.tup xs)) ∧ Bare o ∧ IsAll K H xs (ps.map prD)
theorem Prt.fr {S : Addr → Prop} {H H' : Hp} {v : V} {ps : List (Int × T)} (f : Fr S H H') (h : Prt K H v ps) : Prt K H' v ps :=
  let ⟨a, o, xs, e, h1, h2, h3⟩ := h; ⟨a, o, xs, e, f.t _ _ True.intro h1, h2, h3.fr f⟩
theorem Prt.is {H : Hp} {v : V} {ps : List (Int × T)} (h : Prt K H v ps) : Is K H v (.tuple (ps.map prD)) := by
  obtain ⟨a, o, xs, rfl, h1, h2, h3⟩ := h
  exact .tup (.inr (.inl ⟨o, h1⟩)) h3
theorem Prt.of {H : Hp} {p : Addr} {o : Obj} {xs : List V} {ps : List (Int × T)} (hp : H p = none) (b : Bare o) (h : IsAll K H xs (ps.map prD)) : Prt K (upd H p (.frz o (.tup xs))) (.ref p) ps :=
  ⟨p, o, xs, rfl, upd_same, b, h.fr (Fr.new0 (S := No) hp)⟩
theorem prt_pairs {H : Hp} : ∀ {ps : List (Int × T)} {xs : List V}, IsAll K H xs (ps.map prD) → ∃ (as : List Addr) (kvs : List (Key × V)), xs = as.map V.ref ∧ Paired (fun p kv => SqT K H p [kV kv.1, kv.2]) as kvs ∧ DTab K H kvs ps
  | [], _, .nil => ⟨[], [], rfl, .nil, .nil⟩
  | p :: ps, _, .cons h t => by
    obtain ⟨as, kvs, rfl, h1, h2⟩ := prt_pairs t
    obtain ⟨a, x, y, rfl, ta, hx, hy⟩ := (show Is K H _ (.tuple [.int p.1, enc p.2]) from h).two
    rw [hx.intE] at ta
    exact ⟨a :: as, (.inl p.1, y) :: kvs, rfl, .cons ta.sq h1, .cons hy h2⟩
theorem DTab.merge {H : Hp} : ∀ {more : List (Key × V)} {ps : List (Int × T)} {kvs : List (Key × V)} {θ : Tab}, DTab K H more ps → DTab K H kvs θ → DTab K H (mergeK kvs more) (ps.foldl (fun θ p => set1 θ p.1 p.2) θ)
  | _, _, _, _, .nil, q => q
  | _, _, _, _, .cons h t, q => t.merge (q.put h)
def sp_put (K : PySem.W.Frag) (n : Nat) : Sp := fun vs H Q _ => ∃ v t u ps, vs = [v, u] ∧ Tm K H v t ∧ Prt K H u ps ∧ t.size ≤ n ∧ t.size ≤ 1000000 ∧ (∀ p ∈ ps, p.2.size ≤ 1000000) ∧ Rt K H Q (enc (put t ps))
theorem sc_put : FnScope ["term", "parts"] ["term", "parts"] (defScope Tx.s_put) := C8.fnScope_by (by decide +kernel)
theorem ok_put (Y : Hf K mg) (n : Nat) : Cl CX0 P w K mg base (n + 3) "put" (sp_put K n) := by
  refine Y.d_put.ok sc_put (fun vs H Q E h => ?_) (fun f cdv A outer s H vs Q E hr h => ?_)
  · obtain ⟨v, t, u, ps, rfl, _⟩ := h; rfl
  have nd := sc_put.nd
  refine ⟨_, ((pss_one (ps_ret (kc (ok_replaced Y n) hr (pa_cons (pv 0) (pa_cons (k_dict Y.z_dict (pv 1)) pa_nil)) (hk := by omega))))), ?_⟩
  obtain ⟨v, t, u, ps, rfl, ht, hu, hn, hz, hM, q⟩ := h
  obtain ⟨a, o, xs, rfl, ha, ho, hi⟩ := hu
  obtain ⟨as, kvs, rfl, h1, h2⟩ := prt_pairs hi
  refine ⟨_, rfl, ⟨_, rfl, a, o, as, kvs, rfl, ha, ho, h1, fun p hp => ?_⟩⟩
  have f1 : Fr No H (upd H p (.dK (mergeK [] kvs))) := Fr.new0 hp
  exact ⟨v, t, p, _, _, rfl, ht.fr f1, upd_same, (DTab.merge h2 .nil).fr f1, hn, hz, tabOf_le hM, fun r H2 f2 hr2 => q _ _ (f1.trans f2) hr2⟩
end
end DF

namespace DF
open PySem PySem.Spec PyProof.Rows L2
section
variable {P : Program} {w : World} {K : PySem.W.Frag} {mg : Str → Option Value} {base : Heap}
/-! ### function_part, fits, match -/
def sp_function_part (K : PySem.W.Frag) : Sp := fun vs H Q _ => ∃ v f a, vs = [v] ∧ Tm K H v (.ap f a) ∧ Rt K H Q (enc f)
theorem sc_function_part : FnScope ["term"] ["term"] (defScope Tx.s_function_part) := C8.fnScope_by (by decide +kernel)
theorem ok_function_part (Y : Hf K mg) : Cl CX0 P w K mg base 1 "function_part" (sp_function_part K) := by
  refine Y.d_function_part.ok sc_function_part (fun vs H Q E h => ?_) (fun f cdv A outer s H vs Q E hr h => ?_)
  · obtain ⟨v, t, u, rfl, _⟩ := h; rfl
  have nd := sc_function_part.nd
  refine ⟨_, ((pss_one (ps_ret (pe_tupD (pa_cons (pe_ix ix_d (pv 0) pe_int fun _ _ => rfl) (pa_cons (pe_slice sl_d (pe_ix ix_d (pv 0) pe_int fun _ _ => rfl) po_none (po_some (pe_un un_neg pe_int))) pa_nil)))))), ?_⟩
  obtain ⟨v, g, a, rfl, ht, q⟩ := h
  refine ⟨_, rfl, _, 0, _, rfl, ht.is, rfl, fun x hx => ⟨_, rfl, _, 1, _, rfl, ht.is, rfl, fun y hy => ⟨1, rfl, -1, rfl, _, hy, fun z H1 f1 hz1 => ?_⟩⟩⟩
  refine ⟨_, .cons (hx.fr f1) (.cons hz1 .nil), by show 2 ≤ 16000000; decide, fun w H2 f2 hw => q _ _ (f1.trans f2) ?_⟩
  rw [enc_eq]
  rw [cut_last] at hw
  have : ((T.ap g a).args.map enc).dropLast = g.args.map enc := by
    show ((g.args ++ [a]).map enc).dropLast = _
    rw [List.map_append]
    exact List.dropLast_concat
  rw [this] at hw
  exact hw
theorem atI_last {α : Type} (l : List α) (x : α) : L2.atI (l ++ [x]) (-1) = some x := by
  unfold L2.atI
  have e : ixN (l ++ [x]).length (-1) = some l.length := by
    unfold ixN
    rw [List.length_append, List.length_singleton]
    simp
    omega
  rw [e]
  simp
/-- what a fit says -/
def rFit (K : PySem.W.Frag) (d : Addr) (H : Hp) (Q : VK) : Option Tab → Prop
  | none => ∀ H', Fr (At d) H H' → Q (.bl false) H'
  | some θ => ∀ H' kvs, Fr (At d) H H' → H' d = some (.dK kvs) → DTab K H' kvs θ → Q (.bl true) H'
def sp_fits (K : PySem.W.Frag) (n : Nat) : Sp := fun vs H Q _ => ∃ v p u t d kvs θ, vs = [v, u, .ref d] ∧ Tm K H v p ∧ Tm K H u t ∧ H d = some (.dK kvs) ∧ DTab K H kvs θ ∧ p.size ≤ n ∧ t.size ≤ 100 ∧ θ.length + p.size ≤ 1000000 ∧ rFit K d H Q (fit p t θ)
theorem sc_fits : FnScope ["pattern", "term", "found"] ["pattern", "term", "found"] (defScope Tx.s_fits) := C8.fnScope_by (by decide +kernel)
theorem ok_fits (Y : Hf K mg) : ∀ n, Cl CX0 P w K mg base (n + 2) "fits" (sp_fits K n)
  | 0 => Y.d_fits.zero fun vs H Q E h => by
    obtain ⟨v, p, u, t, d, kvs, θ, _, _, _, _, _, h0, _⟩ := h
    have := p.size_pos
    omega
  | n + 1 => by
    have ih := ok_fits Y n
    refine Y.d_fits.ok sc_fits (fun vs H Q E h => ?_) (fun f cdv A outer s H vs Q E hr h => ?_)
    · obtain ⟨v, p, u, t, d, kvs, θ, rfl, _⟩ := h; rfl
    have nd := sc_fits.nd
    refine ⟨_, ((pss_cons (ps_if (pt_tru (pe_ix ix_d (pv 0) pe_int fun _ _ => rfl))
        (pss_cons (ps_if (pt_not (pt_tru (pe_ix ix_d (pv 1) pe_int fun _ _ => rfl)))
            (pss_one (ps_ret pe_bl)) pss_nil)
        (pss_cons (ps_if (pt_not (pt_val (kc ih hr (pa_cons (kc (ok_function_part Y) hr (pa_cons (pv 0) pa_nil) (hk := by omega)) (pa_cons (kc (ok_function_part Y) hr (pa_cons (pv 1) pa_nil) (hk := by omega)) (pa_cons (pv 2) pa_nil))) (hk := by omega))))
            (pss_one (ps_ret pe_bl)) pss_nil)
        (pss_one (ps_ret (kc ih hr (pa_cons (pe_ix ix_d (pe_ix ix_d (pv 0) pe_int fun _ _ => rfl) (pe_un un_neg pe_int) fun _ _ => rfl) (pa_cons (pe_ix ix_d (pe_ix ix_d (pv 1) pe_int fun _ _ => rfl) (pe_un un_neg pe_int) fun _ _ => rfl) (pa_cons (pv 2) pa_nil))) (hk := by omega)))))) pss_nil)
    (pss_cons (ps_if (pt_val (k_isi Y.z_isinstance Y.z_str (pe_ix ix_d (pv 0) pe_int fun _ _ => rfl)))
        (pss_one (ps_ret (pe_cmpR (op_eqD (n := 200) hr) (pv 0) (pv 1) rfl))) pss_nil)
    (pss_cons (ps_if (pt_cmp (pc_din (hu1 hr) (pe_ix ix_d (pv 0) pe_int fun _ _ => rfl) (pv 2)))
        (pss_one (ps_ret (pe_cmpR (op_eqD (n := 200) hr) (pe_dget (hu1 hr) (pv 2) (pe_ix ix_d (pv 0) pe_int fun _ _ => rfl) fun _ _ => rfl) (pv 1) rfl))) pss_nil)
    (pss_cons (ps_dput (hu1 hr) (pv 2) (pe_ix ix_d (pv 0) pe_int fun _ _ => rfl) (pv 1) rfl)
    (pss_one (ps_ret pe_bl))))))), ?_⟩
    obtain ⟨v, p, u, t, d, kvs, θ, rfl, hp, ht, hd, hT, hn, hz, hl, q⟩ := h
    cases p with
    | ap g a =>
      have hA : (T.ap g a).args = g.args ++ [a] := rfl
      refine ⟨_, rfl, _, 1, _, rfl, hp.is, rfl, fun x hx => ⟨_, hx, ?_⟩⟩
      rw [show (!((T.ap g a).args.map enc).isEmpty) = true by rw [hA]; simp]
      refine iteT ?_
      cases t with
      | lf h =>
        refine ⟨_, rfl, _, 1, _, rfl, ht.is, rfl, fun y hy => ⟨_, hy, ?_⟩⟩
        exact iteT (q _ .refl)
      | ap g' a' =>
        refine ⟨_, rfl, _, 1, _, rfl, ht.is, rfl, fun y hy => ⟨_, hy, ?_⟩⟩
        rw [show (!((T.ap g' a').args.map enc).isEmpty) = true by show (!((g'.args ++ [a']).map enc).isEmpty) = true; simp]
        refine iteF ?_
        have hsz : (T.ap g' a').size = g'.size + a'.size := rfl
        have hsp : (T.ap g a).size = g.size + a.size := rfl
        have hpos := a.size_pos
        have hpos2 := g.size_pos
        refine ⟨_, rfl, _, _, _, rfl, hp, fun z1 H1 f1 hz1 => ⟨_, rfl, _, _, _, rfl, ht.fr f1, fun z2 H2 f2 hz2 => ⟨_, rfl, ?_⟩⟩⟩
        have f12 := f1.trans f2
        refine ⟨z1, g, z2, g', d, kvs, θ, rfl, hz1.fr f2, hz2, f12.kn hd, hT.fr f12, by omega, by omega, by omega, ?_⟩
        have hq : fit (.ap g a) (.ap g' a') θ = (fit g g' θ).bind fun θ' => fit a a' θ' := by rw [fit]
        rw [hq] at q
        cases e : fit g g' θ with
        | none =>
          rw [e] at q
          intro H3 f3
          exact ⟨_, rfl, iteT (q _ (f12.no.trans f3))⟩
        | some θ1 =>
          rw [e] at q
          intro H3 kvs3 f3 hd3 hT3
          have f13 : Fr (At d) H H3 := f12.no.trans f3
          have F := fit_fits e
          have hl1 := F.len
          refine ⟨_, rfl, iteF ⟨_, rfl, _, 1, _, rfl, Tm.is (hp.fr f13), rfl, fun x3 hx3 => ⟨1, rfl, _, -1, _, rfl, hx3, by rw [hA, List.map_append]; exact atI_last _ _, fun x4 hx4 => ?_⟩⟩⟩
          refine ⟨_, rfl, _, 1, _, rfl, Tm.is (ht.fr f13), rfl, fun x5 hx5 => ⟨1, rfl, _, -1, _, rfl, hx5, by rw [show (T.ap g' a').args = g'.args ++ [a'] from rfl, List.map_append]; exact atI_last _ _, fun x6 hx6 => ⟨_, rfl, ?_⟩⟩⟩
          refine ⟨x4, a, x6, a', d, kvs3, θ1, rfl, hx4, hx6, hd3, hT3, by omega, by omega, by omega, ?_⟩
          cases e2 : fit a a' θ1 with
          | none =>
            rw [show (Option.bind (some θ1) fun θ' => fit a a' θ') = none from e2] at q
            intro H4 f4
            exact q _ (f13.trans f4)
          | some θ2 =>
            rw [show (Option.bind (some θ1) fun θ' => fit a a' θ') = some θ2 from e2] at q
            intro H4 kvs4 f4 hd4 hT4
            exact q _ _ (f13.trans f4) hd4 hT4
    | lf h =>
      refine ⟨_, rfl, _, 1, _, rfl, hp.is, rfl, fun x hx => ⟨_, hx, iteF ?_⟩⟩
      refine ⟨_, rfl, _, 0, _, rfl, hp.is, rfl, fun y hy => ?_⟩
      obtain rfl := is_hd_inv hy
      refine isiE h ⟨_, rfl, ?_⟩
      cases h with
      | c x =>
        refine iteT ⟨_, rfl, _, rfl, _, _, hp, ht, fine_enc _, fine_enc _, ?_, ?_⟩
        · have := depth_enc (T.lf (.c x))
          have e : (T.lf (.c x)).size = 1 := rfl
          omega
        · rw [eqv_enc]
          unfold fit at q
          by_cases c : T.lf (.c x) = t
          · rw [if_pos c] at q
            rw [decide_eq_true c]
            exact q _ _ .refl hd hT
          · rw [if_neg c] at q
            rw [decide_eq_false c]
            exact q _ .refl
      | u i =>
        refine iteF ⟨_, rfl, _, 0, _, rfl, hp.is, rfl, fun y hy => ?_⟩
        obtain rfl := is_hd_inv hy
        refine ⟨_, rfl, d, _, rfl, DGet.k (k := .inl i) hd, _, rfl, ?_⟩
        unfold fit at q
        rcases hT.get (i := i) with ⟨l1, l2⟩ | ⟨u', y, l1, l2, hy'⟩
        · rw [l2]
          rw [l1] at q
          refine iteF ⟨_, rfl, _, rfl, _, rfl, _, 0, _, rfl, hp.is, rfl, fun y hy => ?_⟩
          obtain rfl := is_hd_inv hy
          have hlen := hT.len
          refine ⟨d, _, rfl, DPut.k (k := .inl i) hd (lt_line (by have := (T.lf (.u i)).size_pos; omega)), ?_⟩
          have g1 : Fr (At d) H (upd H d (.dK (putK kvs (.inl i) u))) := Fr.refl.mut rfl hd fun z => z
          refine q _ _ g1 upd_same ?_
          have := (hT.fr g1).put (i := i) (ht.fr g1)
          have e : set1 θ i t = θ ++ [(i, t)] := by
            unfold set1
            rw [if_neg]
            intro hh
            obtain ⟨r, hr1, hr2⟩ := List.any_eq_true.mp hh
            have hr2 : r.1 = i := of_decide_eq_true hr2
            unfold look at l1
            have l1 := List.find?_eq_none.mp (Option.map_eq_none_iff.mp l1) r hr1
            exact l1 (decide_eq_true hr2)
          rw [e] at this
          exact this
        · rw [l2]
          rw [l1] at q
          refine iteT ⟨_, rfl, _, rfl, _, 0, _, rfl, hp.is, rfl, fun y2 hy2 => ?_⟩
          obtain rfl := is_hd_inv hy2
          refine ⟨d, y, rfl, by rw [← l2]; exact DGet.k (k := .inl i) hd, _, rfl, _, _, hy', ht, fine_enc _, fine_enc _, ?_, ?_⟩
          · have := depth_enc t
            omega
          · rw [eqv_enc]
            by_cases c : u' = t
            · rw [decide_eq_true c]
              dsimp only at q
              rw [if_pos c] at q
              exact q _ _ .refl hd hT
            · rw [decide_eq_false c]
              dsimp only at q
              rw [if_neg c] at q
              exact q _ .refl
def rMatch (K : PySem.W.Frag) (H : Hp) (Q : VK) : Option (List (Int × T)) → Prop
  | none => ∀ H', Fr No H H' → Q .non H'
  | some ps => Rt K H Q (.tuple (ps.map prD))
def sp_match (K : PySem.W.Frag) (n : Nat) : Sp := fun vs H Q _ => ∃ v p u t, vs = [v, u] ∧ Tm K H v p ∧ Tm K H u t ∧ p.size ≤ n ∧ p.size ≤ 900000 ∧ t.size ≤ 100 ∧ rMatch K H Q (matchP p t)
theorem sc_match : FnScope ["pattern", "term", "found", "unknown"] ["pattern", "term"] (defScope Tx.s_match) := C8.fnScope_by (by decide +kernel)
theorem ok_match (Y : Hf K mg) (n : Nat) : Cl CX0 P w K mg base (n + 3) "match" (sp_match K n) := by
  refine Y.d_match.ok sc_match (fun vs H Q E h => ?_) (fun f cdv A outer s H vs Q E hr h => ?_)
  · obtain ⟨v, p, u, t, rfl, _⟩ := h; rfl
  have nd := sc_match.nd
  refine ⟨_, ((pss_cons (ps_set (i := 2) nd rfl (by first | exact .inl rfl | exact .inr rfl) pe_dnewK)
    (pss_cons (ps_if (pt_not (pt_val (kc (ok_fits Y n) hr (pa_cons (pv 0) (pa_cons (pv 1) (pa_cons (pv 2) pa_nil))) (hk := by omega))))
        (pss_one (ps_ret pe_non)) pss_nil)
    (pss_one (ps_ret (k_tup Y.z_tuple (pe_lc (own := [("unknown", 3)]) (g := (gName 3)) (tt := tYes) (te := (tTupD K (tCons (tVar 3) (tCons (tDGet (tVar 2) (tVar 3)) tNil)))) rfl nd (pi_tup (kc (ok_unknowns Y) hr (pa_cons (pv 0) pa_nil) (hk := by omega))) (blkOk_by (own := [("unknown", 3)]) (N := ["pattern", "term", "found", "unknown"]) (sc := defScope Tx.s_match) (by decide +kernel)) (fun _ _ _ _ _ => (pg_name (i := 3) nd rfl (by first | exact .inl rfl | exact .inr rfl))) (fun _ _ _ _ _ => pts_nil) (fun _ _ _ _ _ => (pe_tupD (pa_cons (pv 3) (pa_cons (pe_dget (hu1 hr) (pv 2) (pv 3) fun _ _ => rfl) pa_nil))))))))))), ?_⟩
  obtain ⟨v, p, u, t, rfl, hp, ht, hn, hp2, hz, q⟩ := h
  refine fun d hd => ?_
  have f0 : Fr No H (upd H d (.dK [])) := Fr.new0 hd
  refine ⟨_, rfl, _, rfl, _, rfl, v, p, u, t, d, [], [], rfl, hp.fr f0, ht.fr f0, upd_same, .nil, hn, hz, by simp; omega, ?_⟩
  unfold matchP at q
  cases e : fit p t [] with
  | none =>
    rw [e] at q
    intro H1 f1
    exact ⟨_, rfl, iteT (q _ ((f0.no.trans f1).less fun b hb _ => by rw [show b = d from hb]; exact hd))⟩
  | some θ =>
    rw [e] at q
    intro H1 kvs f1 hd1 hT
    have f2 : Fr No H H1 := (f0.no.trans f1).less fun b hb _ => by rw [show b = d from hb]; exact hd
    have F := fit_fits e
    refine ⟨_, rfl, iteF ⟨_, rfl, v, p, rfl, hp.fr f2, by omega, fun y H2 f3 hy => ?_⟩⟩
    obtain ⟨a, xs, rfl, ta, ia⟩ := hy.tupE
    refine ⟨a, rfl, ⟨xs, ta.sq⟩, fun D hD => lcD (l := unks p) (en := PyData.int) (f := fun i => some (prD (i, (look θ i).getD default))) (dwT ta ia) hD (by have := unks_len p; omega) (fun i x H3 yes no hi f4 hx hyes _ => ?_) fun H3 ys f4 hD3 hys => ?_⟩
    · obtain rfl := hx.intE
      refine ⟨rfl, yesT ⟨_, rfl, _, rfl, _, rfl, d, ?_⟩⟩
      obtain ⟨t', ht'⟩ := Option.isSome_iff_exists.mp (F.has i (mem_unks.mp hi))
      rcases hT.get (i := i) with ⟨l1, l2⟩ | ⟨u', y, l1, l2, hy'⟩
      · rw [ht'] at l1; cases l1
      · have hd3 := f4.kn (f3.kn hd1)
        refine ⟨y, rfl, by rw [← l2]; exact DGet.k (k := .inl i) hd3, _, .cons (.int i) (.cons (hy'.fr (f3.trans f4)) .nil), by show 2 ≤ 16000000; decide, fun r H4 f5 hr4 => hyes r H4 _ f5 hr4 ?_⟩
        rw [l1]; rfl
    · refine ⟨D, ys, _, rfl, hD3, hys, fun r H4 f5 hr4 => q _ _ (((f2.trans f3).trans f4).trans f5) ?_⟩
      have e2 : (unks p).filterMap (fun i => some (prD (i, (look θ i).getD default))) = ((unks p).map fun i => (i, (look θ i).getD default)).map prD := by
        rw [List.map_map]
        exact fm_some (prD ∘ fun i => (i, (look θ i).getD default)) _
      rw [e2] at hr4
      exact hr4
end
end DF

namespace DF
open PySem PySem.Spec PyProof.Rows L2
section
variable {P : Program} {w : World} {K : PySem.W.Frag} {mg : Str → Option Value} {base : Heap}
/-! ### common, generalize -/
def prP (p : T × T) : PyData := .tuple [enc p.1, enc p.2]
theorem fine_prP (p : T × T) : fine (prP p) = true := by
  show (fine (enc p.1) && (fine (enc p.2) && true)) = true
  rw [fine_enc, fine_enc]; rfl
theorem depth_prP (p : T × T) : (prP p).depth ≤ 1 + 2 * max p.1.size p.2.size := by
  have h1 := depth_enc p.1
  have h2 := depth_enc p.2
  show max (PyData.depth (enc p.1)) (max (PyData.depth (enc p.2)) 0) + 1 ≤ _
  omega
theorem eqv_prP (p q : T × T) : PyData.eqv (prP p) (prP q) = decide (p = q) := by
  rw [Bool.eq_iff_iff, eqv_iff (fine_prP p) (fine_prP q), decide_eq_true_iff]
  constructor
  · intro e
    have e : PyData.tuple [enc p.1, enc p.2] = PyData.tuple [enc q.1, enc q.2] := e
    have e : enc p.1 = enc q.1 ∧ enc p.2 = enc q.2 := by simpa using e
    exact Prod.ext (enc_inj e.1) (enc_inj e.2)
  · intro e; rw [e]
theorem first_at {α : Type} [DecidableEq α] : ∀ {l : List α} {x : α}, x ∈ l → ∃ j : Nat, l[j]? = some x ∧ ∀ m y, m < j → l[m]? = some y → y ≠ x
  | a :: l, x, h => by
    by_cases e : a = x
    · exact ⟨0, by rw [e]; rfl, fun m y hm => absurd hm (Nat.not_lt_zero _)⟩
    · obtain ⟨j, h1, h2⟩ := first_at ((List.mem_cons.mp h).resolve_left fun z => e z.symm)
      refine ⟨j + 1, by simpa using h1, fun m y hm hy => ?_⟩
      cases m with
      | zero => cases hy; exact e
      | succ m => exact h2 m y (by omega) (by simpa using hy)
abbrev Sm (pps : List (T × T)) : Prop := ∀ p ∈ pps, p.1.size ≤ 60 ∧ p.2.size ≤ 60
def sp_common (K : PySem.W.Frag) (n : Nat) : Sp := fun vs H Q _ => ∃ v a u b q xs pps, vs = [v, u, .ref q] ∧ Tm K H v a ∧ Tm K H u b ∧ H q = some (.lst xs) ∧ IsAll K H xs (pps.map prP) ∧ a.size ≤ n ∧ a.size ≤ 60 ∧ b.size ≤ 60 ∧ Sm pps ∧ pps.length + a.size ≤ 10000 ∧
  ∀ w H' c xs' pps', Fr (At q) H H' → Tm K H' w c → c.size ≤ a.size → H' q = some (.lst xs') → IsAll K H' xs' (pps'.map prP) → Sm pps' → pps'.length ≤ pps.length + a.size → Q w H'
theorem common_ret {v u : V} {d : Addr} {x3 : Option V} {H : Hp} {Q : VK} {a b : T} {xs : List V} {pps : List (T × T)} (ha : Tm K H v a) (hb : Tm K H u b) (hd : H d = some (.lst xs)) (hi : IsAll K H xs (pps.map prP)) (hm : (a, b) ∈ pps) (h1 : a.size ≤ 60) (h2 : b.size ≤ 60)
    (q : ∀ w H' j, Fr No H H' → Tm K H' w (.lf (.u j)) → Q w H') :
    tTupD K (tCons (tBM K "list" (rIndexG 150 K) (tVar 2) (tCons (tTupD K (tCons (tVar 0) (tCons (tVar 1) tNil))) tNil)) (tCons (tTupD K tNil) tNil)) [some v, some u, some (.ref d), x3] H Q := by
  obtain ⟨j, e1, e2⟩ := first_at hm
  refine ⟨_, rfl, .inl ⟨rfl, _, SqL.of hd⟩, _, rfl, _, rfl, [enc a, enc b], .cons ha (.cons hb .nil), by show 2 ≤ 16000000; decide, fun w2 H2 f2 hw2 => ?_⟩
  refine ⟨d, w2, prP (a, b), pps.map prP, j, prP (a, b), rfl, rfl, .lst (SqL.of (f2.kn hd)) (IsAll.dp (hi.fr f2)), hw2.dp, fineA_lay (fineA_map fine_prP _), fine_lay (fine_prP _), ?_, ?_, by rw [eqv_prP]; exact decide_eq_true rfl, fun m z hm hz => ?_, ?_⟩
  · have := depth_prP (a, b)
    dsimp only at this
    omega
  · rw [List.getElem?_map, e1]; rfl
  · rw [List.getElem?_map] at hz
    cases e3 : pps[m]? with
    | none => rw [e3] at hz; cases hz
    | some y =>
      rw [e3] at hz
      cases hz
      rw [eqv_prP]
      exact decide_eq_false (e2 m y hm e3)
  · refine ⟨[], .nil, Nat.zero_le _, fun w3 H3 f3 hw3 => ⟨_, .cons (.int (j : Nat)) (.cons hw3 .nil), by show 2 ≤ 16000000; decide, fun w4 H4 f4 hw4 => q w4 H4 (j : Nat) ((f2.trans f3).trans f4) hw4⟩⟩
theorem sc_common : FnScope ["first", "second", "pairs", "body"] ["first", "second", "pairs"] (defScope Tx.s_common) := C8.fnScope_by (by decide +kernel)
theorem ok_common (Y : Hf K mg) : ∀ n, Cl CX0 P w K mg base (n + 2) "common" (sp_common K n)
  | 0 => Y.d_common.zero fun vs H Q E h => by
    obtain ⟨v, a, u, b, q, xs, pps, _, _, _, _, _, h0, _⟩ := h
    have := a.size_pos
    omega
  | n + 1 => by
    have ih := ok_common Y n
    refine Y.d_common.ok sc_common (fun vs H Q E h => ?_) (fun f cdv A outer s H vs Q E hr h => ?_)
    · obtain ⟨v, a, u, b, q, xs, pps, rfl, _⟩ := h; rfl
    have nd := sc_common.nd
    refine ⟨_, ((pss_cons (ps_if (PW.pt (pw_and (pt_tru (pe_ix ix_d (pv 0) pe_int fun _ _ => rfl)) (pw_and1 (pt_tru (pe_ix ix_d (pv 1) pe_int fun _ _ => rfl)))))
        (pss_cons (ps_set (i := 3) nd rfl (by first | exact .inl rfl | exact .inr rfl) (kc ih hr (pa_cons (kc (ok_function_part Y) hr (pa_cons (pv 0) pa_nil) (hk := by omega)) (pa_cons (kc (ok_function_part Y) hr (pa_cons (pv 1) pa_nil) (hk := by omega)) (pa_cons (pv 2) pa_nil))) (hk := by omega)))
        (pss_one (ps_ret (kc (ok_applied Y) hr (pa_cons (pv 3) (pa_cons (pe_tupD (pa_cons (kc ih hr (pa_cons (pe_ix ix_d (pe_ix ix_d (pv 0) pe_int fun _ _ => rfl) (pe_un un_neg pe_int) fun _ _ => rfl) (pa_cons (pe_ix ix_d (pe_ix ix_d (pv 1) pe_int fun _ _ => rfl) (pe_un un_neg pe_int) fun _ _ => rfl) (pa_cons (pv 2) pa_nil))) (hk := by omega)) pa_nil)) pa_nil)) (hk := by omega))))) pss_nil)
    (pss_cons (ps_if (PW.pt (pw_and (pt_cmpR (op_eqD (n := 200) hr) (pv 0) (pv 1) rfl) (pw_and1 (pt_val (k_isi Y.z_isinstance Y.z_str (pe_ix ix_d (pv 0) pe_int fun _ _ => rfl))))))
        (pss_one (ps_ret (pv 0))) pss_nil)
    (pss_cons (ps_if (pt_cmpR (op_notInG (n := 150) (hu3 hr)) (pe_tupD (pa_cons (pv 0) (pa_cons (pv 1) pa_nil))) (pv 2) rfl)
        (pss_one (ps_expr (pe_bm PySem.F.plainAttrs_list PySem.F.slot_list_append PySem.F.type_list_append mt_append (pv 2) (pa_cons (pe_tupD (pa_cons (pv 0) (pa_cons (pv 1) pa_nil))) pa_nil)))) pss_nil)
    (pss_one (ps_ret (pe_tupD (pa_cons (pe_bm PySem.F.plainAttrs_list PySem.F.slot_list_index PySem.F.type_list_index (mt_indexG (n := 150) (hu3 hr)) (pv 2) (pa_cons (pe_tupD (pa_cons (pv 0) (pa_cons (pv 1) pa_nil))) pa_nil)) (pa_cons (pe_tupD pa_nil) pa_nil))))))))), ?_⟩
    obtain ⟨v, a, u, b, d, xs, pps, rfl, ha, hb, hd, hi, hn, hz1, hz2, hS, hl, q⟩ := h
    refine andE (fun Q z => tru1 ha rfl z) (fun _ Q z => tru1 hb rfl z) ?_
    by_cases c : (!a.args.isEmpty && !b.args.isEmpty) = true
    · rw [c]
      refine iteT ?_
      cases a with
      | lf h => exact absurd c (by simp [T.args])
      | ap g a' =>
        cases b with
        | lf h => exact absurd c (by simp [T.args])
        | ap g2 b' =>
          have hsz : (T.ap g a').size = g.size + a'.size := rfl
          have hsz2 : (T.ap g2 b').size = g2.size + b'.size := rfl
          have p1 := a'.size_pos
          have p2 := g.size_pos
          have p3 := b'.size_pos
          have p4 := g2.size_pos
          refine ⟨_, rfl, _, _, _, rfl, ha, fun z1 H1 f1 hz1' => ⟨_, rfl, _, _, _, rfl, hb.fr f1, fun z2 H2 f2 hz2' => ⟨_, rfl, ?_⟩⟩⟩
          have f12 := f1.trans f2
          refine ⟨z1, g, z2, g2, d, xs, pps, rfl, hz1'.fr f2, hz2', f12.kn hd, hi.fr f12, by omega, by omega, by omega, hS, by omega, fun w3 H3 c3 xs3 pps3 f3 hw3 hc3 hd3 hi3 hS3 hl3 => ?_⟩
          have f13 : Fr (At d) H H3 := f12.no.trans f3
          refine ⟨_, rfl, _, rfl, _, 1, _, rfl, Tm.is (ha.fr f13), rfl, fun x4 hx4 => ⟨1, rfl, _, -1, _, rfl, hx4, by rw [show (T.ap g a').args = g.args ++ [a'] from rfl, List.map_append]; exact atI_last _ _, fun x5 hx5 => ?_⟩⟩
          refine ⟨_, rfl, _, 1, _, rfl, Tm.is (hb.fr f13), rfl, fun x6 hx6 => ⟨1, rfl, _, -1, _, rfl, hx6, by rw [show (T.ap g2 b').args = g2.args ++ [b'] from rfl, List.map_append]; exact atI_last _ _, fun x7 hx7 => ⟨_, rfl, ?_⟩⟩⟩
          refine ⟨x5, a', x7, b', d, xs3, pps3, rfl, hx5, hx7, hd3, hi3, by omega, by omega, by omega, hS3, by omega, fun w8 H8 c8 xs8 pps8 f8 hw8 hc8 hd8 hi8 hS8 hl8 => ?_⟩
          refine ⟨[enc c8], .cons hw8 .nil, by show 1 ≤ 16000000; decide, fun w9 H9 f9 hw9 => ?_⟩
          refine ⟨w3, w9, c3, [c8], rfl, (hw3.fr f8).fr f9, hw9, by have := c3.args_len; simp; omega, fun r H10 f10 hr10 => ?_⟩
          have f810 := f9.trans f10
          refine q r H10 (c3.ap c8) xs8 pps8 ((f13.trans f8).trans f810.no) hr10 (by show c3.size + c8.size ≤ _; omega) (f810.kn hd8) (hi8.fr f810) hS8 (by omega)
    · rw [Bool.not_eq_true] at c
      rw [c]
      refine iteF (nextE ?_)
      dsimp only
      refine andE (c1 := decide (a = b)) (c2 := isC a.hd) (fun Q z => ?_) (fun _ Q z => ?_) ?_
      · refine ⟨_, rfl, _, rfl, _, _, ha, hb, fine_enc _, fine_enc _, ?_, ?_⟩
        · have := depth_enc a
          omega
        · rw [eqv_enc]
          exact ⟨_, rfl, z⟩
      · exact isi0B ha rfl z
      by_cases c2 : (decide (a = b) && isC a.hd) = true
      · rw [c2]
        refine iteT ⟨_, rfl, ?_⟩
        exact q _ _ a xs pps .refl ha (Nat.le_refl _) hd hi hS (by omega)
      · rw [Bool.not_eq_true] at c2
        rw [c2]
        refine iteF ⟨_, rfl, _, rfl, [enc a, enc b], .cons ha (.cons hb .nil), by show 2 ≤ 16000000; decide, fun w1 H1 f1 hw1 => ⟨_, rfl, prP (a, b), _, hw1.dp, .lst (SqL.of (f1.kn hd)) (IsAll.dp (hi.fr f1)), fine_lay (fine_prP _), fineA_lay (fineA_map fine_prP _), ?_, ?_⟩⟩
        · have := depth_prP (a, b)
          dsimp only at this
          omega
        · refine ⟨_, rfl, ?_⟩
          have hany : ((pps.map prP).any fun z => PyData.eqv z (prP (a, b))) = decide ((a, b) ∈ pps) := by
            rw [List.any_map, Bool.eq_iff_iff, List.any_eq_true, decide_eq_true_iff]
            constructor
            · rintro ⟨r, hr1, hr2⟩
              have hr2 : PyData.eqv (prP r) (prP (a, b)) = true := hr2
              rw [eqv_prP] at hr2
              exact of_decide_eq_true hr2 ▸ hr1
            · intro hm
              exact ⟨_, hm, by show PyData.eqv (prP (a, b)) (prP (a, b)) = true; rw [eqv_prP]; exact decide_eq_true rfl⟩
          rw [hany]
          by_cases hm : (a, b) ∈ pps
          · rw [decide_eq_true hm]
            refine iteF (nextE ?_)
            dsimp only
            exact common_ret (ha.fr f1) (hb.fr f1) (f1.kn hd) (hi.fr f1) hm hz1 hz2 fun w3 H3 j f3 hw3 => q w3 H3 _ xs pps (f1.trans f3).no hw3 a.size_pos (f3.kn (f1.kn hd)) ((hi.fr f1).fr f3) hS (by omega)
          · rw [decide_eq_false hm]
            refine iteT ⟨_, rfl, .inl ⟨rfl, _, SqL.of (f1.kn hd)⟩, _, rfl, _, rfl, [enc a, enc b], .cons (ha.fr f1) (.cons (hb.fr f1) .nil), by show 2 ≤ 16000000; decide, fun w2 H2 f2 hw2 => ⟨d, _, _, rfl, rfl, f2.kn (f1.kn hd), lt_line ?_, ?_⟩⟩
            · rw [hi.len, List.length_map]; omega
            · dsimp only
              have f12 := f1.trans f2
              have g2 : Fr (At d) H2 (upd H2 d (.lst (xs ++ [w2]))) := Fr.refl.mut rfl (f12.kn hd) fun z => z
              have g3 := f12.no.trans g2
              have hi2 : IsAll K (upd H2 d (.lst (xs ++ [w2]))) (xs ++ [w2]) ((pps ++ [(a, b)]).map prP) := by
                rw [List.map_append]
                exact (hi.fr g3).append (.cons (Is.fr g2 hw2) .nil)
              have hS2 : Sm (pps ++ [(a, b)]) := fun r hr => by
                rcases List.mem_append.mp hr with z | z
                · exact hS r z
                · rw [List.mem_singleton.mp z]; exact ⟨hz1, hz2⟩
              exact common_ret (ha.fr g3) (hb.fr g3) upd_same hi2 (by simp) hz1 hz2 fun w3 H3 j f3 hw3 => q w3 H3 _ _ (pps ++ [(a, b)]) (g3.trans f3.no) hw3 a.size_pos (f3.kn upd_same) (hi2.fr f3) hS2 (by rw [List.length_append]; have := a.size_pos; show pps.length + 1 ≤ _; omega)
/-- a term, two tuples of terms -/
def sp_generalize (K : PySem.W.Frag) (n : Nat) : Sp := fun vs H Q _ => ∃ v a u b, vs = [v, u] ∧ Tm K H v a ∧ Tm K H u b ∧ a.size ≤ n ∧ a.size ≤ 60 ∧ b.size ≤ 60 ∧
  ∀ (c : T) (pps : List (T × T)), c.size ≤ 60 → pps.length ≤ 60 → Sm pps → Rt K H Q (.tuple [enc c, .tuple (pps.map fun p => enc p.1), .tuple (pps.map fun p => enc p.2)])
theorem sc_generalize : FnScope ["first", "second", "pairs", "body", "pair"] ["first", "second"] (defScope Tx.s_generalize) := C8.fnScope_by (by decide +kernel)
theorem ok_generalize (Y : Hf K mg) (n : Nat) : Cl CX0 P w K mg base (n + 3) "generalize" (sp_generalize K n) := by
  refine Y.d_generalize.ok sc_generalize (fun vs H Q E h => ?_) (fun f cdv A outer s H vs Q E hr h => ?_)
  · obtain ⟨v, a, u, b, rfl, _⟩ := h; rfl
  have nd := sc_generalize.nd
  refine ⟨_, ((pss_cons (ps_set (i := 2) nd rfl (by first | exact .inl rfl | exact .inr rfl) (pe_lst pa_nil))
    (pss_cons (ps_set (i := 3) nd rfl (by first | exact .inl rfl | exact .inr rfl) (kc (ok_common Y n) hr (pa_cons (pv 0) (pa_cons (pv 1) (pa_cons (pv 2) pa_nil))) (hk := by omega)))
    (pss_one (ps_ret (pe_tupD (pa_cons (pv 3) (pa_cons (k_tup Y.z_tuple (pe_lc (own := [("pair", 4)]) (g := (gName 4)) (tt := tYes) (te := (tOp (rD K) (tVar 4) (tC (.int 0)))) rfl nd (pi_list (pv 2)) (blkOk_by (own := [("pair", 4)]) (N := ["first", "second", "pairs", "body", "pair"]) (sc := defScope Tx.s_generalize) (by decide +kernel)) (fun _ _ _ _ _ => (pg_name (i := 4) nd rfl (by first | exact .inl rfl | exact .inr rfl))) (fun _ _ _ _ _ => pts_nil) (fun _ _ _ _ _ => (pe_ix ix_d (pv 4) pe_int fun _ _ => rfl)))) (pa_cons (k_tup Y.z_tuple (pe_lc (own := [("pair", 4)]) (g := (gName 4)) (tt := tYes) (te := (tOp (rD K) (tVar 4) (tC (.int 1)))) rfl nd (pi_list (pv 2)) (blkOk_by (own := [("pair", 4)]) (N := ["first", "second", "pairs", "body", "pair"]) (sc := defScope Tx.s_generalize) (by decide +kernel)) (fun _ _ _ _ _ => (pg_name (i := 4) nd rfl (by first | exact .inl rfl | exact .inr rfl))) (fun _ _ _ _ _ => pts_nil) (fun _ _ _ _ _ => (pe_ix ix_d (pv 4) pe_int fun _ _ => rfl)))) pa_nil))))))))), ?_⟩
  obtain ⟨v, a, u, b, rfl, ha, hb, hn, hz1, hz2, q⟩ := h
  refine ⟨Nat.zero_le _, fun d hd => ?_⟩
  have f0 : Fr No H (upd H d (.lst [])) := Fr.new0 hd
  refine ⟨_, rfl, _, rfl, _, rfl, v, a, u, b, d, [], [], rfl, ha.fr f0, hb.fr f0, upd_same, .nil, hn, hz1, hz2, fun r hr => (nomatch hr), by simp; omega, fun w1 H1 c xs pps f1 hw1 hc hd1 hi hS hl => ?_⟩
  have f2 : Fr No H H1 := (f0.no.trans f1).less fun b hb _ => by rw [show b = d from hb]; exact hd
  rw [List.length_nil] at hl
  refine ⟨_, rfl, ⟨_, rfl, d, rfl, ⟨_, SqL.of hd1⟩, fun D hD => lcD (l := pps) (en := prP) (f := fun p => some (enc p.1)) (dwL (S := No) hd1 hi (fun z => z)) hD (by omega) (fun p x H3 yes no hm f4 hx hyes _ => ?_) fun H3 ys f4 hD3 hys => ?_⟩⟩
  · exact ⟨rfl, yesT ⟨_, rfl, _, 0, _, rfl, hx, rfl, fun y hy => hyes y H3 _ .refl hy rfl⟩⟩
  rw [fm_some] at hys
  refine ⟨D, ys, _, rfl, hD3, hys, fun r H4 f5 hr4 => ?_⟩
  have f45 := f4.trans f5
  refine ⟨_, rfl, d, rfl, ⟨_, SqL.of (f45.kn hd1)⟩, fun D2 hD2 => lcD (l := pps) (en := prP) (f := fun p => some (enc p.2)) (dwL (S := No) (f45.kn hd1) (hi.fr f45) (fun z => z)) hD2 (by omega) (fun p x H5 yes no hm f6 hx hyes _ => ?_) fun H5 ys2 f6 hD5 hys2 => ?_⟩
  · exact ⟨rfl, yesT ⟨_, rfl, _, 1, _, rfl, hx, rfl, fun y hy => hyes y H5 _ .refl hy rfl⟩⟩
  rw [fm_some] at hys2
  refine ⟨D2, ys2, _, rfl, hD5, hys2, fun r2 H6 f7 hr6 => ⟨_, .cons (hw1.fr ((f45.trans f6).trans f7)) (.cons (hr4.fr (f6.trans f7)) (.cons hr6 .nil)), by show 3 ≤ 16000000; decide, fun r3 H7 f8 hr7 => ?_⟩⟩
  exact q c pps (by omega) (by omega) hS r3 H7 ((((f2.trans f45).trans f6).trans f7).trans f8) hr7
end
end DF

/-! enumerate of a tuple: in a loop, and as a list -/
namespace DF
open PySem PySem.Spec PyProof.Rows L2
open PySem.W (KdxG)
theorem enum_no_len : typeLookup (.type "enumerate") "__len__" = pure none := am_miss_of_fast (by decide +kernel)
theorem enum_no_hint : typeLookup (.type "enumerate") "__length_hint__" = pure none := am_miss_of_fast (by decide +kernel)
theorem meets_enumerate_new1 {v : Value} {o : Obj} {H : Heap → Prop} (B : Begins v o H) :
    Meets (Builtin.«enumerate.__new__» ⟨[.type "enumerate", v], []⟩) (fun _ R s => H s.heap ∧
      R (.ok (.ret (.ref (s.heap.push o).objs.size))) { s with heap := (s.heap.push o).push { cls := .type "enumerate", data := .fields #[.none, .bool false, .ref s.heap.objs.size, rawInt 0, .none, .none] } }) :=
  .of_wp fun prog w A R s h => by
    obtain ⟨hp, g, d, tk, os⟩ := s; obtain ⟨h1, h⟩ := h
    have hsub := sub_enumerate
    have q1 : ∀ {A' : Around} {E : Value → Shared → Prop} {Q : Value → Shared → Prop}, Q (.ref hp.objs.size) ⟨hp.push o, g, d, tk, os⟩ → wpAny (model prog w) A' (pyIter v) Q E ⟨hp, g, d, tk, os⟩ :=
      fun q => B.iter prog w _ _ ⟨hp, g, d, tk, os⟩ _ h1 q
    wp_walk using q1
    refine wpAny_stack_any fun st => wpAny_pure ?_
    split
    · rename_i c _ _ _ _ _
      cases (c == Value.type "enumerate")
      · wp_walk using q1
        exact ⟨_, rfl, h⟩
      · wp_walk using q1
        exact ⟨_, rfl, h⟩
    · wp_walk using q1
      exact ⟨_, rfl, h⟩
section
variable {prog : Program} {w : World} {A : Around} {E : Value → Shared → Prop} {s : Shared}
theorem call_enumerate_tuple {t : Addr} {items : Array Value} {Q : Value → Shared → Prop} (hL : s.heap.IsTuple t items)
    (h : ∀ h', IsEnum h' (s.heap.objs.size + 1) s.heap.objs.size 0 .none → h'.IsTupleIter s.heap.objs.size t 0 → h'.objs.size = s.heap.objs.size + 2 →
      (∀ b o, s.heap.get? b = some o → h'.get? b = some o) → Q (.ref (s.heap.objs.size + 1)) { s with heap := h' }) :
    wpAny (model prog w) A (call (.type "enumerate") [.ref t]) Q E s := by
  refine callType_new F.called_enumerate (by decide) (F.typeCall_enumerate_1 _) (F.newCall_enumerate_1 _) (fun obj => F.args_object_init_2 obj _) F.entry_enumerate_new
    (meets_enumerate_new1 (begins_tuple t items)) ⟨hL, ?_⟩
  have hz : (s.heap.push { cls := .type "tuple_iterator", data := .fields #[.ref t, .int 0 0] }).objs.size = s.heap.objs.size + 1 := Heap.size_push ..
  show _ ∧ _
  rw [hz]
  have he : IsEnum ((s.heap.push { cls := .type "tuple_iterator", data := .fields #[.ref t, .int 0 0] }).push
      { cls := .type "enumerate", data := .fields #[.none, .bool false, .ref s.heap.objs.size, rawInt 0, .none, .none] }) (s.heap.objs.size + 1) s.heap.objs.size 0 .none := by
    have := Heap.get?_push_size (s.heap.push { cls := .type "tuple_iterator", data := .fields #[.ref t, .int 0 0] })
      (o := { cls := .type "enumerate", data := .fields #[.none, .bool false, .ref s.heap.objs.size, rawInt 0, .none, .none] }) rfl
    rw [hz] at this; exact this
  refine ⟨⟨_, he, rfl⟩, h _ he ⟨_, Heap.get?_push_of_some _ (Heap.get?_push_size _ rfl), rfl, rfl⟩ (by rw [Heap.size_push, hz]) fun b o x => Heap.get?_push_of_some _ (Heap.get?_push_of_some _ x)⟩
end
/-! ### in a loop -/
def IteT (K : PySem.W.Frag) (a : Addr) : It :=
  ⟨fun i H => ∃ (xs : List V) (x : V), SqT K H a xs ∧ xs[i]? = some x, fun i H v H' => ∃ T x, v = .ref T ∧ H T = none ∧ H' = upd H T (.tup [.int (i : Nat), x]) ∧ ∀ xs, SqT K H a xs → xs[i]? = some x, fun i H => ∃ xs : List V, SqT K H a xs ∧ xs.length ≤ i⟩
theorem turn_enumT {P : Program} {w : World} {K : PySem.W.Frag} {elts : List Expr} {kk : Nat} {tpos : Pos} (a e it : Addr) (hae : a ≠ e) (hai : a ≠ it) :
    Turn P w K (.Tuple elts kk tpos) (IteT K a) [e, it] e (fun i h => (∃ old, IsEnum h e it ((i : Nat) : Int) old) ∧ h.IsTupleIter it a i ∧ e ≠ it) where
  mem := by simp
  obj := fun i h st b hb => by
    obtain ⟨⟨old, he⟩, ⟨o, ho, hc, hd⟩, _⟩ := st
    have e' : b = e ∨ b = it := by simpa using hb
    rcases e' with z | z
    · rw [z]; exact ⟨_, he, fun v q => nomatch q⟩
    · rw [z]; exact ⟨o, ho, fun v q => by rw [hd] at q; cases q⟩
  keep := fun i h h' st k => let ⟨⟨old, he⟩, hi, hne⟩ := st; ⟨⟨old, k e (by simp) _ he⟩, hi.at fun o q => k it (by simp) o q, hne⟩
  item := by
    intro X hP hw hK hc i pins s σ H E I hf st hg
    subst hP hw hK
    obtain ⟨⟨old, he⟩, hit, hne⟩ := st
    obtain ⟨xs, x, hq, hx⟩ := hg
    obtain ⟨its, rv, p, hz⟩ := I.tuple hq
    obtain ⟨u, hu, ru⟩ := rv.get hx
    have hlt : i < its.length := by
      rcases Nat.lt_or_ge i its.length with h | h
      · exact h
      · rw [List.getElem?_eq_none h] at hu; cases hu
    have hel : e < s.heap.objs.size := Heap.lt_size he
    have hil : it < s.heap.objs.size := by obtain ⟨_, q, _⟩ := hit; exact Heap.lt_size q
    have D := Draws.tuple (prog := X.prog) (w := X.w) (A := X.A.in1) (I.ok.hd hc) it a hai its.toArray
    refine wpAny_pyNext_enum_itemC (i := i) D he ⟨hit, show s.heap.IsTuple a its.toArray from p⟩ (by simpa using hlt) hne (by simp [hne, hae.symm]) fun x' h' tk hPx ho hst' hT hsz hk => ?_
    have ex : x' = u := by
      have e1 : its[i]? = some x' := by simpa using hPx
      rw [hu] at e1
      exact (Option.some.inj e1).symm
    subst ex
    obtain ⟨hit', _⟩ := hst'
    refine ⟨_, rfl, wpAny_letOwnedTupleGo_enum (s := { s with heap := h', toks := tk + 1 }) ho fun h'' he' sb => ?_⟩
    have hT2 : h''.get? s.heap.objs.size = some { cls := .type "tuple", data := .seq #[.int i tk, x'] } := (sb.2 _ (Nat.ne_of_gt hel)).trans hT
    have new : ObjOk X.prog X.w (upd H s.heap.objs.size (.tup [.int (i : Nat), x])) h'' s.heap.objs.size (.tup [.int (i : Nat), x]) :=
      ⟨by show 2 ≤ sizeLine; decide, [.int i tk, x'], .cons ⟨_, rfl⟩ (.cons ru .nil), ⟨_, hT2, rfl, _, rfl⟩⟩
    have I1 : Inv X pins σ (upd H s.heap.objs.size (.tup [.int (i : Nat), x])) { s with heap := h'', toks := tk + 1 } :=
      I.turnedNew (ch := [e, it]) (fun b ob hb q => (sb.2 b (fun z => hb (by simp [z]))).trans (hk b ob (fun z => hb (by simp [z])) (fun z => hb (by simp [z])) q)) hf (Nat.le_refl _) new
    refine ⟨.ref s.heap.objs.size, _, I1, rfl, ⟨_, x, rfl, I.hok.fresh (Nat.le_refl _), rfl, fun ys hy => by rw [I.tuple_inj hy hq]; exact hx⟩, ⟨⟨x', ?_⟩, hit'.at fun o q => (sb.2 it (Ne.symm hne)).trans q, hne⟩, fun b hb => ?_⟩
    · have e1 : ((i + 1 : Nat) : Int) = (i : Int) + 1 := by omega
      rw [e1]; exact he'
    · have hb' : b < s.heap.objs.size := by
        have e' : b = e ∨ b = it := by simpa using hb
        rcases e' with z | z
        · rw [z]; exact hel
        · rw [z]; exact hil
      rw [upd_ne (Nat.ne_of_lt hb')]
      exact (hf b hb).1
  done := by
    intro X hP hw hK hc i pins s σ H E I hf st hg
    subst hP hw hK
    obtain ⟨⟨old, he⟩, hit, hne⟩ := st
    obtain ⟨xs, hq, hx⟩ := hg
    obtain ⟨its, rv, p, hz⟩ := I.tuple hq
    obtain ⟨f0, f1, f2, f3, f4, f5⟩ := hf it (by simp)
    have hl := rv.length
    unfold pyNext
    have hT : s.TypeIs (.ref e) "enumerate" := ⟨_, he, rfl⟩
    refine wpAny_bind (wpAny_attempt (wpAny_callSpecial?_slot (name := Str.ofString "__next__") hT F.slot_enumerate_next
      (wpAny_call_entry F.slot_enumerate_next hT F.entry_enumerate_next ?_ (F.args_enumerate_next_1 _))))
    show wpAny _ _ (field (.ref e) 2 >>= _) _ _ _
    refine wpAny_bind (wpAny_field he rfl (x := .ref it) rfl ?_)
    refine wpAny_bind (wpAny_nextOf_tuple_end (I.ok.hd hc) hit (show s.heap.IsTuple a its.toArray from p) (by simp; omega) fun h' x he' hx' => ?_)
    obtain ⟨o, ho, hc'⟩ := hx'
    refine wpAny_bind (wpAny_isInstance (T := "StopIteration") (b := true) ⟨o, ho, hc'⟩ isSubtype_stop ?_)
    exact wpAny_pure ⟨rfl, I.turned (t' := s.toks) (fun b o hb q => he' b o hb q) f0 f1 f3 f4 f5⟩
  self := fun A i s Q E st h => let ⟨⟨_, he⟩, _⟩ := st; wpAny_pyIter_enum he h
def iEnumT (K : PySem.W.Frag) (ta : TA) : TI := fun σ H R => ta σ H fun vs H1 => ∃ a xs, vs = [.ref a] ∧ SqT K H1 a xs ∧ R (IteT K a) H1
theorem pi_enumT {X : Cx} {e : Expr} {ta : TA} {p pos tpos : Pos} {elts : List Expr} {kk : Nat} (hg : Gl X "enumerate") (hm : X.mg "enumerate" = none) (ha : PA X [e] ta) (hs : starEach [e] X.env = [(false, eval e X.env)] := by rfl) :
    PI X (.Tuple elts kk tpos) (.Call (.Name "enumerate" p) [e] [] pos) (iEnumT X.K ta) := by
  refine ⟨fun pins s σ H R I h => ?_⟩
  refine Call_ (ld_blt I hg hm boot_enumerate (PyProof.Rows.callWith_type1 (thn (ha.run pos pins s σ H _ I h) fun us s1 ⟨vs, H1, I1, r1, q1⟩ => ?_) hs rfl))
  obtain ⟨a, xs, ex, hq, q⟩ := q1
  subst ex
  cases r1 with
  | cons r rr =>
    cases rr
    cases r
    obtain ⟨its, rv, p', hz⟩ := I1.tuple hq
    have hal : a < s1.heap.objs.size := let ⟨_, ho, _⟩ := p'; Heap.lt_size ho
    refine call_enumerate_tuple (show s1.heap.IsTuple a its.toArray from p') fun h' he hit hsz hk => wpAny_pyIter_enum he ?_
    have I2 : Inv X pins σ H1 { s1 with heap := h' } := I1.kept (t' := s1.toks) hk
    refine ⟨s1.heap.objs.size + 1, [s1.heap.objs.size + 1, s1.heap.objs.size], _, _, H1, rfl, I2, turn_enumT a (s1.heap.objs.size + 1) s1.heap.objs.size (Nat.ne_of_lt (Nat.lt_succ_of_lt hal)) (Nat.ne_of_lt hal), ⟨⟨.none, he⟩, hit, Nat.succ_ne_self _⟩, fun b hb => ?_, q⟩
    have e' : b = s1.heap.objs.size + 1 ∨ b = s1.heap.objs.size := by simpa using hb
    have hle : s1.heap.objs.size ≤ b := by
      rcases e' with z | z
      · rw [z]; exact Nat.le_add_right _ _
      · rw [z]; exact Nat.le_refl _
    exact I1.fpOk hle (I1.hok.fresh hle)
def enD (n : Nat) : List PyData → List PyData
  | [] => []
  | d :: ds => .tuple [.int (n : Nat), d] :: enD (n + 1) ds
theorem enD_len : ∀ (ds : List PyData) (n : Nat), (enD n ds).length = ds.length
  | [], _ => rfl
  | d :: ds, n => by show (enD (n + 1) ds).length + 1 = ds.length + 1; rw [enD_len ds]
theorem enD_get : ∀ (ds : List PyData) (n i : Nat) (d : PyData), ds[i]? = some d → (enD n ds)[i]? = some (.tuple [.int ((n + i : Nat) : Int), d])
  | [], _, _, _, h => by simp at h
  | a :: _, n, 0, d, h => by
    have h : a = d := by simpa using h
    subst h
    rfl
  | _ :: ds, n, i + 1, d, h => by
    have := enD_get ds (n + 1) i d (by simpa using h)
    show (enD (n + 1) ds)[i]? = _
    rw [this, Nat.add_right_comm, Nat.add_assoc]
theorem dwEt {K : PySem.W.Frag} {S : Addr → Prop} {H1 : Hp} {a : Addr} {xs : List V} {ds : List PyData} (h : Tp K H1 a xs) (hi : IsAll K H1 xs ds) : DW K S (IteT K a) H1 (enD 0 ds) := by
  have hl := hi.len
  refine ⟨fun i H hlt f => ?_, fun H f => ⟨xs, (h.fr f).sq, by rw [enD_len]; omega⟩, fun i H v H' hlt f y => ?_⟩
  · rw [enD_len] at hlt
    exact ⟨xs, xs[i], (h.fr f).sq, List.getElem?_eq_getElem (by omega)⟩
  · obtain ⟨T, x, rfl, hT, rfl, g⟩ := y
    have hx := g xs (h.fr f).sq
    obtain ⟨d, hd, hxd⟩ := (hi.fr f).get hx
    have f2 : Fr No H (upd H T (.tup [.int (i : Nat), x])) := Fr.new0 hT
    exact ⟨f2, _, enD_get ds 0 i d hd, .tup (.of upd_same) (.cons (by rw [Nat.zero_add]; exact .int _) (.cons (hxd.fr f2) .nil))⟩
/-! ### as a list -/
open PySem.W (kdx_alive)
def enK (n : Nat) : List Value → List (Key × Value)
  | [] => []
  | x :: xs => (.inl (n : Nat), x) :: enK (n + 1) xs
theorem enK_len : ∀ (ds : List Value) (n : Nat), (enK n ds).length = ds.length
  | [], _ => rfl
  | d :: ds, n => by show (enK (n + 1) ds).length + 1 = ds.length + 1; rw [enK_len ds]
theorem enK_get : ∀ (ds : List Value) (n i : Nat) (d : Value), ds[i]? = some d → (enK n ds)[i]? = some (.inl ((n + i : Nat) : Int), d)
  | [], _, _, _, h => by simp at h
  | a :: _, n, 0, d, h => by
    have h : a = d := by simpa using h
    subst h
    rfl
  | _ :: ds, n, i + 1, d, h => by
    have := enK_get ds (n + 1) i d (by simpa using h)
    show (enK (n + 1) ds)[i]? = _
    rw [this, Nat.add_right_comm, Nat.add_assoc]
section
variable {prog : Program} {w : World} {A : Around} {E : Value → Shared → Prop} {s : Shared}
theorem enum_next_held {e it T : Addr} {fp : List Addr} {n i : Nat} {P : Nat → Value → Prop} {St : Nat → Heap → Prop} {old : Value} {f : Bool} {oT : Obj} {Q : Value → Shared → Prop}
    (D : Draws prog w A it fp n P St) (he : IsEnumHeld s.heap e it (i : Int) old T f) (hT : s.heap.get? T = some oT) (hTe : T ≠ e) (hTi : T ≠ it) (hst : St i s.heap) (hlt : i < n) (hne : e ≠ it) (hef : e ∉ fp)
    (hQ : ∀ x h' tk, P i x → IsEnumHeld h' e it ((i : Int) + 1) old T true → St (i + 1) h' →
      h'.get? s.heap.objs.size = some { cls := .type "tuple", data := .seq #[.int i tk, x] } → h'.objs.size = s.heap.objs.size + 1 →
      (∀ b o, b ≠ e → b ≠ it → s.heap.get? b = some o → h'.get? b = some o) → Q (.ref s.heap.objs.size) { s with heap := h', toks := tk + 1 }) :
    wpAny (model prog w) A (Builtin.«enumerate.__next__» ⟨[.ref e], []⟩) (fun fin s' => ∃ v, fin = .done (.ret v) ∧ Q v s') E s := by
  obtain ⟨hp, g, d, tk₀, os⟩ := s
  show wpAny _ _ (field (.ref e) 2 >>= _) _ _ _
  refine wpAny_bind (wpAny_field he rfl (x := .ref it) rfl ?_)
  refine wpAny_bind (D.item i _ _ _ hlt hst fun x h₁ tk hPx hit₁ hs₁ => ?_)
  replace hs₁ : Heap.SameBut it hp h₁ := hs₁
  have he₁ : IsEnumHeld h₁ e it (i : Int) old T f := (hs₁.2 e hne).trans he
  show wpAny _ _ (field (.ref e) 3 >>= _) _ _ ⟨h₁, g, d, tk, os⟩
  refine wpAny_bind (wpAny_field he₁ rfl (x := rawInt (i : Int)) rfl ?_)
  show wpAny _ _ (field (.ref e) 4 >>= _) _ _ ⟨h₁, g, d, tk, os⟩
  refine wpAny_bind (wpAny_field he₁ rfl (x := .none) rfl ?_)
  show wpAny _ _ (mkInt (i : Int) >>= _) _ _ ⟨h₁, g, d, tk, os⟩
  refine wpAny_bind (wpAny_mkInt ?_)
  show wpAny _ _ (setField (.ref e) 3 (rawInt ((i : Int) + 1)) >>= _) _ _ ⟨h₁, g, d, tk + 1, os⟩
  refine wpAny_bind (wpAny_setField_rec he₁ (by simp) fun h₂ he₂ hs₂ => ?_)
  replace hs₂ : Heap.SameBut e h₁ h₂ := hs₂
  replace he₂ : IsEnumHeld h₂ e it ((i : Int) + 1) old T f := he₂
  show wpAny _ _ (setField (.ref e) 4 .none >>= _) _ _ ⟨h₂, g, d, tk + 1, os⟩
  refine wpAny_bind (wpAny_setField_rec he₂ (by simp) fun h₃ he₃ hs₃ => ?_)
  replace hs₃ : Heap.SameBut e h₂ h₃ := hs₃
  replace he₃ : IsEnumHeld h₃ e it ((i : Int) + 1) old T f := he₃
  show wpAny _ _ (newTuple [.int (i : Int) tk, x] >>= _) _ _ ⟨h₃, g, d, tk + 1, os⟩
  refine wpAny_bind (wpAny_newTuple ?_)
  have he₄ : IsEnumHeld (h₃.push { cls := .type "tuple", data := .seq #[.int i tk, x] }) e it ((i : Int) + 1) old T f := Heap.get?_push_of_some _ he₃
  generalize hh₄ : h₃.push { cls := .type "tuple", data := .seq #[.int i tk, x] } = h₄ at he₄
  have hsz : h₃.objs.size = hp.objs.size := by rw [hs₃.1, hs₂.1, hs₁.1]
  have hel : e < hp.objs.size := Heap.lt_size he
  have ht₄ : h₄.get? hp.objs.size = some { cls := .type "tuple", data := .seq #[.int i tk, x] } := by rw [← hh₄, ← hsz]; exact Heap.get?_push_size _ rfl
  have hz₄ : h₄.objs.size = hp.objs.size + 1 := by rw [← hh₄, Heap.size_push, hsz]
  have hk₄ : ∀ b o, b ≠ e → b ≠ it → hp.get? b = some o → h₄.get? b = some o := fun b o hbe hbi hb => by
    rw [← hh₄]; exact Heap.get?_push_of_some _ (hs₃.extBut b o hbe (hs₂.extBut b o hbe (hs₁.extBut b o hbi hb)))
  have hit₄ : St (i + 1) h₄ := D.frame _ _ _ hit₁ fun b hb o y => by
    have hbe : b ≠ e := fun q => hef (q ▸ hb)
    rw [← hh₄]; exact Heap.get?_push_of_some _ (hs₃.extBut b o hbe (hs₂.extBut b o hbe y))
  show wpAny _ _ (Builtin.SmallTypes.ownedTupleIsFree (.ref e) >>= _) _ _ ⟨h₄, g, d, tk + 1, os⟩
  rw [hsz]
  clear hh₄ he₃ hs₃ he₂ hs₂ he₁ hs₁ hit₁ hsz h₃ h₂ h₁
  refine wpAny_bind (wpAny_tupleHeld_enum (s := ⟨h₄, g, d, tk + 1, os⟩) he₄ (hk₄ T oT hTe hTi hT) fun h₅ he₅ hs₅ => ?_)
  replace hs₅ : Heap.SameBut e h₄ h₅ := hs₅
  simp only [Bool.false_eq_true, if_false]
  refine wpAny_pure ⟨_, rfl, hQ x h₅ tk hPx he₅ (D.frame _ _ _ hit₄ fun b hb o y => hs₅.extBut b o (fun q => hef (q ▸ hb)) y) (hs₅.extBut _ _ (Nat.ne_of_gt hel) ht₄) ?_ fun b o hbe hbi hb => hs₅.extBut b o hbe (hk₄ b o hbe hbi hb)⟩
  show h₅.objs.size = hp.objs.size + 1
  rw [hs₅.1, hz₄]
/-- the enumerator e over the tuple t, i given; S stands apart -/
def EnSt (h : Heap) (e it t S : Addr) (items : Array Value) (i : Nat) : Prop :=
  h.IsTupleIter it t i ∧ h.IsTuple t items ∧ ((∃ old, IsEnum h e it (i : Int) old) ∨ ∃ old T f oT, IsEnumHeld h e it (i : Int) old T f ∧ h.get? T = some oT ∧ T ≠ e ∧ T ≠ it ∧ T ≠ S)
theorem EnSt.keep {h h' : Heap} {e it t S : Addr} {items : Array Value} {i : Nat} (x : EnSt h e it t S items i) (hk : ∀ b o, b ≠ S → h.get? b = some o → h'.get? b = some o) (h1 : e ≠ S) (h2 : it ≠ S) (h3 : t ≠ S) : EnSt h' e it t S items i := by
  obtain ⟨a, b, c⟩ := x
  refine ⟨a.at fun o q => hk it o h2 q, b.at fun o q => hk t o h3 q, ?_⟩
  rcases c with ⟨old, c⟩ | ⟨old, T, f, oT, c1, c2, c3, c4, c5⟩
  · exact .inl ⟨old, hk _ _ h1 c⟩
  · exact .inr ⟨old, T, f, oT, hk _ _ h1 c1, hk _ _ c5 c2, c3, c4, c5⟩
theorem en_item {e it t S : Addr} {items : Array Value} {i : Nat} {x : Value} {Q : Option Value → Shared → Prop} (hh : A.handled = none) (hst : EnSt s.heap e it t S items i) (hx : items[i]? = some x) (hS : S < s.heap.objs.size) (hei : e ≠ it) (hti : t ≠ it) (hte : t ≠ e)
    (hQ : ∀ h' tk, EnSt h' e it t S items (i + 1) → h'.get? s.heap.objs.size = some { cls := .type "tuple", data := .seq #[.int i tk, x] } → h'.objs.size = s.heap.objs.size + 1 →
      (∀ b o, b ≠ e → b ≠ it → s.heap.get? b = some o → h'.get? b = some o) → Q (some (.ref s.heap.objs.size)) { s with heap := h', toks := tk + 1 }) : wpAny (model prog w) A (pyNext (.ref e)) Q E s := by
  obtain ⟨hit, ht, hc⟩ := hst
  have hlt : i < items.size := by
    rcases Nat.lt_or_ge i items.size with h | h
    · exact h
    · rw [Array.getElem?_eq_none h] at hx; cases hx
  have D := Draws.tuple (prog := prog) (w := w) (A := A.in1) hh it t hti items
  have hef : e ∉ [it, t] := by simp [hei, hte.symm]
  have ecast : ((i + 1 : Nat) : Int) = (i : Int) + 1 := by omega
  have hil : it < s.heap.objs.size := by obtain ⟨_, q, _⟩ := hit; exact Heap.lt_size q
  rcases hc with ⟨old, he⟩ | ⟨old, T, f, oT, he, hT, r1, r2, r3⟩
  · have hel : e < s.heap.objs.size := Heap.lt_size he
    refine wpAny_pyNext_enum_itemC (i := i) D he ⟨hit, ht⟩ hlt hei hef fun x' h' tk hP ho hst' hT' hsz hk => ?_
    rw [hx] at hP
    cases hP
    exact hQ h' tk ⟨hst'.1, hst'.2, .inr ⟨_, _, false, _, by rw [ecast]; exact ho, hT', Nat.ne_of_gt hel, Nat.ne_of_gt hil, Nat.ne_of_gt hS⟩⟩ hT' hsz hk
  · have hTy : s.TypeIs (.ref e) "enumerate" := ⟨_, he, rfl⟩
    unfold pyNext
    refine wpAny_bind (wpAny_attempt (wpAny_callSpecial?_slot (name := Str.ofString "__next__") hTy F.slot_enumerate_next
      (wpAny_call_entry F.slot_enumerate_next hTy F.entry_enumerate_next
        (enum_next_held D he hT r1 r2 ⟨hit, ht⟩ hlt hei hef fun x' h' tk hP ho hst' hT' hsz hk => wpAny_pure ?_) (F.args_enumerate_next_1 _))))
    rw [hx] at hP
    cases hP
    exact hQ h' tk ⟨hst'.1, hst'.2, .inr ⟨_, T, true, oT, by rw [ecast]; exact ho, hk _ _ r1 r2 hT, r1, r2, r3⟩⟩ hT' hsz hk
theorem en_done {e it t S : Addr} {items : Array Value} {i : Nat} {Q : Option Value → Shared → Prop} (hh : A.handled = none) (hst : EnSt s.heap e it t S items i) (hx : items[i]? = none)
    (hQ : ∀ h', Heap.ExtBut it s.heap h' → Q none { s with heap := h' }) : wpAny (model prog w) A (pyNext (.ref e)) Q E s := by
  obtain ⟨hit, ht, hc⟩ := hst
  have key : ∀ {f1 f2 f5 : Value}, s.heap.get? e = some { cls := .type "enumerate", dict := none, data := .fields #[f1, f2, .ref it, rawInt (i : Int), .none, f5], slots := #[] } → wpAny (model prog w) A (pyNext (.ref e)) Q E s := by
    intro f1 f2 f5 he
    have hT : s.TypeIs (.ref e) "enumerate" := ⟨_, he, rfl⟩
    unfold pyNext
    refine wpAny_bind (wpAny_attempt (wpAny_callSpecial?_slot (name := Str.ofString "__next__") hT F.slot_enumerate_next
      (wpAny_call_entry F.slot_enumerate_next hT F.entry_enumerate_next ?_ (F.args_enumerate_next_1 _))))
    show wpAny _ _ (field (.ref e) 2 >>= _) _ _ _
    refine wpAny_bind (wpAny_field he rfl (x := .ref it) rfl ?_)
    refine wpAny_bind (wpAny_nextOf_tuple_end hh hit ht hx fun h' x he' hx' => ?_)
    obtain ⟨o, ho, hc'⟩ := hx'
    refine wpAny_bind (wpAny_isInstance (T := "StopIteration") (b := true) ⟨o, ho, hc'⟩ isSubtype_stop ?_)
    exact wpAny_pure (hQ _ he')
  rcases hc with ⟨old, he⟩ | ⟨old, T, f, oT, he, _⟩
  · exact key he
  · exact key he
end
section
variable {prog : Program} {w : World} {A : Around} {s : Shared} {R : Result → Shared → Prop}
theorem en_loop {S I it t : Addr} {items : List Value} (hh : A.handled = none) (hne : S ≠ I) (hSt : t ≠ S) (hSit : it ≠ S) (hIt : I ≠ it) (htit : t ≠ it) (htI : t ≠ I) (hn : items.length ≤ sizeLine) (res : Value) (lo : Addr) {h₁ : Heap}
    (hR : ∀ h' tk acc c as, (∀ b o, b ≠ S → b ≠ I → b ≠ it → h₁.get? b = some o → h'.get? b = some o) → h'.get? S = some { cls := .type "list", dict := none, data := .seq acc c, slots := #[] } → as.length = items.length → KdxG (mixKind prog w) (enK 0 items) lo h' as →
      acc.toList = as.map Value.ref → R (.ok (.ret res)) { s with heap := h', toks := tk }) (hlo1 : S ≤ lo) (hlo2 : I ≤ lo) (hlo3 : it ≤ lo) :
    ∀ (k i : Nat) (h : Heap) (tk c : Nat) (acc : Array Value) (as : List Addr), items.length - i = k → i ≤ items.length → EnSt h I it t S items.toArray i → (∀ b o, b ≠ S → b ≠ I → b ≠ it → h₁.get? b = some o → h.get? b = some o) →
      h.get? S = some { cls := .type "list", dict := none, data := .seq acc c, slots := #[] } → acc.toList = as.map Value.ref → as.length = i → KdxG (mixKind prog w) (enK 0 items) lo h as → lo < h.objs.size →
      codeAny (model prog w) A (.builtin "list.extend.loop" ⟨[.ref S, .ref I, res], []⟩) R { s with heap := h, toks := tk } := by
  intro k
  induction k with
  | zero =>
    intro i h tk c acc as hk hi hst hkeep hS hacc hal hG hIs
    have hin : i = items.length := by omega
    refine codeAny_builtin PySem.F.entry_extend_loop ?_
    rw [Around.under_plainId PySem.F.plain_extend_loop _]
    show wpAny _ A.in1 (pyNext (.ref I) >>= _) _ _ _
    refine wpAny_bind (en_done (s := { s with heap := h, toks := tk }) (A := A.in1) hh hst (by simp; omega) fun h' he => ?_)
    refine wpAny_pure (hR h' tk acc c as (fun b o h1 h2 h3 e => he b o h3 (hkeep b o h1 h2 h3 e)) (he S _ (Ne.symm hSit) hS) (by omega) ⟨hG.rise, hG.above, fun j a hj => ?_⟩ hacc)
    obtain ⟨key, kk, x, e1, e2, e3⟩ := hG.pairs j a hj
    have hb := hG.above a (List.mem_of_getElem? hj)
    exact ⟨key, kk, x, e1, e2, he a _ (Nat.ne_of_gt (Nat.lt_of_le_of_lt hlo3 hb)) e3⟩
  | succ k ih =>
    intro i h tk c acc as hk hi hst hkeep hS hacc hal hG hIs
    have hlt : i < items.length := by omega
    have hx : items.toArray[i]? = some items[i] := by simp [hlt]
    have hsz : acc.size = i := by rw [← Array.length_toList, hacc, List.length_map, hal]
    refine codeAny_builtin PySem.F.entry_extend_loop ?_
    rw [Around.under_plainId PySem.F.plain_extend_loop _]
    show wpAny _ A.in1 (pyNext (.ref I) >>= _) _ _ _
    refine wpAny_bind (en_item (s := { s with heap := h, toks := tk }) (A := A.in1) hh hst hx (Heap.lt_size hS) hIt htit htI fun h' tk' hst' ht hz hkp => ?_)
    dsimp only at ht hz hkp ⊢
    have hS' := hkp S _ hne (Ne.symm hSit) hS
    have up : ∀ b o, b ≠ S → h'.get? b = some o → (h'.update S (Obj.mapSeq (·.push (Value.ref h.objs.size)))).get? b = some o := fun b o hb e => (Heap.get?_update_other _ _ (Ne.symm hb)).trans e
    have hSl : S < h.objs.size := Heap.lt_size hS
    show wpAny _ A.in1 (updateSeq S (·.push (Value.ref h.objs.size)) >>= _) _ _ _
    refine wpAny_bind ?_
    refine wpAny_updateSeq hS' rfl (wpAny_pure ⟨plainId_quiet PySem.F.plain_extend_loop _, ih (i + 1) _ (tk' + 1) _ (acc.push (Value.ref h.objs.size)) (as ++ [h.objs.size]) (by omega) hlt (hst'.keep up (Ne.symm hne) hSit hSt)
      (fun b o h1 h2 h3 e => up b o h1 (hkp b o h2 h3 (hkeep b o h1 h2 h3 e))) (Heap.get?_update_self _ hS' rfl) (by rw [Array.toList_push, hacc, List.map_append]; rfl) (by rw [List.length_append, hal]; rfl) ⟨?_, ?_, ?_⟩ ?_⟩) (by rw [hsz]; omega) (by show (acc.push (Value.ref h.objs.size)).size ≤ sizeLine + 1; rw [Array.size_push, hsz]; omega)
    · refine List.pairwise_append.mpr ⟨hG.rise, List.pairwise_singleton _ _, fun a ha b hb => ?_⟩
      rw [List.mem_singleton.mp hb]
      exact hG.there ha
    · intro a ha
      rcases List.mem_append.mp ha with ha | ha
      · exact hG.above a ha
      · rw [List.mem_singleton.mp ha]; exact hIs
    · intro j b hj
      rcases Nat.lt_trichotomy j as.length with h1 | h1 | h1
      · rw [List.getElem?_append_left h1] at hj
        obtain ⟨key', k', x', e1, e2, e3⟩ := hG.pairs j b hj
        have hb := hG.above b (List.mem_of_getElem? hj)
        exact ⟨key', k', x', e1, e2, up b _ (Nat.ne_of_gt (Nat.lt_of_le_of_lt hlo1 hb)) (hkp b _ (Nat.ne_of_gt (Nat.lt_of_le_of_lt hlo2 hb)) (Nat.ne_of_gt (Nat.lt_of_le_of_lt hlo3 hb)) e3)⟩
      · subst h1
        have hb : h.objs.size = b := by simpa using hj
        subst hb
        refine ⟨.int i tk', .inl (i : Int), items[i], ?_, ?_, up _ _ (Nat.ne_of_gt hSl) ht⟩
        · rw [hal]
          have := enK_get items 0 i items[i] (List.getElem?_eq_getElem hlt)
          rw [Nat.zero_add] at this
          exact this
        · show keyIs (.inl (i : Int)) (.int (i : Int) tk') = true
          simp [keyIs, Value.isInt]
      · have hnone : (as ++ [h.objs.size])[j]? = none := List.getElem?_eq_none (by rw [List.length_append, List.length_singleton]; omega)
        rw [hnone] at hj; cases hj
    · have e : (h'.update S (Obj.mapSeq (·.push (Value.ref h.objs.size)))).get? h.objs.size = _ := up _ _ (Nat.ne_of_gt hSl) ht
      exact Nat.lt_trans hIs (Heap.lt_size e)
theorem en_extend {e it t : Addr} {items : List Value} (hh : A.handled = none) (he : IsEnum s.heap e it 0 .none) (hit : s.heap.IsTupleIter it t 0) (ht : s.heap.IsTuple t items.toArray) (hei : e ≠ it) (hti : t ≠ it) (hte : t ≠ e)
    (S : Addr) (hSe : e < S) (hSi : it < S) (hSt : t < S) (res : Value) (c₀ : Nat) (hS : s.heap.get? S = some { cls := .type "list", data := .seq #[] c₀ })
    (hR : ∀ h' tk acc c as, (∀ b o, b ≠ S → b ≠ e → b ≠ it → s.heap.get? b = some o → h'.get? b = some o) → h'.get? S = some { cls := .type "list", dict := none, data := .seq acc c, slots := #[] } → as.length = items.length → KdxG (mixKind prog w) (enK 0 items) S h' as →
      acc.toList = as.map Value.ref → R (.ok (.ret res)) { s with heap := h', toks := tk }) (hn : items.length ≤ sizeLine) :
    wpAny (model prog w) A.in1 (Builtin.List.listExtendWith (.ref S) (.ref e) res)
      (fun fin s' => match fin with | .done f => R (.ok f) s' | .again c' => c'.quiet = true ∧ codeAny (model prog w) A c' R s') (fun e s' => R (.error e) s') s := by
  have hSse : S ≠ e := Nat.ne_of_gt hSe
  have hSsi : S ≠ it := Nat.ne_of_gt hSi
  have hSst : S ≠ t := Nat.ne_of_gt hSt
  have hTy : s.TypeIs (.ref e) "enumerate" := ⟨_, he, rfl⟩
  have hSl : S < s.heap.objs.size := Heap.lt_size hS
  have key : ∀ (h : Heap) (c₁ tk : Nat), (∀ b o, b ≠ S → s.heap.get? b = some o → h.get? b = some o) →
      h.get? S = some { cls := .type "list", data := .seq #[] c₁ } → codeAny (model prog w) A (.builtin "list.extend.loop" ⟨[.ref S, .ref e, res], []⟩) R { s with heap := h, toks := tk } := by
    intro h c₁ tk hk hS₁
    exact en_loop (items := items) (s := s) (h₁ := s.heap) hh hSse hSst.symm hSsi.symm hei hti hte hn res S hR (Nat.le_refl _) (Nat.le_of_lt hSe) (Nat.le_of_lt hSi) items.length 0 h tk c₁ #[] [] (Nat.sub_zero _) (Nat.zero_le _)
      ⟨hit.at fun o q => hk it o hSsi.symm q, ht.at fun o q => hk t o hSst.symm q, .inl ⟨.none, hk _ _ hSse.symm he⟩⟩ (fun b o h1 _ _ q => hk b o h1 q) hS₁ rfl rfl
      ⟨List.Pairwise.nil, (fun _ ha => nomatch ha), (fun j a hj => by simp at hj)⟩ (Heap.lt_size hS₁)
  unfold Builtin.List.listExtendWith
  refine wpAny_bind (wpAny_typeOf (T := "enumerate") hTy ?_)
  have h1 : Builtin.List.listSameRef (.ref S) (.ref e) = false := by simp [Builtin.List.listSameRef, hSse]
  have h2 : (Value.type "enumerate" == Value.type "list") = false := by decide
  have h3 : (Value.type "enumerate" == Value.type "tuple") = false := by decide
  simp only [h1, h2, h3, Bool.or_false, Bool.false_eq_true, if_false]
  refine wpAny_bind (wpAny_pyIter_enum he ?_)
  refine wpAny_bind (wpAny_holding ?_)
  unfold Builtin.List.listLengthHint
  refine wpAny_bind (wpAny_specialOf hTy enum_no_len ?_)
  show wpAny _ A.in1 (specialOf (Value.ref e) (Str.ofString "__length_hint__") >>= _) _ _ _
  refine wpAny_bind (wpAny_specialOf hTy enum_no_hint ?_)
  refine wpAny_pure ?_
  show wpAny _ A.in1 (rule "list.extend.makes-room" >>= fun _ => Builtin.List.listTouch (.ref S) >>= fun _ =>
    again (.builtin "list.extend.loop" ⟨[.ref S, .ref e, res], []⟩)) _ _ _
  refine wpAny_bind (wpAny_rule ?_)
  refine wpAny_bind ?_
  show wpAny _ A.in1 (updateSeq S (·.push .none) >>= fun _ => updateSeq S (·.pop)) _ _ _
  refine wpAny_bind (wpAny_updateSeq hS rfl ?_)
  have hS₂ := Heap.get?_update_self (Obj.mapSeq (·.push Value.none)) hS rfl
  refine wpAny_updateSeq (hz := by seq_fits) hS₂ rfl ?_
  have hS₃ := Heap.get?_update_self (Obj.mapSeq (·.pop)) hS₂ rfl
  refine wpAny_pure ⟨plainId_quiet F.plain_extend_loop _, key _ _ _ (fun b o hb q => ?_) hS₃⟩
  exact (Heap.get?_update_other _ _ (Ne.symm hb)).trans ((Heap.get?_update_other _ _ (Ne.symm hb)).trans q)
theorem en_init {e it t : Addr} {items : List Value} (hh : A.handled = none) (he : IsEnum s.heap e it 0 .none) (hit : s.heap.IsTupleIter it t 0) (ht : s.heap.IsTuple t items.toArray) (hei : e ≠ it) (hti : t ≠ it) (hte : t ≠ e)
    (S : Addr) (hSe : e < S) (hSi : it < S) (hSt : t < S) (hS : s.heap.get? S = some { cls := .type "list", data := .seq #[] })
    (hR : ∀ h' tk acc c as, (∀ b o, b ≠ S → b ≠ e → b ≠ it → s.heap.get? b = some o → h'.get? b = some o) → h'.get? S = some { cls := .type "list", dict := none, data := .seq acc c, slots := #[] } → as.length = items.length → KdxG (mixKind prog w) (enK 0 items) S h' as →
      acc.toList = as.map Value.ref → R (.ok (.ret .none)) { s with heap := h', toks := tk }) (hn : items.length ≤ sizeLine) :
    wpAny (model prog w) A.in1 (Builtin.«list.__init__» ⟨[.ref S, .ref e], []⟩)
      (fun fin s' => match fin with | .done f => R (.ok f) s' | .again c' => c'.quiet = true ∧ codeAny (model prog w) A c' R s') (fun e s' => R (.error e) s') s := by
  have hSse : S ≠ e := Nat.ne_of_gt hSe
  have hSsi : S ≠ it := Nat.ne_of_gt hSi
  have hSst : S ≠ t := Nat.ne_of_gt hSt
  show wpAny _ _ (do let old ← Builtin.List.listItems (.ref S); Builtin.List.listUpdate (.ref S) (fun _ => #[]); letGo old.toList.reverse; Builtin.List.listExtendWith (.ref S) (.ref e) .none) _ _ s
  refine wpAny_bind ?_
  unfold Builtin.List.listItems
  refine wpAny_bind (wpAny_seqItems hS rfl (wpAny_pure ?_))
  show wpAny _ _ (updateSeq S (fun _ => #[]) >>= fun _ => letGo (#[] : Array Value).toList.reverse >>= fun _ => Builtin.List.listExtendWith (.ref S) (.ref e) .none) _ _ s
  refine wpAny_bind (wpAny_updateSeq hS rfl ?_)
  have hS₂ := Heap.get?_update_self (Obj.mapSeq (fun _ => (#[] : Array Value))) hS rfl
  have oth : ∀ b o, b ≠ S → s.heap.get? b = some o → (s.heap.update S (Obj.mapSeq (fun _ => (#[] : Array Value)))).get? b = some o :=
    fun b o hb q => (Heap.get?_update_other _ _ (Ne.symm hb)).trans q
  refine wpAny_bind (wpAny_letGo ?_)
  refine en_extend (s := { s with heap := s.heap.update S (Obj.mapSeq (fun _ => (#[] : Array Value))) }) hh (oth _ _ hSse.symm he) (hit.at fun o q => oth it o hSsi.symm q) (ht.at fun o q => oth t o hSst.symm q) hei hti hte S hSe hSi hSt .none _ hS₂ (fun h' tk acc c as hk hS' hl hG hacc => ?_) hn
  exact hR h' tk acc c as (fun b o h1 h2 h3 q => hk b o h1 h2 h3 (oth b o h1 q)) hS' hl hG hacc
end
section
variable {prog : Program} {w : World} {A : Around} {E : Value → Shared → Prop} {s : Shared}
theorem call_list_enum {e it t : Addr} {items : List Value} {Q : Value → Shared → Prop} (hh : A.handled = none) (he : IsEnum s.heap e it 0 .none) (hit : s.heap.IsTupleIter it t 0) (ht : s.heap.IsTuple t items.toArray) (hei : e ≠ it) (hti : t ≠ it) (hte : t ≠ e) (hn : items.length ≤ sizeLine)
    (hQ : ∀ h' tk acc c as, (∀ b o, b ≠ e → b ≠ it → s.heap.get? b = some o → h'.get? b = some o) → h'.get? s.heap.objs.size = some { cls := .type "list", dict := none, data := .seq acc c, slots := #[] } → as.length = items.length → KdxG (mixKind prog w) (enK 0 items) s.heap.objs.size h' as →
      acc.toList = as.map Value.ref → Q (.ref s.heap.objs.size) { s with heap := h', toks := tk }) :
    wpAny (model prog w) A (call (.type "list") [.ref e]) Q E s := by
  refine callType_codes (Q₁ := fun obj s₁ => obj = .ref s.heap.objs.size ∧ s₁ = { s with heap := s.heap.push { cls := .type "list", data := .seq #[] } }) PySem.F.called_list (PySem.F.typeCall_list_1 _) PySem.F.entry_list_init
    (code_list_new _ ⟨rfl, rfl⟩) fun obj s₁ h₁ => ?_
  obtain ⟨rfl, rfl⟩ := h₁
  have hS : (s.heap.push { cls := .type "list", data := .seq #[] }).get? s.heap.objs.size = some { cls := .type "list", data := .seq #[] } := Heap.get?_push_size _ rfl
  have l1 : e < s.heap.objs.size := Heap.lt_size he
  have l2 : it < s.heap.objs.size := let ⟨_, ho, _⟩ := hit; Heap.lt_size ho
  have l3 : t < s.heap.objs.size := let ⟨_, ho, _⟩ := ht; Heap.lt_size ho
  have up : ∀ b o, s.heap.get? b = some o → (s.heap.push { cls := .type "list", data := .seq #[] }).get? b = some o := fun b o q => Heap.get?_push_of_some _ q
  refine ⟨⟨_, hS, rfl⟩, PySem.F.args_list_init_2 _ _, en_init (A := A.in1) hh (up _ _ he) (hit.at fun o q => up it o q) (ht.at fun o q => up t o q) hei hti hte _ l1 l2 l3 hS (fun h' tk acc c as hk hS' hl hG hacc => ?_) hn⟩
  exact ⟨rfl, hQ h' tk acc c as (fun b o h1 h2 q => hk b o (Nat.ne_of_lt (Heap.lt_size q)) h1 h2 (up b o q)) hS' hl hG hacc⟩
end
section
variable {X : Cx} {e : Expr} {te : TE} {p p1 pos pos1 : Pos}
theorem enum_laid {pins : List (Addr × Obj)} {σ : L2.St} {H : Hp} {s : Shared} {h' : Heap} {tk : Nat} {kvs : List (Key × V)} {vs : List (Key × Value)} {acc : Array Value} {c : Nat} {as ch : List Addr} (I : Inv X pins σ H s) (hz : kvs.length ≤ sizeLine) (kv : KV kvs vs)
    (hk : ∀ b o, b ∉ ch → s.heap.get? b = some o → h'.get? b = some o) (hf : ∀ b ∈ ch, FpOk X pins H b) (hch : ∀ b ∈ ch, b < s.heap.objs.size) (hS : h'.get? s.heap.objs.size = some { cls := .type "list", dict := none, data := .seq acc c, slots := #[] }) (hl : as.length = vs.length) (hG : PySem.W.KdxG (mixKind X.prog X.w) vs s.heap.objs.size h' as) (hacc : acc.toList = as.map Value.ref) :
    ∃ H' : Hp, (∀ b o, H b = some o → H' b = some o) ∧ H s.heap.objs.size = none ∧ H' s.heap.objs.size = some (.lst (as.map V.ref)) ∧ Paired (fun (t : Addr) (q : Key × V) => H' t = some (.tup [kV q.1, q.2])) as kvs ∧ Inv X pins σ H' { s with heap := h', toks := tk } := by
  have lk : kvs.length = vs.length := Paired.length kv
  have hSn : s.heap.objs.size ∉ as := fun z => Nat.lt_irrefl _ (hG.above _ z)
  have nd : as.Nodup := List.Pairwise.imp (fun {a b} (h : a < b) => Nat.ne_of_lt h) hG.rise
  have new : ∀ t ∈ as, H t = none := fun t ht => I.hok.fresh (Nat.le_of_lt (hG.above t ht))
  have newS : H s.heap.objs.size = none := I.hok.fresh (Nat.le_refl _)
  have atP := LiI.putT_at as kvs (upd H s.heap.objs.size (.lst (as.map V.ref))) (by omega) nd
  have off : ∀ b, b ∉ as → b ≠ s.heap.objs.size → LiI.putT (upd H s.heap.objs.size (.lst (as.map V.ref))) as kvs b = H b := fun b h1 h2 => by rw [LiI.putT_off as kvs _ h1, upd_ne h2]
  have low : ∀ b o, s.heap.get? b = some o → b ∉ as ∧ b ≠ s.heap.objs.size := fun b o e => ⟨fun z => absurd (Heap.lt_size e) (Nat.not_lt.mpr (Nat.le_of_lt (hG.above b z))), Nat.ne_of_lt (Heap.lt_size e)⟩
  have kp : ∀ b u, H b = some u → (LiI.putT (upd H s.heap.objs.size (.lst (as.map V.ref))) as kvs) b = some u := fun b u e => by
    rw [off b (fun z => by rw [new b z] at e; cases e) (fun z => by rw [z, newS] at e; cases e)]
    exact e
  have nit : ∀ b u, H b = some u → b ∉ ch := fun b u e z => by
    have q := (hf b z).1
    rw [q] at e; cases e
  have eS : LiI.putT (upd H s.heap.objs.size (.lst (as.map V.ref))) as kvs s.heap.objs.size = some (.lst (as.map V.ref)) := by rw [LiI.putT_off as kvs _ hSn, upd_same]
  refine ⟨LiI.putT (upd H s.heap.objs.size (.lst (as.map V.ref))) as kvs, kp, newS, eS, atP, ?_⟩
  refine I.call' (ch := ch) rfl ⟨fun b o q _ _ h1 => hk b o h1 q, fun b o q _ _ h1 => ⟨o.slots, hk b o h1 q⟩, fun b o q n h1 => ?_, fun b o q h1 => ⟨o, hk b o h1 q⟩, fun b xs q => kp b _ q, fun b o u q => kp b _ q, fun b ps q => ⟨#[], by rw [kp b _ q]; simp⟩⟩ (fun b u q => ?_) I.bare fun b hb => ⟨(hf b hb).2.2.2.1, (hf b hb).2.1, (hf b hb).2.2.2.2.1, (hf b hb).2.2.2.2.2⟩
  · obtain ⟨z1, z2⟩ := low b o q
    rw [off b z1 z2]
    exact n
  · by_cases hb : b ∈ as
    · obtain ⟨j, pk, e1, e2, e3⟩ := LiI.paired_ix atP hb
      rw [e3] at q
      cases q
      obtain ⟨key, k, x, f1, f2, f3⟩ := hG.pairs j b e1
      obtain ⟨qv, g1, g2, g3⟩ := LiI.paired_get kv e2
      rw [f1] at g1
      cases g1
      have rk : RelV (kV pk.1) key := by
        rw [g2]
        exact relV_key (show keyIs k key = true from f2)
      exact ⟨by show 2 ≤ sizeLine; decide, [key, x], .cons rk (.cons g3 .nil), ⟨_, f3, rfl, _, rfl⟩⟩
    · by_cases hb2 : b = s.heap.objs.size
      · rw [hb2] at q ⊢
        rw [eS] at q
        cases q
        refine ⟨by rw [List.length_map]; omega, acc.toList, c, by rw [hacc]; exact LiI.vals_refs as, ?_⟩
        rw [Array.toArray_toList]
        exact hS
      · rw [off b hb hb2] at q
        refine (I.hok b u q).stay (fun d v hd y => hk d v (fun z => ?_) y) (fun d y => kp d _ y) fun d xs y => kp d _ y
        rcases hd with z1 | z1
        · rw [z1] at z; exact nit b u q z
        · exact nit d _ z1 z
def enV (n : Nat) : List V → List (Key × V)
  | [] => []
  | x :: xs => (.inl (n : Nat), x) :: enV (n + 1) xs
theorem enV_KV : ∀ {xs : List V} {us : List Value} (n : Nat), Vals xs us → KV (enV n xs) (enK n us)
  | _, _, _, .nil => .nil
  | _, _, n, .cons r t => .cons ⟨rfl, r⟩ (enV_KV (n + 1) t)
theorem enV_len : ∀ (ds : List V) (n : Nat), (enV n ds).length = ds.length
  | [], _ => rfl
  | d :: ds, n => by show (enV (n + 1) ds).length + 1 = ds.length + 1; rw [enV_len ds]
theorem enV_data {K : PySem.W.Frag} {H' : Hp} : ∀ {xs : List V} {ds : List PyData} {as : List Addr} (n : Nat), IsAll K H' xs ds → Paired (fun (t : Addr) (q : Key × V) => H' t = some (.tup [kV q.1, q.2])) as (enV n xs) → IsAll K H' (as.map V.ref) (enD n ds)
  | _, _, _, _, .nil, .nil => .nil
  | _, _, _, n, .cons h t, .cons p q => .cons (.tup (.of p) (.cons (.int _) (.cons h .nil))) (enV_data (n + 1) t q)
/-- list(enumerate(t)) -/
def tListEn (K : PySem.W.Frag) (te : TE) : TE := fun σ H Q => te σ H fun x H1 => ∃ ds, Is K H1 x (.tuple ds) ∧ ∀ p H2 ys, Fr No H1 H2 → H1 p = none → H2 p = some (.lst ys) → IsAll K H2 ys (enD 0 ds) → Q (.ref p) H2
theorem k_listEn (hm : X.mg "list" = none) (hm2 : X.mg "enumerate" = none) (he : PE X e te) (hc : X.calm = true := by rfl) (hg : Gl X "list" := by rfl) (hg2 : Gl X "enumerate" := by rfl)
    (hs : starEach [.Call (.Name "enumerate" p1) [e] [] pos1] X.env = (false, eval (.Call (.Name "enumerate" p1) [e] [] pos1) X.env) :: starEach [] X.env := by rfl) (hs2 : starEach [e] X.env = (false, eval e X.env) :: starEach [] X.env := by rfl) :
    PE X (.Call (.Name "list" p) [.Call (.Name "enumerate" p1) [e] [] pos1] [] pos) (tListEn X.K te) := by
  refine ⟨fun pins s σ H Q I hq => ?_⟩
  refine wpAny_Call_Name_kw (ld_blt (u := .type "list") I hg hm (by decide +kernel) ?_)
  refine PyProof.Rows.callWith_type1 ?_ hs rfl
  rw [hs]
  show wpAny _ _ (spliced ((false, eval (.Call (.Name "enumerate" p1) [e] [] pos1) X.env) :: backTo pos (starEach [] X.env))) _ _ s
  refine Calls.spliced_cons ?_
  refine wpAny_Call_Name_kw (ld_blt I hg2 hm2 boot_enumerate ?_)
  refine PyProof.Rows.callWith_type1 ?_ hs2 rfl
  rw [hs2]
  show wpAny _ _ (spliced ((false, eval e X.env) :: backTo pos1 (starEach [] X.env))) _ _ s
  refine Calls.spliced_cons (thn (he.run pins s σ H _ I hq) fun u s1 ⟨x, H1, I1, rx, ds, hx, q⟩ => Calls.spliced_nil ?_)
  obtain ⟨a, xs, rfl, ta, ia⟩ := hx.tupE
  obtain rfl : u = Value.ref a := rx
  obtain ⟨its, rv, p', hz⟩ := I1.tuple ta.sq
  have hal : a < s1.heap.objs.size := let ⟨_, ho, _⟩ := p'; Heap.lt_size ho
  have hlen := rv.length
  refine call_enumerate_tuple (show s1.heap.IsTuple a its.toArray from p') fun h' hen hit hsz hk => Calls.spliced_nil ?_
  have I2 : Inv X pins σ H1 { s1 with heap := h' } := I1.kept (t' := s1.toks) hk
  have p2 : h'.IsTuple a its.toArray := (show s1.heap.IsTuple a its.toArray from p').at fun o q => hk a o q
  refine call_list_enum (s := { s1 with heap := h' }) (items := its) (I2.ok.hd hc) hen hit p2 (Nat.succ_ne_self _) (Nat.ne_of_lt hal) (Nat.ne_of_lt (Nat.lt_succ_of_lt hal)) (by rw [← hlen]; exact hz) fun h2 tk acc c as hk2 hS hl hG hacc => ?_
  have hfp : ∀ b ∈ [s1.heap.objs.size + 1, s1.heap.objs.size], FpOk X pins H1 b := fun b hb => by
    have e' : b = s1.heap.objs.size + 1 ∨ b = s1.heap.objs.size := by simpa using hb
    have hle : s1.heap.objs.size ≤ b := by
      rcases e' with z | z
      · rw [z]; exact Nat.le_add_right _ _
      · rw [z]; exact Nat.le_refl _
    exact I1.fpOk hle (I1.hok.fresh hle)
  obtain ⟨H', k1, k2, k3, k4, J⟩ := enum_laid (tk := tk) (kvs := enV 0 xs) (ch := [s1.heap.objs.size + 1, s1.heap.objs.size]) I2 (by rw [enV_len]; exact hz) (enV_KV 0 rv) (fun b o hb q => hk2 b o (fun z => hb (by simp [z])) (fun z => hb (by simp [z])) q) hfp
    (fun b hb => by
      show b < h'.objs.size
      rw [hsz]
      have e' : b = s1.heap.objs.size + 1 ∨ b = s1.heap.objs.size := by simpa using hb
      rcases e' with z | z
      · rw [z]; exact Nat.lt_succ_self _
      · rw [z]; exact Nat.lt_succ_of_lt (Nat.lt_succ_self _)) hS (by rw [enK_len]; exact hl) hG hacc
  have f1 : Fr No H1 H' := ⟨fun b o _ e => k1 b o e, fun b u _ e => k1 b u e⟩
  exact ⟨.ref _, H', J, rfl, q _ H' _ f1 k2 k3 (enV_data 0 (ia.fr f1) k4)⟩
end
end DF

/-! plain mathematics: programs, demands, drives -/
namespace DF
open PySem
open T
structure Rule where
  con : Nm
  cnt : Nat
  body : T
inductive Fn where
  | plain (nm : Nm) (ar : Nat) (body : T)
  | cases (nm : Nm) (ar : Nat) (rules : List Rule)
def Fn.nm : Fn → Nm
  | plain x _ _ => x
  | cases x _ _ => x
def Fn.ar : Fn → Nat
  | plain _ n _ => n
  | cases _ n _ => n
abbrev Prog := List Fn
def fnOf (pg : Prog) (x : Nm) : Option Fn := pg.find? fun f => decide (f.nm = x)
/-- the first sign is a small letter -/
def low (x : Nm) : Bool := match x.s.cps.toList with
  | c :: _ => Txt.islower ⟨#[c]⟩
  | [] => false
inductive Dd where
  | val
  | stp (t : T)
  | nds (i : Int) (f : Nm)
  | unk (i : Int)
  | stk (i : Int)
  | err
/-- numbered from 0 -/
def enumF (n : Int) : List T → List (Int × T)
  | [] => []
  | t :: ts => (n, t) :: enumF (n + 1) ts
def opn (body : T) (vals rest : List T) : T := (put body (enumF 0 vals)).aps rest
def ruleOf (rs : List Rule) (x : Nm) (n : Nat) : Option Rule := rs.find? fun r => decide (r.con = x) && decide (r.cnt = n)
def own (pg : Prog) (t : T) : Option Dd := match t.hd with
  | .u i => some (if t.args = [] then .unk i else .stk i)
  | .c x => if low x = true then
      match fnOf pg x with
      | none => some .val
      | some f => if t.args.length < f.ar then some .val else match f with
        | .plain _ n body => some (.stp (opn body (t.args.take n) (t.args.drop n)))
        | .cases _ _ _ => none
    else some .val
def outer (pg : Prog) (t a : T) (d : Dd) : Dd := match t.hd with
  | .u _ => .err
  | .c x => match d with
    | .stp u => .stp ((T.lf (.c x)).aps (u :: t.args.drop 1))
    | .unk i => .nds i x
    | .val => match fnOf pg x with
      | some (.cases _ n rs) => match a.hd with
        | .u _ => .err
        | .c y => match ruleOf rs y a.args.length with
          | none => .err
          | some r => if low y = true then .err else .stp (opn r.body (a.args ++ (t.args.take n).drop 1) (t.args.drop n))
      | _ => .err
    | d => d
def dem (pg : Prog) (t : T) : Dd :=
  match own pg t with
  | some d => d
  | none => match h : t.args with
    | [] => .err
    | a :: _ => outer pg t a (dem pg a)
termination_by t.size
decreasing_by exact T.arg_lt (by rw [h]; exact List.mem_cons_self)
theorem dem_own {pg : Prog} {t : T} {d : Dd} (h : own pg t = some d) : dem pg t = d := by rw [dem, h]
theorem dem_out {pg : Prog} {t a : T} {as : List T} (h : own pg t = none) (ha : t.args = a :: as) : dem pg t = outer pg t a (dem pg a) := by
  rw [dem, h]
  dsimp only
  split
  · rename_i e; rw [e] at ha; cases ha
  · rename_i b bs e; rw [e] at ha; cases ha; rfl
/-- every small name of the term is a function's -/
def Kn (pg : Prog) (t : T) : Prop := ∀ x, Hd.c x ∈ t.heads → low x = true → (fnOf pg x).isSome = true
/-- a program that runs -/
structure Wf (pg : Prog) : Prop where
  plain : ∀ x n b, Fn.plain x n b ∈ pg → Kn pg b ∧ b.size ≤ 20 ∧ n ≤ 20
  cases : ∀ x n rs, Fn.cases x n rs ∈ pg → 1 ≤ n ∧ n ≤ 20 ∧ rs.length ≤ 20 ∧ ∀ r ∈ rs, low r.con = false ∧ r.cnt ≤ 3 ∧ Kn pg r.body ∧ r.body.size ≤ 20
  len : pg.length ≤ 40
section
variable {pg : Prog}
theorem fnOf_mem {x : Nm} {f : Fn} (h : fnOf pg x = some f) : f ∈ pg ∧ f.nm = x := ⟨List.mem_of_find?_eq_some h, of_decide_eq_true (List.find?_some (p := fun g : Fn => decide (g.nm = x)) h)⟩
theorem own_none {t : T} (h : own pg t = none) : ∃ x y n rs, t.hd = .c x ∧ low x = true ∧ fnOf pg x = some (.cases y n rs) ∧ n ≤ t.args.length := by
  unfold own at h
  cases e : t.hd with
  | u i => rw [e] at h; cases h
  | c x =>
    rw [e] at h
    dsimp only at h
    by_cases l : low x = true
    · rw [if_pos l] at h
      cases e2 : fnOf pg x with
      | none => rw [e2] at h; cases h
      | some f =>
        rw [e2] at h
        dsimp only at h
        by_cases c : t.args.length < f.ar
        · rw [if_pos c] at h; cases h
        · rw [if_neg c] at h
          cases f with
          | plain y n b => cases h
          | cases y n rs => exact ⟨x, y, n, rs, rfl, l, e2, Nat.not_lt.mp c⟩
    · rw [if_neg l] at h; cases h
/-- .. has a first argument, in a program that runs -/
theorem own_first (W : Wf pg) {t : T} (h : own pg t = none) : ∃ a as, t.args = a :: as := by
  obtain ⟨x, y, n, rs, _, _, hf, hn⟩ := own_none h
  have h1 := (W.cases y n rs (fnOf_mem hf).1).1
  cases e : t.args with
  | nil => rw [e] at hn; simp at hn; omega
  | cons a as => exact ⟨a, as, rfl⟩
theorem own_of {t : T} {x y : Nm} {n : Nat} {rs : List Rule} (h1 : t.hd = .c x) (h2 : low x = true) (h3 : fnOf pg x = some (.cases y n rs)) (h4 : n ≤ t.args.length) : own pg t = none := by
  unfold own
  rw [h1]
  dsimp only
  rw [if_pos h2, h3]
  dsimp only
  rw [if_neg (show ¬ t.args.length < (Fn.cases y n rs).ar from Nat.not_lt.mpr h4)]
theorem enumF_size {M : Nat} : ∀ {ts : List T} {n : Int}, (∀ t ∈ ts, t.size ≤ M) → ∀ p ∈ enumF n ts, p.2.size ≤ M
  | [], _, _ => fun p hp => nomatch hp
  | t :: ts, n, h => fun p hp => by
    rcases List.mem_cons.mp hp with rfl | hp
    · exact h t List.mem_cons_self
    · exact enumF_size (fun u hu => h u (List.mem_cons_of_mem _ hu)) p hp
theorem enumF_mem : ∀ {ts : List T} {n : Int} {p : Int × T}, p ∈ enumF n ts → p.2 ∈ ts
  | [], _, _, hp => nomatch hp
  | t :: ts, n, p, hp => by
    rcases List.mem_cons.mp hp with rfl | hp
    · exact List.mem_cons_self
    · exact List.mem_cons_of_mem _ (enumF_mem hp)
theorem opn_size {b : T} {vs rs : List T} {M : Nat} (hM : 1 ≤ M) (h : ∀ t ∈ vs, t.size ≤ M) : (opn b vs rs).size ≤ M * b.size + sizes rs := by
  unfold opn
  rw [size_aps]
  have := put_size (t := b) hM (enumF_size (n := 0) h)
  omega
theorem opn_heads {b : T} {vs rs : List T} {h : Hd} (hm : h ∈ (opn b vs rs).heads) : h ∈ b.heads ∨ (∃ t ∈ vs, h ∈ t.heads) ∨ ∃ t ∈ rs, h ∈ t.heads := by
  unfold opn at hm
  rw [heads_aps] at hm
  rcases List.mem_append.mp hm with hm | hm
  · rcases put_heads hm with z | ⟨p, hp, z⟩
    · exact .inl z
    · exact .inr (.inl ⟨p.2, enumF_mem hp, z⟩)
  · obtain ⟨l, hl, hh⟩ := List.mem_flatten.mp hm
    obtain ⟨t, ht, rfl⟩ := List.mem_map.mp hl
    exact .inr (.inr ⟨t, ht, hh⟩)
theorem sizes_take_drop (n : Nat) (l : List T) : sizes (l.take n) + sizes (l.drop n) = sizes l := by rw [← sizes_append, List.take_append_drop]
theorem outer_cases {t a u : T} {d : Dd} (h : outer pg t a d = .stp u) : ∃ x, t.hd = .c x ∧ ((∃ v, d = .stp v ∧ u = (T.lf (.c x)).aps (v :: t.args.drop 1)) ∨
    ∃ y n rs z r, d = .val ∧ fnOf pg x = some (.cases y n rs) ∧ a.hd = .c z ∧ r ∈ rs ∧ u = opn r.body (a.args ++ (t.args.take n).drop 1) (t.args.drop n)) := by
  unfold outer at h
  cases e : t.hd with
  | u i => rw [e] at h; cases h
  | c x =>
    rw [e] at h
    dsimp only at h
    refine ⟨x, rfl, ?_⟩
    cases d with
    | stp v => cases h; exact .inl ⟨v, rfl, rfl⟩
    | unk i => cases h
    | nds i f => cases h
    | stk i => cases h
    | err => cases h
    | val =>
      dsimp only at h
      cases e2 : fnOf pg x with
      | none => rw [e2] at h; cases h
      | some f =>
        rw [e2] at h
        cases f with
        | plain y n b => cases h
        | cases y n rs =>
          dsimp only at h
          cases e3 : a.hd with
          | u i => rw [e3] at h; cases h
          | c z =>
            rw [e3] at h
            dsimp only at h
            cases e4 : ruleOf rs z a.args.length with
            | none => rw [e4] at h; cases h
            | some r =>
              rw [e4] at h
              dsimp only at h
              by_cases l : low z = true
              · rw [if_pos l] at h; cases h
              · rw [if_neg l] at h
                cases h
                exact .inr ⟨y, n, rs, z, r, rfl, rfl, rfl, List.mem_of_find?_eq_some e4, rfl⟩
/-- what a step gives -/
theorem dem_stp (W : Wf pg) : ∀ (k : Nat) (t : T), t.size ≤ k → ∀ u, dem pg t = .stp u → u.size ≤ 22 * t.size ∧ (Kn pg t → Kn pg u)
  | 0, t, hk => by have := t.size_pos; omega
  | k + 1, t, hk => fun u h => by
    have hts := size_eq t
    cases e : own pg t with
    | some d =>
      rw [dem_own e] at h
      subst h
      unfold own at e
      cases e1 : t.hd with
      | u i => rw [e1] at e; dsimp only at e; split at e <;> cases e
      | c x =>
        rw [e1] at e
        dsimp only at e
        by_cases l : low x = true
        · rw [if_pos l] at e
          cases e2 : fnOf pg x with
          | none => rw [e2] at e; cases e
          | some f =>
            rw [e2] at e
            dsimp only at e
            by_cases c : t.args.length < f.ar
            · rw [if_pos c] at e; cases e
            · rw [if_neg c] at e
              cases f with
              | cases y n rs => cases e
              | plain y n b =>
                cases e
                obtain ⟨w1, w2, _⟩ := W.plain y n b (fnOf_mem e2).1
                refine ⟨?_, fun kn z hz lz => ?_⟩
                · have h1 := opn_size (b := b) (vs := t.args.take n) (rs := t.args.drop n) (M := t.size) t.size_pos fun a ha => Nat.le_of_lt (arg_lt (List.mem_of_mem_take ha))
                  have h2 := sizes_take_drop n t.args
                  have h3 : t.size * b.size ≤ t.size * 20 := Nat.mul_le_mul_left _ w2
                  omega
                · rcases opn_heads hz with q | ⟨a, ha, q⟩ | ⟨a, ha, q⟩
                  · exact w1 z q lz
                  · exact kn z (arg_heads (List.mem_of_mem_take ha) _ q) lz
                  · exact kn z (arg_heads (List.mem_of_mem_drop ha) _ q) lz
        · rw [if_neg l] at e; cases e
    | none =>
      obtain ⟨a, as, ha⟩ := own_first W e
      rw [dem_out e ha] at h
      have hma : a ∈ t.args := by rw [ha]; exact List.mem_cons_self
      have hlt := arg_lt hma
      have hsz : sizes t.args = a.size + sizes as := by rw [ha, sizes_cons]
      obtain ⟨x, hx, z⟩ := outer_cases h
      rcases z with ⟨v, hd, rfl⟩ | ⟨y, n, rs, z, r, hd, hf, hz, hr, rfl⟩
      · obtain ⟨i1, i2⟩ := dem_stp W k a (by omega) v hd
        have hdrop : t.args.drop 1 = as := by rw [ha]; rfl
        rw [hdrop]
        refine ⟨?_, fun kn q hq lq => ?_⟩
        · rw [size_mk, sizes_cons]
          omega
        · rw [heads_aps] at hq
          rcases List.mem_append.mp hq with hq | hq
          · have : Hd.c q = .c x := List.mem_singleton.mp hq
            rw [this, ← hx] at hq
            exact kn q (by rw [this, ← hx]; exact t.hd_mem) lq
          · obtain ⟨l, hl, hh⟩ := List.mem_flatten.mp hq
            obtain ⟨b, hb, rfl⟩ := List.mem_map.mp hl
            rcases List.mem_cons.mp hb with rfl | hb
            · exact i2 (fun q hq lq => kn q (arg_heads hma _ hq) lq) q hh lq
            · exact kn q (arg_heads (by rw [ha]; exact List.mem_cons_of_mem _ hb) _ hh) lq
      · obtain ⟨_, w2, _, w3⟩ := W.cases y n rs (fnOf_mem hf).1
        obtain ⟨_, _, w4, w5⟩ := w3 r hr
        refine ⟨?_, fun kn q hq lq => ?_⟩
        · have h1 := opn_size (b := r.body) (vs := a.args ++ (t.args.take n).drop 1) (rs := t.args.drop n) (M := t.size) t.size_pos fun b hb => by
            rcases List.mem_append.mp hb with hb | hb
            · have := arg_lt hb; omega
            · exact Nat.le_of_lt (arg_lt (List.mem_of_mem_take (List.mem_of_mem_drop hb)))
          have h2 := sizes_take_drop n t.args
          have h3 : t.size * r.body.size ≤ t.size * 20 := Nat.mul_le_mul_left _ w5
          omega
        · rcases opn_heads hq with z | ⟨b, hb, z⟩ | ⟨b, hb, z⟩
          · exact w4 q z lq
          · rcases List.mem_append.mp hb with hb | hb
            · exact kn q (arg_heads hma _ (arg_heads hb _ z)) lq
            · exact kn q (arg_heads (List.mem_of_mem_take (List.mem_of_mem_drop hb)) _ z) lq
          · exact kn q (arg_heads (List.mem_of_mem_drop hb) _ z) lq
/-- an unknown that is demanded stands alone -/
theorem dem_unk (W : Wf pg) {t : T} {i : Int} (h : dem pg t = .unk i) : t = .lf (.u i) := by
  cases e : own pg t with
  | some d =>
    rw [dem_own e] at h
    subst h
    unfold own at e
    cases e1 : t.hd with
    | u j =>
      rw [e1] at e
      dsimp only at e
      by_cases c : t.args = []
      · rw [if_pos c] at e
        cases e
        exact T.ext e1 c
      · rw [if_neg c] at e; cases e
    | c x =>
      rw [e1] at e
      dsimp only at e
      split at e
      · split at e
        · cases e
        · split at e
          · cases e
          · split at e <;> cases e
      · cases e
  | none =>
    obtain ⟨a, as, ha⟩ := own_first W e
    rw [dem_out e ha] at h
    unfold outer at h
    cases e1 : t.hd with
    | u j => rw [e1] at h; cases h
    | c x =>
      rw [e1] at h
      dsimp only at h
      split at h
      · cases h
      · cases h
      · split at h
        · split at h
          · cases h
          · split at h
            · cases h
            · split at h <;> cases h
        · cases h
      · rename_i _ h2 _
        exact (h2 i h).elim
theorem outer_nds {t a : T} {d : Dd} {i : Int} {f : Nm} (h : outer pg t a d = .nds i f) : ∃ x, t.hd = .c x ∧ ((d = .unk i ∧ f = x) ∨ d = .nds i f) := by
  unfold outer at h
  cases e : t.hd with
  | u i => rw [e] at h; cases h
  | c x =>
    rw [e] at h
    dsimp only at h
    refine ⟨x, rfl, ?_⟩
    cases d with
    | stp v => cases h
    | unk j => cases h; exact .inl ⟨rfl, rfl⟩
    | nds j g => exact .inr h
    | stk j => cases h
    | err => cases h
    | val =>
      dsimp only at h
      split at h
      · split at h
        · cases h
        · split at h
          · cases h
          · split at h <;> cases h
      · cases h
theorem own_not_nds {t : T} {i : Int} {f : Nm} (h : own pg t = some (.nds i f)) : False := by
  unfold own at h
  cases e1 : t.hd with
  | u j => rw [e1] at h; dsimp only at h; split at h <;> cases h
  | c x =>
    rw [e1] at h
    dsimp only at h
    split at h
    · split at h
      · cases h
      · split at h
        · cases h
        · split at h <;> cases h
    · cases h
/-- a demand of an unknown: it stands in the term, the function has rules, a constructor of a rule in its place lets the term step -/
theorem dem_nds (W : Wf pg) : ∀ (k : Nat) (t : T), t.size ≤ k → ∀ i f, dem pg t = .nds i f → Hd.u i ∈ t.heads ∧ ∃ y n rs, fnOf pg f = some (.cases y n rs) ∧
    ∀ r ∈ rs, ∀ as : List T, as.length = r.cnt → ∃ u, dem pg (put t [(i, (T.lf (.c r.con)).aps as)]) = .stp u
  | 0, t, hk => by have := t.size_pos; omega
  | k + 1, t, hk => fun i f h => by
    cases e : own pg t with
    | some d =>
      rw [dem_own e] at h
      subst h
      exact (own_not_nds e).elim
    | none =>
      obtain ⟨a, as, ha⟩ := own_first W e
      obtain ⟨x, y, n, rs, hx, lx, hf, hn⟩ := own_none e
      rw [dem_out e ha] at h
      have hma : a ∈ t.args := by rw [ha]; exact List.mem_cons_self
      have hlt := arg_lt hma
      obtain ⟨x', hx', z⟩ := outer_nds h
      rw [hx] at hx'
      cases hx'
      have gen : ∀ θ : Tab, (rep θ t).hd = .c x ∧ (rep θ t).args = t.args.map (rep θ) := fun θ => by
        rw [rep_eq, hx]
        exact ⟨hd_mk _ _, args_mk _ _⟩
      have genOwn : ∀ θ : Tab, own pg (rep θ t) = none := fun θ => own_of (gen θ).1 lx hf (by rw [(gen θ).2, List.length_map]; exact hn)
      have genA : ∀ θ : Tab, (rep θ t).args = rep θ a :: as.map (rep θ) := fun θ => by rw [(gen θ).2, ha, List.map_cons]
      rcases z with ⟨z, rfl⟩ | z
      · have hav := dem_unk W z
        subst hav
        refine ⟨arg_heads hma _ (List.mem_singleton.mpr rfl), y, n, rs, hf, fun r hr bs hb => ?_⟩
        have hθ : tabOf [(i, (T.lf (.c r.con)).aps bs)] = [(i, (T.lf (.c r.con)).aps bs)] := rfl
        have hra : rep (tabOf [(i, (T.lf (.c r.con)).aps bs)]) (.lf (.u i)) = (T.lf (.c r.con)).aps bs := by
          show (look (tabOf [(i, (T.lf (.c r.con)).aps bs)]) i).getD _ = _
          rw [hθ]
          simp [look]
        have hlr := ((W.cases y n rs (fnOf_mem hf).1).2.2.2 r hr).1
        have hown : own pg ((T.lf (.c r.con)).aps bs) = some .val := by
          unfold own
          rw [hd_mk]
          dsimp only
          rw [hlr, if_neg Bool.false_ne_true]
        show ∃ u, dem pg (rep (tabOf [(i, (T.lf (.c r.con)).aps bs)]) t) = .stp u
        rw [dem_out (genOwn _) (genA _), hra, dem_own hown]
        unfold outer
        rw [(gen _).1]
        dsimp only
        rw [hf]
        dsimp only
        rw [hd_mk, args_mk]
        dsimp only
        have hsome : (ruleOf rs r.con bs.length).isSome = true := by
          unfold ruleOf
          rw [List.find?_isSome]
          exact ⟨r, hr, by simp [hb]⟩
        obtain ⟨r', hr'⟩ := Option.isSome_iff_exists.mp hsome
        rw [hr']
        dsimp only
        rw [hlr, if_neg Bool.false_ne_true]
        exact ⟨_, rfl⟩
      · obtain ⟨h1, y', n', rs', h2, h3⟩ := dem_nds W k a (by omega) i f z
        refine ⟨arg_heads hma _ h1, y', n', rs', h2, fun r hr bs hb => ?_⟩
        obtain ⟨u, hu⟩ := h3 r hr bs hb
        show ∃ u, dem pg (rep (tabOf [(i, (T.lf (.c r.con)).aps bs)]) t) = .stp u
        rw [dem_out (genOwn _) (genA _)]
        have hu : dem pg (rep (tabOf [(i, (T.lf (.c r.con)).aps bs)]) a) = .stp u := hu
        rw [hu]
        unfold outer
        rw [(gen _).1]
        exact ⟨_, rfl⟩
/-! ### the least unknown above all, drives -/
def maxL : List Int → Int
  | [] => 0
  | [a] => a
  | a :: l => max a (maxL l)
theorem maxL_spec : ∀ {l : List Int}, l ≠ [] → maxL l ∈ l ∧ ∀ y ∈ l, y ≤ maxL l
  | [], h => absurd rfl h
  | [a], _ => ⟨List.mem_cons_self, fun y hy => by rw [List.mem_singleton.mp hy]; exact Int.le_refl _⟩
  | a :: b :: l, _ => by
    obtain ⟨h1, h2⟩ := maxL_spec (l := b :: l) (by simp)
    show max a (maxL (b :: l)) ∈ _ ∧ ∀ y ∈ _, y ≤ max a (maxL (b :: l))
    refine ⟨?_, fun y hy => ?_⟩
    · rcases Int.le_total a (maxL (b :: l)) with z | z
      · rw [Int.max_eq_right z]; exact List.mem_cons_of_mem _ h1
      · rw [Int.max_eq_left z]; exact List.mem_cons_self
    · rcases List.mem_cons.mp hy with rfl | hy
      · exact Int.le_max_left _ _
      · exact Int.le_trans (h2 y hy) (Int.le_max_right _ _)
theorem maxL_uniq {l : List Int} {m : Int} (h1 : m ∈ l) (h2 : ∀ y ∈ l, y ≤ m) : m = maxL l := by
  have h := maxL_spec (l := l) (fun z => by rw [z] at h1; cases h1)
  exact Int.le_antisymm (h.2 m h1) (h2 _ h.1)
def nextU (t : T) : Int := maxL ((unks t).map (· + 1))
/-- the unknown i learnt: it is the constructor of r -/
def lrn (t : T) (i : Int) (n : Int) (r : Rule) : T := put t [(i, (T.lf (.c r.con)).aps ((List.range r.cnt).map fun (j : Nat) => T.lf (.u (n + j))))]
def stpOf : Dd → T
  | .stp u => u
  | _ => default
def rulesOf (pg : Prog) (f : Nm) : List Rule := match fnOf pg f with
  | some (.cases _ _ rs) => rs
  | _ => []
def drv (pg : Prog) (t : T) : List T := match dem pg t with
  | .stp u => [u]
  | .nds i f => (rulesOf pg f).map fun r => stpOf (dem pg (lrn t i (nextU t) r))
  | _ => []
theorem lrn_stp (W : Wf pg) {t : T} {i : Int} {f : Nm} (h : dem pg t = .nds i f) (n : Int) {r : Rule} (hr : r ∈ rulesOf pg f) : ∃ u, dem pg (lrn t i n r) = .stp u := by
  obtain ⟨_, y, m, rs, h1, h2⟩ := dem_nds W _ t (Nat.le_refl _) i f h
  unfold rulesOf at hr
  rw [h1] at hr
  exact h2 r hr _ (by simp)
theorem lrn_size (W : Wf pg) {t : T} {i : Int} {f : Nm} {n : Int} {r : Rule} (hr : r ∈ rulesOf pg f) : (lrn t i n r).size ≤ 4 * t.size ∧ (Kn pg t → Kn pg (lrn t i n r)) := by
  unfold rulesOf at hr
  cases e : fnOf pg f with
  | none => rw [e] at hr; cases hr
  | some g =>
    rw [e] at hr
    cases g with
    | plain y m b => cases hr
    | cases y m rs =>
      obtain ⟨w1, w2, _⟩ := (W.cases y m rs (fnOf_mem e).1).2.2.2 r hr
      have e1 : sizes ((List.range r.cnt).map fun (j : Nat) => T.lf (.u (n + j))) = r.cnt := by
        unfold sizes
        rw [List.map_map]
        have : ∀ l : List Nat, (l.map (T.size ∘ fun (j : Nat) => T.lf (.u (n + j)))).sum = l.length := by
          intro l
          induction l with
          | nil => rfl
          | cons a l ih =>
            rw [List.map_cons, List.sum_cons, ih, List.length_cons]
            show 1 + _ = _
            omega
        rw [this, List.length_range]
      refine ⟨?_, fun kn x hx lx => ?_⟩
      · unfold lrn
        refine put_size (by omega) fun p hp => ?_
        rw [List.mem_singleton.mp hp]
        show ((T.lf (.c r.con)).aps _).size ≤ 4
        rw [size_mk, e1]
        omega
      · unfold lrn at hx
        rcases put_heads hx with z | ⟨p, hp, z⟩
        · exact kn x z lx
        · rw [List.mem_singleton.mp hp] at z
          rw [heads_aps] at z
          rcases List.mem_append.mp z with z | z
          · have : Hd.c x = .c r.con := List.mem_singleton.mp z
            cases this
            rw [w1] at lx
            cases lx
          · obtain ⟨l, hl, hh⟩ := List.mem_flatten.mp z
            obtain ⟨b, hb, rfl⟩ := List.mem_map.mp hl
            obtain ⟨j, _, rfl⟩ := List.mem_map.mp hb
            cases List.mem_singleton.mp hh
theorem drv_size (W : Wf pg) {t u : T} (h : u ∈ drv pg t) : u.size ≤ 88 * t.size ∧ (Kn pg t → Kn pg u) := by
  unfold drv at h
  cases e : dem pg t with
  | stp v =>
    rw [e] at h
    rw [List.mem_singleton.mp h]
    obtain ⟨h1, h2⟩ := dem_stp W _ t (Nat.le_refl _) v e
    exact ⟨by omega, h2⟩
  | nds i f =>
    rw [e] at h
    obtain ⟨r, hr, rfl⟩ := List.mem_map.mp h
    obtain ⟨v, hv⟩ := lrn_stp W e (nextU t) hr
    obtain ⟨s1, s2⟩ := lrn_size W (t := t) (i := i) (n := nextU t) hr
    obtain ⟨h1, h2⟩ := dem_stp W _ _ (Nat.le_refl _) v hv
    rw [hv]
    exact ⟨by show v.size ≤ _; omega, fun kn => h2 (s2 kn)⟩
  | val => rw [e] at h; cases h
  | unk i => rw [e] at h; cases h
  | stk i => rw [e] at h; cases h
  | err => rw [e] at h; cases h
end
end DF

namespace DF
open PySem PySem.Spec PyProof.Rows L2
/-! ### programs as data -/
def encR (r : Rule) : PyData := .tuple [.str r.con.s, .int (r.cnt : Nat), enc r.body]
def encF : Fn → PyData
  | .plain x n b => .tuple [.str "plain", .str x.s, .int (n : Nat), enc b]
  | .cases x n rs => .tuple [.str "cases", .str x.s, .int (n : Nat), .tuple (rs.map encR)]
def encG (pg : Prog) : PyData := .tuple (pg.map encF)
def encM : Dd → PyData
  | .val => .tuple [.str "value"]
  | .stp t => .tuple [.str "step", enc t]
  | .nds i f => .tuple [.str "needs", .int i, .str f.s]
  | .unk i => .tuple [.str "unknown", .int i]
  | .stk i => .tuple [.str "stuck", .int i]
  | .err => .tuple [.str "error"]
theorem find_take {α : Type} {p : α → Bool} {l : List α} {i : Nat} {a : α} (h : l[i]? = some a) (pa : p a = true) (hn : (l.take i).find? p = none) : l.find? p = some a := by
  obtain ⟨hi, e⟩ := List.getElem?_eq_some_iff.mp h
  have e2 : l = l.take i ++ l.drop i := (List.take_append_drop i l).symm
  rw [e2, List.find?_append, hn, List.drop_eq_getElem_cons hi, List.find?_cons, e, pa]
  rfl
theorem find_step {α : Type} {p : α → Bool} {l : List α} {i : Nat} {a : α} (h : l[i]? = some a) (pa : p a = false) (hn : (l.take i).find? p = none) : (l.take (i + 1)).find? p = none := by
  rw [take_snoc h, List.find?_append, hn, List.find?_cons, pa]
  rfl
theorem fine_s (x : Nm) : fine (.str x.s) = true := nm_ok x
theorem atI_zero {α : Type} (c : α) (l : List α) : L2.atI (c :: l) 0 = some c := by
  unfold L2.atI ixN
  simp
theorem cut_mid {α : Type} (ds : List α) (k m : Nat) : cut ds (some (k : Int)) (some (m : Int)) = (ds.take m).drop k := by
  unfold cut
  rw [HT.sIx_nat, HT.sIx_nat, List.drop_take, Nat.min_def, Nat.min_def]
  by_cases h1 : k ≤ ds.length
  · rw [if_pos h1]
    by_cases h2 : m ≤ ds.length
    · rw [if_pos h2]
    · rw [if_neg h2, List.take_of_length_le (by rw [List.length_drop]; omega), List.take_of_length_le (by rw [List.length_drop]; omega)]
  · rw [if_neg h1, List.drop_eq_nil_of_le (Nat.le_refl _), List.drop_eq_nil_of_le (by omega), List.take_nil, List.take_nil]
theorem Fn.nm_eq (f : Fn) : ∃ a b c d, encF f = .tuple [.str a, .str f.nm.s, b, c] ∧ d = a := by cases f <;> exact ⟨_, _, _, _, rfl, rfl⟩
theorem encF_nm (f : Fn) : ∃ a b c, encF f = .tuple [.str a, .str f.nm.s, b, c] := by cases f <;> exact ⟨_, _, _, rfl⟩
theorem eqv_strs (a b : Nm) : PyData.eqv (.str a.s) (.str b.s) = decide (a = b) := by
  show (a.s == b.s) = decide (a = b)
  rw [Bool.eq_iff_iff, beq_iff_eq, decide_eq_true_iff]
  exact ⟨Nm.inj, fun e => e ▸ rfl⟩
section
variable {K : PySem.W.Frag} {σ : St} {H : Hp} {i n : Nat} {v : V} {x s : Str} {ds : List PyData} {Q : Bool → Hp → Prop}
/-- v[0] == s, v[0] != s -/
theorem strT (e : σ[i]? = some (some v)) (h : Is K H v (.tuple (.str x :: ds))) (q : Q (x == s) H) (fx : fine (.str x) = true := by decide +kernel) (fs : fine (.str s) = true := by decide +kernel) : tTest (tOp (rEqD n K) (tOp (rD K) (tVar i) (tC (.int 0))) (tC (.str s))) σ H Q :=
  ⟨v, e, _, 0, _, rfl, h, atI_zero _ _, fun _ hw => ⟨_, _, hw, .str s, fx, fs, Nat.zero_le _, _, rfl, q⟩⟩
theorem strN (e : σ[i]? = some (some v)) (h : Is K H v (.tuple (.str x :: ds))) (q : Q (!(x == s)) H) (fx : fine (.str x) = true := by decide +kernel) (fs : fine (.str s) = true := by decide +kernel) : tTest (tOp (rNeD n K) (tOp (rD K) (tVar i) (tC (.int 0))) (tC (.str s))) σ H Q :=
  ⟨v, e, _, 0, _, rfl, h, atI_zero _ _, fun _ hw => ⟨_, _, hw, .str s, fx, fs, Nat.zero_le _, _, rfl, q⟩⟩
end
section
variable {P : Program} {w : World} {K : PySem.W.Frag} {mg : Str → Option Value} {base : Heap}
/-! ### function_of, is_function, rule_of -/
def rFnOf (K : PySem.W.Frag) (H : Hp) (Q : VK) : Option Fn → Prop
  | none => ∀ H', Fr No H H' → Q .non H'
  | some f => Rt K H Q (encF f)
def sp_function_of (K : PySem.W.Frag) : Sp := fun vs H Q _ => ∃ v pg x, vs = [v, .str x.s] ∧ Is K H v (encG pg) ∧ rFnOf K H Q (fnOf pg x)
theorem sc_function_of : FnScope ["program", "name", "function"] ["program", "name"] (defScope Tx.s_function_of) := C8.fnScope_by (by decide +kernel)
theorem ok_function_of (Y : Hf K mg) : Cl CX0 P w K mg base 1 "function_of" (sp_function_of K) := by
  refine Y.d_function_of.ok sc_function_of (fun vs H Q E h => ?_) (fun f cdv A outer s H vs Q E hr h => ?_)
  · obtain ⟨v, pg, x, rfl, _⟩ := h; rfl
  have nd := sc_function_of.nd
  refine ⟨_, ((pss_cons (ps_for PassesOwn.never rfl (pi_tup (pv 0)) (pg_name (i := 2) nd rfl (by first | exact .inl rfl | exact .inr rfl))
        (pss_one (ps_if (pt_cmpR (op_eqD (n := 200) hr) (pe_ix ix_d (pv 2) pe_int fun _ _ => rfl) (pv 1) rfl)
            (pss_one (ps_ret (pv 2))) pss_nil)))
    (pss_one (ps_ret pe_non)))), ?_⟩
  obtain ⟨v, pg, x, rfl, hv, q⟩ := h
  obtain ⟨a, xs, rfl, ta, ia⟩ := hv.tupE
  refine ⟨_, rfl, a, rfl, ⟨_, ta.sq⟩, ?_⟩
  refine for_it (dwT (S := No) ta ia) (fun i σ H' => ∃ x2, σ = [some (.ref a), some (.str x.s), x2] ∧ Fr No H H' ∧ (pg.take i).find? (fun f => decide (f.nm = x)) = none)
    ⟨none, rfl, .refl, rfl⟩ (fun i σ H' _ z => let ⟨_, _, z, _⟩ := z; z) (fun i y σ H1 H2 hi z yy => ?_) fun σ H1 z => ?_
  · obtain ⟨x2, rfl, f1, hn⟩ := z
    obtain ⟨f2, d, hd, hy⟩ := yy
    rw [List.getElem?_map] at hd
    cases e : pg[i]? with
    | none => rw [e] at hd; cases hd
    | some g =>
      rw [e] at hd
      cases hd
      obtain ⟨c1, c2, c3, eg⟩ := encF_nm g
      refine ⟨_, rfl, _, 1, _, rfl, eg ▸ hy, rfl, fun z hz => ⟨_, rfl, _, _, hz, .str x.s, fine_s _, fine_s _, Nat.zero_le _, ?_⟩⟩
      rw [eqv_strs]
      refine ⟨_, rfl, ?_⟩
      by_cases c : g.nm = x
      · rw [decide_eq_true c]
        refine iteT ⟨_, rfl, ?_⟩
        have hf : fnOf pg x = some g := find_take e (decide_eq_true c) hn
        rw [hf] at q
        exact q _ _ (f1.trans f2) hy
      · rw [decide_eq_false c]
        exact iteF ⟨_, rfl, f1.trans f2, find_step e (decide_eq_false c) hn⟩
  · obtain ⟨x2, rfl, f1, hn⟩ := z
    rw [List.length_map, List.take_length] at hn
    unfold fnOf at q
    rw [hn] at q
    exact q _ f1
def lowH : Hd → Bool
  | .u _ => false
  | .c x => low x
def sp_is_function (K : PySem.W.Frag) : Sp := fun vs H Q _ => ∃ h : Hd, vs = [hdV h] ∧ Q (.bl (lowH h)) H
theorem sc_is_function : FnScope ["head"] ["head"] (defScope Tx.s_is_function) := C8.fnScope_by (by decide +kernel)
theorem ok_is_function (Y : Hf K mg) : Cl CX0 P w K mg base 1 "is_function" (sp_is_function K) := by
  refine Y.d_is_function.ok sc_is_function (fun vs H Q E h => ?_) (fun f cdv A outer s H vs Q E hr h => ?_)
  · obtain ⟨h, rfl, _⟩ := h; rfl
  have nd := sc_is_function.nd
  refine ⟨_, ((pss_one (ps_ret (pe_and (k_isi Y.z_isinstance Y.z_str (pv 0)) (pe_one (pe_bm0 PySem.F.plainAttrs_str PySem.F.slot_str_islower PySem.F.type_str_islower mt_islower (pe_ix ix_str (pv 0) pe_int fun _ _ => rfl))))))), ?_⟩
  obtain ⟨h, rfl, q⟩ := h
  refine tIsi_var (h := h) rfl ⟨_, rfl, ?_⟩
  cases h with
  | u i => exact iteF q
  | c x =>
    refine iteT ⟨_, rfl, ?_⟩
    have hx := (Bool.and_eq_true_iff.mp (Bool.and_eq_true_iff.mp x.ok).2)
    have h1 : 0 < x.s.length := of_decide_eq_true hx.1
    have h2 : x.s.length ≤ 64 := of_decide_eq_true hx.2
    have hl : x.s.cps.toList ≠ [] := fun z => by
      have : x.s.cps.toList.length = 0 := by rw [z]; rfl
      rw [Array.length_toList] at this
      have h1 : 0 < x.s.cps.size := h1
      omega
    obtain ⟨c, l, e⟩ := List.exists_cons_of_ne_nil hl
    have q : Q (.bl (low x)) H := q
    unfold low at q
    rw [e] at q
    refine ⟨x.s, 0, c, rfl, rfl, le_line (by omega), ?_, ?_⟩
    · rw [e]; exact atI_zero _ _
    · exact ⟨rfl, _, rfl, rfl, True.intro, q⟩
def sp_rule_of (K : PySem.W.Frag) : Sp := fun vs H Q _ => ∃ v y n rs z k, vs = [v, .str z.s, .int (k : Nat)] ∧ Is K H v (encF (.cases y n rs)) ∧
  match ruleOf rs z k with
  | none => ∀ H', Fr No H H' → Q .non H'
  | some r => Rt K H Q (encR r)
theorem sc_rule_of : FnScope ["function", "constructor", "count", "rule"] ["function", "constructor", "count"] (defScope Tx.s_rule_of) := C8.fnScope_by (by decide +kernel)
theorem ok_rule_of (Y : Hf K mg) : Cl CX0 P w K mg base 1 "rule_of" (sp_rule_of K) := by
  refine Y.d_rule_of.ok sc_rule_of (fun vs H Q E h => ?_) (fun f cdv A outer s H vs Q E hr h => ?_)
  · obtain ⟨v, y, n, rs, z, k, rfl, _⟩ := h; rfl
  have nd := sc_rule_of.nd
  refine ⟨_, ((pss_cons (ps_for PassesOwn.never rfl (pi_tup (pe_ix ix_d (pv 0) pe_int fun _ _ => rfl)) (pg_name (i := 3) nd rfl (by first | exact .inl rfl | exact .inr rfl))
        (pss_one (ps_if (PW.pt (pw_and (pt_cmpR (op_eqD (n := 200) hr) (pe_ix ix_d (pv 3) pe_int fun _ _ => rfl) (pv 1) rfl) (pw_and1 (pt_cmp (pc_eqI (pe_ix ix_d (pv 3) pe_int fun _ _ => rfl) (pv 2))))))
            (pss_one (ps_ret (pv 3))) pss_nil)))
    (pss_one (ps_ret pe_non)))), ?_⟩
  obtain ⟨v, y, n, rs, z, k, rfl, hv, q⟩ := h
  refine ⟨_, rfl, _, 3, _, rfl, hv, rfl, fun t ht => ?_⟩
  obtain ⟨a, xs, rfl, ta, ia⟩ := ht.tupE
  refine ⟨a, rfl, ⟨_, ta.sq⟩, ?_⟩
  refine for_it (dwT (S := No) ta ia) (fun i σ H' => ∃ x3, σ = [some v, some (.str z.s), some (.int (k : Nat)), x3] ∧ Fr No H H' ∧ (rs.take i).find? (fun r => decide (r.con = z) && decide (r.cnt = k)) = none)
    ⟨none, rfl, .refl, rfl⟩ (fun i σ H' _ z => let ⟨_, _, z, _⟩ := z; z) (fun i x σ H1 H2 hi z yy => ?_) fun σ H1 z => ?_
  · obtain ⟨x3, rfl, f1, hn⟩ := z
    obtain ⟨f2, d, hd, hy⟩ := yy
    rw [List.getElem?_map] at hd
    cases e : rs[i]? with
    | none => rw [e] at hd; cases hd
    | some r =>
      rw [e] at hd
      cases hd
      refine andE (c1 := decide (r.con = z)) (c2 := decide (r.cnt = k)) (fun Q1 hq => ?_) (fun _ Q1 hq => ?_) ?_
      · refine ⟨_, rfl, _, 0, _, rfl, hy, rfl, fun x1 hx1 => ⟨_, rfl, _, _, hx1, .str z.s, fine_s _, fine_s _, Nat.zero_le _, ?_⟩⟩
        rw [eqv_strs]
        exact ⟨_, rfl, hq⟩
      · refine ⟨_, rfl, _, 1, _, rfl, hy, rfl, fun x1 hx1 => ?_⟩
        obtain rfl := hx1.intE
        refine ⟨_, rfl, _, _, rfl, rfl, _, rfl, ?_⟩
        have e2 : decide (((r.cnt : Nat) : Int) = ((k : Nat) : Int)) = decide (r.cnt = k) := by rw [Bool.eq_iff_iff, decide_eq_true_iff, decide_eq_true_iff]; omega
        show Q1 (decide (((r.cnt : Nat) : Int) = ((k : Nat) : Int))) H2
        rw [e2]
        exact hq
      · cases c : (decide (r.con = z) && decide (r.cnt = k)) with
        | true =>
          refine iteT ⟨_, rfl, ?_⟩
          have hf : ruleOf rs z k = some r := find_take e c hn
          rw [hf] at q
          exact q _ _ (f1.trans f2) hy
        | false =>
          exact iteF ⟨_, rfl, f1.trans f2, find_step e c hn⟩
  · obtain ⟨x3, rfl, f1, hn⟩ := z
    rw [List.length_map, List.take_length] at hn
    unfold ruleOf at q
    rw [hn] at q
    exact q _ f1
/-! ### opened, own_demand, outer_demand -/
theorem enD_enumF : ∀ (l : List T) (n : Nat), enD n (l.map enc) = (enumF (n : Nat) l).map prD
  | [], _ => rfl
  | t :: l, n => by
    show PyData.tuple [.int (n : Nat), enc t] :: enD (n + 1) (l.map enc) = prD ((n : Nat), t) :: (enumF ((n : Nat) + 1) l).map prD
    rw [enD_enumF l (n + 1)]
    rfl
def sp_opened (K : PySem.W.Frag) (n : Nat) : Sp := fun vs H Q _ => ∃ v u r b vals rest, vs = [v, u, r] ∧ Tm K H v b ∧ Tms K H u vals ∧ Tms K H r rest ∧ b.size ≤ n ∧ n ≤ 1000 ∧ vals.length ≤ 10000 ∧ rest.length ≤ 10000 ∧ (∀ t ∈ vals, t.size ≤ 10000) ∧ Rt K H Q (enc (opn b vals rest))
theorem sc_opened : FnScope ["body", "values", "rest"] ["body", "values", "rest"] (defScope Tx.s_opened) := C8.fnScope_by (by decide +kernel)
theorem ok_opened (Y : Hf K mg) (n : Nat) : Cl CX0 P w K mg base (n + 4) "opened" (sp_opened K n) := by
  refine Y.d_opened.ok sc_opened (fun vs H Q E h => ?_) (fun f cdv A outer s H vs Q E hr h => ?_)
  · obtain ⟨v, u, r, b, vals, rest, rfl, _⟩ := h; rfl
  have nd := sc_opened.nd
  refine ⟨_, ((pss_one (ps_ret (kc (ok_applied Y) hr (pa_cons (kc (ok_put Y n) hr (pa_cons (pv 0) (pa_cons (k_tupF Y.z_tuple (k_listEn Y.z_list Y.z_enumerate (pv 1))) pa_nil)) (hk := by omega)) (pa_cons (pv 2) pa_nil)) (hk := by omega))))), ?_⟩
  obtain ⟨v, u, r, b, vals, rest, rfl, hb, hu, hr', hn, hn2, hl1, hl2, hs, q⟩ := h
  refine ⟨_, rfl, _, rfl, _, hu, fun p H1 ys f1 hp0 hp1 hi => ⟨p, ys, rfl, SqL.of hp1, fun p2 o hp2 ho => ?_⟩⟩
  rw [enD_enumF] at hi
  have f2 : Fr No H1 (upd H1 p2 (.frz o (.tup ys))) := Fr.new0 hp2
  have f12 := f1.trans f2
  refine ⟨_, b, _, enumF 0 vals, rfl, hb.fr f12, Prt.of hp2 ho hi, hn, by omega, enumF_size fun t ht => by have := hs t ht; omega, fun x H3 f3 hx => ⟨_, rfl, ?_⟩⟩
  refine ⟨_, _, put b (enumF 0 vals), rest, rfl, hx, (hr'.fr f12).fr f3, ?_, fun y H4 f4 hy => q _ _ ((f12.trans f3).trans f4) hy⟩
  have h1 := (put b (enumF 0 vals)).args_len
  have h2 := put_size (t := b) (ps := enumF 0 vals) (M := 10000) (by omega) (enumF_size hs)
  have h3 : 10000 * b.size ≤ 10000 * 1000 := Nat.mul_le_mul_left _ (by omega)
  omega
theorem encM_hd (d : Dd) : ∃ x ds, encM d = .tuple (.str x :: ds) := by cases d <;> exact ⟨_, _, rfl⟩
def rOwn (K : PySem.W.Frag) (H : Hp) (Q : VK) : Option Dd → Prop
  | none => ∀ H', Fr No H H' → Q .non H'
  | some d => Rt K H Q (encM d)
def sp_own_demand (K : PySem.W.Frag) : Sp := fun vs H Q _ => ∃ v u pg t, vs = [v, u] ∧ Is K H v (encG pg) ∧ Tm K H u t ∧ Wf pg ∧ Kn pg t ∧ t.size ≤ 5000 ∧ rOwn K H Q (own pg t)
theorem sc_own_demand : FnScope ["program", "term", "head", "arguments", "function"] ["program", "term"] (defScope Tx.s_own_demand) := C8.fnScope_by (by decide +kernel)
theorem ok_own_demand (Y : Hf K mg) : Cl CX0 P w K mg base 25 "own_demand" (sp_own_demand K) := by
  refine Y.d_own_demand.ok sc_own_demand (fun vs H Q E h => ?_) (fun f cdv A outer s H vs Q E hr h => ?_)
  · obtain ⟨v, u, pg, t, rfl, _⟩ := h; rfl
  have nd := sc_own_demand.nd
  refine ⟨_, ((pss_cons (ps_asg (pv 1) (pg_tup rfl (pgs_cons (pg_name (i := 2) nd rfl (by first | exact .inl rfl | exact .inr rfl)) (pgs_cons (pg_name (i := 3) nd rfl (by first | exact .inl rfl | exact .inr rfl)) pgs_nil))))
    (pss_cons (ps_if (pt_not (pt_val (k_isi Y.z_isinstance Y.z_str (pv 2))))
        (pss_cons (ps_if (pt_tru (pv 3))
            (pss_one (ps_ret (pe_tupD (pa_cons pe_str (pa_cons (pv 2) pa_nil))))) pss_nil)
        (pss_one (ps_ret (pe_tupD (pa_cons pe_str (pa_cons (pv 2) pa_nil)))))) pss_nil)
    (pss_cons (ps_if (pt_not (pt_val (kc (ok_is_function Y) hr (pa_cons (pv 2) pa_nil) (hk := by omega))))
        (pss_one (ps_ret (pe_tupD (pa_cons pe_str pa_nil)))) pss_nil)
    (pss_cons (ps_set (i := 4) nd rfl (by first | exact .inl rfl | exact .inr rfl) (kc (ok_function_of Y) hr (pa_cons (pv 0) (pa_cons (pv 2) pa_nil)) (hk := by omega)))
    (pss_cons (ps_if (pt_cmp (pc_lt (k_lenT Y.z_len (pv 3)) (pe_ix ix_d (pv 4) pe_int fun _ _ => rfl)))
        (pss_one (ps_ret (pe_tupD (pa_cons pe_str pa_nil)))) pss_nil)
    (pss_cons (ps_if (pt_cmpR (op_eqD (n := 200) hr) (pe_ix ix_d (pv 4) pe_int fun _ _ => rfl) pe_str rfl)
        (pss_one (ps_ret (pe_tupD (pa_cons pe_str (pa_cons (kc (ok_opened Y 20) hr (pa_cons (pe_ix ix_d (pv 4) pe_int fun _ _ => rfl) (pa_cons (pe_slice sl_d (pv 3) po_none (po_some (pe_ix ix_d (pv 4) pe_int fun _ _ => rfl))) (pa_cons (pe_slice sl_d (pv 3) (po_some (pe_ix ix_d (pv 4) pe_int fun _ _ => rfl)) po_none) pa_nil))) (hk := by omega)) pa_nil))))) pss_nil)
    (pss_one (ps_ret pe_non))))))))), ?_⟩
  obtain ⟨v, u, pg, t, rfl, hv, hu, W, kn, hz, q⟩ := h
  obtain ⟨a, b, as, rfl, ta, tb, ia⟩ := hu.dest
  refine ⟨_, rfl, a, _, rfl, ta.sq, rfl, _, _, rfl, _, _, rfl, rfl, ?_⟩
  have hb : Tms K H (.ref b) t.args := .tup tb ia
  have hal := t.args_len
  unfold own at q
  cases hh : t.hd with
  | u i =>
    rw [hh] at q
    dsimp only at q
    refine tIsi_var (h := .u i) rfl ⟨_, rfl, iteT ⟨_, rfl, _, hb, ?_⟩⟩
    rw [List.isEmpty_map]
    cases e : t.args with
    | nil =>
      rw [e, if_pos rfl] at q
      refine iteF ⟨_, rfl, [.str "unknown", .int i], .cons (.str _) (.cons (.int i) .nil), by show 2 ≤ 16000000; decide, fun w H1 f1 hw => q w H1 f1 hw⟩
    | cons c cs =>
      rw [e, if_neg (by simp)] at q
      refine iteT ⟨_, rfl, [.str "stuck", .int i], .cons (.str _) (.cons (.int i) .nil), by show 2 ≤ 16000000; decide, fun w H1 f1 hw => q w H1 f1 hw⟩
  | c x =>
    rw [hh] at q
    dsimp only at q
    refine tIsi_var (h := .c x) rfl ⟨_, rfl, iteF ?_⟩
    refine ⟨_, rfl, .c x, rfl, _, rfl, ?_⟩
    show if (!low x) = true then _ else _
    by_cases l : low x = true
    · rw [if_pos l] at q
      rw [l]
      refine iteF ?_
      have hx := kn x (by rw [← hh]; exact t.hd_mem) l
      obtain ⟨g, hg⟩ := Option.isSome_iff_exists.mp hx
      rw [hg] at q
      dsimp only at q
      refine ⟨_, rfl, _, rfl, _, pg, x, rfl, hv, ?_⟩
      rw [hg]
      intro w1 H1 f1 hw1
      have hgm := fnOf_mem hg
      cases g with
      | plain y n b' =>
        obtain ⟨w2, w3, w4⟩ := W.plain y n b' hgm.1
        refine ⟨_, rfl, _, _, rfl, hb.fr f1, _, rfl, _, 2, _, rfl, hw1, rfl, fun z hz => ?_⟩
        obtain rfl := hz.intE
        refine ⟨_, _, rfl, rfl, _, rfl, ?_⟩
        rw [List.length_map]
        show if decide (((t.args.length : Nat) : Int) < ((n : Nat) : Int)) = true then _ else _
        by_cases c : t.args.length < n
        · rw [if_pos (show t.args.length < (Fn.plain y n b').ar from c)] at q
          rw [decide_eq_true (by omega)]
          refine iteT ⟨[.str "value"], .cons (.str _) .nil, by show 1 ≤ 16000000; decide, fun w H2 f2 hw => q w H2 (f1.trans f2) hw⟩
        · rw [if_neg (show ¬ t.args.length < (Fn.plain y n b').ar from c)] at q
          rw [decide_eq_false (by omega)]
          refine iteF (nextE ?_)
          dsimp only
          refine ⟨_, rfl, _, 0, _, rfl, hw1, rfl, fun z0 hz0 => ⟨_, _, hz0, .str "plain", by decide +kernel, by decide +kernel, Nat.zero_le _, _, rfl, ?_⟩⟩
          refine iteT ⟨_, rfl, _, 3, _, rfl, hw1, rfl, fun z3 hz3 => ⟨_, rfl, _, rfl, _, 2, _, rfl, hw1, rfl, fun z4 hz4 => ⟨_, hz4.intE, _, hb.fr f1, fun z5 H2 f2 hz5 => ?_⟩⟩⟩
          refine ⟨_, rfl, _, rfl, _, 2, _, rfl, hw1.fr f2, rfl, fun z6 hz6 => ⟨_, hz6.intE, _, (hb.fr f1).fr f2, fun z7 H3 f3 hz7 => ?_⟩⟩
          rw [cut_to, ← List.map_take] at hz5
          rw [cut_from, ← List.map_drop] at hz7
          have htake := List.length_take_le' n t.args
          have hdrop : (t.args.drop n).length ≤ t.args.length := by rw [List.length_drop]; omega
          refine ⟨z3, z5, z7, b', t.args.take n, t.args.drop n, rfl, Is.fr f3 (Is.fr f2 hz3), Is.fr f3 hz5, hz7, w3, by omega, by omega, by omega, fun u hu => ?_, fun z8 H4 f4 hz8 => ⟨_, .cons (.str _) (.cons hz8 .nil), by show 2 ≤ 16000000; decide, fun z9 H5 f5 hz9 => q z9 H5 ((((f1.trans f2).trans f3).trans f4).trans f5) hz9⟩⟩
          have := T.arg_lt (List.mem_of_mem_take hu)
          omega
      | cases y n rs =>
        refine ⟨_, rfl, _, _, rfl, hb.fr f1, _, rfl, _, 2, _, rfl, hw1, rfl, fun z hz => ?_⟩
        obtain rfl := hz.intE
        refine ⟨_, _, rfl, rfl, _, rfl, ?_⟩
        rw [List.length_map]
        show if decide (((t.args.length : Nat) : Int) < ((n : Nat) : Int)) = true then _ else _
        by_cases c : t.args.length < n
        · rw [if_pos (show t.args.length < (Fn.cases y n rs).ar from c)] at q
          rw [decide_eq_true (by omega)]
          refine iteT ⟨[.str "value"], .cons (.str _) .nil, by show 1 ≤ 16000000; decide, fun w H2 f2 hw => q w H2 (f1.trans f2) hw⟩
        · rw [if_neg (show ¬ t.args.length < (Fn.cases y n rs).ar from c)] at q
          rw [decide_eq_false (by omega)]
          refine iteF (nextE ?_)
          dsimp only
          refine ⟨_, rfl, _, 0, _, rfl, hw1, rfl, fun z0 hz0 => ⟨_, _, hz0, .str "plain", by decide +kernel, by decide +kernel, Nat.zero_le _, _, rfl, ?_⟩⟩
          exact iteF (q _ f1)
    · rw [if_neg l] at q
      rw [Bool.not_eq_true] at l
      rw [l]
      refine iteT ⟨[.str "value"], .cons (.str _) .nil, by show 1 ≤ 16000000; decide, fun w H1 f1 hw => q w H1 f1 hw⟩
/-- a value has a name at its head -/
theorem own_val {pg : Prog} {t : T} (h : own pg t = some .val) : ∃ y, t.hd = .c y := by
  unfold own at h
  cases e1 : t.hd with
  | u j => rw [e1] at h; dsimp only at h; split at h <;> cases h
  | c x => exact ⟨x, rfl⟩
theorem dem_val {pg : Prog} (W : Wf pg) {t : T} (h : dem pg t = .val) : ∃ y, t.hd = .c y := by
  cases e : own pg t with
  | some d => rw [dem_own e] at h; subst h; exact own_val e
  | none =>
    obtain ⟨x, _, _, _, hx, _⟩ := own_none e
    exact ⟨x, hx⟩
def sp_outer_demand (K : PySem.W.Frag) : Sp := fun vs H Q _ => ∃ v u i pg t a as d, vs = [v, u, i] ∧ Is K H v (encG pg) ∧ Tm K H u t ∧ Is K H i (encM d) ∧ Wf pg ∧ own pg t = none ∧ t.args = a :: as ∧ t.size ≤ 5000 ∧ (d = .val → ∃ y, a.hd = .c y) ∧ (∀ t', d = .stp t' → t'.size ≤ 1000000) ∧ Rt K H Q (encM (outer pg t a d))
theorem sc_outer_demand : FnScope ["program", "term", "inner", "head", "arguments", "function", "first", "rule", "values"] ["program", "term", "inner"] (defScope Tx.s_outer_demand) := C8.fnScope_by (by decide +kernel)
theorem ok_outer_demand (Y : Hf K mg) : Cl CX0 P w K mg base 25 "outer_demand" (sp_outer_demand K) := by
  refine Y.d_outer_demand.ok sc_outer_demand (fun vs H Q E h => ?_) (fun f cdv A outer_ s H vs Q E hr h => ?_)
  · obtain ⟨v, u, i, pg, t, a, as, d, rfl, _⟩ := h; rfl
  have nd := sc_outer_demand.nd
  refine ⟨_, ((pss_cons (ps_asg (pv 1) (pg_tup rfl (pgs_cons (pg_name (i := 3) nd rfl (by first | exact .inl rfl | exact .inr rfl)) (pgs_cons (pg_name (i := 4) nd rfl (by first | exact .inl rfl | exact .inr rfl)) pgs_nil))))
    (pss_cons (ps_set (i := 5) nd rfl (by first | exact .inl rfl | exact .inr rfl) (kc (ok_function_of Y) hr (pa_cons (pv 0) (pa_cons (pv 3) pa_nil)) (hk := by omega)))
    (pss_cons (ps_if (pt_cmpR (op_eqD (n := 200) hr) (pe_ix ix_d (pv 2) pe_int fun _ _ => rfl) pe_str rfl)
        (pss_one (ps_ret (pe_tupD (pa_cons pe_str (pa_cons (pe_tupD (pa_cons (pv 3) (pa_cons (pe_op op_catD (pe_tupD (pa_cons (pe_ix ix_d (pv 2) pe_int fun _ _ => rfl) pa_nil)) (pe_slice sl_d (pv 4) (po_some pe_int) po_none)) pa_nil))) pa_nil))))) pss_nil)
    (pss_cons (ps_if (pt_cmpR (op_eqD (n := 200) hr) (pe_ix ix_d (pv 2) pe_int fun _ _ => rfl) pe_str rfl)
        (pss_one (ps_ret (pe_tupD (pa_cons pe_str (pa_cons (pe_ix ix_d (pv 2) pe_int fun _ _ => rfl) (pa_cons (pv 3) pa_nil)))))) pss_nil)
    (pss_cons (ps_if (pt_cmpR (op_neD (n := 200) hr) (pe_ix ix_d (pv 2) pe_int fun _ _ => rfl) pe_str rfl)
        (pss_one (ps_ret (pv 2))) pss_nil)
    (pss_cons (ps_set (i := 6) nd rfl (by first | exact .inl rfl | exact .inr rfl) (pe_ix ix_d (pv 4) pe_int fun _ _ => rfl))
    (pss_cons (ps_set (i := 7) nd rfl (by first | exact .inl rfl | exact .inr rfl) (kc (ok_rule_of Y) hr (pa_cons (pv 5) (pa_cons (pe_ix ix_d (pv 6) pe_int fun _ _ => rfl) (pa_cons (k_lenT Y.z_len (pe_ix ix_d (pv 6) pe_int fun _ _ => rfl)) pa_nil))) (hk := by omega)))
    (pss_cons (ps_if (PW.pt (pw_or (pt_cmp (pc_isN (pv 7))) (pw_or1 (pt_val (kc (ok_is_function Y) hr (pa_cons (pe_ix ix_d (pv 6) pe_int fun _ _ => rfl) pa_nil) (hk := by omega))))))
        (pss_one (ps_ret (pe_tupD (pa_cons pe_str pa_nil)))) pss_nil)
    (pss_cons (ps_set (i := 8) nd rfl (by first | exact .inl rfl | exact .inr rfl) (pe_op op_catD (pe_ix ix_d (pv 6) pe_int fun _ _ => rfl) (pe_slice sl_d (pv 4) (po_some pe_int) (po_some (pe_ix ix_d (pv 5) pe_int fun _ _ => rfl)))))
    (pss_one (ps_ret (pe_tupD (pa_cons pe_str (pa_cons (kc (ok_opened Y 20) hr (pa_cons (pe_ix ix_d (pv 7) pe_int fun _ _ => rfl) (pa_cons (pv 8) (pa_cons (pe_slice sl_d (pv 4) (po_some (pe_ix ix_d (pv 5) pe_int fun _ _ => rfl)) po_none) pa_nil))) (hk := by omega)) pa_nil))))))))))))))), ?_⟩
  obtain ⟨v, u, i, pg, t, a, as, d, rfl, hv, hu, hi, W, hown, hargs, hz, hval, hstp, q⟩ := h
  obtain ⟨x, y, n, rs, hx, lx, hf, hn⟩ := own_none hown
  obtain ⟨a0, b, xs, rfl, ta, tb, ia⟩ := hu.dest
  have hb : Tms K H (.ref b) t.args := .tup tb ia
  rw [hx] at ta
  refine ⟨_, rfl, a0, _, rfl, ta.sq, rfl, _, _, rfl, _, _, rfl, rfl, ?_⟩
  refine ⟨_, rfl, _, rfl, _, pg, x, rfl, hv, ?_⟩
  rw [hf]
  intro w1 H1 f1 hw1
  unfold outer at q
  rw [hx] at q
  dsimp only at q
  have hi1 := hi.fr f1
  cases d with
  | stp u' =>
    have hi1 : Is K H1 i (.tuple [.str "step", enc u']) := hi1
    have hu' := hstp u' rfl
    refine strT rfl hi1 (iteT ?_)
    refine ⟨_, rfl, _, rfl, _, 1, _, rfl, hi1, rfl, fun z2 hz2 => ⟨[enc u'], .cons hz2 .nil, by show 1 ≤ 16000000; decide, fun z3 H3 f3 hz3 => ?_⟩⟩
    refine ⟨_, rfl, 1, rfl, _, (hb.fr f1).fr f3, fun z4 H4 f4 hz4 => ?_⟩
    have e1 : cut (t.args.map enc) (some 1) none = (t.args.drop 1).map enc := by rw [show (some (1 : Int)) = some ((1 : Nat) : Int) from rfl, cut_from, ← List.map_drop]
    rw [e1] at hz4
    refine ⟨_, _, Is.fr f4 hz3, hz4, ?_, fun z5 H5 f5 hz5 => ?_⟩
    · have h1 := t.args_len
      simp
      omega
    refine ⟨[hdD (.c x), .tuple ([enc u'] ++ (t.args.drop 1).map enc)], .cons (is_hd (h := .c x)) (.cons hz5 .nil), by show 2 ≤ 16000000; decide, fun z6 H6 f6 hz6 => ?_⟩
    refine ⟨[.str "step", enc ((T.lf (.c x)).aps (u' :: t.args.drop 1))], .cons (.str _) (.cons ?_ .nil), by show 2 ≤ 16000000; decide, fun z7 H7 f7 hz7 => q z7 H7 (((((f1.trans f3).trans f4).trans f5).trans f6).trans f7) hz7⟩
    rw [enc_mk]
    exact hz6
  | unk j =>
    have hi1 : Is K H1 i (.tuple [.str "unknown", .int j]) := hi1
    refine strT rfl hi1 (iteF (nextE ?_))
    dsimp only
    refine strT rfl hi1 (iteT ?_)
    refine ⟨_, rfl, _, 1, _, rfl, hi1, rfl, fun z2 hz2 => ⟨_, rfl, [.str "needs", .int j, .str x.s], .cons (.str _) (.cons hz2 (.cons (.str _) .nil)), by show 3 ≤ 16000000; decide, fun z7 H7 f7 hz7 => q z7 H7 (f1.trans f7) hz7⟩⟩
  | nds j g =>
    have hi1 : Is K H1 i (.tuple [.str "needs", .int j, .str g.s]) := hi1
    refine strT rfl hi1 (iteF (nextE ?_))
    dsimp only
    refine strT rfl hi1 (iteF (nextE ?_))
    dsimp only
    refine strN rfl hi1 (iteT ⟨_, rfl, q _ _ f1 hi1⟩)
  | stk j =>
    have hi1 : Is K H1 i (.tuple [.str "stuck", .int j]) := hi1
    refine strT rfl hi1 (iteF (nextE ?_))
    dsimp only
    refine strT rfl hi1 (iteF (nextE ?_))
    dsimp only
    refine strN rfl hi1 (iteT ⟨_, rfl, q _ _ f1 hi1⟩)
  | err =>
    have hi1 : Is K H1 i (.tuple [.str "error"]) := hi1
    refine strT rfl hi1 (iteF (nextE ?_))
    dsimp only
    refine strT rfl hi1 (iteF (nextE ?_))
    dsimp only
    refine strN rfl hi1 (iteT ⟨_, rfl, q _ _ f1 hi1⟩)
  | val =>
    have hi1 : Is K H1 i (.tuple [.str "value"]) := hi1
    obtain ⟨z, hz'⟩ := hval rfl
    refine strT rfl hi1 (iteF (nextE ?_))
    dsimp only
    refine strT rfl hi1 (iteF (nextE ?_))
    dsimp only
    refine strN rfl hi1 (iteF (nextE ?_))
    dsimp only
    rw [hf] at q
    dsimp only at q
    rw [hz'] at q
    dsimp only at q
    have ha1 : L2.atI (t.args.map enc) 0 = some (enc a) := by rw [hargs]; exact atI_zero _ _
    refine ⟨_, rfl, _, 0, _, rfl, hb.fr f1, ha1, fun z2 hz2 => ?_⟩
    have hz2 : Tm K H1 z2 a := hz2
    refine ⟨_, rfl, _, rfl, _, 0, _, rfl, hz2.is, rfl, fun z3 hz3 => ⟨_, rfl, _, 1, _, rfl, hz2.is, rfl, fun z4 hz4 => ⟨_, _, rfl, hz4, ?_⟩⟩⟩
    rw [List.length_map]
    obtain rfl := is_hd_inv hz3
    refine ⟨w1, y, n, rs, z, a.args.length, by rw [hz']; rfl, hw1, ?_⟩
    cases e4 : ruleOf rs z a.args.length with
    | none =>
      rw [e4] at q
      dsimp only at q ⊢
      intro H2 f2
      refine orE (c1 := true) (c2 := true) (fun Q1 hq => ⟨_, rfl, _, rfl, hq⟩) (fun hh => nomatch hh) (iteT ?_)
      exact ⟨[.str "error"], .cons (.str _) .nil, by show 1 ≤ 16000000; decide, fun w3 H3 f3 hw3 => q w3 H3 ((f1.trans f2).trans f3) hw3⟩
    | some r =>
      rw [e4] at q
      dsimp only at q ⊢
      intro w2 H2 f2 hw2
      have hw2' := hw2
      obtain ⟨a2, xs2, rfl, _, _⟩ := hw2'.tupE
      have hz22 : Tm K H2 z2 a := hz2.fr f2
      refine orE (c1 := false) (c2 := low z) (fun Q1 hq => ⟨_, rfl, _, rfl, hq⟩) (fun _ Q1 hq => ?_) ?_
      · refine ⟨_, rfl, _, 0, _, rfl, hz22.is, rfl, fun z5 hz5 => ⟨a.hd, by rw [is_hd_inv hz5]; rfl, _, rfl, ?_⟩⟩
        rw [hz']
        exact hq
      cases l : low z with
      | true =>
        rw [l, if_pos rfl] at q
        refine iteT ⟨[.str "error"], .cons (.str _) .nil, by show 1 ≤ 16000000; decide, fun w3 H3 f3 hw3 => q w3 H3 ((f1.trans f2).trans f3) hw3⟩
      | false =>
        rw [l, if_neg Bool.false_ne_true] at q
        refine iteF (nextE ?_)
        dsimp only
        have hb2 : Tms K H2 (.ref b) t.args := (hb.fr f1).fr f2
        have hw12 := hw1.fr f2
        have hma : a ∈ t.args := by rw [hargs]; exact List.mem_cons_self
        have hlt := T.arg_lt hma
        have hal := t.args_len
        have haa := a.args_len
        refine ⟨_, rfl, _, 1, _, rfl, hz22.is, rfl, fun z6 hz6 => ⟨_, rfl, 1, rfl, _, rfl, _, 2, _, rfl, hw12, rfl, fun z7 hz7 => ⟨_, hz7.intE, _, hb2, fun z8 H3 f3 hz8 => ?_⟩⟩⟩
        have e1 : cut (t.args.map enc) (some 1) (some ((n : Nat) : Int)) = ((t.args.take n).drop 1).map enc := by rw [show (some (1 : Int)) = some ((1 : Nat) : Int) from rfl, cut_mid, List.map_drop, List.map_take]
        rw [e1] at hz8
        have hmid : ((t.args.take n).drop 1).length ≤ t.args.length := by rw [List.length_drop, List.length_take]; omega
        refine ⟨_, _, Is.fr f3 hz6, hz8, by rw [List.length_map, List.length_map]; omega, fun z9 H4 f4 hz9 => ?_⟩
        rw [← List.map_append] at hz9
        have f24 := f3.trans f4
        refine ⟨_, rfl, _, 2, _, rfl, hw2.fr f24, rfl, fun z10 hz10 => ⟨_, rfl, ?_⟩⟩
        refine ⟨_, rfl, _, rfl, _, 2, _, rfl, hw12.fr f24, rfl, fun z11 hz11 => ⟨_, hz11.intE, _, hb2.fr f24, fun z12 H5 f5 hz12 => ?_⟩⟩
        rw [cut_from, ← List.map_drop] at hz12
        have hr := (W.cases y n rs (fnOf_mem hf).1).2.2.2 r (List.mem_of_find?_eq_some e4)
        have hdrop : (t.args.drop n).length ≤ t.args.length := by rw [List.length_drop]; omega
        refine ⟨z10, z9, z12, r.body, a.args ++ (t.args.take n).drop 1, t.args.drop n, rfl, Is.fr f5 hz10, Is.fr f5 hz9, hz12, hr.2.2.2, by omega, by rw [List.length_append]; omega, by omega, fun u hu => ?_, fun z13 H6 f6 hz13 => ?_⟩
        · rcases List.mem_append.mp hu with hu | hu
          · have := T.arg_lt hu
            omega
          · have := T.arg_lt (List.mem_of_mem_take (List.mem_of_mem_drop hu))
            omega
        · exact ⟨_, .cons (.str _) (.cons hz13 .nil), by show 2 ≤ 16000000; decide, fun z14 H7 f7 hz14 => q z14 H7 (((((f1.trans f2).trans f24).trans f5).trans f6).trans f7) hz14⟩
/-! ### demand -/
/-- a stack of terms over t: each waits for its first argument -/
inductive Stk (pg : Prog) : List T → T → T → Prop
  | nil (t : T) : Stk pg [] t t
  | snoc {ws : List T} {t u a : T} {as : List T} : Stk pg ws t u → own pg u = none → u.args = a :: as → Stk pg (ws ++ [u]) t a
theorem Stk.inv {pg : Prog} {ws : List T} {t u a : T} (h : Stk pg (ws ++ [u]) t a) : ∃ as, Stk pg ws t u ∧ own pg u = none ∧ u.args = a :: as := by
  generalize e : ws ++ [u] = l at h
  cases h with
  | nil => simp at e
  | snoc h1 h2 h3 =>
    obtain ⟨e1, e2⟩ := List.append_inj' e rfl
    cases e2
    subst e1
    exact ⟨_, h1, h2, h3⟩
theorem Stk.nil_eq {pg : Prog} {t a : T} (h : Stk pg [] t a) : a = t := by
  generalize e : ([] : List T) = l at h
  cases h with
  | nil => rfl
  | snoc h1 h2 h3 => simp at e
theorem Stk.facts {pg : Prog} {ws : List T} {t a : T} (h : Stk pg ws t a) : a.size + ws.length ≤ t.size ∧ (Kn pg t → Kn pg a) := by
  induction h with
  | nil => exact ⟨Nat.le_refl _, id⟩
  | snoc h1 h2 h3 ih =>
    rename_i ws t u a as
    have hm : a ∈ u.args := by rw [h3]; exact List.mem_cons_self
    have := T.arg_lt hm
    refine ⟨by rw [List.length_append]; show a.size + (ws.length + 1) ≤ _; have := ih.1; omega, fun kn x hx lx => ih.2 kn x (T.arg_heads hm _ hx) lx⟩
def OwnV (K : PySem.W.Frag) (H : Hp) (x : V) : Option Dd → Prop
  | none => x = .non
  | some d => Is K H x (encM d)
theorem rOwn.of {H : Hp} {Q : VK} {o : Option Dd} (h : ∀ x H', Fr No H H' → OwnV K H' x o → Q x H') : rOwn K H Q o := by
  cases o with
  | none => exact fun H' f => h _ _ f rfl
  | some d => exact fun x H' f i => h _ _ f i
theorem OwnV.fr {S : Addr → Prop} {H H' : Hp} {x : V} {o : Option Dd} (f : Fr S H H') (h : OwnV K H x o) : OwnV K H' x o := by
  cases o with
  | none => exact h
  | some d => exact Is.fr f h
def sp_demand (K : PySem.W.Frag) : Sp := fun vs H Q _ => ∃ v u pg t, vs = [v, u] ∧ Is K H v (encG pg) ∧ Tm K H u t ∧ Wf pg ∧ Kn pg t ∧ t.size ≤ 5000 ∧ Rt K H Q (encM (dem pg t))
theorem sc_demand : FnScope ["program", "term", "waiting", "found", "outer"] ["program", "term"] (defScope Tx.s_demand) := C8.fnScope_by (by decide +kernel)
theorem ok_demand (Y : Hf K mg) : Cl CX0 P w K mg base 26 "demand" (sp_demand K) := by
  refine Y.d_demand.ok sc_demand (fun vs H Q E h => ?_) (fun f cdv A outer_ s H vs Q E hr h => ?_)
  · obtain ⟨v, u, pg, t, rfl, _⟩ := h; rfl
  have nd := sc_demand.nd
  refine ⟨_, ((pss_cons (ps_set (i := 2) nd rfl (by first | exact .inl rfl | exact .inr rfl) (pe_lst pa_nil))
    (pss_cons (ps_set (i := 3) nd rfl (by first | exact .inl rfl | exact .inr rfl) (kc (ok_own_demand Y) hr (pa_cons (pv 0) (pa_cons (pv 1) pa_nil)) (hk := by omega)))
    (pss_cons (ps_while PassesOwn.never (pt_cmp (pc_isN (pv 3)))
        (pss_cons (ps_expr (pe_bm PySem.F.plainAttrs_list PySem.F.slot_list_append PySem.F.type_list_append mt_append (pv 2) (pa_cons (pv 1) pa_nil)))
        (pss_cons (ps_set (i := 1) nd rfl (by first | exact .inl rfl | exact .inr rfl) (pe_ix ix_d (pe_ix ix_d (pv 1) pe_int fun _ _ => rfl) pe_int fun _ _ => rfl))
        (pss_one (ps_set (i := 3) nd rfl (by first | exact .inl rfl | exact .inr rfl) (kc (ok_own_demand Y) hr (pa_cons (pv 0) (pa_cons (pv 1) pa_nil)) (hk := by omega)))))))
    (pss_cons (ps_for PassesOwn.never rfl (pi_list (pe_revL (pv 2))) (pg_name (i := 4) nd rfl (by first | exact .inl rfl | exact .inr rfl))
        (pss_one (ps_set (i := 3) nd rfl (by first | exact .inl rfl | exact .inr rfl) (kc (ok_outer_demand Y) hr (pa_cons (pv 0) (pa_cons (pv 4) (pa_cons (pv 3) pa_nil))) (hk := by omega)))))
    (pss_one (ps_ret (pv 3)))))))), ?_⟩
  obtain ⟨v, u, pg, t, rfl, hv, hu, W, kn, hz, q⟩ := h
  refine ⟨Nat.zero_le _, fun l hl => ?_⟩
  have f0 : Fr No H (upd H l (.lst [])) := Fr.new0 hl
  refine ⟨_, rfl, _, rfl, v, u, pg, t, rfl, hv.fr f0, hu.fr f0, W, kn, hz, rOwn.of fun x3 H1 f1 ho => ?_⟩
  refine ⟨fun m σ H' => ∃ cur ws vc x3 ys, m = T.size cur ∧ σ = [some v, some vc, some (.ref l), some x3, none] ∧ Fr No H H' ∧ Tm K H' vc cur ∧ Stk pg ws t cur ∧ H' l = some (.lst ys) ∧ IsAll K H' ys (ws.map enc) ∧ OwnV K H' x3 (own pg cur),
    ⟨_, t, [], u, x3, [], rfl, rfl, f0.trans f1, (hu.fr f0).fr f1, .nil t, f1.kn upd_same, .nil, ho⟩, ?_⟩
  rintro m σ H2 ⟨cur, ws, vc, x3, ys, rfl, rfl, f2, hc, hs, hl2, hi, ho2⟩
  have hsf := hs.facts
  refine ⟨_, rfl, _, rfl, ?_⟩
  cases e : own pg cur with
  | none =>
    rw [e] at ho2
    obtain rfl := (show x3 = .non from ho2)
    obtain ⟨a, as, ha⟩ := own_first W e
    have hma : a ∈ cur.args := by rw [ha]; exact List.mem_cons_self
    have hlt := T.arg_lt hma
    refine iteT ⟨_, fun σ' H' n => n, ?_⟩
    refine ⟨_, rfl, .inl ⟨rfl, _, SqL.of hl2⟩, _, rfl, l, _, _, rfl, rfl, hl2, lt_line (by rw [hi.len, List.length_map]; omega), ?_⟩
    have g3 : Fr (At l) H2 (upd H2 l (.lst (ys ++ [vc]))) := Fr.refl.mut rfl hl2 fun z => z
    have f3 : Fr No H (upd H2 l (.lst (ys ++ [vc]))) := f2.new hl
    refine ⟨_, rfl, _, 1, _, rfl, Tm.is (hc.fr g3), rfl, fun x hx => ⟨_, 0, _, rfl, hx, by rw [ha]; exact atI_zero _ _, fun y hy => ?_⟩⟩
    have hsn : Stk pg (ws ++ [cur]) t a := .snoc hs e ha
    refine ⟨_, rfl, _, rfl, v, y, pg, a, rfl, hv.fr f3, hy, W, hsn.facts.2 kn, by omega, rOwn.of fun x4 H4 f4 ho4 => ?_⟩
    refine ⟨_, hlt, a, ws ++ [cur], y, x4, _, rfl, rfl, f3.trans f4, Is.fr f4 hy, hsn, f4.kn upd_same, ?_, ho4⟩
    rw [List.map_append]
    exact ((hi.fr g3).append (.cons (hc.fr g3) .nil)).fr f4
  | some d =>
    rw [e] at ho2
    have hd : Is K H2 x3 (encM (dem pg cur)) := by rw [dem_own e]; exact ho2
    obtain ⟨s0, ds0, he⟩ := encM_hd d
    obtain ⟨a3, xs3, rfl, _, _⟩ := (show Is K H2 x3 (.tuple (.str s0 :: ds0)) from he ▸ ho2).tupE
    refine iteF ?_
    refine ⟨_, rfl, l, ys, rfl, SqL.of hl2, fun r hr2 => ⟨r, rfl, ⟨_, SqL.of upd_same⟩, ?_⟩⟩
    have f3 : Fr No H2 (upd H2 r (.lst ys.reverse)) := Fr.new0 hr2
    have hrev : IsAll K (upd H2 r (.lst ys.reverse)) ys.reverse (ws.reverse.map enc) := by rw [List.map_reverse]; exact hi.rev.fr f3
    refine for_it (dwL (S := No) (H1 := upd H2 r (.lst ys.reverse)) upd_same hrev (fun z => z)) (fun i σ H' => ∃ x4 y c, σ = [some v, some vc, some (.ref l), some y, x4] ∧ Fr No (upd H2 r (.lst ys.reverse)) H' ∧ Stk pg (ws.take (ws.length - i)) t c ∧ Is K H' y (encM (dem pg c)))
      ⟨none, _, cur, rfl, .refl, by rw [Nat.sub_zero, List.take_length]; exact hs, hd.fr f3⟩ (fun i σ H' _ z => let ⟨_, _, _, _, z, _⟩ := z; z) (fun i x σ H3 H4 hlt z yy => ?_) fun σ H3 z => ?_
    · obtain ⟨x4, y, c, rfl, f4, hsc, hy⟩ := z
      obtain ⟨f5, dd, hdd, hx⟩ := yy
      rw [List.length_map, List.length_reverse] at hlt
      rw [List.getElem?_map, List.getElem?_reverse hlt] at hdd
      cases e5 : ws[ws.length - 1 - i]? with
      | none => rw [e5] at hdd; cases hdd
      | some ou =>
        rw [e5] at hdd
        cases hdd
        have etk : ws.take (ws.length - i) = ws.take (ws.length - (i + 1)) ++ [ou] := by
          have := take_snoc e5
          rw [show ws.length - 1 - i + 1 = ws.length - i by omega, show ws.length - 1 - i = ws.length - (i + 1) by omega] at this
          exact this
        rw [etk] at hsc
        obtain ⟨as, hs1, hs2, hs3⟩ := hsc.inv
        have hf1 := hs1.facts
        have hmc : c ∈ ou.args := by rw [hs3]; exact List.mem_cons_self
        have hltc := T.arg_lt hmc
        have f24 := (f2.trans f3).trans (f4.trans f5)
        refine ⟨_, rfl, _, rfl, _, rfl, v, x, y, pg, ou, c, as, dem pg c, rfl, hv.fr f24, hx, hy.fr f5, W, hs2, hs3, by omega, fun hval => dem_val W hval, fun t' ht' => ?_, fun w4 H5 f6 hw4 => ?_⟩
        · have := (dem_stp W _ c (Nat.le_refl _) t' ht').1
          omega
        · exact ⟨some x, w4, ou, rfl, (f4.trans f5).trans f6, hs1, by rw [dem_out hs2 hs3]; exact hw4⟩
    · obtain ⟨x4, y, c, rfl, f4, hsc, hy⟩ := z
      rw [List.length_map, List.length_reverse, Nat.sub_self, List.take_zero] at hsc
      rw [hsc.nil_eq] at hy
      exact ⟨_, rfl, q y H3 ((f2.trans f3).trans f4) hy⟩
end
end DF

namespace DF
open PySem PySem.Spec PyProof.Rows L2
section
variable {P : Program} {w : World} {K : PySem.W.Frag} {mg : Str → Option Value} {base : Heap}
/-! ### next_unknown, drive -/
def sp_next_unknown (K : PySem.W.Frag) : Sp := fun vs H Q _ => ∃ v t, vs = [v] ∧ Tm K H v t ∧ t.size ≤ 1000000 ∧ unks t ≠ [] ∧ ∀ H', Fr No H H' → Q (.int (nextU t)) H'
theorem sc_next_unknown : FnScope ["term", "unknown"] ["term"] (defScope Tx.s_next_unknown) := C8.fnScope_by (by decide +kernel)
theorem ok_next_unknown (Y : Hf K mg) : Cl CX0 P w K mg base 3 "next_unknown" (sp_next_unknown K) := by
  refine Y.d_next_unknown.ok sc_next_unknown (fun vs H Q E h => ?_) (fun f cdv A outer s H vs Q E hr h => ?_)
  · obtain ⟨v, t, rfl, _⟩ := h; rfl
  have nd := sc_next_unknown.nd
  refine ⟨_, ((pss_one (ps_ret (pe_maxD rfl Y.z_max (pe_lc (own := [("unknown", 1)]) (g := (gName 1)) (tt := tYes) (te := (tAdd (tVar 1) (tC (.int 1)))) rfl nd (pi_tup (kc (ok_unknowns Y) hr (pa_cons (pv 0) pa_nil) (hk := by omega))) (blkOk_by (own := [("unknown", 1)]) (N := ["term", "unknown"]) (sc := defScope Tx.s_next_unknown) (by decide +kernel)) (fun _ _ _ _ _ => (pg_name (i := 1) nd rfl (by first | exact .inl rfl | exact .inr rfl))) (fun _ _ _ _ _ => pts_nil) (fun _ _ _ _ _ => (pe_add (pv 1) pe_int))) pe_int)))), ?_⟩
  obtain ⟨v, t, rfl, ht, hz, hne, q⟩ := h
  refine ⟨_, rfl, v, t, rfl, ht, hz, fun x H1 f1 hx => ?_⟩
  obtain ⟨a, xs, rfl, ta, ia⟩ := hx.tupE
  have hul := unks_len t
  refine ⟨a, rfl, ⟨_, ta.sq⟩, fun D hD => lcD (l := unks t) (en := PyData.int) (f := fun i => some (.int (i + 1))) (dwT (S := No) ta ia) hD (by omega) (fun i x H2 yes no _ f2 hx hyes _ => ?_) fun H2 ys f2 hD2 hys => ?_⟩
  · obtain rfl := hx.intE
    exact ⟨rfl, yesT ⟨_, rfl, i, 1, rfl, rfl, hyes _ _ _ .refl (.int (i + 1)) rfl⟩⟩
  · rw [fm_some] at hys
    have e : (unks t).map (fun i => PyData.int (i + 1)) = ((unks t).map (· + 1)).map PyData.int := by rw [List.map_map]; rfl
    rw [e] at hys
    rw [isAll_intsV hys] at hD2
    refine ⟨D, _, _, rfl, rfl, SqL.of hD2, ?_, fun m hm hmax => ?_⟩
    · rw [List.length_map]
      exact List.length_pos_iff.mpr hne
    · rw [maxL_uniq hm hmax]
      exact q H2 (f1.trans f2)
def sp_drive_running (K : PySem.W.Frag) : Sp := fun vs H Q _ => ∃ v u pg t, vs = [v, u] ∧ Is K H v (encG pg) ∧ Tm K H u t ∧ Wf pg ∧ Kn pg t ∧ t.size ≤ 60 ∧ Rt K H Q (.tuple ((drv pg t).map enc))
theorem sc_drive_running : FnScope ["program", "term", "found", "first", "terms", "constructor", "count", "body", "fresh", "at", "learnt"] ["program", "term"] (defScope Tx.s_drive_running) := C8.fnScope_by (by decide +kernel)
theorem ok_drive_running (Y : Hf K mg) : Cl CX0 P w K mg base 64 "drive_running" (sp_drive_running K) := by
  refine Y.d_drive_running.ok sc_drive_running (fun vs H Q E h => ?_) (fun f cdv A outer s H vs Q E hr h => ?_)
  · obtain ⟨v, u, pg, t, rfl, _⟩ := h; rfl
  have nd := sc_drive_running.nd
  refine ⟨_, ((pss_cons (ps_set (i := 2) nd rfl (by first | exact .inl rfl | exact .inr rfl) (kc (ok_demand Y) hr (pa_cons (pv 0) (pa_cons (pv 1) pa_nil)) (hk := by omega)))
    (pss_cons (ps_if (pt_cmpR (op_eqD (n := 200) hr) (pe_ix ix_d (pv 2) pe_int fun _ _ => rfl) pe_str rfl)
        (pss_one (ps_ret (pe_tupD (pa_cons (pe_ix ix_d (pv 2) pe_int fun _ _ => rfl) pa_nil)))) pss_nil)
    (pss_cons (ps_if (pt_cmpR (op_neD (n := 200) hr) (pe_ix ix_d (pv 2) pe_int fun _ _ => rfl) pe_str rfl)
        (pss_one (ps_ret (pe_tupD pa_nil))) pss_nil)
    (pss_cons (ps_set (i := 3) nd rfl (by first | exact .inl rfl | exact .inr rfl) (kc (ok_next_unknown Y) hr (pa_cons (pv 1) pa_nil) (hk := by omega)))
    (pss_cons (ps_set (i := 4) nd rfl (by first | exact .inl rfl | exact .inr rfl) (pe_lst pa_nil))
    (pss_cons (ps_for PassesOwn.never rfl (pi_tup (pe_ix ix_d (kc (ok_function_of Y) hr (pa_cons (pv 0) (pa_cons (pe_ix ix_d (pv 2) pe_int fun _ _ => rfl) pa_nil)) (hk := by omega)) pe_int fun _ _ => rfl)) (pg_tup rfl (pgs_cons (pg_name (i := 5) nd rfl (by first | exact .inl rfl | exact .inr rfl)) (pgs_cons (pg_name (i := 6) nd rfl (by first | exact .inl rfl | exact .inr rfl)) (pgs_cons (pg_name (i := 7) nd rfl (by first | exact .inl rfl | exact .inr rfl)) pgs_nil))))
        (pss_cons (ps_set (i := 8) nd rfl (by first | exact .inl rfl | exact .inr rfl) (k_tup Y.z_tuple (pe_lc (own := [("at", 9)]) (g := (gName 9)) (tt := tYes) (te := (tTupD K (tCons (tAdd (tVar 3) (tVar 9)) (tCons (tTupD K tNil) tNil)))) rfl nd (pi_range1 rfl Y.z_range (pa_cons (pv 6) pa_nil)) (blkOk_by (own := [("at", 9)]) (N := ["program", "term", "found", "first", "terms", "constructor", "count", "body", "fresh", "at", "learnt"]) (sc := defScope Tx.s_drive_running) (by decide +kernel)) (fun _ _ _ _ _ => (pg_name (i := 9) nd rfl (by first | exact .inl rfl | exact .inr rfl))) (fun _ _ _ _ _ => pts_nil) (fun _ _ _ _ _ => (pe_tupD (pa_cons (pe_add (pv 3) (pv 9)) (pa_cons (pe_tupD pa_nil) pa_nil)))))))
        (pss_cons (ps_set (i := 10) nd rfl (by first | exact .inl rfl | exact .inr rfl) (kc (ok_put Y 60) hr (pa_cons (pv 1) (pa_cons (pe_tupF (pa_cons (pe_tupD (pa_cons (pe_ix ix_d (pv 2) pe_int fun _ _ => rfl) (pa_cons (pe_tupD (pa_cons (pv 5) (pa_cons (pv 8) pa_nil))) pa_nil))) pa_nil)) pa_nil)) (hk := by omega)))
        (pss_one (ps_expr (pe_bm PySem.F.plainAttrs_list PySem.F.slot_list_append PySem.F.type_list_append mt_append (pv 4) (pa_cons (pe_ix ix_d (kc (ok_demand Y) hr (pa_cons (pv 0) (pa_cons (pv 10) pa_nil)) (hk := by omega)) pe_int fun _ _ => rfl) pa_nil)))))))
    (pss_one (ps_ret (k_tup Y.z_tuple (pv 4))))))))))), ?_⟩
  obtain ⟨v, u, pg, t, rfl, hv, hu, W, kn, hz, q⟩ := h
  refine ⟨_, rfl, _, rfl, v, u, pg, t, rfl, hv, hu, W, kn, by omega, fun x2 H1 f1 hx2 => ?_⟩
  unfold drv at q
  cases e : dem pg t with
  | stp u' =>
    rw [e] at q hx2
    have hx2 : Is K H1 x2 (.tuple [.str "step", enc u']) := hx2
    refine strT rfl hx2 (iteT ?_)
    exact ⟨_, rfl, _, 1, _, rfl, hx2, rfl, fun z hz => ⟨[enc u'], .cons hz .nil, by show 1 ≤ 16000000; decide, fun z2 H2 f2 hz2 => q z2 H2 (f1.trans f2) hz2⟩⟩
  | val =>
    rw [e] at q hx2
    have hx2 : Is K H1 x2 (.tuple [.str "value"]) := hx2
    refine strT rfl hx2 (iteF (nextE ?_))
    dsimp only
    exact strN rfl hx2 (iteT ⟨[], .nil, Nat.zero_le _, fun z2 H2 f2 hz2 => q z2 H2 (f1.trans f2) hz2⟩)
  | unk i =>
    rw [e] at q hx2
    have hx2 : Is K H1 x2 (.tuple [.str "unknown", .int i]) := hx2
    refine strT rfl hx2 (iteF (nextE ?_))
    dsimp only
    exact strN rfl hx2 (iteT ⟨[], .nil, Nat.zero_le _, fun z2 H2 f2 hz2 => q z2 H2 (f1.trans f2) hz2⟩)
  | stk i =>
    rw [e] at q hx2
    have hx2 : Is K H1 x2 (.tuple [.str "stuck", .int i]) := hx2
    refine strT rfl hx2 (iteF (nextE ?_))
    dsimp only
    exact strN rfl hx2 (iteT ⟨[], .nil, Nat.zero_le _, fun z2 H2 f2 hz2 => q z2 H2 (f1.trans f2) hz2⟩)
  | err =>
    rw [e] at q hx2
    have hx2 : Is K H1 x2 (.tuple [.str "error"]) := hx2
    refine strT rfl hx2 (iteF (nextE ?_))
    dsimp only
    exact strN rfl hx2 (iteT ⟨[], .nil, Nat.zero_le _, fun z2 H2 f2 hz2 => q z2 H2 (f1.trans f2) hz2⟩)
  | nds i g =>
    rw [e] at q hx2
    have hx2 : Is K H1 x2 (.tuple [.str "needs", .int i, .str g.s]) := hx2
    refine strT rfl hx2 (iteF (nextE ?_))
    dsimp only
    refine strN rfl hx2 (iteF (nextE ?_))
    dsimp only
    obtain ⟨hin, y, n, rs, hf, _⟩ := dem_nds W _ t (Nat.le_refl _) i g e
    have hrs : rulesOf pg g = rs := by unfold rulesOf; rw [hf]
    have hw := W.cases y n rs (fnOf_mem hf).1
    refine ⟨_, rfl, u, t, rfl, hu.fr f1, by omega, fun z => ?_, fun H2 f2 => ?_⟩
    · have := mem_unks.mpr hin
      rw [z] at this
      cases this
    refine ⟨Nat.zero_le _, fun l hl => ?_⟩
    have f12 := f1.trans f2
    have f3 : Fr No H2 (upd H2 l (.lst [])) := Fr.new0 hl
    have f13 := f12.trans f3
    refine ⟨_, rfl, _, rfl, _, 2, _, rfl, hx2.fr (f2.trans f3), rfl, fun z hzz => ?_⟩
    obtain rfl := hzz.strE
    refine ⟨v, pg, g, rfl, hv.fr f13, ?_⟩
    rw [hf]
    intro w1 H4 f4 hw1
    refine ⟨_, 3, _, rfl, hw1, rfl, fun w2 hw2 => ?_⟩
    obtain ⟨a, xs, rfl, ta, ia⟩ := hw2.tupE
    have hl4 := f4.kn (show (upd H2 l (.lst [])) l = some (.lst []) from upd_same)
    refine ⟨a, rfl, ⟨_, ta.sq⟩, ?_⟩
    refine for_it (dwT (S := At l) ta ia) (fun k σ H' => ∃ x5 x6 x7 x8 x9 x10 ys, σ = [some v, some u, some x2, some (.int (nextU t)), some (.ref l), x5, x6, x7, x8, x9, x10] ∧ Fr (At l) H4 H' ∧ H' l = some (.lst ys) ∧ IsAll K H' ys (((rs.take k).map fun r => stpOf (dem pg (lrn t i (nextU t) r))).map enc))
      ⟨none, none, none, none, none, none, [], rfl, .refl, hl4, .nil⟩ (fun k σ H' _ z => let ⟨_, _, _, _, _, _, _, _, z, _⟩ := z; z) (fun k x σ H5 H6 hlt z yy => ?_) fun σ H5 z => ?_
    · obtain ⟨x5, x6, x7, x8, x9, x10, ys, rfl, f5, hl5, hys⟩ := z
      obtain ⟨f6, dd, hdd, hx⟩ := yy
      rw [List.getElem?_map] at hdd
      cases e5 : rs[k]? with
      | none => rw [e5] at hdd; cases hdd
      | some r =>
        rw [e5] at hdd
        cases hdd
        have hr := hw.2.2.2 r (List.mem_of_getElem? e5)
        obtain ⟨a6, c1, c2, c3, rfl, tr, hc1, hc2, hc3⟩ := (show Is K H6 x (.tuple [.str r.con.s, .int (r.cnt : Nat), enc r.body]) from hx).three
        obtain rfl := hc1.strE
        obtain rfl := hc2.intE
        refine ⟨a6, _, rfl, tr.sq, rfl, _, _, rfl, _, _, rfl, _, _, rfl, rfl, ?_⟩
        have hrr : r ∈ rulesOf pg g := by rw [hrs]; exact List.mem_of_getElem? e5
        refine ⟨_, rfl, (r.cnt : Nat), rfl, by omega, by omega, fun D hD => lcD (K := K) (l := List.range r.cnt) (en := fun (j : Nat) => .int (0 + j)) (f := fun (j : Nat) => some (enc (.lf (.u (nextU t + j))))) (dwR (S := No)) hD (by rw [List.length_range]; omega) (fun j x H7 yes no _ f7 hx hyes _ => ?_) fun H7 zs f7 hD7 hzs => ?_⟩
        · obtain rfl := hx.intE
          refine ⟨rfl, yesT ⟨_, rfl, _, rfl, _, _, rfl, rfl, [], .nil, Nat.zero_le _, fun z1 H8 f8 hz1 => ⟨_, .cons (.int _) (.cons hz1 .nil), by show 2 ≤ 16000000; decide, fun z2 H9 f9 hz2 => hyes z2 H9 _ (f8.trans f9) ?_ rfl⟩⟩⟩
          show Is K H9 z2 (.tuple [.int (nextU t + (j : Nat)), .tuple []])
          rw [Int.zero_add] at hz2
          exact hz2
        rw [fm_some] at hzs
        refine ⟨D, zs, _, rfl, hD7, hzs, fun w8 H8 f8 hw8 => ?_⟩
        have f4_8 : Fr (At l) H4 H8 := ((f5.trans f6.no).trans f7.no).trans f8.no
        have f2_4 : Fr No H1 H4 := (f2.trans f3).trans f4
        refine ⟨_, rfl, _, rfl, _, 1, _, rfl, (hx2.fr f2_4).fr f4_8, rfl, fun z9 hz9 => ⟨_, rfl, _, rfl, [.str r.con.s, .tuple ((List.range r.cnt).map fun (j : Nat) => enc (.lf (.u (nextU t + j))))], .cons (.str _) (.cons hw8 .nil), by show 2 ≤ 16000000; decide, fun z10 H10 f10 hz10 => ?_⟩⟩
        have hC : (.tuple [.str r.con.s, .tuple ((List.range r.cnt).map fun (j : Nat) => enc (.lf (.u (nextU t + j))))] : PyData) = enc ((T.lf (.c r.con)).aps ((List.range r.cnt).map fun (j : Nat) => T.lf (.u (nextU t + j)))) := by
          rw [enc_mk, List.map_map]
          rfl
        rw [hC] at hz10
        refine ⟨_, .cons (Is.fr f10 hz9) (.cons hz10 .nil), by show 2 ≤ 16000000; decide, fun z11 H11 f11 hz11 => ⟨le_line (by show 1 ≤ 16000000; decide), fun p o hp bo => ?_⟩⟩
        have f12' : Fr No H11 (upd H11 p (.frz o (.tup [z11]))) := Fr.new0 hp
        have f8_12 := (f10.trans f11).trans f12'
        have fu : Fr (At l) H1 (upd H11 p (.frz o (.tup [z11]))) := (f2_4.no.trans f4_8).trans f8_12.no
        refine ⟨u, t, .ref p, [(i, (T.lf (.c r.con)).aps ((List.range r.cnt).map fun (j : Nat) => T.lf (.u (nextU t + j))))], rfl, (hu.fr f1).fr fu, Prt.of hp bo (.cons hz11 .nil), hz, by omega, fun p' hp' => ?_, fun w13 H13 f13' hw13 => ?_⟩
        · rw [List.mem_singleton.mp hp']
          show ((T.lf (.c r.con)).aps _).size ≤ 1000000
          rw [T.size_mk]
          have h1 : ∀ m : Nat, T.sizes ((List.range m).map fun (j : Nat) => T.lf (.u (nextU t + j))) = m := by
            intro m
            induction m with
            | zero => rfl
            | succ m ih => rw [List.range_succ, List.map_append, T.sizes_append, ih]; rfl
          rw [h1]
          omega
        obtain ⟨u', hu'⟩ := lrn_stp W e (nextU t) hrr
        have hls := lrn_size W (t := t) (i := i) (n := nextU t) hrr
        have hw13 : Tm K H13 w13 (lrn t i (nextU t) r) := hw13
        have f6_13 : Fr No H6 H13 := (((f7.trans f8).trans f8_12)).trans f13'
        have hl13 := f6_13.kn (f6.kn hl5)
        have fv : Fr (At l) H H13 := (f1.no.trans fu).trans f13'.no
        refine ⟨_, rfl, .inl ⟨rfl, _, SqL.of hl13⟩, _, rfl, _, rfl, v, w13, pg, lrn t i (nextU t) r, rfl, hv.fr fv, hw13, W, hls.2 kn, by omega, fun x14 H14 f14 hx14 => ?_⟩
        rw [hu'] at hx14
        refine ⟨_, 1, _, rfl, hx14, rfl, fun y15 hy15 => ⟨l, _, _, rfl, rfl, f14.kn hl13, lt_line ?_, ?_⟩⟩
        · rw [hys.len, List.length_map, List.length_map]
          have h1 := List.length_take_le' k rs
          have h2 := hw.2.2.1
          omega
        · have g15 : Fr (At l) H14 (upd H14 l (.lst (ys ++ [y15]))) := Fr.refl.mut rfl (f14.kn hl13) fun z => z
          refine ⟨_, _, _, _, _, _, _, rfl, (((f5.trans f6.no).trans f6_13.no).trans f14.no).trans g15, upd_same, ?_⟩
          rw [take_snoc e5, List.map_append, List.map_append]
          have hys' := (((hys.fr f6).fr f6_13).fr f14).fr g15
          refine hys'.append (.cons ?_ .nil)
          show Is K _ y15 (enc (stpOf (dem pg (lrn t i (nextU t) r))))
          rw [hu']
          exact Is.fr g15 hy15
    · obtain ⟨x5, x6, x7, x8, x9, x10, ys, rfl, f5, hl5, hys⟩ := z
      rw [List.length_map, List.take_length] at hys
      refine ⟨_, rfl, l, ys, _, rfl, hl5, hys, fun w6 H6 f6 hw6 => ?_⟩
      have q : Rt K H Q (.tuple (((rulesOf pg g).map fun r => stpOf (dem pg (lrn t i (nextU t) r))).map enc)) := q
      rw [hrs] at q
      refine q w6 H6 ?_ hw6
      have fz : Fr (At l) H H6 := (f13.no.trans f4.no).trans (f5.trans f6.no)
      exact fz.less fun b hb _ => by rw [show b = l from hb]; exact f12.freeN hl
end
end DF

namespace DF
open PySem PySem.Spec PyProof.Rows L2
/-! ### rows of a table of places -/
inductive Rw where
  | h (x : Hd)
  | p (i j : Nat)
def encW : Rw → PyData
  | .h x => hdD x
  | .p i j => .tuple [.int (i : Nat), .int (j : Nat)]
def isP : Rw → Bool
  | .h _ => false
  | .p _ _ => true
/-- the places of a pair stand ahead of it -/
def RwOk (rw : List Rw) : Prop := ∀ (k i j : Nat), rw[k]? = some (Rw.p i j) → i < k ∧ j < k
theorem RwOk.snoc_h {rw : List Rw} (h : RwOk rw) (x : Hd) : RwOk (rw ++ [Rw.h x]) := fun k i j e => by
  rcases Nat.lt_trichotomy k rw.length with c | c | c
  · rw [List.getElem?_append_left c] at e; exact h k i j e
  · subst c; simp at e
  · rw [List.getElem?_eq_none (by rw [List.length_append]; show rw.length + 1 ≤ k; omega)] at e; cases e
theorem RwOk.snoc_p {rw : List Rw} (h : RwOk rw) {a b : Nat} (ha : a < rw.length) (hb : b < rw.length) : RwOk (rw ++ [Rw.p a b]) := fun k i j e => by
  rcases Nat.lt_trichotomy k rw.length with c | c | c
  · rw [List.getElem?_append_left c] at e; exact h k i j e
  · subst c
    have e : Rw.p a b = .p i j := by simpa using e
    cases e; exact ⟨ha, hb⟩
  · rw [List.getElem?_eq_none (by rw [List.length_append]; show rw.length + 1 ≤ k; omega)] at e; cases e
section
variable {X : Cx} {e : Expr} {te : TE} {p1 p2 pos : Pos}
def tIsiT (K : PySem.W.Frag) (te : TE) : TE := tCB (rIsi K) (tCons te (tCons (tC (.ty "tuple")) tNil))
theorem k_isiT (h1 : X.mg "isinstance" = none) (h2 : X.mg "tuple" = none) (he : PE X e te) (g1 : Gl X "isinstance" := by rfl) (g2 : Gl X "tuple" := by rfl)
    (st : starEach (e :: [.Name "tuple" p2]) X.env = (false, eval e X.env) :: starEach [.Name "tuple" p2] X.env := by rfl) (hpl : (backTo pos (starEach [.Name "tuple" p2] X.env)).any (·.1) = false := by rfl) :
    PE X (.Call (.Name "isinstance" p1) [e, .Name "tuple" p2] [] pos) (tIsiT X.K te) :=
  pe_callB call_isi g1 h1 (by decide +kernel) (pa_cons he (hs := st) (pa_cons (pe_bltn (v := .ty "tuple") g2 h2 (by decide +kernel) rfl) pa_nil)) (he := st) (hpl := hpl)
end
section
variable {K : PySem.W.Frag} {H : Hp} {Q : VK} {x : V}
theorem isi_rw (r : Rw) (hx : Is K H x (encW r)) (q : Q (.bl (isP r)) H) : rIsi K [x, .ty "tuple"] H Q := by
  cases r with
  | h y =>
    obtain rfl := is_hd_inv hx
    cases y with
    | u i => exact ⟨_, _, .type "int", .type "tuple", false, rfl, .ty _, .base (.int i), kit_ty (by decide +kernel), q⟩
    | c y => exact ⟨_, _, .type "str", .type "tuple", false, rfl, .ty _, .base (.str y.s), kit_ty (by decide +kernel), q⟩
  | p i j =>
    obtain ⟨a, xs, rfl, ta, _⟩ := hx.tupE
    have ty : TyX K H (.ref a) (.type "tuple") := by
      rcases ta with h | ⟨o, h⟩ | ⟨o, its, n, h, hc, _⟩
      · exact .base (.tup h)
      · exact .fTuple h
      · exact .kTuple h hc
    exact ⟨_, _, .type "tuple", .type "tuple", true, rfl, .ty _, ty, kit_ty (by decide +kernel), q⟩
theorem isiT_var {σ : St} {i : Nat} (r : Rw) (e : σ[i]? = some (some x)) (hx : Is K H x (encW r)) (q : Q (.bl (isP r)) H) : tIsiT K (tVar i) σ H Q := ⟨x, e, isi_rw r hx q⟩
end
section
variable {P : Program} {w : World} {K : PySem.W.Frag} {mg : Str → Option Value} {base : Heap}
def sp_add_places (K : PySem.W.Frag) (n : Nat) : Sp := fun vs H Q _ => ∃ v t q xs rw, vs = [v, .ref q] ∧ Tm K H v t ∧ H q = some (.lst xs) ∧ IsAll K H xs (rw.map encW) ∧ RwOk rw ∧ t.size ≤ n ∧ rw.length + 2 * t.size ≤ 1000000 ∧
  ∀ H' xs' rw', Fr (At q) H H' → H' q = some (.lst xs') → IsAll K H' xs' (rw'.map encW) → RwOk rw' → rw'.length + 1 ≤ rw.length + 2 * t.size → rw.length < rw'.length → Q (.int ((rw'.length : Nat) - 1)) H'
theorem sc_add_places : FnScope ["term", "rows", "at", "argument", "other"] ["term", "rows"] (defScope Tx.s_add_places) := C8.fnScope_by (by decide +kernel)
theorem ok_add_places (Y : Hf K mg) : ∀ n, Cl CX0 P w K mg base (n + 1) "add_places" (sp_add_places K n)
  | 0 => Y.d_add_places.zero fun vs H Q E h => by
    obtain ⟨v, t, q, xs, rw, _, _, _, _, _, h0, _⟩ := h
    have := t.size_pos
    omega
  | n + 1 => by
    have ih := ok_add_places Y n
    refine Y.d_add_places.ok sc_add_places (fun vs H Q E h => ?_) (fun f cdv A outer s H vs Q E hr h => ?_)
    · obtain ⟨v, t, q, xs, rw, rfl, _⟩ := h; rfl
    have nd := sc_add_places.nd
    refine ⟨_, ((pss_cons (ps_expr (pe_bm PySem.F.plainAttrs_list PySem.F.slot_list_append PySem.F.type_list_append mt_append (pv 1) (pa_cons (pe_ix ix_d (pv 0) pe_int fun _ _ => rfl) pa_nil)))
    (pss_cons (ps_set (i := 2) nd rfl (by first | exact .inl rfl | exact .inr rfl) (pe_sub (k_lenL Y.z_len (pv 1)) pe_int))
    (pss_cons (ps_for PassesOwn.never rfl (pi_tup (pe_ix ix_d (pv 0) pe_int fun _ _ => rfl)) (pg_name (i := 3) nd rfl (by first | exact .inl rfl | exact .inr rfl))
        (pss_cons (ps_set (i := 4) nd rfl (by first | exact .inl rfl | exact .inr rfl) (kc ih hr (pa_cons (pv 3) (pa_cons (pv 1) pa_nil)) (hk := by omega)))
        (pss_cons (ps_expr (pe_bm PySem.F.plainAttrs_list PySem.F.slot_list_append PySem.F.type_list_append mt_append (pv 1) (pa_cons (pe_tupD (pa_cons (pv 2) (pa_cons (pv 4) pa_nil))) pa_nil)))
        (pss_one (ps_set (i := 2) nd rfl (by first | exact .inl rfl | exact .inr rfl) (pe_sub (k_lenL Y.z_len (pv 1)) pe_int))))))
    (pss_one (ps_ret (pv 2))))))), ?_⟩
    obtain ⟨v, t, l, xs, rw, rfl, ht, hl, hi, hok, hn, hz, q⟩ := h
    have htp := t.size_pos
    refine ⟨_, rfl, .inl ⟨rfl, _, SqL.of hl⟩, _, rfl, _, 0, _, rfl, ht.is, rfl, fun x hx => ⟨l, _, _, rfl, rfl, hl, lt_line (by rw [hi.len, List.length_map]; omega), ?_⟩⟩
    have f1 : Fr (At l) H (upd H l (.lst (xs ++ [x]))) := Fr.refl.mut rfl hl fun z => z
    have hi1 : IsAll K (upd H l (.lst (xs ++ [x]))) (xs ++ [x]) ((rw ++ [Rw.h t.hd]).map encW) := by
      rw [List.map_append]
      exact (hi.fr f1).append (.cons (hx.fr f1) .nil)
    refine ⟨_, rfl, l, _, rfl, .inl (SqL.of upd_same), _, _, rfl, rfl, ?_⟩
    refine ⟨_, rfl, _, 1, _, rfl, Tm.is (ht.fr f1), rfl, fun y hy => ?_⟩
    obtain ⟨b, as, rfl, tb, ib⟩ := (show Tms K _ y t.args from hy).tupE
    refine ⟨b, rfl, ⟨_, tb.sq⟩, ?_⟩
    refine for_it (dwT (S := At l) tb ib) (fun i σ H' => ∃ x3 x4 ys rw', σ = [some v, some (.ref l), some (.int ((rw'.length : Nat) - 1)), x3, x4] ∧ Fr (At l) (upd H l (.lst (xs ++ [x]))) H' ∧ H' l = some (.lst ys) ∧ IsAll K H' ys (rw'.map encW) ∧ RwOk rw' ∧ rw'.length ≤ rw.length + 1 + 2 * T.sizes (t.args.take i) ∧ rw.length < rw'.length)
      ⟨none, none, _, rw ++ [Rw.h t.hd], ?_, .refl, upd_same, hi1, hok.snoc_h _, by simp, by simp⟩ (fun i σ H' _ z => let ⟨_, _, _, _, _, z, _⟩ := z; z) (fun i x σ H1 H2 hlt z yy => ?_) fun σ H1 z => ?_
    · have e : (xs ++ [x]).length = (rw ++ [Rw.h t.hd]).length := by rw [hi1.len, List.length_map]
      rw [e]
      rfl
    · obtain ⟨x3, x4, ys, rw1, rfl, f2, hl1, hi2, ok1, ln1, ln2⟩ := z
      obtain ⟨f3, d, hd, hx3⟩ := yy
      rw [List.getElem?_map] at hd
      cases e : t.args[i]? with
      | none => rw [e] at hd; cases hd
      | some u =>
        rw [e] at hd
        cases hd
        have hlt' := T.arg_lt (List.mem_of_getElem? e)
        have hts := T.size_eq t
        have e1 : T.sizes (t.args.take (i + 1)) = T.sizes (t.args.take i) + u.size := by
          rw [take_snoc e, T.sizes_append]
          simp [T.sizes]
        have e2 : T.sizes (t.args.take (i + 1)) ≤ T.sizes t.args := by
          have := T.sizes_append (t.args.take (i + 1)) (t.args.drop (i + 1))
          rw [List.take_append_drop] at this
          omega
        refine ⟨_, rfl, _, rfl, x, u, l, ys, rw1, rfl, hx3, f3.kn hl1, hi2.fr f3, ok1, by omega, by omega, fun H3 zs rw2 f4 hl3 hi3 ok2 ln3 ln4 => ?_⟩
        refine ⟨_, rfl, .inl ⟨rfl, _, SqL.of hl3⟩, _, rfl, _, rfl, [.int ((rw1.length : Nat) - 1), .int ((rw2.length : Nat) - 1)], .cons (.int _) (.cons (.int _) .nil), by show 2 ≤ 16000000; decide, fun w4 H4 f5 hw4 => ⟨l, _, _, rfl, rfl, f5.kn hl3, lt_line (by rw [hi3.len, List.length_map]; omega), ?_⟩⟩
        have g6 : Fr (At l) H4 (upd H4 l (.lst (zs ++ [w4]))) := Fr.refl.mut rfl (f5.kn hl3) fun z => z
        have hw4' : Is K H4 w4 (encW (.p (rw1.length - 1) (rw2.length - 1))) := by
          show Is K H4 w4 (.tuple [.int ((rw1.length - 1 : Nat) : Int), .int ((rw2.length - 1 : Nat) : Int)])
          rw [show ((rw1.length - 1 : Nat) : Int) = (rw1.length : Int) - 1 by omega, show ((rw2.length - 1 : Nat) : Int) = (rw2.length : Int) - 1 by omega]
          exact hw4
        have hi6 : IsAll K (upd H4 l (.lst (zs ++ [w4]))) (zs ++ [w4]) ((rw2 ++ [Rw.p (rw1.length - 1) (rw2.length - 1)]).map encW) := by
          rw [List.map_append]
          exact ((hi3.fr f5).fr g6).append (.cons (hw4'.fr g6) .nil)
        refine ⟨_, rfl, l, _, rfl, .inl (SqL.of upd_same), _, _, rfl, rfl, ?_⟩
        refine ⟨some x, some (.int ((rw2.length : Nat) - 1)), _, rw2 ++ [Rw.p (rw1.length - 1) (rw2.length - 1)], ?_, (((f2.trans f3.no).trans f4).trans f5.no).trans g6, upd_same, hi6, ok2.snoc_p (by omega) (by omega), ?_, ?_⟩
        · have e : (zs ++ [w4]).length = (rw2 ++ [Rw.p (rw1.length - 1) (rw2.length - 1)]).length := by rw [hi6.len, List.length_map]
          rw [e]
          rfl
        · rw [List.length_append]
          show rw2.length + 1 ≤ _
          omega
        · rw [List.length_append]
          show rw.length < rw2.length + 1
          omega
    · obtain ⟨x3, x4, ys, rw1, rfl, f2, hl1, hi2, ok1, ln1, ln2⟩ := z
      rw [List.length_map, List.take_length] at ln1
      have hts := T.size_eq t
      exact ⟨_, rfl, q H1 ys rw1 (f1.trans f2) hl1 hi2 ok1 (by omega) ln2⟩
def sp_same_leaf (K : PySem.W.Frag) : Sp := fun vs H Q _ => ∃ g h : Hd, vs = [hdV g, hdV h] ∧ ∀ b, Q (.bl b) H
theorem sc_same_leaf : FnScope ["first", "second"] ["first", "second"] (defScope Tx.s_same_leaf) := C8.fnScope_by (by decide +kernel)
theorem ok_same_leaf (Y : Hf K mg) : Cl CX0 P w K mg base 1 "same_leaf" (sp_same_leaf K) := by
  refine Y.d_same_leaf.ok sc_same_leaf (fun vs H Q E h => ?_) (fun f cdv A outer s H vs Q E hr h => ?_)
  · obtain ⟨g, h, rfl, _⟩ := h; rfl
  have nd := sc_same_leaf.nd
  refine ⟨_, ((pss_cons (ps_if (PW.pt (pw_or (pt_val (k_isi Y.z_isinstance Y.z_str (pv 0))) (pw_or1 (pt_val (k_isi Y.z_isinstance Y.z_str (pv 1))))))
        (pss_one (ps_ret (pe_cmpR (op_eqD (n := 200) hr) (pv 0) (pv 1) rfl))) pss_nil)
    (pss_one (ps_ret pe_bl)))), ?_⟩
  obtain ⟨g, h, rfl, q⟩ := h
  refine orE (c1 := isC g) (c2 := isC h) (fun Q1 z => tIsi_var (h := g) rfl ⟨_, rfl, z⟩) (fun _ Q1 z => tIsi_var (h := h) rfl ⟨_, rfl, z⟩) ?_
  cases c : (isC g || isC h) with
  | true =>
    refine iteT ⟨_, rfl, _, rfl, _, _, is_hd, is_hd, fine_hd g, fine_hd h, ?_, q _⟩
    rw [depth_hd, depth_hd]
    omega
  | false => exact iteF (q _)
def sp_may_lie (K : PySem.W.Frag) : Sp := fun vs H Q _ => ∃ v u a b, vs = [v, u] ∧ Tm K H v a ∧ Tm K H u b ∧ a.size ≤ 1000000 ∧ b.size ≤ 1000000 ∧ ∀ H' c, Fr No H H' → Q (.bl c) H'
theorem sc_may_lie : FnScope ["first", "second", "there", "name"] ["first", "second"] (defScope Tx.s_may_lie) := C8.fnScope_by (by decide +kernel)
theorem ok_may_lie (Y : Hf K mg) : Cl CX0 P w K mg base 3 "may_lie" (sp_may_lie K) := by
  refine Y.d_may_lie.ok sc_may_lie (fun vs H Q E h => ?_) (fun f cdv A outer s H vs Q E hr h => ?_)
  · obtain ⟨v, u, a, b, rfl, _⟩ := h; rfl
  have nd := sc_may_lie.nd
  refine ⟨_, ((pss_cons (ps_if (PW.pt (pw_or (pt_cmp (pc_gt (kc (ok_size Y) hr (pa_cons (pv 0) pa_nil) (hk := by omega)) (kc (ok_size Y) hr (pa_cons (pv 1) pa_nil) (hk := by omega)))) (pw_or1 (PW.pt (pw_and (pt_tru (kc (ok_unknowns Y) hr (pa_cons (pv 0) pa_nil) (hk := by omega))) (pw_and1 (pt_not (pt_tru (kc (ok_unknowns Y) hr (pa_cons (pv 1) pa_nil) (hk := by omega))))))))))
        (pss_one (ps_ret pe_bl)) pss_nil)
    (pss_cons (ps_set (i := 2) nd rfl (by first | exact .inl rfl | exact .inr rfl) (kc (ok_names Y) hr (pa_cons (pv 1) pa_nil) (hk := by omega)))
    (pss_one (ps_ret (k_all Y.z_all (pe_lc (own := [("name", 3)]) (g := (gName 3)) (tt := tYes) (te := (tOp (rInS K false) (tVar 3) (tVar 2))) rfl nd (pi_tup (kc (ok_names Y) hr (pa_cons (pv 0) pa_nil) (hk := by omega))) (blkOk_by (own := [("name", 3)]) (N := ["first", "second", "there", "name"]) (sc := defScope Tx.s_may_lie) (by decide +kernel)) (fun _ _ _ _ _ => (pg_name (i := 3) nd rfl (by first | exact .inl rfl | exact .inr rfl))) (fun _ _ _ _ _ => pts_nil) (fun _ _ _ _ _ => (pe_cmpR op_inS (pv 3) (pv 2) rfl))))))))), ?_⟩
  obtain ⟨v, u, a, b, rfl, ha, hb, hz1, hz2, q⟩ := h
  have unkE : ∀ {σ : St} {i : Nat} {v : V} {a : T} {H1 : Hp} {Q1 : Bool → Hp → Prop}, σ[i]? = some (some v) → Tm K H1 v a → a.size ≤ 1000000 → (∀ H2, Fr No H1 H2 → Q1 (!(unks a).isEmpty) H2) → tTru K (tCall (sp_unknowns K) [] E0 (tCons (tVar i) tNil)) σ H1 Q1 := fun e ht hz z =>
    ⟨_, e, _, _, rfl, ht, hz, fun x H2 f2 hx => ⟨_, hx, by rw [List.isEmpty_map]; exact z H2 f2⟩⟩
  refine ⟨_, rfl, v, a, rfl, ha, hz1, fun H1 f1 => ⟨_, rfl, u, b, rfl, hb.fr f1, hz2, fun H2 f2 => ⟨_, _, rfl, rfl, _, rfl, ?_⟩⟩⟩
  have f12 := f1.trans f2
  show if decide (((a.size : Nat) : Int) > ((b.size : Nat) : Int)) = true then _ else _
  have fin : ∀ (c : Bool) (H5 : Hp), Fr No H H5 → (if c = true then Q (.bl false) H5 else True) := fun c H5 f5 => by
    cases c with
    | true => exact q H5 _ f5
    | false => exact True.intro
  have rest : ∀ H5, Fr No H H5 → tSeq (tAsg (tCall (sp_names K) [] E0 (tCons (tVar 1) tNil)) (gName 2)) (tRet (tCB (rAll K) (tCons (tLc (iTup K (tCall (sp_names K) [] E0 (tCons (tVar 0) tNil))) (gName 3) tYes (tOp (rInS K false) (tVar 3) (tVar 2)) [3]) tNil))) { nx := fun x H' => Q .non H', rt := Q } (L2.start ["first", "second", "there", "name"] [v, u]) H5 := fun H5 f5 => by
    refine ⟨_, rfl, u, b, rfl, hb.fr f5, hz2, fun x2 H6 f6 hx2 => ?_⟩
    have f56 := f5.trans f6
    refine ⟨_, rfl, v, a, rfl, ha.fr f56, hz1, fun x3 H7 f7 hx3 => ?_⟩
    obtain ⟨p, xs, rfl, ta, ia⟩ := hx3.tupE
    have hnl := nams_len a
    refine ⟨p, rfl, ⟨_, ta.sq⟩, fun D hD => ?_⟩
    have hb2 : Is K H7 x2 (.tuple (((nams b).map (·.s)).map PyData.str)) := by rw [List.map_map]; exact hx2.fr f7
    refine lc_it (dwT (S := No) ta ia) (fun i H' => Fr No H7 H' ∧ ∃ bs : List Bool, bs.length ≤ i ∧ H' D = some (.lst (bs.map V.bl))) ⟨Fr.new0 hD, [], Nat.le_refl _, upd_same⟩ (fun i H' _ z => z.1) (fun i x H8 H9 hlt z yy => ?_) fun H8 z => ?_
    · obtain ⟨f8, bs, hbs, hD8⟩ := z
      obtain ⟨f9, d, hd, hx⟩ := yy
      rw [List.getElem?_map] at hd
      cases e : (nams a)[i]? with
      | none => rw [e] at hd; cases hd
      | some y =>
        rw [e] at hd
        cases hd
        obtain rfl := hx.strE
        refine ⟨rfl, yesT ⟨_, rfl, _, rfl, y.s, _, rfl, (hb2.fr f8).fr f9, _, f9.kn hD8, lt_line ?_, (f8.trans f9).new hD, bs ++ [decide (y.s ∈ (nams b).map (·.s))], ?_, ?_⟩⟩
        · rw [List.length_map]
          rw [List.length_map] at hlt
          omega
        · rw [List.length_append]
          show bs.length + 1 ≤ i + 1
          omega
        · rw [upd_same, List.map_append]
          rfl
    · obtain ⟨f8, bs, hbs, hD8⟩ := z
      exact ⟨D, bs, rfl, SqL.of hD8, q H8 _ ((f56.trans f7).trans f8)⟩
  cases c : decide (((a.size : Nat) : Int) > ((b.size : Nat) : Int)) with
  | true => exact iteT (iteT (q H2 _ f12))
  | false =>
    refine iteF (unkE rfl (ha.fr f12) hz1 fun H3 f3 => ?_)
    cases c1 : (!(unks a).isEmpty) with
    | false => exact iteF (iteF (nextE (rest H3 (f12.trans f3))))
    | true =>
      refine iteT (unkE rfl ((hb.fr f12).fr f3) hz2 fun H4 f4 => ?_)
      cases c2 : (!(unks b).isEmpty) with
      | false => exact iteT (q H4 _ ((f12.trans f3).trans f4))
      | true => exact iteF (nextE (rest H4 ((f12.trans f3).trans f4)))
/-! ### within -/
/-- a line: so many truths -/
def Line (H : Hp) (v : V) (n : Nat) : Prop := ∃ (p : Addr) (bs : List Bool), v = .ref p ∧ H p = some (.lst (bs.map V.bl)) ∧ bs.length = n
theorem Line.fr {S : Addr → Prop} {H H' : Hp} {v : V} {n : Nat} (f : Fr S H H') (h : Line H v n) (no : ∀ p, v = .ref p → ¬ S p) : Line H' v n :=
  let ⟨p, bs, e, h1, h2⟩ := h; ⟨p, bs, e, f.k _ _ (no p e) h1, h2⟩
theorem atI_nat {α : Type} (xs : List α) (k : Nat) : L2.atI xs (k : Int) = xs[k]? := by
  unfold L2.atI ixN
  by_cases h : k < xs.length
  · rw [if_pos (by omega), if_pos (by omega)]
    simp
  · rw [if_pos (by omega), if_neg (by omega), List.getElem?_eq_none (by omega)]
    rfl
theorem at_bool {bs : List Bool} {k : Nat} (h : k < bs.length) : ∃ b, L2.atI (bs.map V.bl) (k : Int) = some (.bl b) := ⟨bs[k], by rw [atI_nat, List.getElem?_map, List.getElem?_eq_getElem h]; rfl⟩
def sp_within (K : PySem.W.Frag) : Sp := fun vs H Q _ => ∃ v u a b, vs = [v, u] ∧ Tm K H v a ∧ Tm K H u b ∧ a.size ≤ 60 ∧ b.size ≤ 60 ∧ ∀ H' c, Fr No H H' → Q (.bl c) H'
theorem sc_within : FnScope ["first", "second", "rows", "columns", "lies", "row", "line", "column", "here"] ["first", "second"] (defScope Tx.s_within) := C8.fnScope_by (by decide +kernel)
theorem ok_within (Y : Hf K mg) : Cl CX0 P w K mg base 62 "within" (sp_within K) := by
  refine Y.d_within.ok sc_within (fun vs H Q E h => ?_) (fun f cdv A outer s H vs Q E hr h => ?_)
  · obtain ⟨v, u, a, b, rfl, _⟩ := h; rfl
  have nd := sc_within.nd
  refine ⟨_, ((pss_cons (ps_if (pt_not (pt_val (kc (ok_may_lie Y) hr (pa_cons (pv 0) (pa_cons (pv 1) pa_nil)) (hk := by omega))))
        (pss_one (ps_ret pe_bl)) pss_nil)
    (pss_cons (ps_set (i := 2) nd rfl (by first | exact .inl rfl | exact .inr rfl) (pe_lst pa_nil))
    (pss_cons (ps_set (i := 3) nd rfl (by first | exact .inl rfl | exact .inr rfl) (pe_lst pa_nil))
    (pss_cons (ps_expr (kc (ok_add_places Y 60) hr (pa_cons (pv 0) (pa_cons (pv 2) pa_nil)) (hk := by omega)))
    (pss_cons (ps_expr (kc (ok_add_places Y 60) hr (pa_cons (pv 1) (pa_cons (pv 3) pa_nil)) (hk := by omega)))
    (pss_cons (ps_set (i := 4) nd rfl (by first | exact .inl rfl | exact .inr rfl) (pe_lst pa_nil))
    (pss_cons (ps_for PassesOwn.never rfl (pi_list (pv 2)) (pg_name (i := 5) nd rfl (by first | exact .inl rfl | exact .inr rfl))
        (pss_cons (ps_set (i := 6) nd rfl (by first | exact .inl rfl | exact .inr rfl) (pe_lst pa_nil))
        (pss_cons (ps_for PassesOwn.never rfl (pi_list (pv 3)) (pg_name (i := 7) nd rfl (by first | exact .inl rfl | exact .inr rfl))
            (pss_cons (ps_if (pt_val (k_isiT Y.z_isinstance Y.z_tuple (pv 7)))
                (pss_cons (ps_set (i := 8) nd rfl (by first | exact .inl rfl | exact .inr rfl) (pe_or (pe_ix ix_list (pv 6) (pe_ix ix_d (pv 7) pe_int fun _ _ => rfl) fun _ _ => rfl) (pe_one (pe_ix ix_list (pv 6) (pe_ix ix_d (pv 7) pe_int fun _ _ => rfl) fun _ _ => rfl))))
                (pss_one (ps_if (PW.pt (pw_and (pt_not (pt_val (pv 8))) (pw_and1 (pt_val (k_isiT Y.z_isinstance Y.z_tuple (pv 5))))))
                    (pss_one (ps_set (i := 8) nd rfl (by first | exact .inl rfl | exact .inr rfl) (pe_and (pe_ix ix_list (pe_ix ix_list (pv 4) (pe_ix ix_d (pv 5) pe_int fun _ _ => rfl) fun _ _ => rfl) (pe_ix ix_d (pv 7) pe_int fun _ _ => rfl) fun _ _ => rfl) (pe_one (pe_ix ix_list (pe_ix ix_list (pv 4) (pe_ix ix_d (pv 5) pe_int fun _ _ => rfl) fun _ _ => rfl) (pe_ix ix_d (pv 7) pe_int fun _ _ => rfl) fun _ _ => rfl))))) pss_nil)))
                (pss_one (ps_set (i := 8) nd rfl (by first | exact .inl rfl | exact .inr rfl) (pe_and (pe_not (k_isiT Y.z_isinstance Y.z_tuple (pv 5))) (pe_one (kc (ok_same_leaf Y) hr (pa_cons (pv 5) (pa_cons (pv 7) pa_nil)) (hk := by omega)))))))
            (pss_one (ps_expr (pe_bm PySem.F.plainAttrs_list PySem.F.slot_list_append PySem.F.type_list_append mt_append (pv 6) (pa_cons (pv 8) pa_nil))))))
        (pss_one (ps_expr (pe_bm PySem.F.plainAttrs_list PySem.F.slot_list_append PySem.F.type_list_append mt_append (pv 4) (pa_cons (pv 6) pa_nil)))))))
    (pss_one (ps_ret (pe_ix ix_list (pe_ix ix_list (pv 4) (pe_un un_neg pe_int) fun _ _ => rfl) (pe_un un_neg pe_int) fun _ _ => rfl))))))))))), ?_⟩
  obtain ⟨v, u, a, b, rfl, ha, hb, hz1, hz2, q⟩ := h
  refine ⟨_, rfl, _, rfl, v, u, a, b, rfl, ha, hb, by omega, by omega, fun H1 c f1 => ⟨_, rfl, ?_⟩⟩
  cases c with
  | false => exact iteT (q H1 _ f1)
  | true =>
  refine iteF (nextE ?_)
  dsimp only
  refine ⟨Nat.zero_le _, fun r hr0 => ?_⟩
  have g1 : Fr No H1 (upd H1 r (.lst [])) := Fr.new0 hr0
  refine ⟨Nat.zero_le _, fun c hc0 => ?_⟩
  have g2 : Fr No (upd H1 r (.lst [])) (upd (upd H1 r (.lst [])) c (.lst [])) := Fr.new0 hc0
  have nrc : r ≠ c := ne_of_none upd_same hc0
  have hr1 := g2.kn (show (upd H1 r (.lst [])) r = some (.lst []) from upd_same)
  have f12 := f1.trans (g1.trans g2)
  refine ⟨_, rfl, _, rfl, v, a, r, [], [], rfl, ha.fr f12, hr1, .nil, fun k i j z => by simp at z, hz1, by simp; omega, fun H2 xs rw1 f2 hr2 hi2 ok2 ln1 ln2 => ?_⟩
  have hc2 := f2.k c _ (fun z => nrc z.symm) (show (upd (upd H1 r (.lst [])) c (.lst [])) c = some (.lst []) from upd_same)
  have f02 : Fr (At r) H H2 := f12.no.trans f2
  refine ⟨_, rfl, _, rfl, u, b, c, [], [], rfl, hb.fr f02, hc2, .nil, fun k i j z => by simp at z, hz2, by simp; omega, fun H3 ys rw2 f3 hc3 hi3 ok3 ln3 ln4 => ?_⟩
  have hr3 := f3.k r _ nrc hr2
  have hi2' := hi2.fr f3
  have hrH : H r = none := f1.freeN hr0
  have hcH : H c = none := (f1.trans g1).freeN hc0
  have f03 : Fr No H H3 := by
    have z : Fr (fun b => b = r ∨ b = c) H H3 := (f02.mono fun b h => .inl h).trans (f3.mono fun b h => .inr h)
    exact z.less fun b hb _ => hb.elim (fun e => by rw [e]; exact hrH) fun e => by rw [e]; exact hcH
  rw [List.length_nil] at ln1 ln2 ln3 ln4
  refine ⟨Nat.zero_le _, fun l hl0 => ?_⟩
  have g4 : Fr No H3 (upd H3 l (.lst [])) := Fr.new0 hl0
  have f04 := f03.trans g4
  refine ⟨_, rfl, r, rfl, ⟨_, SqL.of (g4.kn hr3)⟩, ?_⟩
  refine for_it (dwL (S := At l) (g4.kn hr3) (hi2'.fr g4) (fun z => ne_of_none hr3 hl0 z)) (fun i σ H' => ∃ x5 x6 x7 x8 zs, σ = [some v, some u, some (.ref r), some (.ref c), some (.ref l), x5, x6, x7, x8] ∧ Fr (At l) (upd H3 l (.lst [])) H' ∧ H' l = some (.lst zs) ∧ zs.length = i ∧ ∀ z ∈ zs, Line H' z rw2.length ∧ z ≠ .ref l)
    ⟨none, none, none, none, [], rfl, .refl, upd_same, rfl, fun z hz => nomatch hz⟩ (fun i σ H' _ z => let ⟨_, _, _, _, _, _, z, _⟩ := z; z) (fun i x σ H5 H6 hlt z yy => ?_) fun σ H5 z => ?_
  · obtain ⟨x5, x6, x7, x8, zs, rfl, f5, hl5, hzl, hzs⟩ := z
    obtain ⟨f6, d, hd, hx⟩ := yy
    rw [List.length_map] at hlt
    rw [List.getElem?_map] at hd
    cases e : rw1[i]? with
    | none => rw [e] at hd; cases hd
    | some rr =>
    rw [e] at hd
    cases hd
    refine ⟨Nat.zero_le _, fun m hm0 => ?_⟩
    have g7 : Fr No H6 (upd H6 m (.lst [])) := Fr.new0 hm0
    have hl6 := f6.kn hl5
    have nlm : l ≠ m := ne_of_none hl6 hm0
    have hl7 := g7.kn hl6
    have hc4 := g4.kn hc3
    have f46 : Fr (At l) (upd H3 l (.lst [])) H6 := f5.trans f6.no
    have hc6 := f46.k _ _ (fun z => ne_of_none hc3 hl0 z) hc4
    have ncm : c ≠ m := ne_of_none hc6 hm0
    have hx7 := hx.fr g7
    have hzs7 : ∀ z ∈ zs, Line (upd H6 m (.lst [])) z rw2.length ∧ z ≠ .ref l ∧ z ≠ .ref m := fun z hz => by
      obtain ⟨h1, h2⟩ := hzs z hz
      have h3 := h1.fr (f6.trans g7) (fun _ _ z => z)
      refine ⟨h3, h2, fun e3 => ?_⟩
      obtain ⟨p, bs, e4, h4, _⟩ := h1.fr f6 (fun _ _ z => z)
      rw [e3] at e4
      cases e4
      rw [hm0] at h4
      cases h4
    have hi3' : IsAll K (upd H6 m (.lst [])) ys (rw2.map encW) := ((hi3.fr g4).fr f46).fr g7
    refine ⟨_, rfl, c, rfl, ⟨_, SqL.of (g7.kn hc6)⟩, ?_⟩
    refine for_it (dwL (S := At m) (g7.kn hc6) hi3' (fun z => ncm z)) (fun j σ H' => ∃ (x7 x8 : Option V) (bs : List Bool), σ = [some v, some u, some (.ref r), some (.ref c), some (.ref l), some x, some (.ref m), x7, x8] ∧ Fr (At m) (upd H6 m (.lst [])) H' ∧ H' m = some (.lst (bs.map V.bl)) ∧ bs.length = j)
      ⟨x7, x8, [], rfl, .refl, upd_same, rfl⟩ (fun j σ H' _ z => let ⟨_, _, _, _, z, _⟩ := z; z) (fun j y σ H8 H9 hlt2 z yy => ?_) fun σ H8 z => ?_
    · obtain ⟨x7, x8, bs, rfl, f8, hm8, hbl⟩ := z
      obtain ⟨f9, dd, hdd, hy⟩ := yy
      rw [List.length_map] at hlt2
      rw [List.getElem?_map] at hdd
      cases e2 : rw2[j]? with
      | none => rw [e2] at hdd; cases hdd
      | some cc =>
      rw [e2] at hdd
      cases hdd
      have hm9 := f9.kn hm8
      have f79 : Fr (At m) (upd H6 m (.lst [])) H9 := f8.trans f9.no
      have hx9 := hx7.fr f79
      have hl9 := f79.k _ _ (fun z => nlm z) hl7
      have hzs9 : ∀ z ∈ zs, Line H9 z rw2.length := fun z hz => by
        obtain ⟨h1, _, h3⟩ := hzs7 z hz
        exact h1.fr f79 (fun p e z => h3 (by rw [e, show p = m from z]))
      have fin : ∀ bb : Bool, ∃ (x7 x8 : Option V) (bs' : List Bool), [some v, some u, some (.ref r), some (.ref c), some (.ref l), some x, some (.ref m), some y, some (.bl bb)] = [some v, some u, some (.ref r), some (.ref c), some (.ref l), some x, some (.ref m), x7, x8] ∧ Fr (At m) (upd H6 m (.lst [])) (upd H9 m (.lst (bs.map V.bl ++ [.bl bb]))) ∧ (upd H9 m (.lst (bs.map V.bl ++ [.bl bb]))) m = some (.lst (bs'.map V.bl)) ∧ bs'.length = j + 1 := fun bb =>
        ⟨some y, some (.bl bb), bs ++ [bb], rfl, f79.trans (Fr.refl.mut rfl hm9 fun z => z), by rw [upd_same, List.map_append]; rfl, by rw [List.length_append, hbl]; rfl⟩
      have hlen : (bs.map V.bl).length < sizeLine := lt_line (by rw [List.length_map]; omega)
      cases cc with
      | h g =>
        obtain rfl := is_hd_inv (show Is K H9 y (hdD g) from hy)
        refine isiT_var (.h g) rfl hy ⟨_, rfl, iteF ?_⟩
        refine isiT_var rr rfl hx9 ⟨_, rfl, _, rfl, ?_⟩
        cases rr with
        | h g' =>
          obtain rfl := is_hd_inv (show Is K H9 x (hdD g') from hx9)
          exact iteT ⟨_, rfl, _, rfl, g', g, rfl, fun b => ⟨_, rfl, .inl ⟨rfl, _, SqL.of hm9⟩, _, rfl, m, _, _, rfl, rfl, hm9, hlen, fin b⟩⟩
        | p i1 i2 => exact iteF ⟨_, rfl, .inl ⟨rfl, _, SqL.of hm9⟩, _, rfl, m, _, _, rfl, rfl, hm9, hlen, fin false⟩
      | p j1 j2 =>
        obtain ⟨k1, k2⟩ := ok3 j j1 j2 e2
        obtain ⟨b1, hb1⟩ := at_bool (bs := bs) (k := j1) (by omega)
        obtain ⟨b2, hb2⟩ := at_bool (bs := bs) (k := j2) (by omega)
        have hy' : Is K H9 y (.tuple [.int (j1 : Nat), .int (j2 : Nat)]) := hy
        refine isiT_var (.p j1 j2) rfl hy ⟨_, rfl, iteT ?_⟩
        refine ⟨_, rfl, _, rfl, _, 0, _, rfl, hy', rfl, fun z hz => ?_⟩
        obtain rfl := hz.intE
        refine ⟨m, _, _, _, rfl, rfl, SqL.of hm9, hb1, b1, rfl, ?_⟩
        cases b1 with
        | true => exact iteT ⟨_, rfl, _, rfl, iteF (iteF ⟨_, rfl, .inl ⟨rfl, _, SqL.of hm9⟩, _, rfl, m, _, _, rfl, rfl, hm9, hlen, fin true⟩)⟩
        | false =>
          refine iteF ⟨_, rfl, _, rfl, _, 1, _, rfl, hy', rfl, fun z hz => ?_⟩
          obtain rfl := hz.intE
          refine ⟨m, _, _, _, rfl, rfl, SqL.of hm9, hb2, ?_⟩
          cases b2 with
          | true => exact ⟨_, rfl, _, rfl, iteF (iteF ⟨_, rfl, .inl ⟨rfl, _, SqL.of hm9⟩, _, rfl, m, _, _, rfl, rfl, hm9, hlen, fin true⟩)⟩
          | false =>
            refine ⟨_, rfl, _, rfl, iteT (isiT_var rr rfl hx9 ⟨_, rfl, ?_⟩)⟩
            cases rr with
            | h g' => exact iteF ⟨_, rfl, .inl ⟨rfl, _, SqL.of hm9⟩, _, rfl, m, _, _, rfl, rfl, hm9, hlen, fin false⟩
            | p i1 i2 =>
              obtain ⟨m1, m2⟩ := ok2 i i1 i2 e
              have hx' : Is K H9 x (.tuple [.int (i1 : Nat), .int (i2 : Nat)]) := hx9
              obtain ⟨p1, bs1, ep1, hp1, lp1⟩ := hzs9 zs[i1] (List.getElem_mem (by omega))
              obtain ⟨p2, bs2, ep2, hp2, lp2⟩ := hzs9 zs[i2] (List.getElem_mem (by omega))
              have a1 : L2.atI zs (i1 : Int) = some (.ref p1) := by rw [atI_nat, ← ep1]; exact List.getElem?_eq_getElem _
              have a2 : L2.atI zs (i2 : Int) = some (.ref p2) := by rw [atI_nat, ← ep2]; exact List.getElem?_eq_getElem _
              obtain ⟨d1, hd1⟩ := at_bool (bs := bs1) (k := j1) (by omega)
              obtain ⟨d2, hd2⟩ := at_bool (bs := bs2) (k := j2) (by omega)
              refine iteT ⟨_, rfl, _, rfl, _, 0, _, rfl, hx', rfl, fun z hz => ?_⟩
              obtain rfl := hz.intE
              refine ⟨l, zs, _, _, rfl, rfl, SqL.of hl9, a1, _, rfl, _, 0, _, rfl, hy', rfl, fun z hz => ?_⟩
              obtain rfl := hz.intE
              refine ⟨p1, _, _, _, rfl, rfl, SqL.of hp1, hd1, d1, rfl, ?_⟩
              cases d1 with
              | false => exact iteF ⟨_, rfl, .inl ⟨rfl, _, SqL.of hm9⟩, _, rfl, m, _, _, rfl, rfl, hm9, hlen, fin false⟩
              | true =>
                refine iteT ⟨_, rfl, _, rfl, _, 1, _, rfl, hx', rfl, fun z hz => ?_⟩
                obtain rfl := hz.intE
                refine ⟨l, zs, _, _, rfl, rfl, SqL.of hl9, a2, _, rfl, _, 1, _, rfl, hy', rfl, fun z hz => ?_⟩
                obtain rfl := hz.intE
                exact ⟨p2, _, _, _, rfl, rfl, SqL.of hp2, hd2, ⟨_, rfl, .inl ⟨rfl, _, SqL.of hm9⟩, _, rfl, m, _, _, rfl, rfl, hm9, hlen, fin d2⟩⟩
    · obtain ⟨x7, x8, bs, rfl, f8, hm8, hbl⟩ := z
      rw [List.length_map] at hbl
      have hl8 := f8.k _ _ (fun z => nlm z) hl7
      refine ⟨_, rfl, .inl ⟨rfl, _, SqL.of hl8⟩, _, rfl, l, _, _, rfl, rfl, hl8, lt_line (by omega), ?_⟩
      have g9 : Fr (At l) H8 (upd H8 l (.lst (zs ++ [.ref m]))) := Fr.refl.mut rfl hl8 fun z => z
      have f68 : Fr No H6 H8 := (g7.no.trans f8).less fun b hb _ => by rw [show b = m from hb]; exact hm0
      refine ⟨_, _, _, _, zs ++ [.ref m], rfl, (f46.trans f68.no).trans g9, upd_same, by rw [List.length_append, hzl]; rfl, fun z hz => ?_⟩
      rcases List.mem_append.mp hz with hz | hz
      · obtain ⟨h1, h2, h3⟩ := hzs7 z hz
        refine ⟨(h1.fr f8 (fun p e z => h3 (by rw [e, show p = m from z]))).fr g9 (fun p e z => h2 (by rw [e, show p = l from z])), h2⟩
      · rw [List.mem_singleton.mp hz]
        refine ⟨⟨m, bs, rfl, ?_, hbl⟩, fun e => nlm (V.ref.inj e).symm⟩
        rw [upd_ne nlm.symm]
        exact hm8
  · obtain ⟨x5, x6, x7, x8, zs, rfl, f5, hl5, hzl, hzs⟩ := z
    rw [List.length_map] at hzl
    have hne : zs ≠ [] := fun z => by rw [z] at hzl; simp at hzl; omega
    obtain ⟨h1, _⟩ := hzs (zs.getLast hne) (List.getLast_mem hne)
    obtain ⟨p, bs, ep, hp, lp⟩ := h1
    have hne2 : bs ≠ [] := fun z => by rw [z] at lp; simp at lp; omega
    have a1 : L2.atI zs (-1) = some (.ref p) := by
      rw [← ep]
      conv => lhs; rw [← List.dropLast_concat_getLast hne]
      exact atI_last _ _
    have a2 : L2.atI (bs.map V.bl) (-1) = some (.bl (bs.getLast hne2)) := by
      conv => lhs; rw [← List.dropLast_concat_getLast hne2]
      rw [List.map_append]
      exact atI_last _ _
    have f05 : Fr No H H5 := by
      have z : Fr (At l) H H5 := f04.no.trans f5
      exact z.less fun b hb _ => by rw [show b = l from hb]; exact f03.freeN hl0
    exact ⟨_, rfl, 1, rfl, l, zs, _, _, rfl, rfl, SqL.of hl5, a1, 1, rfl, p, _, _, _, rfl, rfl, SqL.of hp, a2, q H5 _ f05⟩
end
end DF

namespace DF
open PySem PySem.Spec PyProof.Rows L2
theorem isVar_eq (t : T) : t.isVar = (!isC t.hd && t.args.isEmpty) := by
  cases t with
  | lf h => cases h <;> rfl
  | ap f a =>
    show false = (!isC f.hd && (f.args ++ [a]).isEmpty)
    simp
theorem isVar_lf {t : T} (h : t.isVar = true) : ∃ i, t = .lf (.u i) := by
  cases t with
  | lf g =>
    cases g with
    | u i => exact ⟨i, rfl⟩
    | c x => cases h
  | ap f a => cases h
section
variable {P : Program} {w : World} {K : PySem.W.Frag} {mg : Str → Option Value} {base : Heap}
def sp_is_variable_sessions (K : PySem.W.Frag) : Sp := fun vs H Q _ => ∃ v t, vs = [v] ∧ Tm K H v t ∧ Q (.bl t.isVar) H
abbrev sp_is_variable_residuals (K : PySem.W.Frag) : Sp := sp_is_variable_sessions K
theorem isvar_te {H : Hp} {Q : VK} {v : V} {t : T} {σ : St} (e : σ[0]? = some (some v)) (ht : Tm K H v t) (q : Q (.bl t.isVar) H) :
    tAndV (tNotV (tIsi K (tOp (rD K) (tVar 0) (tC (.int 0))))) (tNotT K (tOp (rD K) (tVar 0) (tC (.int 1)))) σ H Q := by
  refine isi0 ht e ⟨_, rfl, _, rfl, ?_⟩
  rw [isVar_eq] at q
  cases c : isC t.hd with
  | true => rw [c] at q; exact iteF q
  | false =>
    rw [c] at q
    refine iteT ⟨v, e, _, 1, _, rfl, ht.is, rfl, fun x hx => ⟨_, TruV.tupD hx, ?_⟩⟩
    rw [List.isEmpty_map, Bool.not_not]
    exact q
theorem sc_is_variable_sessions : FnScope ["term"] ["term"] (defScope Tx.s_is_variable_sessions) := C8.fnScope_by (by decide +kernel)
theorem sc_is_variable_residuals : FnScope ["term"] ["term"] (defScope Tx.s_is_variable_residuals) := C8.fnScope_by (by decide +kernel)
theorem ok_is_variable_sessions (Y : Hf K mg) : Cl CX0 P w K mg base 1 "is_variable_sessions" (sp_is_variable_sessions K) := by
  refine Y.d_is_variable_sessions.ok sc_is_variable_sessions (fun vs H Q E h => ?_) (fun f cdv A outer s H vs Q E hr h => ?_)
  · obtain ⟨v, t, rfl, _⟩ := h; rfl
  have nd := sc_is_variable_sessions.nd
  refine ⟨_, ((pss_one (ps_ret (pe_and (pe_not (k_isi Y.z_isinstance Y.z_str (pe_ix ix_d (pv 0) pe_int fun _ _ => rfl))) (pe_one (pe_notT (pe_ix ix_d (pv 0) pe_int fun _ _ => rfl))))))), ?_⟩
  obtain ⟨v, t, rfl, ht, q⟩ := h
  exact isvar_te rfl ht q
theorem ok_is_variable_residuals (Y : Hf K mg) : Cl CX0 P w K mg base 1 "is_variable_residuals" (sp_is_variable_residuals K) := by
  refine Y.d_is_variable_residuals.ok sc_is_variable_residuals (fun vs H Q E h => ?_) (fun f cdv A outer s H vs Q E hr h => ?_)
  · obtain ⟨v, t, rfl, _⟩ := h; rfl
  have nd := sc_is_variable_residuals.nd
  refine ⟨_, ((pss_one (ps_ret (pe_and (pe_not (k_isi Y.z_isinstance Y.z_str (pe_ix ix_d (pv 0) pe_int fun _ _ => rfl))) (pe_one (pe_notT (pe_ix ix_d (pv 0) pe_int fun _ _ => rfl))))))), ?_⟩
  obtain ⟨v, t, rfl, ht, q⟩ := h
  exact isvar_te rfl ht q
def sp_may_expose (K : PySem.W.Frag) : Sp := fun vs H Q _ => ∃ v u pg t, vs = [v, u] ∧ Is K H v (encG pg) ∧ Tm K H u t ∧ Wf pg ∧ Kn pg t ∧ t.size ≤ 5000 ∧ ∀ b H', Fr No H H' → Q (.bl b) H'
theorem sc_may_expose : FnScope ["program", "term"] ["program", "term"] (defScope Tx.s_may_expose) := C8.fnScope_by (by decide +kernel)
theorem ok_may_expose (Y : Hf K mg) : Cl CX0 P w K mg base 27 "may_expose" (sp_may_expose K) := by
  refine Y.d_may_expose.ok sc_may_expose (fun vs H Q E h => ?_) (fun f cdv A outer s H vs Q E hr h => ?_)
  · obtain ⟨v, u, pg, t, rfl, _⟩ := h; rfl
  have nd := sc_may_expose.nd
  refine ⟨_, ((pss_one (ps_ret (pe_cmpR op_inS (pe_ix ix_d (kc (ok_demand Y) hr (pa_cons (pv 0) (pa_cons (pv 1) pa_nil)) (hk := by omega)) pe_int fun _ _ => rfl) (pe_tupD (pa_cons pe_str (pa_cons pe_str (pa_cons pe_str pa_nil)))) rfl)))), ?_⟩
  obtain ⟨v, u, pg, t, rfl, hv, hu, W, kn, hz, q⟩ := h
  refine ⟨_, rfl, _, rfl, v, u, pg, t, rfl, hv, hu, W, kn, hz, fun x H1 f1 hx => ?_⟩
  obtain ⟨s0, ds, e⟩ := encM_hd (dem pg t)
  rw [e] at hx
  refine ⟨_, 0, _, rfl, hx, atI_zero _ _, fun y hy => ⟨[.str "value", .str "unknown", .str "stuck"], .cons (.str _) (.cons (.str _) (.cons (.str _) .nil)), by show 3 ≤ 16000000; decide, fun z H2 f2 hz2 => ?_⟩⟩
  obtain rfl := hy.strE
  exact ⟨s0, ["value", "unknown", "stuck"], rfl, hz2, q _ H2 (f1.trans f2)⟩
/-- the parts of an instance that are no unknowns -/
def bigs (ps : List (Int × T)) : List T := ps.filterMap fun p => if p.2.isVar = true then none else some p.2
def rBig (K : PySem.W.Frag) (H : Hp) (Q : VK) : Option (List (Int × T)) → Prop
  | none => ∀ H', Fr No H H' → Q .non H'
  | some ps => Rt K H Q (.tuple ((bigs ps).map enc))
def sp_fold_parts (K : PySem.W.Frag) : Sp := fun vs H Q _ => ∃ v p u t, vs = [v, u] ∧ Tm K H v p ∧ Tm K H u t ∧ p.size ≤ 60 ∧ t.size ≤ 60 ∧ rBig K H Q (matchP p t)
theorem sc_fold_parts : FnScope ["pattern", "term", "parts", "pair"] ["pattern", "term"] (defScope Tx.s_fold_parts) := C8.fnScope_by (by decide +kernel)
theorem ok_fold_parts (Y : Hf K mg) : Cl CX0 P w K mg base 64 "fold_parts" (sp_fold_parts K) := by
  refine Y.d_fold_parts.ok sc_fold_parts (fun vs H Q E h => ?_) (fun f cdv A outer s H vs Q E hr h => ?_)
  · obtain ⟨v, p, u, t, rfl, _⟩ := h; rfl
  have nd := sc_fold_parts.nd
  refine ⟨_, ((pss_cons (ps_set (i := 2) nd rfl (by first | exact .inl rfl | exact .inr rfl) (kc (ok_match Y 60) hr (pa_cons (pv 0) (pa_cons (pv 1) pa_nil)) (hk := by omega)))
    (pss_cons (ps_if (pt_cmp (pc_isN (pv 2)))
        (pss_one (ps_ret pe_non)) pss_nil)
    (pss_one (ps_ret (k_tup Y.z_tuple (pe_lc (own := [("pair", 3)]) (g := (gName 3)) (tt := (tNot (tB (tCall (sp_is_variable_sessions K) [] E0 (tCons (tOp (rD K) (tVar 3) (tC (.int 1))) tNil))))) (te := (tOp (rD K) (tVar 3) (tC (.int 1)))) rfl nd (pi_tup (pv 2)) (blkOk_by (own := [("pair", 3)]) (N := ["pattern", "term", "parts", "pair"]) (sc := defScope Tx.s_fold_parts) (by decide +kernel)) (fun _ _ _ _ _ => (pg_name (i := 3) nd rfl (by first | exact .inl rfl | exact .inr rfl))) (fun _ _ _ _ _ => (pts_one (pt_not (pt_val (kc (ok_is_variable_sessions Y) hr (pa_cons (pe_ix ix_d (pv 3) pe_int fun _ _ => rfl) pa_nil) (hk := by omega)))))) (fun _ _ _ _ _ => (pe_ix ix_d (pv 3) pe_int fun _ _ => rfl))))))))), ?_⟩
  obtain ⟨v, p, u, t, rfl, hp, ht, hz1, hz2, q⟩ := h
  refine ⟨_, rfl, _, rfl, v, p, u, t, rfl, hp, ht, hz1, by omega, by omega, ?_⟩
  cases e : matchP p t with
  | none =>
    rw [e] at q
    intro H1 f1
    exact ⟨_, rfl, _, rfl, iteT (q H1 f1)⟩
  | some ps =>
    rw [e] at q
    intro x H1 f1 hx
    obtain ⟨a, xs, rfl, ta, ia⟩ := hx.tupE
    have hlen : ps.length ≤ 60 := by
      have h1 := congrArg List.length (matchP_parts e).1
      rw [List.length_map] at h1
      have := unks_len p
      omega
    refine ⟨_, rfl, _, rfl, iteF ⟨_, rfl, a, rfl, ⟨_, ta.sq⟩, fun D hD => lcD (l := ps) (en := prD) (f := fun p => if p.2.isVar = true then none else some (enc p.2)) (dwT (S := No) ta ia) hD (by omega) (fun r x H2 yes no _ f2 hx yesH noH => ?_) fun H2 ys f2 hD2 hys => ?_⟩⟩
    · refine ⟨rfl, _, rfl, _, 1, _, rfl, hx, rfl, fun y hy => ⟨y, r.2, rfl, hy, _, rfl, ?_⟩⟩
      cases c : r.2.isVar with
      | true => exact iteF (noH H2 .refl (by rw [c]; rfl))
      | false => exact iteT ⟨_, rfl, _, 1, _, rfl, hx, rfl, fun y2 hy2 => yesH y2 H2 _ .refl hy2 (by rw [c]; rfl)⟩
    · have e2 : ps.filterMap (fun p => if p.2.isVar = true then none else some (enc p.2)) = (bigs ps).map enc := by
        unfold bigs
        rw [List.map_filterMap]
        congr 1
        funext p
        split <;> rfl
      rw [e2] at hys
      exact ⟨D, ys, _, rfl, hD2, hys, fun z H3 f3 hz => q z H3 ((f1.trans f2).trans f3) hz⟩
def cntFrom (l : List Int) (k : Int) : Nat := (l.filter fun i => decide (k ≤ i)).length
theorem cntFrom_le : ∀ (l : List Int) (k : Int), cntFrom l (k + 1) ≤ cntFrom l k ∧ (k ∈ l → cntFrom l (k + 1) < cntFrom l k)
  | [], k => ⟨Nat.le_refl _, fun h => nomatch h⟩
  | a :: l, k => by
    obtain ⟨h1, h2⟩ := cntFrom_le l k
    unfold cntFrom at h1 h2 ⊢
    rw [List.filter_cons, List.filter_cons]
    by_cases c : k ≤ a
    · rw [if_pos (decide_eq_true c)]
      by_cases d : k + 1 ≤ a
      · rw [if_pos (decide_eq_true d), List.length_cons, List.length_cons]
        refine ⟨by omega, fun h => ?_⟩
        rcases List.mem_cons.mp h with e | h
        · omega
        · have := h2 h; omega
      · rw [if_neg (by rw [decide_eq_true_iff]; exact d), List.length_cons]
        exact ⟨by omega, fun _ => by omega⟩
    · rw [if_neg (show ¬ decide (k + 1 ≤ a) = true by rw [decide_eq_true_iff]; omega), if_neg (show ¬ decide (k ≤ a) = true by rw [decide_eq_true_iff]; exact c)]
      refine ⟨h1, fun h => ?_⟩
      rcases List.mem_cons.mp h with e | h
      · omega
      · exact h2 h
/-- so many ints, none of them told -/
def sp_new_unknowns (K : PySem.W.Frag) : Sp := fun vs H Q _ => ∃ v t n, vs = [v, .int (n : Nat)] ∧ Tm K H v t ∧ t.size ≤ 100000 ∧ n ≤ 100000 ∧ ∀ (is : List Int) p H', is.length = n → Fr No H H' → H p = none → H' p = some (.lst (is.map V.int)) → Q (.ref p) H'
theorem sc_new_unknowns : FnScope ["term", "count", "taken", "found", "number"] ["term", "count"] (defScope Tx.s_new_unknowns) := C8.fnScope_by (by decide +kernel)
theorem ok_new_unknowns (Y : Hf K mg) : Cl CX0 P w K mg base 3 "new_unknowns" (sp_new_unknowns K) := by
  refine Y.d_new_unknowns.ok sc_new_unknowns (fun vs H Q E h => ?_) (fun f cdv A outer s H vs Q E hr h => ?_)
  · obtain ⟨v, t, n, rfl, _⟩ := h; rfl
  have nd := sc_new_unknowns.nd
  refine ⟨_, ((pss_cons (ps_set (i := 2) nd rfl (by first | exact .inl rfl | exact .inr rfl) (kc (ok_unknowns Y) hr (pa_cons (pv 0) pa_nil) (hk := by omega)))
    (pss_cons (ps_set (i := 3) nd rfl (by first | exact .inl rfl | exact .inr rfl) (pe_lst pa_nil))
    (pss_cons (ps_set (i := 4) nd rfl (by first | exact .inl rfl | exact .inr rfl) pe_int)
    (pss_cons (ps_while PassesOwn.never (pt_cmp (pc_lt (k_lenL Y.z_len (pv 3)) (pv 1)))
        (pss_cons (ps_if (pt_cmpR op_ninI (pv 4) (pv 2) rfl)
            (pss_one (ps_expr (pe_bm PySem.F.plainAttrs_list PySem.F.slot_list_append PySem.F.type_list_append mt_append (pv 3) (pa_cons (pv 4) pa_nil)))) pss_nil)
        (pss_one (ps_aug (i := 4) nd rfl (by first | exact .inl rfl | exact .inr rfl) pe_int ip_add))))
    (pss_one (ps_ret (pv 3)))))))), ?_⟩
  obtain ⟨v, t, n, rfl, ht, hz, hn, q⟩ := h
  refine ⟨_, rfl, v, t, rfl, ht, by omega, fun x H1 f1 hx => ?_⟩
  refine ⟨Nat.zero_le _, fun l hl => ?_⟩
  have f2 : Fr No H1 (upd H1 l (.lst [])) := Fr.new0 hl
  refine ⟨fun m σ H' => ∃ (is : List Int) (k : Nat), m = (n - is.length) + cntFrom (unks t) (k : Int) ∧ is.length ≤ n ∧ σ = [some v, some (.int (n : Nat)), some x, some (.ref l), some (.int (k : Nat))] ∧ Fr No H1 H' ∧ H' l = some (.lst (is.map V.int)), ⟨_, [], 0, rfl, Nat.zero_le _, rfl, f2, upd_same⟩, ?_⟩
  rintro m σ H2 ⟨is, k, rfl, hle, rfl, f3, hl2⟩
  refine ⟨_, rfl, l, _, rfl, .inl (SqL.of hl2), _, rfl, _, _, rfl, rfl, _, rfl, ?_⟩
  rw [List.length_map]
  show if decide (((is.length : Nat) : Int) < ((n : Nat) : Int)) = true then _ else _
  have hxx : Is K H2 x (.tuple ((unks t).map PyData.int)) := hx.fr f3
  obtain ⟨c1, c2⟩ := cntFrom_le (unks t) (k : Int)
  by_cases c : is.length < n
  · rw [decide_eq_true (by omega)]
    refine iteT ⟨_, fun σ' H' n => n, ?_⟩
    refine ⟨_, rfl, _, rfl, (k : Nat), unks t, rfl, .inl hxx, _, rfl, ?_⟩
    show if (!decide (((k : Nat) : Int) ∈ unks t)) = true then _ else _
    by_cases d : ((k : Nat) : Int) ∈ unks t
    · rw [decide_eq_true d]
      refine iteF ⟨_, rfl, _, _, rfl, rfl, ?_⟩
      refine ⟨_, ?_, is, k + 1, rfl, hle, rfl, f3, hl2⟩
      have := c2 d
      rw [show ((k + 1 : Nat) : Int) = (k : Int) + 1 by omega]
      omega
    · rw [decide_eq_false d]
      refine iteT ⟨_, rfl, .inl ⟨rfl, _, SqL.of hl2⟩, _, rfl, l, _, _, rfl, rfl, hl2, lt_line (by rw [List.length_map]; omega), ?_⟩
      refine ⟨_, rfl, _, _, rfl, rfl, ?_⟩
      refine ⟨_, ?_, is ++ [((k : Nat) : Int)], k + 1, rfl, by rw [List.length_append]; show is.length + 1 ≤ n; omega, rfl, f3.new hl, by rw [upd_same, List.map_append]; rfl⟩
      rw [List.length_append]
      show n - (is.length + 1) + cntFrom (unks t) ((k : Int) + 1) < _
      omega
  · rw [decide_eq_false (by omega)]
    exact iteF ⟨_, rfl, q is l H2 (by omega) (f1.trans f3) (f1.freeN hl) hl2⟩
/-- a body, parts: told loosely -/
def BodyParts (K : PySem.W.Frag) (H : Hp) (w1 : V) (n : Nat) : Prop := ∃ a x y b ps, w1 = .ref a ∧ Tp K H a [x, y] ∧ Tm K H x b ∧ Prt K H y ps ∧ b.size ≤ n ∧ ps.length ≤ 60 ∧ ∀ p ∈ ps, p.2.size ≤ 60
def sp_taken_out (K : PySem.W.Frag) : Sp := fun vs H Q _ => ∃ v u z t b ts, vs = [v, u, z] ∧ Tm K H v t ∧ Tm K H u b ∧ Tms K H z ts ∧ t.size ≤ 60 ∧ b.size ≤ 60 ∧ ts.length ≤ 60 ∧ (∀ s ∈ ts, s.size ≤ 60) ∧ ∀ w1 H', Fr No H H' → BodyParts K H' w1 60 → Q w1 H'
theorem sc_taken_out : FnScope ["term", "body", "terms", "large", "own", "fresh", "pairs", "parts"] ["term", "body", "terms"] (defScope Tx.s_taken_out) := C8.fnScope_by (by decide +kernel)
theorem ok_taken_out (Y : Hf K mg) : Cl CX0 P w K mg base 64 "taken_out" (sp_taken_out K) := by
  refine Y.d_taken_out.ok sc_taken_out (fun vs H Q E h => ?_) (fun f cdv A outer s H vs Q E hr h => ?_)
  · obtain ⟨v, u, z, t, b, ts, rfl, _⟩ := h; rfl
  have nd := sc_taken_out.nd
  refine ⟨_, ((pss_cons (ps_setLc (i := 3) (own := [("own", 4)]) (g := (gName 4)) (tt := (tNot (tB (tCall (sp_is_variable_sessions K) [] E0 (tCons (tVar 4) tNil))))) (te := (tVar 4)) rfl nd rfl rfl (sw_true rfl rfl rfl (by decide +kernel)) (pi_tup (pv 2)) (blkOk_by (own := [("own", 4)]) (N := ["term", "body", "terms", "large", "own", "fresh", "pairs", "parts"]) (sc := defScope Tx.s_taken_out) (by decide +kernel)) (fun _ _ _ _ _ => (pg_name (i := 4) nd rfl (by first | exact .inl rfl | exact .inr rfl))) (fun _ _ _ _ _ => (pts_one (pt_not (pt_val (kc (ok_is_variable_sessions Y) hr (pa_cons (pv 4) pa_nil) (hk := by omega)))))) (fun _ _ _ _ _ => (pv 4)))
    (pss_cons (ps_set (i := 5) nd rfl (by first | exact .inl rfl | exact .inr rfl) (kc (ok_new_unknowns Y) hr (pa_cons (pv 0) (pa_cons (k_lenL Y.z_len (pv 3)) pa_nil)) (hk := by omega)))
    (pss_cons (ps_set (i := 6) nd rfl (by first | exact .inl rfl | exact .inr rfl) (pe_lst pa_nil))
    (pss_cons (ps_set (i := 7) nd rfl (by first | exact .inl rfl | exact .inr rfl) (pe_lst pa_nil))
    (pss_cons (ps_for PassesOwn.never rfl (pi_tup (pv 2)) (pg_name (i := 4) nd rfl (by first | exact .inl rfl | exact .inr rfl))
        (pss_one (ps_if (pt_val (kc (ok_is_variable_sessions Y) hr (pa_cons (pv 4) pa_nil) (hk := by omega)))
            (pss_one (ps_expr (pe_bm PySem.F.plainAttrs_list PySem.F.slot_list_append PySem.F.type_list_append mt_append (pv 6) (pa_cons (pe_tupD (pa_cons (k_lenL Y.z_len (pv 6)) (pa_cons (pv 4) pa_nil))) pa_nil))))
            (pss_cons (ps_expr (pe_bm PySem.F.plainAttrs_list PySem.F.slot_list_append PySem.F.type_list_append mt_append (pv 6) (pa_cons (pe_tupD (pa_cons (k_lenL Y.z_len (pv 6)) (pa_cons (pe_tupD (pa_cons (pe_ix ix_list (pv 5) (k_lenL Y.z_len (pv 7)) fun _ _ => rfl) (pa_cons (pe_tupD pa_nil) pa_nil))) pa_nil))) pa_nil)))
            (pss_one (ps_expr (pe_bm PySem.F.plainAttrs_list PySem.F.slot_list_append PySem.F.type_list_append mt_append (pv 7) (pa_cons (pe_tupD (pa_cons (pe_ix ix_list (pv 5) (k_lenL Y.z_len (pv 7)) fun _ _ => rfl) (pa_cons (pv 4) pa_nil))) pa_nil))))))))
    (pss_one (ps_ret (pe_tup (pa_cons (kc (ok_put Y 60) hr (pa_cons (pv 1) (pa_cons (k_tupF Y.z_tuple (pv 6)) pa_nil)) (hk := by omega)) (pa_cons (k_tupF Y.z_tuple (pv 7)) pa_nil))))))))))), ?_⟩
  obtain ⟨v, u, z, t, b, ts, rfl, ht, hb, hts, hz1, hz2, hl, hs, q⟩ := h
  have hts' := hts
  obtain ⟨a, xs, rfl, ta, ia⟩ := hts'.tupE
  refine ⟨_, rfl, a, rfl, ⟨_, ta.sq⟩, fun D hD => lcD (K := K) (l := ts) (en := enc) (f := fun t => if t.isVar = true then none else some (enc t)) (dwT (S := No) ta ia) hD (by omega) (fun r x H2 yes no _ f2 hx yesH noH => ?_) fun H1 ys f1 hD1 hys => ?_⟩
  · refine ⟨rfl, _, rfl, x, r, rfl, hx, _, rfl, ?_⟩
    cases c : r.isVar with
    | true => exact iteF (noH H2 .refl (by rw [c]; rfl))
    | false => exact iteT ⟨_, rfl, yesH x H2 _ .refl hx (by rw [c]; rfl)⟩
  have hbl : ∀ l : List T, (l.filterMap fun t => if t.isVar = true then none else some (enc t)).length = (l.filter fun t => !t.isVar).length := by
    intro l
    induction l with
    | nil => rfl
    | cons t l ih =>
      rw [List.filterMap_cons, List.filter_cons]
      cases t.isVar <;> simp [ih]
  refine ⟨_, rfl, _, rfl, D, _, rfl, .inl (SqL.of hD1), v, t, ys.length, rfl, ht.fr f1, by omega, ?_, fun is p H2 hp2 f2 hp0 hp1 => ?_⟩
  · rw [hys.len]
    have := List.length_filterMap_le (fun t => if t.isVar = true then none else some (enc t)) ts
    omega
  have f02 := f1.trans f2
  refine ⟨Nat.zero_le _, fun l hl0 => ⟨Nat.zero_le _, fun m hm0 => ?_⟩⟩
  have g3 : Fr No H2 (upd H2 l (.lst [])) := Fr.new0 hl0
  have g4 : Fr No (upd H2 l (.lst [])) (upd (upd H2 l (.lst [])) m (.lst [])) := Fr.new0 hm0
  have nlm : l ≠ m := ne_of_none upd_same hm0
  have f04 := f02.trans (g3.trans g4)
  have hl4 := g4.kn (show (upd H2 l (.lst [])) l = some (.lst []) from upd_same)
  have nlp : l ≠ p := fun z => by rw [z, hp1] at hl0; cases hl0
  have nmp : m ≠ p := (ne_of_none (g3.kn hp1) hm0).symm
  have hp4 := (g3.trans g4).kn hp1
  have hlen : ys.length = (ts.filter fun t => !t.isVar).length := by rw [hys.len, hbl]
  refine ⟨_, rfl, a, rfl, ⟨_, (ta.fr f04).sq⟩, ?_⟩
  refine for_it (dwT (S := fun b => b = l ∨ b = m) (ta.fr f04) (ia.fr f04)) (fun i σ H' => ∃ (x4 : Option V) (zs ws : List V) (ps qs : List (Int × T)), σ = [some v, some u, some (.ref a), some (.ref D), x4, some (.ref p), some (.ref l), some (.ref m)] ∧ Fr (fun b => b = l ∨ b = m) (upd (upd H2 l (.lst [])) m (.lst [])) H' ∧ H' l = some (.lst zs) ∧ IsAll K H' zs (ps.map prD) ∧ H' m = some (.lst ws) ∧ IsAll K H' ws (qs.map prD) ∧
      ps.length = i ∧ (∀ r ∈ ps, r.2.size = 1) ∧ qs.length = ((ts.take i).filter fun t => !t.isVar).length ∧ ∀ r ∈ qs, r.2.size ≤ 60)
    ⟨none, [], [], [], [], rfl, .refl, hl4, .nil, upd_same, .nil, rfl, fun r hr => absurd hr List.not_mem_nil, rfl, fun r hr => absurd hr List.not_mem_nil⟩ (fun i σ H' _ z => let ⟨_, _, _, _, _, _, z, _⟩ := z; z) (fun i x σ H5 H6 hlt z yy => ?_) fun σ H5 z => ?_
  · obtain ⟨x4, zs, ws, ps, qs, rfl, f5, hl5, hzs, hm5, hws, lp, sp1, lq, sq1⟩ := z
    obtain ⟨f6, d, hd, hx⟩ := yy
    rw [List.getElem?_map] at hd
    cases e : ts[i]? with
    | none => rw [e] at hd; cases hd
    | some r =>
    rw [e] at hd
    cases hd
    have hi : i < ts.length := (List.getElem?_eq_some_iff.mp e).1
    have hl6 := f6.kn hl5
    have hm6 := f6.kn hm5
    have hzl : zs.length = i := by rw [hzs.len, List.length_map, lp]
    have hwl : ws.length = qs.length := by rw [hws.len, List.length_map]
    refine ⟨_, rfl, x, r, rfl, hx, _, rfl, ?_⟩
    cases c : r.isVar with
    | true =>
      refine iteT ⟨_, rfl, .inl ⟨rfl, _, SqL.of hl6⟩, _, rfl, l, _, rfl, .inl (SqL.of hl6), _, rfl, [.int (zs.length : Nat), enc r], .cons (.int _) (.cons hx .nil), by show 2 ≤ 16000000; decide, fun w7 H7 f7 hw7 => ⟨l, _, _, rfl, rfl, f7.kn hl6, lt_line (by omega), ?_⟩⟩
      have g8 : Fr (fun b => b = l ∨ b = m) H7 (upd H7 l (.lst (zs ++ [w7]))) := Fr.refl.mut (.inl rfl) (f7.kn hl6) fun z => z
      refine ⟨some x, _, _, ps ++ [(((zs.length : Nat) : Int), r)], qs, rfl, ((f5.trans f6.no).trans f7.no).trans g8, upd_same, ?_, by rw [upd_ne nlm.symm]; exact f7.kn hm6, ((hws.fr f6).fr f7).fr g8, by rw [List.length_append, lp]; rfl, fun r' hr' => ?_, ?_, sq1⟩
      · rw [List.map_append]
        exact (((hzs.fr f6).fr f7).fr g8).append (.cons (Is.fr g8 hw7) .nil)
      · rcases List.mem_append.mp hr' with hr' | hr'
        · exact sp1 r' hr'
        · rw [List.mem_singleton.mp hr']
          obtain ⟨j, rfl⟩ := isVar_lf c
          rfl
      · rw [take_snoc e, List.filter_append, List.length_append, List.filter_cons, c]
        exact lq
    | false =>
      have hlt2 : qs.length < ys.length := by
        rw [lq, hlen]
        have e2 : ts = ts.take (i + 1) ++ ts.drop (i + 1) := (List.take_append_drop _ _).symm
        have e3 : (ts.filter fun t => !t.isVar).length = ((ts.take i).filter fun t => !t.isVar).length + 1 + ((ts.drop (i + 1)).filter fun t => !t.isVar).length := by
          conv => lhs; rw [e2, take_snoc e, List.filter_append, List.filter_append, List.length_append, List.length_append, List.filter_cons, c]
          rfl
        omega
      obtain ⟨k0, hk0⟩ : ∃ k0, is[qs.length]? = some k0 := ⟨_, List.getElem?_eq_getElem (by omega)⟩
      have hfl := List.length_filter_le (fun t : T => !t.isVar) ts
      have hfr : L2.atI (is.map V.int) ((qs.length : Nat) : Int) = some (.int k0) := by rw [atI_nat, List.getElem?_map, hk0]; rfl
      have hp5 := f5.k p _ (fun z => z.elim (fun z => nlp z.symm) fun z => nmp z.symm) hp4
      have hp6 := f6.kn hp5
      refine iteF ⟨_, rfl, .inl ⟨rfl, _, SqL.of hl6⟩, _, rfl, l, _, rfl, .inl (SqL.of hl6), _, rfl, _, rfl, m, _, rfl, .inl (SqL.of hm6), p, _, _, _, rfl, rfl, SqL.of hp6, by rw [hwl]; exact hfr, ?_⟩
      refine ⟨[], .nil, Nat.zero_le _, fun w7 H7 f7 hw7 => ⟨_, .cons (.int _) (.cons hw7 .nil), by show 2 ≤ 16000000; decide, fun w8 H8 f8 hw8 => ⟨_, .cons (.int _) (.cons hw8 .nil), by show 2 ≤ 16000000; decide, fun w9 H9 f9 hw9 => ?_⟩⟩⟩
      have f69 := (f7.trans f8).trans f9
      refine ⟨l, _, _, rfl, rfl, f69.kn hl6, lt_line (by omega), ?_⟩
      have g10 : Fr (fun b => b = l ∨ b = m) H9 (upd H9 l (.lst (zs ++ [w9]))) := Fr.refl.mut (.inl rfl) (f69.kn hl6) fun z => z
      have hm10 : (upd H9 l (.lst (zs ++ [w9]))) m = some (.lst ws) := by rw [upd_ne nlm.symm]; exact f69.kn hm6
      have hp10 : (upd H9 l (.lst (zs ++ [w9]))) p = some (.lst (is.map V.int)) := by rw [upd_ne nlp.symm]; exact f69.kn hp6
      refine ⟨_, rfl, .inl ⟨rfl, _, SqL.of hm10⟩, _, rfl, _, rfl, m, _, rfl, .inl (SqL.of hm10), p, _, _, _, rfl, rfl, SqL.of hp10, by rw [hwl]; exact hfr, ?_⟩
      refine ⟨_, rfl, _, .cons (.int _) (.cons (Is.fr g10 (hx.fr f69)) .nil), by show 2 ≤ 16000000; decide, fun w11 H11 f11 hw11 => ?_⟩
      refine ⟨m, _, _, rfl, rfl, f11.kn hm10, lt_line (by omega), ?_⟩
      have g12 : Fr (fun b => b = l ∨ b = m) H11 (upd H11 m (.lst (ws ++ [w11]))) := Fr.refl.mut (.inr rfl) (f11.kn hm10) fun z => z
      have fall := ((((f5.trans f6.no).trans f69.no).trans g10).trans f11.no).trans g12
      refine ⟨some x, zs ++ [w9], ws ++ [w11], ps ++ [(((zs.length : Nat) : Int), T.lf (.u k0))], qs ++ [(k0, r)], rfl, fall, ?_, ?_, upd_same, ?_, by rw [List.length_append, lp]; rfl, fun r' hr' => ?_, ?_, fun r' hr' => ?_⟩
      · rw [upd_ne nlm]
        exact f11.kn upd_same
      · rw [List.map_append]
        exact (((((hzs.fr f6).fr f69).fr g10).fr f11).fr g12).append (.cons (Is.fr g12 (Is.fr f11 (Is.fr g10 hw9))) .nil)
      · rw [List.map_append]
        exact (((((hws.fr f6).fr f69).fr g10).fr f11).fr g12).append (.cons (Is.fr g12 hw11) .nil)
      · rcases List.mem_append.mp hr' with hr' | hr'
        · exact sp1 r' hr'
        · rw [List.mem_singleton.mp hr']; rfl
      · rw [take_snoc e, List.filter_append, List.length_append, List.length_append, List.filter_cons, c, lq]
        rfl
      · rcases List.mem_append.mp hr' with hr' | hr'
        · exact sq1 r' hr'
        · rw [List.mem_singleton.mp hr']
          exact hs r (List.mem_of_getElem? e)
  · obtain ⟨x4, zs, ws, ps, qs, rfl, f5, hl5, hzs, hm5, hws, lp, sp1, lq, sq1⟩ := z
    have f05 : Fr No H H5 := by
      have z : Fr (fun b => b = l ∨ b = m) H H5 := f04.no.trans f5
      refine z.less fun b hb _ => ?_
      rcases hb with e | e
      · rw [e]; exact f02.freeN hl0
      · rw [e]; exact (f02.trans g3).freeN hm0
    rw [List.length_map, List.take_length] at lq
    refine ⟨_, rfl, _, rfl, l, _, rfl, SqL.of hl5, fun p6 o6 hp6 ho6 => ?_⟩
    have f6 : Fr No H5 (upd H5 p6 (.frz o6 (.tup zs))) := Fr.new0 hp6
    refine ⟨u, b, .ref p6, ps, rfl, (hb.fr f05).fr f6, Prt.of hp6 ho6 hzs, hz2, by omega, fun r hr => by rw [sp1 r hr]; omega, fun w7 H7 f7 hw7 => ?_⟩
    have hm7 := f7.kn (f6.kn hm5)
    refine ⟨_, rfl, m, _, rfl, SqL.of hm7, fun p8 o8 hp8 ho8 => ?_⟩
    have f8 : Fr No H7 (upd H7 p8 (.frz o8 (.tup ws))) := Fr.new0 hp8
    refine ⟨le_line (by show 2 ≤ 16000000; decide), fun p9 hp9 => ?_⟩
    have f9 : Fr No (upd H7 p8 (.frz o8 (.tup ws))) (upd (upd H7 p8 (.frz o8 (.tup ws))) p9 (.tup [w7, .ref p8])) := Fr.new0 hp9
    have hws7 := (hws.fr f6).fr f7
    have hqf := List.length_filter_le (fun t : T => !t.isVar) ts
    refine q _ _ ((((f05.trans f6).trans f7).trans f8).trans f9) ⟨p9, w7, .ref p8, put b ps, qs, rfl, .of upd_same, Is.fr f9 (Is.fr f8 hw7), (Prt.of hp8 ho8 hws7).fr f9, ?_, by omega, sq1⟩
    have := put_size (t := b) (ps := ps) (M := 1) (Nat.le_refl _) (fun r hr => by rw [sp1 r hr]; exact Nat.le_refl _)
    omega
end
end DF

namespace DF
open PySem PySem.Spec PyProof.Rows L2
theorem dwEl {K : PySem.W.Frag} {S : Addr → Prop} {H1 : Hp} {a : Addr} {xs : List V} {ds : List PyData} (h : H1 a = some (.lst xs)) (hi : IsAll K H1 xs ds) (n : ¬ S a) : DW K S (Ite K a) H1 (enD 0 ds) := by
  have hl := hi.len
  have hk : ∀ {H}, Fr S H1 H → SqL K H a xs := fun f => SqL.of (f.k _ _ n h)
  refine ⟨fun i H hlt f => ?_, fun H f => ⟨xs, hk f, by rw [enD_len]; omega⟩, fun i H v H' hlt f y => ?_⟩
  · rw [enD_len] at hlt
    exact ⟨xs, xs[i], hk f, List.getElem?_eq_getElem (by omega)⟩
  · obtain ⟨T, x, rfl, hT, rfl, g⟩ := y
    have hx := g xs (hk f)
    obtain ⟨d, hd, hxd⟩ := (hi.fr f).get hx
    have f2 : Fr No H (upd H T (.tup [.int (i : Nat), x])) := Fr.new0 hT
    exact ⟨f2, _, enD_get ds 0 i d hd, .tup (.of upd_same) (.cons (by rw [Nat.zero_add]; exact .int _) (.cons (hxd.fr f2) .nil))⟩
theorem enD_at {ds : List PyData} {i : Nat} {d : PyData} (h : (enD 0 ds)[i]? = some d) : ∃ e, ds[i]? = some e ∧ d = .tuple [.int (i : Nat), e] := by
  have hi : i < ds.length := by
    have := (List.getElem?_eq_some_iff.mp h).1
    rw [enD_len] at this
    exact this
  have := enD_get ds 0 i ds[i] (List.getElem?_eq_getElem hi)
  rw [h] at this
  rw [Nat.zero_add] at this
  exact ⟨ds[i], List.getElem?_eq_getElem hi, Option.some.inj this⟩
structure SplitOk (t b : T) (ps : List (Int × T)) : Prop where
  eq : put b ps = t
  small : b.size < t.size
  parts : ∀ p ∈ ps, p.2.size < t.size
  ne : ps ≠ []
  nd : (ps.map (·.1)).Nodup
  st : ∀ p ∈ ps, p.1 ∈ unks b
section
variable {P : Program} {w : World} {K : PySem.W.Frag} {mg : Str → Option Value} {base : Heap}
def sp_split_problem (K : PySem.W.Frag) : Sp := fun vs H Q _ => ∃ v u z t b ps, vs = [v, u, z] ∧ Tm K H v t ∧ Tm K H u b ∧ Prt K H z ps ∧ t.size ≤ 60 ∧ b.size ≤ 60 ∧ ps.length ≤ 1000 ∧ (∀ p ∈ ps, p.2.size ≤ 60) ∧
  (∀ x H', Fr No H H' → Q (.str x) H') ∧ (SplitOk t b ps → ∀ H', Fr No H H' → Q .non H')
theorem sc_split_problem : FnScope ["term", "body", "parts", "new", "pair", "taken", "standing", "at", "unknown"] ["term", "body", "parts"] (defScope Tx.s_split_problem) := C8.fnScope_by (by decide +kernel)
theorem ok_split_problem (Y : Hf K mg) : Cl CX0 P w K mg base 64 "split_problem" (sp_split_problem K) := by
  refine Y.d_split_problem.ok sc_split_problem (fun vs H Q E h => ?_) (fun f cdv A outer s H vs Q E hr h => ?_)
  · obtain ⟨v, u, z, t, b, ps, rfl, _⟩ := h; rfl
  have nd := sc_split_problem.nd
  refine ⟨_, ((pss_cons (ps_setLc (i := 3) (own := [("pair", 4)]) (g := (gName 4)) (tt := tYes) (te := (tOp (rD K) (tVar 4) (tC (.int 0)))) rfl nd rfl rfl (sw_true rfl rfl rfl (by decide +kernel)) (pi_tup (pv 2)) (blkOk_by (own := [("pair", 4)]) (N := ["term", "body", "parts", "new", "pair", "taken", "standing", "at", "unknown"]) (sc := defScope Tx.s_split_problem) (by decide +kernel)) (fun _ _ _ _ _ => (pg_name (i := 4) nd rfl (by first | exact .inl rfl | exact .inr rfl))) (fun _ _ _ _ _ => pts_nil) (fun _ _ _ _ _ => (pe_ix ix_d (pv 4) pe_int fun _ _ => rfl)))
    (pss_cons (ps_set (i := 5) nd rfl (by first | exact .inl rfl | exact .inr rfl) (kc (ok_unknowns Y) hr (pa_cons (pv 0) pa_nil) (hk := by omega)))
    (pss_cons (ps_set (i := 6) nd rfl (by first | exact .inl rfl | exact .inr rfl) (kc (ok_unknowns Y) hr (pa_cons (pv 1) pa_nil) (hk := by omega)))
    (pss_cons (ps_for PassesOwn.never rfl (pi_enum rfl Y.z_enumerate (pa_cons (pv 3) pa_nil)) (pg_tup rfl (pgs_cons (pg_name (i := 7) nd rfl (by first | exact .inl rfl | exact .inr rfl)) (pgs_cons (pg_name (i := 8) nd rfl (by first | exact .inl rfl | exact .inr rfl)) pgs_nil)))
        (pss_one (ps_if (PW.pt (pw_or (pt_cmpR op_inI (pv 8) (pv 5) rfl) (pw_or (pt_cmpR op_ninI (pv 8) (pv 6) rfl) (pw_or1 (pt_cmpR op_inI (pv 8) (pe_slice sl_list (pv 3) po_none (po_some (pv 7))) rfl)))))
            (pss_one (ps_ret pe_str)) pss_nil)))
    (pss_cons (ps_if (pt_not (pt_truL (pv 3)))
        (pss_one (ps_ret pe_str)) pss_nil)
    (pss_cons (ps_if (pt_cmpR (op_neD (n := 200) hr) (kc (ok_put Y 60) hr (pa_cons (pv 1) (pa_cons (pv 2) pa_nil)) (hk := by omega)) (pv 0) rfl)
        (pss_one (ps_ret pe_str)) pss_nil)
    (pss_cons (ps_if (pt_cmp (pc_ge (k_max Y.z_max (pe_op op_cat (pe_lst (pa_cons (kc (ok_size Y) hr (pa_cons (pv 1) pa_nil) (hk := by omega)) pa_nil)) (pe_lc (own := [("pair", 4)]) (g := (gName 4)) (tt := tYes) (te := (tCall (sp_size K) [] E0 (tCons (tOp (rD K) (tVar 4) (tC (.int 1))) tNil))) rfl nd (pi_tup (pv 2)) (blkOk_by (own := [("pair", 4)]) (N := ["term", "body", "parts", "new", "pair", "taken", "standing", "at", "unknown"]) (sc := defScope Tx.s_split_problem) (by decide +kernel)) (fun _ _ _ _ _ => (pg_name (i := 4) nd rfl (by first | exact .inl rfl | exact .inr rfl))) (fun _ _ _ _ _ => pts_nil) (fun _ _ _ _ _ => (kc (ok_size Y) hr (pa_cons (pe_ix ix_d (pv 4) pe_int fun _ _ => rfl) pa_nil) (hk := by omega)))))) (kc (ok_size Y) hr (pa_cons (pv 0) pa_nil) (hk := by omega))))
        (pss_one (ps_ret pe_str)) pss_nil)
    (pss_one (ps_ret pe_non)))))))))), ?_⟩
  obtain ⟨v, u, z, t, b, ps, rfl, ht, hb, hz, hz1, hz2, hl, hs, q1, q2⟩ := h
  have hz' := hz.is.tupE
  obtain ⟨a, xs, rfl, ta, ia⟩ := hz'
  refine ⟨_, rfl, a, rfl, ⟨_, ta.sq⟩, fun D hD => lcD (K := K) (l := ps) (en := prD) (f := fun p => some (.int p.1)) (dwT (S := No) ta ia) hD (by omega) (fun r x H2 yes no _ f2 hx yesH noH => ?_) fun H1 ys f1 hD1 hys => ?_⟩
  · exact ⟨rfl, yesT ⟨_, rfl, _, 0, _, rfl, hx, rfl, fun y hy => yesH y H2 _ .refl hy rfl⟩⟩
  rw [fm_some] at hys
  have e1 : ps.map (fun p => PyData.int p.1) = (ps.map (·.1)).map PyData.int := by rw [List.map_map]; rfl
  rw [e1] at hys
  obtain rfl := isAll_intsV hys
  refine ⟨_, rfl, v, t, rfl, ht.fr f1, by omega, fun x5 H2 f2 hx5 => ⟨_, rfl, u, b, rfl, (hb.fr f1).fr f2, by omega, fun x6 H3 f3 hx6 => ?_⟩⟩
  have f23 := f2.trans f3
  have f03 := f1.trans f23
  have hD3 := f23.kn hD1
  have hys3 := hys.fr f23
  have hx53 := hx5.fr f3
  refine ⟨_, rfl, D, _, rfl, SqL.of hD3, ?_⟩
  refine for_it (dwEl (S := No) hD3 hys3 (fun z => z)) (fun i σ H' => ∃ x4 x7 x8, σ = [some v, some u, some (.ref a), some (.ref D), x4, some x5, some x6, x7, x8] ∧ Fr No H3 H' ∧ ((ps.map (·.1)).take i).Nodup ∧ ∀ k ∈ (ps.map (·.1)).take i, k ∈ unks b)
    ⟨none, none, none, rfl, .refl, List.nodup_nil, fun k hk => absurd hk List.not_mem_nil⟩ (fun i σ H' _ z => let ⟨_, _, _, _, z, _⟩ := z; z) (fun i x σ H4 H5 hlt z yy => ?_) fun σ H4 z => ?_
  · obtain ⟨x4, x7, x8, rfl, f4, nd1, st1⟩ := z
    obtain ⟨f5, d, hd, hx⟩ := yy
    obtain ⟨e, he, rfl⟩ := enD_at hd
    rw [List.getElem?_map] at he
    cases ek : (ps.map (·.1))[i]? with
    | none => rw [ek] at he; cases he
    | some k =>
    rw [ek] at he
    cases he
    obtain ⟨ax, y1, y2, rfl, tx, hy1, hy2⟩ := hx.two
    obtain rfl := hy1.intE
    obtain rfl := hy2.intE
    refine ⟨ax, _, rfl, tx.sq, rfl, _, _, rfl, _, _, rfl, rfl, ?_⟩
    have f45 := f4.trans f5
    have f05 := f03.trans f45
    refine ⟨_, rfl, _, rfl, k, unks t, rfl, .inl (hx53.fr f45), _, rfl, ?_⟩
    by_cases c1 : k ∈ unks t
    · rw [decide_eq_true c1]
      exact iteT (iteT (q1 _ H5 f05))
    rw [decide_eq_false c1]
    refine iteF ⟨_, rfl, _, rfl, k, unks b, rfl, .inl (hx6.fr f45), _, rfl, ?_⟩
    by_cases c2 : k ∈ unks b
    · rw [decide_eq_true c2]
      have hD5 := f45.kn hD3
      refine iteF ⟨_, rfl, _, rfl, _, rfl, _, rfl, D, _, rfl, SqL.of hD5, fun p hp => ?_⟩
      have e2 : cutV ((ps.map (·.1)).map V.int) none (some ((i : Nat) : Int)) = ((ps.map (·.1)).take i).map V.int := by
        rw [show cutV ((ps.map (·.1)).map V.int) none (some ((i : Nat) : Int)) = cut ((ps.map (·.1)).map V.int) none (some ((i : Nat) : Int)) from rfl, cut_to, List.map_take]
      have f6 : Fr No H5 (upd H5 p (.lst (cutV ((ps.map (·.1)).map V.int) none (some ((i : Nat) : Int))))) := Fr.new0 hp
      refine ⟨k, (ps.map (·.1)).take i, rfl, .inr ⟨p, rfl, by rw [upd_same, e2]⟩, _, rfl, ?_⟩
      by_cases c3 : k ∈ (ps.map (·.1)).take i
      · rw [decide_eq_true c3]
        exact iteT (q1 _ _ (f05.trans f6))
      · rw [decide_eq_false c3]
        refine iteF ⟨_, _, _, rfl, f45.trans f6, ?_, fun k' hk' => ?_⟩
        · rw [take_snoc ek, List.nodup_append]
          refine ⟨nd1, by simp, fun a ha c hc e => ?_⟩
          rw [List.mem_singleton.mp hc] at e
          exact c3 (e ▸ ha)
        · rw [take_snoc ek] at hk'
          rcases List.mem_append.mp hk' with h | h
          · exact st1 k' h
          · rw [List.mem_singleton.mp h]; exact c2
    · rw [decide_eq_false c2]
      exact iteT (iteT (q1 _ H5 f05))
  · obtain ⟨x4, x7, x8, rfl, f4, nd1, st1⟩ := z
    rw [enD_len, List.length_map, List.take_length] at nd1 st1
    have f04 := f03.trans f4
    refine ⟨_, rfl, D, _, rfl, SqL.of (f4.kn hD3), ?_⟩
    cases ps with
    | nil => exact iteT (q1 _ H4 f04)
    | cons p0 ps0 =>
    refine iteF (nextE ?_)
    dsimp only
    have hz4 : Prt K H4 (.ref a) (p0 :: ps0) := hz.fr f04
    refine ⟨_, rfl, _, rfl, u, b, .ref a, p0 :: ps0, rfl, hb.fr f04, hz4, hz2, by omega, fun p hp => by have := hs p hp; omega, fun x9 H5 f5 hx9 => ?_⟩
    have f05 := f04.trans f5
    refine ⟨_, rfl, _, _, hx9, ht.fr f05, fine_enc _, fine_enc _, by have := depth_enc t; omega, ?_⟩
    rw [eqv_enc]
    refine ⟨_, rfl, ?_⟩
    by_cases c1 : put b (p0 :: ps0) = t
    · rw [decide_eq_true c1]
      refine iteF (nextE ?_)
      dsimp only
      refine ⟨_, rfl, u, b, rfl, hb.fr f05, by omega, fun H6 f6 => ⟨le_line (by show 1 ≤ 16000000; decide), fun p hp => ?_⟩⟩
      have f7 : Fr No H6 (upd H6 p (.lst [.int (b.size : Nat)])) := Fr.new0 hp
      have f07 := (f05.trans f6).trans f7
      refine ⟨_, rfl, a, rfl, ⟨_, (ta.fr f07).sq⟩, fun D2 hD2 => lcD (K := K) (l := p0 :: ps0) (en := prD) (f := fun p => some (.int (p.2.size : Nat))) (dwT (S := No) (ta.fr f07) (ia.fr f07)) hD2 (by omega) (fun r x H8 yes no hr2 f8 hx yesH noH => ?_) fun H8 ys f8 hD8 hys8 => ?_⟩
      · refine ⟨rfl, yesT ⟨_, rfl, _, 1, _, rfl, hx, rfl, fun y hy => ⟨y, r.2, rfl, hy, by have := hs r hr2; omega, fun H9 f9 => yesH _ H9 _ f9 (.int _) rfl⟩⟩⟩
      rw [fm_some] at hys8
      have e3 : (p0 :: ps0).map (fun p => PyData.int (p.2.size : Nat)) = ((p0 :: ps0).map fun p => ((p.2.size : Nat) : Int)).map PyData.int := by rw [List.map_map]; rfl
      rw [e3] at hys8
      obtain rfl := isAll_intsV hys8
      refine ⟨p, D2, _, _, rfl, rfl, f8.kn upd_same, hD8, le_line ?_, fun p3 hp3 => ?_⟩
      · rw [List.length_map, List.length_map, List.length_singleton]
        omega
      have f9 := Fr.new0 (S := No) (o := .lst ([V.int (b.size : Nat)] ++ ((p0 :: ps0).map fun p => ((p.2.size : Nat) : Int)).map V.int)) hp3
      refine ⟨p3, (b.size : Nat) :: ((p0 :: ps0).map fun p => ((p.2.size : Nat) : Int)), rfl, SqL.of upd_same, Nat.succ_pos _, fun m hm hmax => ?_⟩
      have f09 := (f07.trans f8).trans f9
      refine ⟨_, rfl, v, t, rfl, ht.fr f09, by omega, fun H10 f10 => ⟨_, _, rfl, rfl, _, rfl, ?_⟩⟩
      show if decide (m ≥ ((t.size : Nat) : Int)) = true then _ else _
      by_cases c2 : m ≥ ((t.size : Nat) : Int)
      · rw [decide_eq_true c2]
        exact iteT (q1 _ H10 (f09.trans f10))
      · rw [decide_eq_false c2]
        refine iteF (q2 ⟨c1, ?_, fun p hp => ?_, by simp, nd1, fun p hp => st1 _ (List.mem_map.mpr ⟨p, hp, rfl⟩)⟩ H10 (f09.trans f10))
        · have := hmax _ List.mem_cons_self
          omega
        · have := hmax ((p.2.size : Nat) : Int) (List.mem_cons_of_mem _ (List.mem_map.mpr ⟨p, hp, rfl⟩))
          omega
    · rw [decide_eq_false c1]
      exact iteT (q1 _ H5 f05)
end
end DF

namespace DF
open PySem PySem.Spec PyProof.Rows L2
/-! ### nodes, sessions in the heap -/
structure Nd where
  term : T
  par : Option Nat
  kind : Str
  ch : List Nat
  tg : Option Nat
  us : List Int
def optD : Option Nat → PyData
  | none => .none
  | some k => .int (k : Nat)
def natsD (l : List Nat) : PyData := .tuple (l.map fun (k : Nat) => .int (k : Int))
def intsD (l : List Int) : PyData := .tuple (l.map .int)
abbrev ndF (vt vp vk vc vg vu : V) : List (Str × V) := [("term", vt), ("parent", vp), ("kind", vk), ("children", vc), ("target", vg), ("unknowns", vu)]
abbrev sesF (vp : V) (ln ld : Addr) : List (Str × V) := [("program", vp), ("nodes", .ref ln), ("deeds", .ref ld)]
def NdAt (K : PySem.W.Frag) (H : Hp) (a : Addr) (n : Nd) : Prop := ∃ dx vt vp vc vg vu, H a = some (.ins (aN K) dx (ndF vt vp (.str n.kind) vc vg vu)) ∧ Tm K H vt n.term ∧ Is K H vp (optD n.par) ∧ Is K H vc (natsD n.ch) ∧ Is K H vg (optD n.tg) ∧ Is K H vu (intsD n.us)
def opens (ns : List Nd) : Nat := (ns.filter fun n => n.kind == ("open" : Str)).length
/-- all but tp -/
abbrev Nt (tp : Addr → Prop) : Addr → Prop := fun b => ¬ tp b
structure SesR (K : PySem.W.Frag) (tp : Addr → Prop) (H : Hp) (s : Addr) (pg : Prog) (ns : List Nd) (dx ln ld : Addr) (vp : V) (as : List Addr) (ds : List V) : Prop where
  hs : H s = some (.ins (aS K) dx (sesF vp ln ld))
  hp : Is K H vp (encG pg)
  hn : H ln = some (.lst (as.map V.ref))
  hd : H ld = some (.lst ds)
  nd : Paired (NdAt K H) as ns
  un : as.Nodup
  nld : ln ≠ ld
  dl : ds.length + opens ns ≤ ns.length
  t1 : ¬ tp s
  t2 : ¬ tp ln
  t3 : ¬ tp ld
  t4 : ∀ a ∈ as, ¬ tp a
  ht : ∀ b, tp b → ∃ o, H b = some o
def Ses (K : PySem.W.Frag) (tp : Addr → Prop) (H : Hp) (s : Addr) (pg : Prog) (ns : List Nd) : Prop := ∃ dx ln ld vp as ds, SesR K tp H s pg ns dx ln ld vp as ds
theorem paired_imp {α β : Type} {F G : α → β → Prop} : ∀ {xs : List α} {ys : List β}, Paired F xs ys → (∀ x y, x ∈ xs → F x y → G x y) → Paired G xs ys
  | _, _, .nil, _ => .nil
  | _, _, .cons h t, g => .cons (g _ _ List.mem_cons_self h) (paired_imp t fun x y hx => g x y (List.mem_cons_of_mem _ hx))
theorem paired_len {α β : Type} {F : α → β → Prop} : ∀ {xs : List α} {ys : List β}, Paired F xs ys → xs.length = ys.length
  | _, _, .nil => rfl
  | _, _, .cons _ t => by rw [List.length_cons, List.length_cons, paired_len t]
theorem paired_at {α β : Type} {F : α → β → Prop} : ∀ {xs : List α} {ys : List β} {i : Nat} {y : β}, Paired F xs ys → ys[i]? = some y → ∃ x, xs[i]? = some x ∧ F x y
  | _, _, _, _, .nil, e => by simp at e
  | _, _, 0, _, .cons h _, e => by simp at e; subst e; exact ⟨_, rfl, h⟩
  | _, _, i + 1, _, .cons _ t, e => paired_at (i := i) t (by simpa using e)
theorem paired_append {α β : Type} {F : α → β → Prop} : ∀ {xs xs' : List α} {ys ys' : List β}, Paired F xs ys → Paired F xs' ys' → Paired F (xs ++ xs') (ys ++ ys')
  | _, _, _, _, .nil, q => q
  | _, _, _, _, .cons h t, q => .cons h (paired_append t q)
theorem paired_set {α β : Type} {F : α → β → Prop} : ∀ {xs : List α} {ys : List β} {i : Nat} {x : α} {y : β}, Paired F xs ys → xs[i]? = some x → F x y → Paired F xs (ys.set i y)
  | _, _, _, _, _, .nil, e, _ => by simp at e
  | _, _, 0, _, _, .cons h t, e, g => by simp at e; subst e; exact .cons g t
  | _, _, i + 1, _, _, .cons h t, e, g => .cons h (paired_set t (by simpa using e) g)
section
variable {K : PySem.W.Frag} {tp : Addr → Prop} {s a : Addr} {H H' : Hp} {S : Addr → Prop} {pg : Prog} {ns : List Nd} {n : Nd}
theorem NdAt.fr (f : Fr S H H') (na : ¬ S a) (h : NdAt K H a n) : NdAt K H' a n :=
  let ⟨dx, vt, vp, vc, vg, vu, h0, h1, h2, h3, h4, h5⟩ := h; ⟨dx, vt, vp, vc, vg, vu, f.k _ _ na h0, h1.fr f, h2.fr f, h3.fr f, h4.fr f, h5.fr f⟩
theorem Ses.fr (f : Fr S H H') (hS : ∀ b, S b → tp b) (ht : ∀ b, tp b → ∃ o, H' b = some o) (h : Ses K tp H s pg ns) : Ses K tp H' s pg ns := by
  obtain ⟨dx, ln, ld, vp, as, ds, h⟩ := h
  exact ⟨dx, ln, ld, vp, as, ds, f.k _ _ (fun z => h.t1 (hS _ z)) h.hs, h.hp.fr f, f.k _ _ (fun z => h.t2 (hS _ z)) h.hn, f.k _ _ (fun z => h.t3 (hS _ z)) h.hd, paired_imp h.nd fun x y hx q => q.fr f fun z => h.t4 x hx (hS _ z), h.un, h.nld, h.dl, h.t1, h.t2, h.t3, h.t4, ht⟩
theorem Ses.kn (f : Fr No H H') (h : Ses K tp H s pg ns) : Ses K tp H' s pg ns := by
  have ht : ∀ b, tp b → ∃ o, H b = some o := let ⟨_, _, _, _, _, _, h⟩ := h; h.ht
  exact h.fr f (fun _ z => z.elim) fun b hb => let ⟨o, e⟩ := ht b hb; ⟨o, f.kn e⟩
end
section
variable {P : Program} {w : World} {K : PySem.W.Frag} {mg : Str → Option Value} {base : Heap}
def sp_Node___init__ (K : PySem.W.Frag) : Sp := fun vs H Q _ => ∃ a dx v vp, vs = [.ref a, v, vp] ∧ H a = some (.ins (aN K) dx []) ∧ ∀ H' vc vu, Fr (At a) H H' → H' a = some (.ins (aN K) dx (ndF v vp (.str "open") vc .non vu)) → Is K H' vc (.tuple []) → Is K H' vu (.tuple []) → Q .non H'
theorem sc_Node___init__ : FnScope ["self", "term", "parent"] ["self", "term", "parent"] (defScope Tx.s_Node___init__) := C8.fnScope_by (by decide +kernel)
theorem ok_Node (Y : Hf K mg) : Ma CX0 P w K mg base 1 "Node" (aN K) (sp_Node___init__ K) := by
  obtain ⟨f, fd, F, M, hm, b⟩ := Y.d_Node
  refine ⟨f, fd, _, M, F.ok sc_Node___init__ (fun vs H Q E h => ?_) (fun cdv A outer s H vs Q E hr h => ?_), hm, b⟩
  · obtain ⟨a, dx, v, vp, rfl, _⟩ := h; rfl
  have nd := sc_Node___init__.nd
  have key : ∃ t, PSs (cxOf CX0 P w K mg base ["self", "term", "parent"] "Node.__init__" (defScope Tx.s_Node___init__) f cdv A outer s H E).nox (defBody Tx.s_Node___init__) t ∧ t { nx := fun _ H' => Q .non H', rt := Q } (L2.start ["self", "term", "parent"] vs) H := by
    refine ⟨_, ((pss_cons (ps_fld (pv 0) (pv 1) rfl)
    (pss_cons (ps_fld (pv 0) (pv 2) rfl)
    (pss_cons (ps_fld (pv 0) pe_str rfl)
    (pss_cons (ps_fld (pv 0) (pe_tupD pa_nil) rfl)
    (pss_cons (ps_fld (pv 0) pe_non rfl)
    (pss_one (ps_fld (pv 0) (pe_tupD pa_nil) rfl)))))))), ?_⟩
    obtain ⟨a, dx, v, vp, rfl, ha, q⟩ := h
    have L : ∀ n : Nat, n ≤ 6 → n < 1000 := fun n h => by omega
    refine ⟨_, rfl, _, rfl, a, _, dx, [], rfl, ha, Y.c_Node, Y.n_Node_term, L 0 (by decide), ?_⟩
    have g1 : Fr (At a) H (upd H a (.ins (aN K) dx [("term", v)])) := Fr.refl.mut rfl ha fun z => z
    refine ⟨_, rfl, _, rfl, a, _, dx, [("term", v)], rfl, upd_same, Y.c_Node, Y.n_Node_parent, L 1 (by decide), ?_⟩
    have g2 := g1.mut (o := .ins (aN K) dx [("term", v), ("parent", vp)]) rfl upd_same fun z => z
    refine ⟨_, rfl, a, _, dx, [("term", v), ("parent", vp)], rfl, upd_same, Y.c_Node, Y.n_Node_kind, L 2 (by decide), ?_⟩
    have g3 := g2.mut (o := .ins (aN K) dx [("term", v), ("parent", vp), ("kind", .str "open")]) rfl upd_same fun z => z
    refine ⟨[], .nil, Nat.zero_le _, fun w1 H1 f1 hw1 => ⟨_, rfl, a, _, dx, [("term", v), ("parent", vp), ("kind", .str "open")], rfl, f1.kn upd_same, Y.c_Node, Y.n_Node_children, L 3 (by decide), ?_⟩⟩
    have g4 := (g3.trans f1.no).mut (o := .ins (aN K) dx [("term", v), ("parent", vp), ("kind", .str "open"), ("children", w1)]) rfl (f1.kn upd_same) fun z => z
    refine ⟨_, rfl, a, _, dx, [("term", v), ("parent", vp), ("kind", .str "open"), ("children", w1)], rfl, upd_same, Y.c_Node, Y.n_Node_target, L 4 (by decide), ?_⟩
    have g5 := g4.mut (o := .ins (aN K) dx [("term", v), ("parent", vp), ("kind", .str "open"), ("children", w1), ("target", .non)]) rfl upd_same fun z => z
    refine ⟨[], .nil, Nat.zero_le _, fun w2 H2 f2 hw2 => ⟨_, rfl, a, _, dx, [("term", v), ("parent", vp), ("kind", .str "open"), ("children", w1), ("target", .non)], rfl, f2.kn upd_same, Y.c_Node, Y.n_Node_unknowns, L 5 (by decide), ?_⟩⟩
    have g6 := (g5.trans f2.no).mut (o := .ins (aN K) dx (ndF v vp (.str "open") w1 .non w2)) rfl (f2.kn upd_same) fun z => z
    have k1 : Fr (At a) H1 (upd H1 a (.ins (aN K) dx [("term", v), ("parent", vp), ("kind", .str "open"), ("children", w1)])) := Fr.refl.mut rfl (f1.kn upd_same) fun z => z
    have k2 := k1.mut (o := .ins (aN K) dx [("term", v), ("parent", vp), ("kind", .str "open"), ("children", w1), ("target", .non)]) rfl upd_same fun z => z
    have k3 : Fr (At a) H2 (upd H2 a (.ins (aN K) dx (ndF v vp (.str "open") w1 .non w2))) := Fr.refl.mut rfl (f2.kn upd_same) fun z => z
    exact q _ w1 w2 g6 upd_same (((hw1.fr k2).fr f2).fr k3) (Is.fr k3 hw2)
  obtain ⟨t, h1, h2⟩ := key
  exact ⟨t, h1.nox, h2⟩
def nd0 (t : T) (par : Option Nat) : Nd := ⟨t, par, "open", [], none, []⟩
def sp_Session___init__ (K : PySem.W.Frag) : Sp := fun vs H Q _ => ∃ s dx v u pg t tp, vs = [.ref s, v, u] ∧ H s = some (.ins (aS K) dx []) ∧ Is K H v (encG pg) ∧ Tm K H u t ∧ ¬ tp s ∧ (∀ b, tp b → ∃ o, H b = some o) ∧ ∀ H', Fr (At s) H H' → Ses K tp H' s pg [nd0 t none] → Q .non H'
theorem sc_Session___init__ : FnScope ["self", "program", "start"] ["self", "program", "start"] (defScope Tx.s_Session___init__) := C8.fnScope_by (by decide +kernel)
theorem ok_Session (Y : Hf K mg) : Ma CX0 P w K mg base 3 "Session" (aS K) (sp_Session___init__ K) := by
  obtain ⟨f, fd, F, M, hm, b⟩ := Y.d_Session
  refine ⟨f, fd, _, M, F.ok sc_Session___init__ (fun vs H Q E h => ?_) (fun cdv A outer s H vs Q E hr h => ?_), hm, b⟩
  · obtain ⟨s, dx, v, u, pg, t, tp, rfl, _⟩ := h; rfl
  have nd := sc_Session___init__.nd
  have key : ∃ t, PSs (cxOf CX0 P w K mg base ["self", "program", "start"] "Session.__init__" (defScope Tx.s_Session___init__) f cdv A outer s H E).nox (defBody Tx.s_Session___init__) t ∧ t { nx := fun _ H' => Q .non H', rt := Q } (L2.start ["self", "program", "start"] vs) H := by
    refine ⟨_, ((pss_cons (ps_fld (pv 0) (pv 1) rfl)
    (pss_cons (ps_fld (pv 0) (pe_lst (pa_cons (kma (ok_Node Y) hr (pa_cons (pv 2) (pa_cons pe_non pa_nil)) (hk := by omega)) pa_nil)) rfl)
    (pss_one (ps_fld (pv 0) (pe_lst pa_nil) rfl))))), ?_⟩
    obtain ⟨a, dx, v, u, pg, t, tp, rfl, ha, hv, hu, hat, hot, q⟩ := h
    have keep : ∀ {H' : Hp}, Fr (At a) H H' → ∀ b, tp b → ∃ o, H' b = some o := fun {H'} f b hb => let ⟨o, e⟩ := hot b hb; ⟨o, f.k b o (fun z => hat (by rw [← show b = a from z]; exact hb)) e⟩
    have L : ∀ n : Nat, n ≤ 6 → n < 1000 := fun n h => by omega
    refine ⟨_, rfl, _, rfl, a, _, dx, [], rfl, ha, Y.c_Session, Y.n_Session_program, L 0 (by decide), ?_⟩
    have g1 : Fr (At a) H (upd H a (.ins (aS K) dx [("program", v)])) := Fr.refl.mut rfl ha fun z => z
    refine ⟨_, rfl, fun x dxx hx hdx hne => ⟨x, dxx, u, .non, rfl, upd_same, fun H2 vc vu f2 hx2 hvc hvu => ⟨rfl, le_line (by show 1 ≤ 16000000; decide), fun ln hln => ?_⟩⟩⟩
    have g2 : Fr No (upd H a (.ins (aS K) dx [("program", v)])) (upd (upd (upd H a (.ins (aS K) dx [("program", v)])) dxx (.own x)) x (.ins (aN K) dxx [])) := (Fr.new0 hdx).new hx
    have g3 : Fr No (upd H a (.ins (aS K) dx [("program", v)])) H2 := (g2.no.trans f2).less fun b hb _ => by rw [show b = x from hb]; exact hx
    have ha3 : H2 a = some (.ins (aS K) dx [("program", v)]) := g3.kn upd_same
    have nal : a ≠ ln := ne_of_none ha3 hln
    refine ⟨_, rfl, a, _, dx, [("program", v)], rfl, by rw [upd_ne nal]; exact ha3, Y.c_Session, Y.n_Session_nodes, L 1 (by decide), ?_⟩
    refine ⟨Nat.zero_le _, fun ld hld => ⟨_, rfl, a, _, dx, [("program", v), ("nodes", .ref ln)], rfl, ?_, Y.c_Session, Y.n_Session_deeds, L 2 (by decide), ?_⟩⟩
    · rw [upd_ne (ne_of_none upd_same hld)]; exact upd_same
    have nln : ln ≠ a := nal.symm
    have hH2tp := keep (g1.trans g3.no)
    have g4 : Fr No H2 (upd H2 ln (.lst [.ref x])) := Fr.new0 hln
    have g5 : Fr (At a) (upd H2 ln (.lst [.ref x])) (upd (upd H2 ln (.lst [.ref x])) a (.ins (aS K) dx [("program", v), ("nodes", .ref ln)])) := Fr.refl.mut (u := .ins (aS K) dx [("program", v)]) rfl (g4.kn ha3) fun z => z
    have g6 : Fr No (upd (upd H2 ln (.lst [.ref x])) a (.ins (aS K) dx [("program", v), ("nodes", .ref ln)])) (upd (upd (upd H2 ln (.lst [.ref x])) a (.ins (aS K) dx [("program", v), ("nodes", .ref ln)])) ld (.lst [])) := Fr.new0 hld
    have nal2 : a ≠ ld := ne_of_none upd_same hld
    have g7 : Fr (At a) (upd (upd (upd H2 ln (.lst [.ref x])) a (.ins (aS K) dx [("program", v), ("nodes", .ref ln)])) ld (.lst [])) (upd (upd (upd (upd H2 ln (.lst [.ref x])) a (.ins (aS K) dx [("program", v), ("nodes", .ref ln)])) ld (.lst [])) a (.ins (aS K) dx (sesF v ln ld))) :=
      Fr.refl.mut (u := .ins (aS K) dx [("program", v), ("nodes", .ref ln)]) rfl (by rw [upd_ne nal2]; exact upd_same) fun z => z
    have g27 := ((g4.no (S := At a)).trans g5).trans (g6.no.trans g7)
    have nxa : x ≠ a := (ne_of_none (show (upd H a (.ins (aS K) dx [("program", v)])) a = _ from upd_same) hx).symm
    have hln5 : (upd (upd H2 ln (.lst [.ref x])) a (.ins (aS K) dx [("program", v), ("nodes", .ref ln)])) ln = some (.lst [.ref x]) := by rw [upd_ne nln]; exact upd_same
    have nlnld : ln ≠ ld := ne_of_none hln5 hld
    have htp4 := keep ((g1.trans g3.no).trans (g4.no.trans g5))
    have gall : Fr (At a) H _ := (g1.trans g3.no).trans g27
    refine q _ gall ⟨dx, ln, ld, v, [x], [], upd_same, hv.fr gall, ?_, ?_, .cons ?_ .nil, by simp, nlnld, by simp [opens, nd0], hat, fun z => (by obtain ⟨o, e⟩ := hH2tp ln z; cases hln.symm.trans e), fun z => (by obtain ⟨o, e⟩ := htp4 ld z; cases hld.symm.trans e), fun b hb => ?_, keep gall⟩
    · rw [upd_ne nln, upd_ne nlnld]; exact hln5
    · rw [upd_ne nal2.symm]; exact upd_same
    · refine ⟨dxx, u, .non, vc, .non, vu, g27.k _ _ nxa hx2, (hu.fr (g1.trans g3.no)).fr g27, .non, hvc.fr g27, .non, hvu.fr g27⟩
    · rw [List.mem_singleton.mp hb]
      intro z
      obtain ⟨o, e⟩ := keep g1 x z
      cases hx.symm.trans e
  obtain ⟨t, h1, h2⟩ := key
  exact ⟨t, h1.nox, h2⟩
end
end DF

namespace DF
open PySem PySem.Spec PyProof.Rows L2
/-- Refused(..) made: its dict holds the reason -/
def tRfs (K : PySem.W.Frag) (te : TE) : St → Hp → XK → Prop := fun σ H Q => te σ H fun v H1 => ∀ d H2, Fr No H1 H2 → H2 d = some (.xd [("reason", v)]) → Q (.ref (aRf K)) (some d) H2
structure Mkr (P : Program) (w : World) (K : PySem.W.Frag) (mg : Str → Option Value) (base : Heap) : Prop where
  mkr : ∀ {X : Cx} {e : Expr} {te : TE} {p1 pos : Pos}, X.prog = P → X.w = w → X.K = K → X.mg = mg → X.base = base → X.calm = true → Room 3 X.A → Gl X "Refused" → PE X e te →
    starEach (e :: []) X.env = (false, eval e X.env) :: starEach [] X.env → PMk X (.Call (.Name "Refused" p1) [e] [] pos) (tRfs K te)
  drvn : ∃ da, mg "DRIVEN" = some (.ref da) ∧ ∀ H, Is K H (.ref da) (.tuple [.str "stepped", .str "branched"])
/-- what is wished of a refusal at H: nothing was changed -/
def XRf (K : PySem.W.Frag) (H : Hp) (E : XK) : Prop := ∀ d v H', Fr No H H' → H' d = some (.xd [("reason", v)]) → E (.ref (aRf K)) (some d) H'
section
variable {P : Program} {w : World} {K : PySem.W.Frag} {mg : Str → Option Value} {base : Heap}
/-- the node at a place -/
theorem SesR.at {tp : Addr → Prop} {s dx ln ld : Addr} {H : Hp} {pg : Prog} {ns : List Nd} {vp : V} {as : List Addr} {ds : List V} (h : SesR K tp H s pg ns dx ln ld vp as ds) {i : Nat} {n : Nd} (e : ns[i]? = some n) : ∃ a, as[i]? = some a ∧ L2.atI (as.map V.ref) (i : Int) = some (.ref a) ∧ NdAt K H a n := by
  obtain ⟨a, h1, h2⟩ := paired_at h.nd e
  exact ⟨a, h1, by rw [atI_nat, List.getElem?_map, h1]; rfl, h2⟩
section
variable {tp : Addr → Prop} {s dx ln ld : Addr} {H : Hp} {pg : Prog} {ns : List Nd} {vp : V} {as : List Addr} {ds : List V} {σ : St} {i j : Nat} {n : Nd} {Q : VK}
theorem SesR.nodes (R : SesR K tp H s pg ns dx ln ld vp as ds) (Y : Hf K mg) (e : σ[0]? = some (some (.ref s))) (q : Q (.ref ln) H) : tFld K (tVar 0) "nodes" σ H Q := ⟨_, e, s, _, dx, _, .ref ln, rfl, R.hs, Y.c_Session, Y.n_Session_nodes, rfl, q⟩
theorem SesR.prog (R : SesR K tp H s pg ns dx ln ld vp as ds) (Y : Hf K mg) (e : σ[0]? = some (some (.ref s))) (q : Q vp H) : tFld K (tVar 0) "program" σ H Q := ⟨_, e, s, _, dx, _, vp, rfl, R.hs, Y.c_Session, Y.n_Session_program, rfl, q⟩
theorem SesR.node (R : SesR K tp H s pg ns dx ln ld vp as ds) (Y : Hf K mg) (e : σ[0]? = some (some (.ref s))) (ej : σ[j]? = some (some (.int (i : Nat)))) (en : ns[i]? = some n) (q : ∀ a, as[i]? = some a → NdAt K H a n → Q (.ref a) H) : tOp (rIxL K) (tFld K (tVar 0) "nodes") (tVar j) σ H Q := by
  obtain ⟨a, ea, eat, hn⟩ := R.at en
  exact R.nodes Y e ⟨_, ej, ln, _, _, _, rfl, rfl, SqL.of R.hn, eat, q a ea hn⟩
theorem NdAt.vKind {a : Addr} (h : NdAt K H a n) (Y : Hf K mg) (e : σ[j]? = some (some (.ref a))) (q : Q (.str n.kind) H) : tFld K (tVar j) "kind" σ H Q :=
  let ⟨dxn, vt, vpp, vc, vg, vu, h0, h1, h2, h3, h4, h5⟩ := h; ⟨_, e, a, _, dxn, _, _, rfl, h0, Y.c_Node, Y.n_Node_kind, rfl, q⟩
theorem SesR.nKind (R : SesR K tp H s pg ns dx ln ld vp as ds) (Y : Hf K mg) (e : σ[0]? = some (some (.ref s))) (ej : σ[j]? = some (some (.int (i : Nat)))) (en : ns[i]? = some n) (q : Q (.str n.kind) H) : tFld K (tOp (rIxL K) (tFld K (tVar 0) "nodes") (tVar j)) "kind" σ H Q :=
  R.node Y e ej en fun a ea h => let ⟨dxn, vt, vpp, vc, vg, vu, h0, h1, h2, h3, h4, h5⟩ := h; ⟨a, _, dxn, _, _, rfl, h0, Y.c_Node, Y.n_Node_kind, rfl, q⟩
theorem NdAt.vTerm {a : Addr} (h : NdAt K H a n) (Y : Hf K mg) (e : σ[j]? = some (some (.ref a))) (q : ∀ v, Tm K H v n.term → Q v H) : tFld K (tVar j) "term" σ H Q :=
  let ⟨dxn, vt, vpp, vc, vg, vu, h0, h1, h2, h3, h4, h5⟩ := h; ⟨_, e, a, _, dxn, _, _, rfl, h0, Y.c_Node, Y.n_Node_term, rfl, q _ h1⟩
theorem SesR.nTerm (R : SesR K tp H s pg ns dx ln ld vp as ds) (Y : Hf K mg) (e : σ[0]? = some (some (.ref s))) (ej : σ[j]? = some (some (.int (i : Nat)))) (en : ns[i]? = some n) (q : ∀ v, Tm K H v n.term → Q v H) : tFld K (tOp (rIxL K) (tFld K (tVar 0) "nodes") (tVar j)) "term" σ H Q :=
  R.node Y e ej en fun a ea h => let ⟨dxn, vt, vpp, vc, vg, vu, h0, h1, h2, h3, h4, h5⟩ := h; ⟨a, _, dxn, _, _, rfl, h0, Y.c_Node, Y.n_Node_term, rfl, q _ h1⟩
theorem NdAt.vPar {a : Addr} (h : NdAt K H a n) (Y : Hf K mg) (e : σ[j]? = some (some (.ref a))) (q : ∀ v, Is K H v (optD n.par) → Q v H) : tFld K (tVar j) "parent" σ H Q :=
  let ⟨dxn, vt, vpp, vc, vg, vu, h0, h1, h2, h3, h4, h5⟩ := h; ⟨_, e, a, _, dxn, _, _, rfl, h0, Y.c_Node, Y.n_Node_parent, rfl, q _ h2⟩
theorem SesR.nPar (R : SesR K tp H s pg ns dx ln ld vp as ds) (Y : Hf K mg) (e : σ[0]? = some (some (.ref s))) (ej : σ[j]? = some (some (.int (i : Nat)))) (en : ns[i]? = some n) (q : ∀ v, Is K H v (optD n.par) → Q v H) : tFld K (tOp (rIxL K) (tFld K (tVar 0) "nodes") (tVar j)) "parent" σ H Q :=
  R.node Y e ej en fun a ea h => let ⟨dxn, vt, vpp, vc, vg, vu, h0, h1, h2, h3, h4, h5⟩ := h; ⟨a, _, dxn, _, _, rfl, h0, Y.c_Node, Y.n_Node_parent, rfl, q _ h2⟩
theorem NdAt.vCh {a : Addr} (h : NdAt K H a n) (Y : Hf K mg) (e : σ[j]? = some (some (.ref a))) (q : ∀ v, Is K H v (natsD n.ch) → Q v H) : tFld K (tVar j) "children" σ H Q :=
  let ⟨dxn, vt, vpp, vc, vg, vu, h0, h1, h2, h3, h4, h5⟩ := h; ⟨_, e, a, _, dxn, _, _, rfl, h0, Y.c_Node, Y.n_Node_children, rfl, q _ h3⟩
theorem SesR.nCh (R : SesR K tp H s pg ns dx ln ld vp as ds) (Y : Hf K mg) (e : σ[0]? = some (some (.ref s))) (ej : σ[j]? = some (some (.int (i : Nat)))) (en : ns[i]? = some n) (q : ∀ v, Is K H v (natsD n.ch) → Q v H) : tFld K (tOp (rIxL K) (tFld K (tVar 0) "nodes") (tVar j)) "children" σ H Q :=
  R.node Y e ej en fun a ea h => let ⟨dxn, vt, vpp, vc, vg, vu, h0, h1, h2, h3, h4, h5⟩ := h; ⟨a, _, dxn, _, _, rfl, h0, Y.c_Node, Y.n_Node_children, rfl, q _ h3⟩
theorem NdAt.vTg {a : Addr} (h : NdAt K H a n) (Y : Hf K mg) (e : σ[j]? = some (some (.ref a))) (q : ∀ v, Is K H v (optD n.tg) → Q v H) : tFld K (tVar j) "target" σ H Q :=
  let ⟨dxn, vt, vpp, vc, vg, vu, h0, h1, h2, h3, h4, h5⟩ := h; ⟨_, e, a, _, dxn, _, _, rfl, h0, Y.c_Node, Y.n_Node_target, rfl, q _ h4⟩
theorem SesR.nTg (R : SesR K tp H s pg ns dx ln ld vp as ds) (Y : Hf K mg) (e : σ[0]? = some (some (.ref s))) (ej : σ[j]? = some (some (.int (i : Nat)))) (en : ns[i]? = some n) (q : ∀ v, Is K H v (optD n.tg) → Q v H) : tFld K (tOp (rIxL K) (tFld K (tVar 0) "nodes") (tVar j)) "target" σ H Q :=
  R.node Y e ej en fun a ea h => let ⟨dxn, vt, vpp, vc, vg, vu, h0, h1, h2, h3, h4, h5⟩ := h; ⟨a, _, dxn, _, _, rfl, h0, Y.c_Node, Y.n_Node_target, rfl, q _ h4⟩
theorem NdAt.vUs {a : Addr} (h : NdAt K H a n) (Y : Hf K mg) (e : σ[j]? = some (some (.ref a))) (q : ∀ v, Is K H v (intsD n.us) → Q v H) : tFld K (tVar j) "unknowns" σ H Q :=
  let ⟨dxn, vt, vpp, vc, vg, vu, h0, h1, h2, h3, h4, h5⟩ := h; ⟨_, e, a, _, dxn, _, _, rfl, h0, Y.c_Node, Y.n_Node_unknowns, rfl, q _ h5⟩
theorem SesR.nUs (R : SesR K tp H s pg ns dx ln ld vp as ds) (Y : Hf K mg) (e : σ[0]? = some (some (.ref s))) (ej : σ[j]? = some (some (.int (i : Nat)))) (en : ns[i]? = some n) (q : ∀ v, Is K H v (intsD n.us) → Q v H) : tFld K (tOp (rIxL K) (tFld K (tVar 0) "nodes") (tVar j)) "unknowns" σ H Q :=
  R.node Y e ej en fun a ea h => let ⟨dxn, vt, vpp, vc, vg, vu, h0, h1, h2, h3, h4, h5⟩ := h; ⟨a, _, dxn, _, _, rfl, h0, Y.c_Node, Y.n_Node_unknowns, rfl, q _ h5⟩
end
/-- the node at i is open -/
def IsOpen (ns : List Nd) (i : Nat) : Prop := ∃ n, ns[i]? = some n ∧ n.kind = ("open" : Str)
def sp_Session_open_at (K : PySem.W.Frag) : Sp := fun vs H Q E => ∃ s i tp pg ns, vs = [.ref s, .int (i : Nat)] ∧ Ses K tp H s pg ns ∧ (∀ n ∈ ns, fine (.str n.kind) = true) ∧ (IsOpen ns i ∨ XRf K H E) ∧ ∀ n a dx ln ld vp as ds, ns[i]? = some n → n.kind = ("open" : Str) → SesR K tp H s pg ns dx ln ld vp as ds → as[i]? = some a → NdAt K H a n → Q (.ref a) H
theorem sc_Session_open_at : FnScope ["self", "number"] ["self", "number"] (defScope Tx.s_Session_open_at) := C8.fnScope_by (by decide +kernel)
theorem ok_open_at (Y : Hf K mg) (Z : Mkr P w K mg base) : Me (L2.CX P w) P w K mg base 4 (aS K) "open_at" (sp_Session_open_at K) := by
  refine Y.d_Session_open_at.okX sc_Session_open_at (fun vs H Q E h => ?_) (fun f cdv A outer s H vs Q E hr h => ?_)
  · obtain ⟨s, i, tp, pg, ns, rfl, _⟩ := h; rfl
  have nd := sc_Session_open_at.nd
  refine ⟨_, ((pss_cons (ps_if (PW.pt (pw_or (pt_not (pt_chain op_le op_lt pe_int (pv 1) (k_lenL Y.z_len (pe_fld (pv 0) rfl)))) (pw_or1 (pt_cmpR (op_neD (n := 200) hr) (pe_fld (pe_ix ix_list (pe_fld (pv 0) rfl) (pv 1) fun _ _ => rfl) rfl) pe_str rfl))))
        (pss_one (ps_raise rfl (takes_of rfl rfl rfl rfl) (Z.mkr rfl rfl rfl rfl rfl rfl (hr.mono (by omega)) rfl pe_str rfl))) pss_nil)
    (pss_one (ps_ret (pe_ix ix_list (pe_fld (pv 0) rfl) (pv 1) fun _ _ => rfl))))), ?_⟩
  obtain ⟨s, i, tp, pg, ns, rfl, hS, hk, hE, q⟩ := h
  have hS' := hS
  obtain ⟨dx, ln, ld, vp, as, ds, R⟩ := hS'
  have hal := paired_len R.nd
  refine ⟨_, rfl, 0, i, rfl, rfl, _, rfl, ?_⟩
  rw [show decide ((0 : Int) ≤ ((i : Nat) : Int)) = true from decide_eq_true (by omega)]
  refine iteT (R.nodes Y rfl ⟨ln, _, rfl, .inl (SqL.of R.hn), _, _, rfl, rfl, _, rfl, ?_⟩)
  rw [List.length_map, hal]
  by_cases c : i < ns.length
  · rw [show decide (((i : Nat) : Int) < ((ns.length : Nat) : Int)) = true from decide_eq_true (by omega)]
    obtain ⟨n, en⟩ : ∃ n, ns[i]? = some n := ⟨_, List.getElem?_eq_getElem c⟩
    refine iteF (R.nKind Y rfl rfl en ⟨.str n.kind, .str "open", .str _, .str _, hk n (List.mem_of_getElem? en), by decide +kernel, Nat.zero_le _, _, rfl, ?_⟩)
    cases ck : (n.kind == ("open" : Str)) with
    | true =>
      have e1 : n.kind = ("open" : Str) := eq_of_beq ck
      refine (show if (!(n.kind == ("open" : Str))) = true then _ else _ from ?_)
      rw [ck]
      exact iteF (R.node Y rfl rfl en fun a ea hn => q n a dx ln ld vp as ds en e1 R ea hn)
    | false =>
      refine (show if (!(n.kind == ("open" : Str))) = true then _ else _ from ?_)
      rw [ck]
      exact iteT fun d H2 f2 hd2 => hE.elim (fun ⟨m, em, hm⟩ => by rw [en] at em; cases em; rw [hm] at ck; cases ck) fun hE => hE d _ H2 f2 hd2
  · rw [show decide (((i : Nat) : Int) < ((ns.length : Nat) : Int)) = false from decide_eq_false (by omega)]
    exact iteT (iteT fun d H2 f2 hd2 => hE.elim (fun ⟨m, em, _⟩ => absurd (List.getElem?_eq_some_iff.mp em).1 c) fun hE => hE d _ H2 f2 hd2)
end
end DF

namespace DF
open PySem PySem.Spec PyProof.Rows L2
def chOf (m k : Nat) : List Nat := (List.range k).map (m + ·)
def closeN (ns : List Nd) (i : Nat) (n : Nd) (kind : Str) (ts : List T) : List Nd := ns.set i { n with kind := kind, ch := chOf ns.length ts.length } ++ ts.map fun t => nd0 t (some i)
theorem opens_append (a b : List Nd) : opens (a ++ b) = opens a + opens b := by unfold opens; rw [List.filter_append, List.length_append]
theorem opens_set : ∀ {ns : List Nd} {i : Nat} {n m : Nd}, ns[i]? = some n → (n.kind == ("open" : Str)) = true → (m.kind == ("open" : Str)) = false → opens (ns.set i m) + 1 = opens ns
  | [], _, _, _, e, _, _ => by simp at e
  | x :: ns, 0, n, m, e, h1, h2 => by
    simp at e
    subst e
    show opens (m :: ns) + 1 = opens (x :: ns)
    unfold opens
    rw [List.filter_cons, List.filter_cons, h1, h2]
    simp
  | x :: ns, i + 1, n, m, e, h1, h2 => by
    have ih := opens_set (ns := ns) (i := i) (m := m) (by simpa using e) h1 h2
    show opens (x :: ns.set i m) + 1 = opens (x :: ns)
    unfold opens at ih ⊢
    rw [List.filter_cons, List.filter_cons]
    split
    · rw [List.length_cons, List.length_cons]; omega
    · exact ih
theorem opens_new (i : Nat) : ∀ ts : List T, opens (ts.map fun t => nd0 t (some i)) = ts.length
  | [] => rfl
  | t :: ts => by
    have ih := opens_new i ts
    unfold opens at ih ⊢
    rw [List.map_cons, List.filter_cons]
    rw [if_pos (show (nd0 t (some i)).kind == ("open" : Str) from beq_self_eq_true _), List.length_cons, ih, List.length_cons]
theorem paired_upd {α β : Type} {F G : α → β → Prop} : ∀ {xs : List α} {ys : List β} {i : Nat} {x : α} {y : β}, Paired F xs ys → xs.Nodup → xs[i]? = some x → (∀ x' y', x' ≠ x → F x' y' → G x' y') → G x y → Paired G xs (ys.set i y)
  | _, _, _, _, _, .nil, _, e, _, _ => by simp at e
  | _, _, 0, _, _, .cons h t, n, e, g, q => by
    simp at e
    subst e
    have hn := List.nodup_cons.mp n
    exact .cons q (paired_imp t fun x' y' hx' => g x' y' fun z => hn.1 (z ▸ hx'))
  | _, _, i + 1, x, _, .cons (a := x0) h t, n, e, g, q => by
    have hn := List.nodup_cons.mp n
    rw [List.getElem?_cons_succ] at e
    exact .cons (g _ _ (fun z => hn.1 (z ▸ List.mem_of_getElem? e)) h) (paired_upd t hn.2 e g q)
section
variable {P : Program} {w : World} {K : PySem.W.Frag} {mg : Str → Option Value} {base : Heap}
theorem SesR.kn {tp : Addr → Prop} {s dx ln ld : Addr} {H H' : Hp} {pg : Prog} {ns : List Nd} {vp : V} {as : List Addr} {ds : List V} (R : SesR K tp H s pg ns dx ln ld vp as ds) (f : Fr No H H') : SesR K tp H' s pg ns dx ln ld vp as ds :=
  ⟨f.kn R.hs, R.hp.fr f, f.kn R.hn, f.kn R.hd, paired_imp R.nd fun _ _ _ q => q.fr f (fun z => z), R.un, R.nld, R.dl, R.t1, R.t2, R.t3, R.t4, fun b hb => let ⟨o, e⟩ := R.ht b hb; ⟨o, f.kn e⟩⟩
theorem isAll_nats {H : Hp} : ∀ l : List Nat, IsAll K H (l.map fun (k : Nat) => V.int (k : Int)) (l.map fun (k : Nat) => PyData.int (k : Int))
  | [] => .nil
  | i :: l => .cons (.int _) (isAll_nats l)
theorem rgV_ch (m k : Nat) : rgV (m : Int) ((m : Int) + (k : Int)) = (chOf m k).map fun (k : Nat) => V.int (k : Int) := by
  unfold rgV chOf
  rw [List.map_map, show ((m : Int) + (k : Int) - (m : Int)).toNat = k by omega]
  rfl
theorem kind_ne {a b : Addr} {dx dy : Addr} {f g : List (Str × V)} {C D : Addr} {H : Hp} (h1 : H a = some (.ins C dx f)) (h2 : H b = some (.ins D dy g)) (e : f ≠ g) : a ≠ b := fun z => by
  rw [z, h2] at h1
  injection h1 with h1
  injection h1 with _ _ h1
  exact e h1.symm
theorem ses_ne_nd {vp a1 a2 a3 a4 a5 a6 : V} {ln ld : Addr} : sesF vp ln ld ≠ ndF a1 a2 a3 a4 a5 a6 := fun z => by
  have := congrArg List.length z
  cases this
def sp_Session_close (K : PySem.W.Frag) : Sp := fun vs H Q E => ∃ s i kind ts tp pg ns n v deed dx ln ld vp as ds a, vs = [.ref s, .int (i : Nat), .str kind, v, deed] ∧ SesR K tp H s pg ns dx ln ld vp as ds ∧ ns[i]? = some n ∧ as[i]? = some a ∧ n.kind = ("open" : Str) ∧ (kind == ("open" : Str)) = false ∧
  Tms K H v ts ∧ (∀ t ∈ ts, t.size ≤ 1000000) ∧ ts.length ≤ 100000 ∧ ns.length ≤ 40 ∧ (ts = [] ∨ XRf K H E) ∧
  ∀ H' vc as' ds', Fr (Nt tp) H H' → SesR K tp H' s pg (closeN ns i n kind ts) dx ln ld vp as' ds' → as'[i]? = some a → ns.length + ts.length ≤ 40 → (∀ t ∈ ts, t.size ≤ 60) → Is K H' vc (natsD (chOf ns.length ts.length)) → Q vc H'
theorem sc_Session_close : FnScope ["self", "number", "kind", "terms", "deed", "term", "own"] ["self", "number", "kind", "terms", "deed"] (defScope Tx.s_Session_close) := C8.fnScope_by (by decide +kernel)
theorem ok_close (Y : Hf K mg) (Z : Mkr P w K mg base) : Me (L2.CX P w) P w K mg base 4 (aS K) "close" (sp_Session_close K) := by
  refine Y.d_Session_close.okX sc_Session_close (fun vs H Q E h => ?_) (fun f cdv A outer s H vs Q E hr h => ?_)
  · obtain ⟨s, i, kind, ts, tp, pg, ns, n, v, deed, dx, ln, ld, vp, as, ds, a, rfl, _⟩ := h; rfl
  have nd := sc_Session_close.nd
  refine ⟨_, ((pss_cons (ps_if (pt_cmp (pc_gt (pe_add (k_lenL Y.z_len (pe_fld (pv 0) rfl)) (k_lenT Y.z_len (pv 3))) (pe_mint 40 rfl Y.i_MOST_NODES)))
        (pss_one (ps_raise rfl (takes_of rfl rfl rfl rfl) (Z.mkr rfl rfl rfl rfl rfl rfl (hr.mono (by omega)) rfl pe_str rfl))) pss_nil)
    (pss_cons (ps_for (passes_of rfl) rfl (pi_tup (pv 3)) (pg_name (i := 5) nd rfl (by first | exact .inl rfl | exact .inr rfl))
        (pss_one (ps_if (pt_cmp (pc_gt (kc (ok_size Y) hr (pa_cons (pv 5) pa_nil) (hk := by omega)) (pe_mint 60 rfl Y.i_MOST_SIZE)))
            (pss_one (ps_raise rfl (takes_of rfl rfl rfl rfl) (Z.mkr rfl rfl rfl rfl rfl rfl (hr.mono (by omega)) rfl pe_str rfl))) pss_nil)))
    (pss_cons (ps_set (i := 6) nd rfl (by first | exact .inl rfl | exact .inr rfl) (pe_ix ix_list (pe_fld (pv 0) rfl) (pv 1) fun _ _ => rfl))
    (pss_cons (ps_fld (pv 6) (pv 2) rfl)
    (pss_cons (ps_fld (pv 6) (k_tup Y.z_tuple (pe_listRg rfl rfl Y.z_list (prg_2 rfl Y.z_range (k_lenL Y.z_len (pe_fld (pv 0) rfl)) (pe_add (k_lenL Y.z_len (pe_fld (pv 0) rfl)) (k_lenT Y.z_len (pv 3)))))) rfl)
    (pss_cons (ps_for (passes_of rfl) rfl (pi_tup (pv 3)) (pg_name (i := 5) nd rfl (by first | exact .inl rfl | exact .inr rfl))
        (pss_one (ps_expr (pe_bm PySem.F.plainAttrs_list PySem.F.slot_list_append PySem.F.type_list_append mt_append (pe_fld (pv 0) rfl) (pa_cons (kma (ok_Node Y) hr (pa_cons (pv 5) (pa_cons (pv 1) pa_nil)) (hk := by omega)) pa_nil)))))
    (pss_cons (ps_expr (pe_bm PySem.F.plainAttrs_list PySem.F.slot_list_append PySem.F.type_list_append mt_append (pe_fld (pv 0) rfl) (pa_cons (pv 4) pa_nil)))
    (pss_one (ps_ret (pe_fld (pv 6) rfl))))))))))), ?_⟩
  obtain ⟨s, i, kind, ts, tp, pg, ns, n, v, deed, dx, ln, ld, vp, as, ds, a, rfl, R, en, ea, hop, hkd, hv, hsz, htl, hnl, hE, q⟩ := h
  have hal := paired_len R.nd
  refine R.nodes Y rfl ⟨ln, _, rfl, .inl (SqL.of R.hn), _, rfl, v, _, rfl, hv, _, _, rfl, rfl, _, _, rfl, rfl, _, rfl, ?_⟩
  rw [List.length_map, List.length_map, hal]
  show if decide ((40 : Int) < ((ns.length : Nat) : Int) + ((ts.length : Nat) : Int)) = true then _ else _
  by_cases c : (40 : Int) < ((ns.length : Nat) : Int) + ((ts.length : Nat) : Int)
  · rw [decide_eq_true c]
    exact iteT fun d H2 f2 hd2 => hE.elim (fun z => by rw [z] at c; simp at c; omega) fun hE => hE d _ H2 f2 hd2
  rw [decide_eq_false c]
  refine iteF (nextE ?_)
  dsimp only
  have hv' := hv
  obtain ⟨av, xs, rfl, ta, ia⟩ := hv'.tupE
  refine ⟨_, rfl, av, rfl, ⟨_, ta.sq⟩, ?_⟩
  refine for_it (dwT (S := No) ta ia) (fun j σ H' => ∃ x5, σ = [some (.ref s), some (.int (i : Nat)), some (.str kind), some (.ref av), some deed, x5, none] ∧ Fr No H H' ∧ ∀ t ∈ ts.take j, t.size ≤ 60)
    ⟨none, rfl, .refl, fun t ht => absurd ht List.not_mem_nil⟩ (fun j σ H' _ z => let ⟨_, _, z, _⟩ := z; z) (fun j x σ H1 H2 hlt z yy => ?_) fun σ H1 z => ?_
  · obtain ⟨x5, rfl, f1, hs1⟩ := z
    obtain ⟨f2, d, hd, hx⟩ := yy
    rw [List.getElem?_map] at hd
    cases e : ts[j]? with
    | none => rw [e] at hd; cases hd
    | some t =>
    rw [e] at hd
    cases hd
    refine ⟨_, rfl, x, t, rfl, hx, hsz t (List.mem_of_getElem? e), fun H3 f3 => ⟨_, _, rfl, rfl, _, rfl, ?_⟩⟩
    show if decide ((60 : Int) < ((t.size : Nat) : Int)) = true then _ else _
    have f03 := (f1.trans f2).trans f3
    by_cases c2 : (60 : Int) < ((t.size : Nat) : Int)
    · rw [decide_eq_true c2]
      exact iteT fun d H4 f4 hd4 => hE.elim (fun z => by rw [z] at e; simp at e) fun hE => hE d _ H4 (f03.trans f4) hd4
    · rw [decide_eq_false c2]
      refine iteF ⟨_, rfl, f03, fun t' ht' => ?_⟩
      rw [take_snoc e] at ht'
      rcases List.mem_append.mp ht' with h | h
      · exact hs1 t' h
      · rw [List.mem_singleton.mp h]; omega
  · obtain ⟨x5, rfl, f1, hs1⟩ := z
    rw [List.length_map, List.take_length] at hs1
    have R1 := R.kn f1
    refine R1.node Y rfl rfl en fun a' ea' hn => ?_
    rw [ea] at ea'
    cases ea'
    obtain ⟨dxn, vt, vpp, vc, vg, vu, h0, h1, h2, h3, h4, h5⟩ := hn
    have nas : a ≠ s := (kind_ne R1.hs h0 ses_ne_nd).symm
    have naln : a ≠ ln := fun z => by rw [z, R1.hn] at h0; cases h0
    have nsln : s ≠ ln := fun z => by have := R1.hs; rw [z, R1.hn] at this; cases this
    have nsld : s ≠ ld := fun z => by have := R1.hs; rw [z, R1.hd] at this; cases this
    have nald : a ≠ ld := fun z => by rw [z, R1.hd] at h0; cases h0
    refine ⟨_, rfl, _, rfl, a, _, dxn, ndF vt vpp (.str n.kind) vc vg vu, rfl, h0, Y.c_Node, Y.n_Node_kind, by show 6 < 1000; decide, ?_⟩
    have g2 : Fr (At a) H1 (upd H1 a (.ins (aN K) dxn (ndF vt vpp (.str kind) vc vg vu))) := Fr.refl.mut rfl h0 fun z => z
    have hs2 := g2.k s _ nas.symm R1.hs
    have hn2 := g2.k ln _ naln.symm R1.hn
    refine ⟨_, rfl, s, _, dx, _, .ref ln, rfl, hs2, Y.c_Session, Y.n_Session_nodes, rfl, ln, _, rfl, .inl (SqL.of hn2), _, rfl, s, _, dx, _, .ref ln, rfl, hs2, Y.c_Session, Y.n_Session_nodes, rfl, ln, _, rfl, .inl (SqL.of hn2), ?_⟩
    refine ⟨_, rfl, .ref av, _, rfl, (hv.fr f1).fr g2, _, _, rfl, rfl, _, _, rfl, rfl, ?_⟩
    rw [List.length_map, List.length_map, hal]
    refine ⟨⟨by omega, by omega, by omega, by omega, by omega⟩, fun q3 hq3 => ?_⟩
    rw [rgV_ch]
    have g3 := Fr.new0 (S := No) (o := .lst ((chOf ns.length ts.length).map fun (k : Nat) => V.int (k : Int))) hq3
    refine ⟨q3, _, _, rfl, upd_same, isAll_nats _, fun wc H4 f4 hwc => ?_⟩
    have g14 := g2.trans (g3.trans f4).no
    refine ⟨_, rfl, a, _, dxn, ndF vt vpp (.str kind) vc vg vu, rfl, (g3.trans f4).kn upd_same, Y.c_Node, Y.n_Node_children, by show 6 < 1000; decide, ?_⟩
    have g5 : Fr (At a) H4 (upd H4 a (.ins (aN K) dxn (ndF vt vpp (.str kind) wc vg vu))) := Fr.refl.mut rfl ((g3.trans f4).kn upd_same) fun z => z
    have g15 := g14.trans g5
    have hn5 : NdAt K (upd H4 a (.ins (aN K) dxn (ndF vt vpp (.str kind) wc vg vu))) a { n with kind := kind, ch := chOf ns.length ts.length } :=
      ⟨dxn, vt, vpp, wc, vg, vu, upd_same, h1.fr g15, h2.fr g15, Is.fr g5 hwc, h4.fr g15, h5.fr g15⟩
    have hnd5 : Paired (NdAt K (upd H4 a (.ins (aN K) dxn (ndF vt vpp (.str kind) wc vg vu)))) as (ns.set i { n with kind := kind, ch := chOf ns.length ts.length }) := by
      exact paired_upd R1.nd R1.un ea (fun x' y' hne hx' => hx'.fr g15 (fun z => hne z)) hn5
    have hln5 := g15.k ln _ naln.symm R1.hn
    have hld5 := g15.k ld _ nald.symm R1.hd
    have hs5 := g15.k s _ nas.symm R1.hs
    refine ⟨_, rfl, av, rfl, ⟨_, ((ta.fr f1).fr g15).sq⟩, ?_⟩
    rw [show putF "children" wc (ndF vt vpp (.str kind) vc vg vu) = ndF vt vpp (.str kind) wc vg vu from rfl]
    generalize hH5 : upd H4 a (.ins (aN K) dxn (ndF vt vpp (.str kind) wc vg vu)) = H5 at g5 g15 hn5 hnd5 hln5 hld5 hs5 ⊢
    refine for_it (dwT (S := At ln) ((ta.fr f1).fr g15) ((ia.fr f1).fr g15)) (fun j σ H' => ∃ (x5 : Option V) (new : List Addr), σ = [some (.ref s), some (.int (i : Nat)), some (.str kind), some (.ref av), some deed, x5, some (.ref a)] ∧ Fr (At ln) H5 H' ∧ H' ln = some (.lst ((as ++ new).map V.ref)) ∧ Paired (NdAt K H') new ((ts.take j).map fun t => nd0 t (some i)) ∧ new.Nodup ∧ ∀ b ∈ new, H5 b = none)
      ⟨x5, [], rfl, .refl, by rw [List.append_nil]; exact hln5, .nil, List.nodup_nil, fun b hb => absurd hb List.not_mem_nil⟩ (fun j σ H' _ z => let ⟨_, _, _, z, _⟩ := z; z) (fun j x σ H6 H7 hlt z yy => ?_) fun σ H6 z => ?_
    · obtain ⟨x5, new, rfl, f6, hln6, hpn, hun, hfr⟩ := z
      obtain ⟨f7, d, hd, hx⟩ := yy
      rw [List.getElem?_map] at hd
      cases e : ts[j]? with
      | none => rw [e] at hd; cases hd
      | some t =>
      rw [e] at hd
      cases hd
      have f57 : Fr (At ln) H5 H7 := f6.trans f7.no
      have hs7 := f57.k s _ (fun z => nsln z) hs5
      have hln7 := f7.kn hln6
      have hnl2 := paired_len hpn
      rw [List.length_map] at hnl2
      have htk := List.length_take_le' j ts
      refine ⟨_, rfl, s, _, dx, _, .ref ln, rfl, hs7, Y.c_Session, Y.n_Session_nodes, rfl, .inl ⟨rfl, _, SqL.of hln7⟩, _, rfl, _, rfl, fun y dy hy hdy hne => ⟨y, dy, _, _, rfl, upd_same, fun H8 vc8 vu8 f8 hy8 hvc8 hvu8 => ⟨rfl, ln, (as ++ new).map V.ref, _, rfl, rfl, ?_, lt_line ?_, ?_⟩⟩⟩
      all_goals have g8 : Fr No H7 H8 := (((Fr.new0 (S := No) hdy).new (o := .ins (aN K) dy []) hy).no.trans f8).less fun b hb _ => by rw [show b = y from hb]; exact hy
      · exact g8.kn hln7
      · rw [List.length_map, List.length_append]
        omega
      · have g9 : Fr (At ln) H8 (upd H8 ln (.lst ((as ++ new).map V.ref ++ [.ref y]))) := Fr.refl.mut rfl (g8.kn hln7) fun z => z
        have nyln : y ≠ ln := fun z => by rw [z] at hy; rw [hy] at hln7; cases hln7
        have hy5 : H5 y = none := f57.free (fun z => nyln z) hy
        have f79 : Fr (At ln) H7 _ := g8.no.trans g9
        refine ⟨some x, new ++ [y], rfl, f57.trans f79, by rw [upd_same, ← List.append_assoc, List.map_append (l₁ := as ++ new)]; rfl, ?_, ?_, fun b hb => ?_⟩
        · rw [take_snoc e, List.map_append (f := fun t => nd0 t (some i))]
          refine paired_append (F := NdAt K (upd H8 ln (.lst ((as ++ new).map V.ref ++ [.ref y])))) (paired_imp hpn fun b' n' hb' hb'' => ?_) (.cons ?_ .nil)
          · have nb : b' ≠ ln := fun z => by have := hfr b' hb'; rw [z, hln5] at this; cases this
            exact (hb''.fr f7 (fun z => z)).fr f79 (fun z => nb z)
          · exact ⟨dy, x, .int (i : Nat), vc8, .non, vu8, by rw [upd_ne nyln]; exact hy8, Is.fr f79 hx, .int _, Is.fr g9 hvc8, .non, Is.fr g9 hvu8⟩
        · rw [List.nodup_append]
          refine ⟨hun, by simp, fun b' hb' c hc e' => ?_⟩
          rw [List.mem_singleton.mp hc] at e'
          obtain ⟨k, hk⟩ := List.mem_iff_getElem?.mp hb'
          have hb6 : ∃ o, H6 b' = some o := by
            clear hE q
            have : ∀ {as : List Addr} {ns : List Nd}, Paired (NdAt K H6) as ns → b' ∈ as → ∃ o, H6 b' = some o := by
              intro as ns hp hm
              induction hp with
              | nil => cases hm
              | cons h t ih =>
                rcases List.mem_cons.mp hm with e0 | hm
                · subst e0; exact ⟨_, h.choose_spec.choose_spec.choose_spec.choose_spec.choose_spec.choose_spec.1⟩
                · exact ih hm
            exact this hpn hb'
          obtain ⟨o, ho⟩ := hb6
          rw [e'] at ho
          have := f7.kn ho
          rw [hy] at this
          cases this
        · rcases List.mem_append.mp hb with hb | hb
          · exact hfr b hb
          · rw [List.mem_singleton.mp hb]; exact hy5
    · obtain ⟨x5, new, rfl, f6, hln6, hpn, hun, hfr⟩ := z
      rw [List.length_map, List.take_length] at hpn
      have hs6 := f6.k s _ (fun z => nsln z) hs5
      have hld6 := f6.k ld _ (fun z => R1.nld z.symm) hld5
      have hdl := R1.dl
      refine ⟨_, rfl, s, _, dx, _, .ref ld, rfl, hs6, Y.c_Session, Y.n_Session_deeds, rfl, .inl ⟨rfl, _, SqL.of hld6⟩, _, rfl, ld, _, _, rfl, rfl, hld6, lt_line (by omega), ?_⟩
      have g9 : Fr (At ld) H6 (upd H6 ld (.lst (ds ++ [deed]))) := Fr.refl.mut rfl hld6 fun z => z
      have hn6 : NdAt K (upd H6 ld (.lst (ds ++ [deed]))) a { n with kind := kind, ch := chOf ns.length ts.length } := (hn5.fr f6 (fun z => naln z)).fr g9 (fun z => nald z)
      have f59 : Fr (fun b => b = ln ∨ b = ld) H5 (upd H6 ld (.lst (ds ++ [deed]))) := (f6.mono fun b z => .inl z).trans (g9.mono fun b z => .inr z)
      refine hn6.vCh Y rfl fun vc' hvc' => ?_
      have natp := R1.t4 a (List.mem_of_getElem? ea)
      have fall : Fr (Nt tp) H (upd H6 ld (.lst (ds ++ [deed]))) := by
        have z1 : Fr (Nt tp) H H5 := f1.no.trans (g15.mono fun b z => by rw [show b = a from z]; exact natp)
        refine z1.trans (f59.mono fun b z => ?_)
        rcases z with z | z
        · rw [z]; exact R1.t2
        · rw [z]; exact R1.t3
      have hat5 : ∀ b ∈ as, ∃ o, H5 b = some o := by
        have gen : ∀ {as : List Addr} {ns : List Nd}, Paired (NdAt K H5) as ns → ∀ b ∈ as, ∃ o, H5 b = some o := by
          intro as ns hp
          induction hp with
          | nil => exact fun b hb => absurd hb List.not_mem_nil
          | cons h t ih =>
            intro b hb
            rcases List.mem_cons.mp hb with e0 | hb
            · subst e0; exact ⟨_, h.choose_spec.choose_spec.choose_spec.choose_spec.choose_spec.choose_spec.1⟩
            · exact ih b hb
        exact gen hnd5
      have htp5 : ∀ b, tp b → ∃ o, H5 b = some o := fun b hb => let ⟨o, e⟩ := R1.ht b hb; ⟨o, g15.k b o (fun z => natp (by rw [← show b = a from z]; exact hb)) e⟩
      refine q _ vc' (as ++ new) (ds ++ [deed]) fall ⟨?_, (R1.hp.fr g15).fr f59, ?_, upd_same, ?_, ?_, R1.nld, ?_, R1.t1, R1.t2, R1.t3, fun b hb => ?_, fun b hb => ?_⟩ (by rw [List.getElem?_append_left (List.getElem?_eq_some_iff.mp ea).1]; exact ea) (by omega) hs1 hvc'
      · rw [upd_ne nsld]; exact hs6
      · rw [upd_ne R1.nld]; exact hln6
      · refine paired_append (paired_imp hnd5 fun b n' hb hb' => hb'.fr f59 fun z => ?_) (paired_imp hpn fun b n' hb hb' => hb'.fr g9 fun z => ?_)
        · rcases z with z | z
          · obtain ⟨_, _, _, _, _, _, h0', _⟩ := hb'
            rw [z, hln5] at h0'; cases h0'
          · obtain ⟨_, _, _, _, _, _, h0', _⟩ := hb'
            rw [z, hld5] at h0'; cases h0'
        · have := hfr b hb
          rw [show b = ld from z, hld5] at this
          cases this
      · rw [List.nodup_append]
        refine ⟨R1.un, hun, fun b hb c hc e' => ?_⟩
        obtain ⟨o, ho⟩ := hat5 b hb
        have := hfr c hc
        rw [← e', ho] at this
        cases this
      · have e1 := opens_set (m := { n with kind := kind, ch := chOf ns.length ts.length }) en (by rw [hop]; exact beq_self_eq_true _) hkd
        unfold closeN
        rw [opens_append, opens_new, List.length_append, List.length_append, List.length_set, List.length_map, List.length_singleton]
        omega
      · rcases List.mem_append.mp hb with hb | hb
        · exact R1.t4 b hb
        · intro z
          have := hfr b hb
          obtain ⟨o, e⟩ := htp5 b z
          rw [e] at this
          cases this
      · obtain ⟨o, e⟩ := htp5 b hb
        exact ⟨o, by rw [upd_ne (fun z => R1.t3 (by rw [← z]; exact hb))]; exact f6.k b o (fun z => R1.t2 (by rw [← show b = ln from z]; exact hb)) e⟩
end
end DF

/-! what holds of a session's nodes -/
namespace DF
open PySem PySem.Spec PyProof.Rows L2
def kinds : List Str := ["open", "exposed", "stepped", "branched", "split", "folded", "left"]
theorem kinds_fine : ∀ k ∈ kinds, fine (.str k) = true := by
  have h : (kinds.all fun k => fine (.str k)) = true := by decide +kernel
  exact fun k hk => List.all_eq_true.mp h k hk
structure NdOk (pg : Prog) (ns : List Nd) (n : Nd) : Prop where
  step : n.kind = ("stepped" : Str) → n.ch.length = 1
  bran : n.kind = ("branched" : Str) → ∃ j f, dem pg n.term = .nds j f ∧ n.ch.length = (rulesOf pg f).length
  expo : n.kind = ("exposed" : Str) → n.ch.length = n.term.args.length
  spl : n.kind = ("split" : Str) → n.ch.length = n.us.length + 1
  fol : n.kind = ("folded" : Str) → ∃ k m ps, n.tg = some k ∧ ns[k]? = some m ∧ (m.kind = ("stepped" : Str) ∨ m.kind = ("branched" : Str)) ∧ matchP m.term n.term = some ps ∧ n.ch.length = (bigs ps).length
  ntg : n.kind ≠ ("folded" : Str) → n.tg = none
structure WfN (pg : Prog) (ns : List Nd) : Prop where
  len : ns.length ≤ 40
  ne : 0 < ns.length
  sz : ∀ n ∈ ns, n.term.size ≤ 60
  kn : ∀ n ∈ ns, Kn pg n.term
  kd : ∀ n ∈ ns, n.kind ∈ kinds
  par : ∀ (i : Nat) (n : Nd) (k : Nat), ns[i]? = some n → n.par = some k → k < i
  ch : ∀ (i : Nat) (n : Nd) (c : Nat), ns[i]? = some n → c ∈ n.ch → i < c ∧ c < ns.length
  ok : ∀ n ∈ ns, NdOk pg ns n
  cl : ∀ n ∈ ns, n.ch.length ≤ 40
def updN (ns : List Nd) (i : Nat) (m : Nd) (ts : List T) : List Nd := ns.set i m ++ ts.map fun t => nd0 t (some i)
theorem closeN_upd (ns : List Nd) (i : Nat) (n : Nd) (kind : Str) (ts : List T) : closeN ns i n kind ts = updN ns i { n with kind := kind, ch := chOf ns.length ts.length } ts := rfl
theorem updN_set {ns : List Nd} {i : Nat} (h : i < ns.length) (m m' : Nd) (ts : List T) : (updN ns i m ts).set i m' = updN ns i m' ts := by
  unfold updN
  rw [List.set_append_left _ _ (by rw [List.length_set]; exact h), List.set_set]
theorem updN_len (ns : List Nd) (i : Nat) (m : Nd) (ts : List T) : (updN ns i m ts).length = ns.length + ts.length := by
  unfold updN
  rw [List.length_append, List.length_set, List.length_map]
theorem updN_at {ns : List Nd} {i : Nat} {m : Nd} {ts : List T} (h : i < ns.length) : (updN ns i m ts)[i]? = some m := by
  unfold updN
  rw [List.getElem?_append_left (by rw [List.length_set]; exact h), List.getElem?_set_self h]
theorem updN_ne {ns : List Nd} {i k : Nat} {m n : Nd} {ts : List T} (h : k ≠ i) (e : ns[k]? = some n) : (updN ns i m ts)[k]? = some n := by
  unfold updN
  have hk := (List.getElem?_eq_some_iff.mp e).1
  rw [List.getElem?_append_left (by rw [List.length_set]; exact hk), List.getElem?_set_ne (fun z => h z.symm)]
  exact e
theorem updN_cases {ns : List Nd} {i k : Nat} {m n : Nd} {ts : List T} (e : (updN ns i m ts)[k]? = some n) : (k = i ∧ n = m) ∨ (k ≠ i ∧ ns[k]? = some n) ∨ (ns.length ≤ k ∧ ∃ t ∈ ts, n = nd0 t (some i)) := by
  unfold updN at e
  by_cases hk : k < ns.length
  · rw [List.getElem?_append_left (by rw [List.length_set]; exact hk)] at e
    by_cases h : k = i
    · subst h
      rw [List.getElem?_set_self hk] at e
      exact .inl ⟨rfl, (Option.some.inj e).symm⟩
    · rw [List.getElem?_set_ne (fun z => h z.symm)] at e
      exact .inr (.inl ⟨h, e⟩)
  · rw [List.getElem?_append_right (by rw [List.length_set]; omega), List.getElem?_map, List.length_set] at e
    cases e2 : ts[k - ns.length]? with
    | none => rw [e2] at e; cases e
    | some t =>
      rw [e2] at e
      exact .inr (.inr ⟨by omega, t, List.mem_of_getElem? e2, (Option.some.inj e).symm⟩)
theorem NdOk.k_left {pg : Prog} {ns : List Nd} {n : Nd} (hk : n.kind = ("left" : Str)) (htg : n.tg = none) : NdOk pg ns n := ⟨fun h => absurd (hk.symm.trans h) (by decide +kernel), fun h => absurd (hk.symm.trans h) (by decide +kernel), fun h => absurd (hk.symm.trans h) (by decide +kernel), fun h => absurd (hk.symm.trans h) (by decide +kernel), fun h => absurd (hk.symm.trans h) (by decide +kernel), fun _ => htg⟩
theorem NdOk.k_stepped {pg : Prog} {ns : List Nd} {n : Nd} (hk : n.kind = ("stepped" : Str)) (c : n.ch.length = 1) (htg : n.tg = none) : NdOk pg ns n := ⟨fun _ => c, fun h => absurd (hk.symm.trans h) (by decide +kernel), fun h => absurd (hk.symm.trans h) (by decide +kernel), fun h => absurd (hk.symm.trans h) (by decide +kernel), fun h => absurd (hk.symm.trans h) (by decide +kernel), fun _ => htg⟩
theorem NdOk.k_branched {pg : Prog} {ns : List Nd} {n : Nd} (hk : n.kind = ("branched" : Str)) (c : ∃ j f, dem pg n.term = .nds j f ∧ n.ch.length = (rulesOf pg f).length) (htg : n.tg = none) : NdOk pg ns n := ⟨fun h => absurd (hk.symm.trans h) (by decide +kernel), fun _ => c, fun h => absurd (hk.symm.trans h) (by decide +kernel), fun h => absurd (hk.symm.trans h) (by decide +kernel), fun h => absurd (hk.symm.trans h) (by decide +kernel), fun _ => htg⟩
theorem NdOk.k_exposed {pg : Prog} {ns : List Nd} {n : Nd} (hk : n.kind = ("exposed" : Str)) (c : n.ch.length = n.term.args.length) (htg : n.tg = none) : NdOk pg ns n := ⟨fun h => absurd (hk.symm.trans h) (by decide +kernel), fun h => absurd (hk.symm.trans h) (by decide +kernel), fun _ => c, fun h => absurd (hk.symm.trans h) (by decide +kernel), fun h => absurd (hk.symm.trans h) (by decide +kernel), fun _ => htg⟩
theorem NdOk.k_split {pg : Prog} {ns : List Nd} {n : Nd} (hk : n.kind = ("split" : Str)) (c : n.ch.length = n.us.length + 1) (htg : n.tg = none) : NdOk pg ns n := ⟨fun h => absurd (hk.symm.trans h) (by decide +kernel), fun h => absurd (hk.symm.trans h) (by decide +kernel), fun h => absurd (hk.symm.trans h) (by decide +kernel), fun _ => c, fun h => absurd (hk.symm.trans h) (by decide +kernel), fun _ => htg⟩
theorem NdOk.k_folded {pg : Prog} {ns : List Nd} {n : Nd} (hk : n.kind = ("folded" : Str)) (c : ∃ k m ps, n.tg = some k ∧ ns[k]? = some m ∧ (m.kind = ("stepped" : Str) ∨ m.kind = ("branched" : Str)) ∧ matchP m.term n.term = some ps ∧ n.ch.length = (bigs ps).length) : NdOk pg ns n := ⟨fun h => absurd (hk.symm.trans h) (by decide +kernel), fun h => absurd (hk.symm.trans h) (by decide +kernel), fun h => absurd (hk.symm.trans h) (by decide +kernel), fun h => absurd (hk.symm.trans h) (by decide +kernel), fun _ => c, fun h => absurd hk h⟩
theorem kin_left : ("left" : Str) ∈ kinds := by decide +kernel
theorem kin_stepped : ("stepped" : Str) ∈ kinds := by decide +kernel
theorem kin_branched : ("branched" : Str) ∈ kinds := by decide +kernel
theorem kin_exposed : ("exposed" : Str) ∈ kinds := by decide +kernel
theorem kin_split : ("split" : Str) ∈ kinds := by decide +kernel
theorem kin_folded : ("folded" : Str) ∈ kinds := by decide +kernel
theorem nd0_ok {pg : Prog} {ns : List Nd} {t : T} {p : Option Nat} : NdOk pg ns (nd0 t p) :=
  ⟨fun h => absurd (show ("open" : Str) = "stepped" from h) (by decide +kernel), fun h => absurd (show ("open" : Str) = "branched" from h) (by decide +kernel), fun h => absurd (show ("open" : Str) = "exposed" from h) (by decide +kernel), fun h => absurd (show ("open" : Str) = "split" from h) (by decide +kernel), fun h => absurd (show ("open" : Str) = "folded" from h) (by decide +kernel), fun _ => rfl⟩
theorem not_driven {k : Str} (h : k = ("open" : Str)) : ¬ (k = ("stepped" : Str) ∨ k = ("branched" : Str)) := by
  subst h
  rintro (h | h)
  · exact absurd h (by decide +kernel)
  · exact absurd h (by decide +kernel)
theorem WfN.upd {pg : Prog} {ns : List Nd} {i : Nat} {n m : Nd} {ts : List T} (W : WfN pg ns) (en : ns[i]? = some n) (hop : n.kind = ("open" : Str)) (e1 : m.term = n.term) (e2 : m.par = n.par) (e3 : m.ch = chOf ns.length ts.length) (hl : ns.length + ts.length ≤ 40)
    (hs : ∀ t ∈ ts, t.size ≤ 60) (hk : ∀ t ∈ ts, Kn pg t) (hkd : m.kind ∈ kinds) (hok : NdOk pg ns m) : WfN pg (updN ns i m ts) := by
  have hi := (List.getElem?_eq_some_iff.mp en).1
  have mem : ∀ {x : Nd}, x ∈ updN ns i m ts → x = m ∨ x ∈ ns ∨ ∃ t ∈ ts, x = nd0 t (some i) := fun {x} hx => by
    obtain ⟨k, e⟩ := List.mem_iff_getElem?.mp hx
    rcases updN_cases e with ⟨_, h⟩ | ⟨_, h⟩ | ⟨_, h⟩
    · exact .inl h
    · exact .inr (.inl (List.mem_of_getElem? h))
    · exact .inr (.inr h)
  have hn := List.mem_of_getElem? en
  have lift : ∀ {x : Nd}, NdOk pg ns x → NdOk pg (updN ns i m ts) x := fun {x} o => ⟨o.step, o.bran, o.expo, o.spl, fun h => by
    obtain ⟨k, y, ps, h1, h2, h3, h4, h5⟩ := o.fol h
    refine ⟨k, y, ps, h1, updN_ne (fun z => ?_) h2, h3, h4, h5⟩
    rw [z, en] at h2
    cases h2
    exact not_driven hop h3, o.ntg⟩
  refine ⟨by rw [updN_len]; exact hl, by rw [updN_len]; have := W.ne; omega, fun x hx => ?_, fun x hx => ?_, fun x hx => ?_, fun j x k ej hp => ?_, fun j x c ej hc => ?_, fun x hx => ?_, fun x hx => ?_⟩
  · rcases mem hx with h | h | ⟨t, ht, h⟩
    · rw [h, e1]; exact W.sz n hn
    · exact W.sz x h
    · rw [h]; exact hs t ht
  · rcases mem hx with h | h | ⟨t, ht, h⟩
    · rw [h, e1]; exact W.kn n hn
    · exact W.kn x h
    · rw [h]; exact hk t ht
  · rcases mem hx with h | h | ⟨t, ht, h⟩
    · rw [h]; exact hkd
    · exact W.kd x h
    · rw [h]; exact List.mem_cons_self
  · rcases updN_cases ej with ⟨h1, h2⟩ | ⟨_, h2⟩ | ⟨h1, t, ht, h2⟩
    · subst h1 h2
      rw [e2] at hp
      exact W.par _ n k en hp
    · exact W.par j x k h2 hp
    · subst h2
      have : k = i := (Option.some.inj (show some i = some k from hp)).symm
      omega
  · rw [updN_len]
    rcases updN_cases ej with ⟨h1, h2⟩ | ⟨_, h2⟩ | ⟨h1, t, ht, h2⟩
    · subst h1 h2
      rw [e3] at hc
      unfold chOf at hc
      obtain ⟨q, hq, rfl⟩ := List.mem_map.mp hc
      have := List.mem_range.mp hq
      omega
    · have := W.ch j x c h2 hc
      omega
    · subst h2
      cases hc
  · rcases mem hx with h | h | ⟨t, ht, h⟩
    · rw [h]; exact lift hok
    · exact lift (W.ok x h)
    · rw [h]; exact nd0_ok
  · rcases mem hx with h | h | ⟨t, ht, h⟩
    · rw [h, e3]
      unfold chOf
      rw [List.length_map, List.length_range]
      omega
    · exact W.cl x h
    · rw [h]; exact Nat.zero_le _
/-- how many are closed -/
def clo (ns : List Nd) : Nat := ns.length - opens ns
theorem clo_upd {ns : List Nd} {i : Nat} {n m : Nd} {ts : List T} (en : ns[i]? = some n) (hop : n.kind = ("open" : Str)) (hm : (m.kind == ("open" : Str)) = false) : clo ns < clo (updN ns i m ts) := by
  have h1 := opens_set en (by rw [hop]; exact beq_self_eq_true _) hm
  have h2 : opens (ns.set i m) ≤ (ns.set i m).length := List.length_filter_le _ _
  have h3 : opens ns ≤ ns.length := List.length_filter_le _ _
  rw [List.length_set] at h2
  unfold clo
  rw [updN_len]
  unfold updN
  rw [opens_append, opens_new]
  omega
theorem chOf_len (m k : Nat) : (chOf m k).length = k := by unfold chOf; rw [List.length_map, List.length_range]
theorem WfN.start {pg : Prog} {t : T} (h : t.size ≤ 60) (k : Kn pg t) : WfN pg [nd0 t none] := by
  refine ⟨by show 1 ≤ 40; decide, Nat.one_pos, fun n hn => ?_, fun n hn => ?_, fun n hn => ?_, fun i n k e hp => ?_, fun i n c e hc => ?_, fun n hn => ?_, fun n hn => ?_⟩
  · rw [List.mem_singleton.mp hn]; exact h
  · rw [List.mem_singleton.mp hn]; exact k
  · rw [List.mem_singleton.mp hn]; exact List.mem_cons_self
  · rw [List.mem_singleton.mp (List.mem_of_getElem? e)] at hp; cases hp
  · rw [List.mem_singleton.mp (List.mem_of_getElem? e)] at hc; cases hc
  · rw [List.mem_singleton.mp hn]; exact nd0_ok
  · rw [List.mem_singleton.mp hn]; exact Nat.zero_le _
end DF

namespace DF
open PySem PySem.Spec PyProof.Rows L2
section
variable {P : Program} {w : World} {K : PySem.W.Frag} {mg : Str → Option Value} {base : Heap}
/-- a move of a session: it may be refused, then nothing is changed; or the session goes on -/
def rMove (K : PySem.W.Frag) (tp : Addr → Prop) (s : Addr) (pg : Prog) (ns : List Nd) (H : Hp) (Q : VK) (E : XK) : Prop := XRf K H E ∧ ∀ H' v ns', Fr (Nt tp) H H' → Ses K tp H' s pg ns' → WfN pg ns' → clo ns < clo ns' → Q v H'
def sp_Session_expose (K : PySem.W.Frag) : Sp := fun vs H Q E => ∃ s i tp pg ns, vs = [.ref s, .int (i : Nat)] ∧ Ses K tp H s pg ns ∧ WfN pg ns ∧ Wf pg ∧ rMove K tp s pg ns H Q E
theorem sc_Session_expose : FnScope ["self", "node", "own"] ["self", "node"] (defScope Tx.s_Session_expose) := C8.fnScope_by (by decide +kernel)
theorem XRf.of {H H1 : Hp} {E : XK} (f : Fr No H H1) (h : XRf K H E) : XRf K H1 E := fun d v H' f' e => h d v H' (f.trans f') e
theorem ok_expose (Y : Hf K mg) (Z : Mkr P w K mg base) : Me (L2.CX P w) P w K mg base 28 (aS K) "expose" (sp_Session_expose K) := by
  refine Y.d_Session_expose.okX sc_Session_expose (fun vs H Q E h => ?_) (fun f cdv A outer s H vs Q E hr h => ?_)
  · obtain ⟨s, i, tp, pg, ns, rfl, _⟩ := h; rfl
  have nd := sc_Session_expose.nd
  refine ⟨_, ((pss_cons (ps_set (i := 2) nd rfl (by first | exact .inl rfl | exact .inr rfl) (kmeX (E := E) (ok_open_at Y Z) hr (passes_call (takes_of rfl rfl rfl rfl) fun _ _ _ _ h => h) (pv 0) (pa_cons (pv 1) pa_nil) (hk := by omega)))
    (pss_cons (ps_if (pt_not (pt_val (kc (ok_may_expose Y) hr (pa_cons (pe_fld (pv 0) rfl) (pa_cons (pe_fld (pv 2) rfl) pa_nil)) (hk := by omega))))
        (pss_one (ps_raise rfl (takes_of rfl rfl rfl rfl) (Z.mkr rfl rfl rfl rfl rfl rfl (hr.mono (by omega)) rfl pe_str rfl))) pss_nil)
    (pss_one (ps_ret (kmeX (E := E) (ok_close Y Z) hr (passes_call (takes_of rfl rfl rfl rfl) fun _ _ _ _ h => h) (pv 0) (pa_cons (pv 1) (pa_cons pe_str (pa_cons (pe_ix ix_d (pe_fld (pv 2) rfl) pe_int fun _ _ => rfl) (pa_cons (pe_tupD (pa_cons pe_str (pa_cons (pv 1) pa_nil))) pa_nil)))) (hk := by omega))))))), ?_⟩
  obtain ⟨s, i, tp, pg, ns, rfl, hS, W, Wp, hE, q⟩ := h
  have hS' := hS
  obtain ⟨dx0, ln0, ld0, vp0, as0, ds0, R0⟩ := hS'
  refine ⟨_, rfl, s, _, _, rfl, R0.hs, rfl, _, rfl, s, i, tp, pg, ns, rfl, hS, fun n hn => kinds_fine _ (W.kd n hn), .inr hE, fun n a dx ln ld vp as ds en hop R ea hn => ?_⟩
  have hmem := List.mem_of_getElem? en
  have hn' := hn
  obtain ⟨dxn, vt, vpp, vc, vg, vu, h0, h1, h2, h3, h4, h5⟩ := hn'
  refine ⟨_, rfl, s, _, dx, _, vp, rfl, R.hs, Y.c_Session, Y.n_Session_program, rfl, ?_⟩
  refine ⟨_, rfl, a, _, dxn, _, vt, rfl, h0, Y.c_Node, Y.n_Node_term, rfl, vp, vt, pg, n.term, rfl, R.hp, h1, Wp, W.kn n hmem, by have := W.sz n hmem; omega, fun b H1 f1 => ⟨_, rfl, ?_⟩⟩
  cases b with
  | false => exact iteT fun d H2 f2 hd2 => hE d _ H2 (f1.trans f2) hd2
  | true =>
  refine iteF ?_
  have R1 := R.kn f1
  refine ⟨_, rfl, s, _, _, rfl, R1.hs, rfl, _, rfl, _, rfl, a, _, dxn, _, vt, rfl, f1.kn h0, Y.c_Node, Y.n_Node_term, rfl, _, 1, _, rfl, Tm.is (h1.fr f1), rfl, fun x hx => ?_⟩
  refine ⟨_, rfl, [.str "expose", .int (i : Nat)], .cons (.str _) (.cons (.int _) .nil), by show 2 ≤ 16000000; decide, fun w2 H2 f2 hw2 => ?_⟩
  have R2 := R1.kn f2
  have hal := n.term.args_len
  have hsz := W.sz n hmem
  refine ⟨s, i, "exposed", n.term.args, tp, pg, ns, n, x, w2, dx, ln, ld, vp, as, ds, a, rfl, R2, en, ea, hop, by decide +kernel, Is.fr f2 hx, fun t ht => ?_, by omega, W.len, .inr (hE.of (f1.trans f2)), fun H3 vc3 as3 ds3 f3 R3 ea3 hl3 hs3 hvc3 => ?_⟩
  · have := T.arg_lt ht
    omega
  · refine q H3 vc3 _ ((f1.trans f2).no.trans f3) ⟨dx, ln, ld, vp, as3, ds3, R3⟩ ?_ (by rw [closeN_upd]; exact clo_upd en hop (by show (("exposed" : Str) == "open") = false; decide +kernel))
    rw [closeN_upd]
    refine W.upd en hop rfl rfl rfl hl3 hs3 (fun t ht y hy ly => W.kn n hmem y (T.arg_heads ht _ hy) ly) kin_exposed (.k_exposed rfl (chOf_len _ _) ((W.ok n hmem).ntg (by rw [hop]; decide +kernel)))
def sp_Session_leave (K : PySem.W.Frag) : Sp := fun vs H Q E => ∃ s i tp pg ns, vs = [.ref s, .int (i : Nat)] ∧ Ses K tp H s pg ns ∧ WfN pg ns ∧ (IsOpen ns i ∨ XRf K H E) ∧ ∀ H' v n m, Fr (Nt tp) H H' → Ses K tp H' s pg (ns.set i m) → WfN pg (ns.set i m) → clo ns < clo (ns.set i m) → ns[i]? = some n → m.kind = ("left" : Str) → Q v H'
theorem sc_Session_leave : FnScope ["self", "node"] ["self", "node"] (defScope Tx.s_Session_leave) := C8.fnScope_by (by decide +kernel)
theorem ok_leave (Y : Hf K mg) (Z : Mkr P w K mg base) : Me (L2.CX P w) P w K mg base 5 (aS K) "leave" (sp_Session_leave K) := by
  refine Y.d_Session_leave.okX sc_Session_leave (fun vs H Q E h => ?_) (fun f cdv A outer s H vs Q E hr h => ?_)
  · obtain ⟨s, i, tp, pg, ns, rfl, _⟩ := h; rfl
  have nd := sc_Session_leave.nd
  refine ⟨_, ((pss_cons (ps_expr (kmeX (E := E) (ok_open_at Y Z) hr (passes_call (takes_of rfl rfl rfl rfl) fun _ _ _ _ h => h) (pv 0) (pa_cons (pv 1) pa_nil) (hk := by omega)))
    (pss_one (ps_ret (kmeX (E := E) (ok_close Y Z) hr (passes_call (takes_of rfl rfl rfl rfl) fun _ _ _ _ h => h) (pv 0) (pa_cons (pv 1) (pa_cons pe_str (pa_cons (pe_tupD pa_nil) (pa_cons (pe_tupD (pa_cons pe_str (pa_cons (pv 1) pa_nil))) pa_nil)))) (hk := by omega)))))), ?_⟩
  obtain ⟨s, i, tp, pg, ns, rfl, hS, W, hE, q⟩ := h
  have hS' := hS
  obtain ⟨dx0, ln0, ld0, vp0, as0, ds0, R0⟩ := hS'
  refine ⟨_, rfl, s, _, _, rfl, R0.hs, rfl, _, rfl, s, i, tp, pg, ns, rfl, hS, fun n hn => kinds_fine _ (W.kd n hn), hE, fun n a dx ln ld vp as ds en hop R ea hn => ?_⟩
  have hmem := List.mem_of_getElem? en
  refine ⟨_, rfl, s, _, _, rfl, R.hs, rfl, _, rfl, [], .nil, Nat.zero_le _, fun w1 H1 f1 hw1 => ⟨_, rfl, [.str "leave", .int (i : Nat)], .cons (.str _) (.cons (.int _) .nil), by show 2 ≤ 16000000; decide, fun w2 H2 f2 hw2 => ?_⟩⟩
  have f12 := f1.trans f2
  refine ⟨s, i, "left", [], tp, pg, ns, n, w1, w2, dx, ln, ld, vp, as, ds, a, rfl, R.kn f12, en, ea, hop, by decide +kernel, Is.fr f2 hw1, fun t ht => absurd ht List.not_mem_nil, Nat.zero_le _, W.len, .inl rfl, fun H3 vc3 as3 ds3 f3 R3 ea3 hl3 hs3 hvc3 => ?_⟩
  have eu : closeN ns i n "left" [] = ns.set i { n with kind := "left", ch := chOf ns.length 0 } := by
    rw [closeN_upd]; exact List.append_nil _
  refine q H3 vc3 n { n with kind := "left", ch := chOf ns.length 0 } (f12.no.trans f3) (eu ▸ ⟨dx, ln, ld, vp, as3, ds3, R3⟩) (eu ▸ ?_) (eu ▸ (by rw [closeN_upd]; exact clo_upd en hop (by show (("left" : Str) == "open") = false; decide +kernel))) en rfl
  rw [closeN_upd]
  exact W.upd en hop rfl rfl rfl hl3 hs3 (fun t ht => absurd ht List.not_mem_nil) kin_left (.k_left rfl ((W.ok n hmem).ntg (by rw [hop]; decide +kernel)))
/-! ### reading a session -/
def sp_Session_count (K : PySem.W.Frag) : Sp := fun vs H Q _ => ∃ s tp pg ns, vs = [.ref s] ∧ Ses K tp H s pg ns ∧ Q (.int (ns.length : Nat)) H
theorem sc_Session_count : FnScope ["self"] ["self"] (defScope Tx.s_Session_count) := C8.fnScope_by (by decide +kernel)
theorem ok_count (Y : Hf K mg) : Me CX0 P w K mg base 1 (aS K) "count" (sp_Session_count K) := by
  refine Y.d_Session_count.ok sc_Session_count (fun vs H Q E h => ?_) (fun f cdv A outer s H vs Q E hr h => ?_)
  · obtain ⟨s, tp, pg, ns, rfl, _⟩ := h; rfl
  have nd := sc_Session_count.nd
  refine ⟨_, ((pss_one (ps_ret (k_lenL Y.z_len (pe_fld (pv 0) rfl))))), ?_⟩
  obtain ⟨s, tp, pg, ns, rfl, ⟨dx, ln, ld, vp, as, ds, R⟩, q⟩ := h
  refine ⟨_, rfl, s, _, dx, _, .ref ln, rfl, R.hs, Y.c_Session, Y.n_Session_nodes, rfl, ln, _, rfl, .inl (SqL.of R.hn), ?_⟩
  rw [List.length_map, paired_len R.nd]
  exact q
/-- the places of the open nodes -/
def openAt (n : Nat) : List Nd → List Nat
  | [] => []
  | x :: xs => (if (x.kind == ("open" : Str)) = true then [n] else []) ++ openAt (n + 1) xs
theorem openAt_mem : ∀ {ns : List Nd} {m k : Nat}, k ∈ openAt m ns → m ≤ k ∧ ∃ n, ns[k - m]? = some n ∧ n.kind = ("open" : Str)
  | [], _, _, h => by cases h
  | x :: xs, m, k, h => by
    rcases List.mem_append.mp h with h | h
    · split at h
      · rename_i c
        rw [List.mem_singleton.mp h]
        exact ⟨Nat.le_refl _, x, by rw [Nat.sub_self]; rfl, eq_of_beq c⟩
      · cases h
    · obtain ⟨h1, n, h2, h3⟩ := openAt_mem h
      refine ⟨by omega, n, ?_, h3⟩
      rw [show k - m = (k - (m + 1)) + 1 by omega, List.getElem?_cons_succ]
      exact h2
theorem openAt_len : ∀ (ns : List Nd) (m : Nat), (openAt m ns).length = opens ns
  | [], _ => rfl
  | x :: xs, m => by
    have ih := openAt_len xs (m + 1)
    show ((if (x.kind == ("open" : Str)) = true then [m] else []) ++ openAt (m + 1) xs).length = opens (x :: xs)
    unfold opens at ih ⊢
    rw [List.filter_cons]
    split <;> simp [ih]
theorem openAt_append : ∀ (xs ys : List Nd) (m : Nat), openAt m (xs ++ ys) = openAt m xs ++ openAt (m + xs.length) ys
  | [], ys, m => by simp [openAt]
  | x :: xs, ys, m => by
    show (if _ then [m] else []) ++ openAt (m + 1) (xs ++ ys) = ((if _ then [m] else []) ++ openAt (m + 1) xs) ++ openAt (m + (xs.length + 1)) ys
    rw [openAt_append xs ys, List.append_assoc, show m + 1 + xs.length = m + (xs.length + 1) by omega]
def sp_Session_open_nodes (K : PySem.W.Frag) : Sp := fun vs H Q _ => ∃ s tp pg ns, vs = [.ref s] ∧ Ses K tp H s pg ns ∧ WfN pg ns ∧ Rt K H Q (natsD (openAt 0 ns))
theorem sc_Session_open_nodes : FnScope ["self", "number", "own"] ["self"] (defScope Tx.s_Session_open_nodes) := C8.fnScope_by (by decide +kernel)
theorem ok_open_nodes (Y : Hf K mg) : Me CX0 P w K mg base 1 (aS K) "open_nodes" (sp_Session_open_nodes K) := by
  refine Y.d_Session_open_nodes.ok sc_Session_open_nodes (fun vs H Q E h => ?_) (fun f cdv A outer s H vs Q E hr h => ?_)
  · obtain ⟨s, tp, pg, ns, rfl, _⟩ := h; rfl
  have nd := sc_Session_open_nodes.nd
  refine ⟨_, ((pss_one (ps_ret (k_tup Y.z_tuple (pe_lc (own := [("number", 1), ("own", 2)]) (g := (gTup K 2 (gCons (gName 1) (gCons (gName 2) gNil)))) (tt := (tTest (tOp (rEqD 200 K) (tFld K (tVar 2) "kind") (tC (.str "open"))))) (te := (tVar 1)) rfl nd (pi_enum rfl Y.z_enumerate (pa_cons (pe_fld (pv 0) rfl) pa_nil)) (blkOk_by (own := [("number", 1), ("own", 2)]) (N := ["self", "number", "own"]) (sc := defScope Tx.s_Session_open_nodes) (by decide +kernel)) (fun _ _ _ _ _ => (pg_tup rfl (pgs_cons (pg_name (i := 1) nd rfl (by first | exact .inl rfl | exact .inr rfl)) (pgs_cons (pg_name (i := 2) nd rfl (by first | exact .inl rfl | exact .inr rfl)) pgs_nil)))) (fun _ _ _ _ _ => (pts_one (pt_cmpR (op_eqD (n := 200) hr) (pe_fld (pv 2) rfl) pe_str rfl))) (fun _ _ _ _ _ => (pv 1))))))), ?_⟩
  obtain ⟨s, tp, pg, ns, rfl, ⟨dx, ln, ld, vp, as, ds, R⟩, W, q⟩ := h
  have hal := paired_len R.nd
  refine ⟨_, rfl, s, _, dx, _, .ref ln, rfl, R.hs, Y.c_Session, Y.n_Session_nodes, rfl, ln, _, rfl, SqL.of R.hn, fun D hD => ?_⟩
  refine lc_it (walk_enum (K := K) (a := ln) (xs := as.map V.ref)) (fun i H' => Fr No H H' ∧ H' D = some (.lst ((openAt 0 (ns.take i)).map fun (k : Nat) => V.int (k : Int)))) ⟨Fr.new0 hD, upd_same⟩ (fun i H' _ z => SqL.of (z.1.kn R.hn)) (fun i x H1 H2 hlt z yy => ?_) fun H1 z => ?_
  · obtain ⟨f1, hD1⟩ := z
    obtain ⟨T', x1, y1, rfl, hT, rfl, e1, e2⟩ := yy
    cases e1
    have e2 : (as.map V.ref)[i]? = some y1 := e2
    rw [List.getElem?_map] at e2
    rw [List.length_map] at hlt
    obtain ⟨n, en⟩ : ∃ n, ns[i]? = some n := ⟨_, List.getElem?_eq_getElem (by omega)⟩
    obtain ⟨a, ea, _, hn⟩ := R.at en
    rw [ea] at e2
    cases e2
    have f2 : Fr No H1 (upd H1 T' (.tup [.int (i : Nat), .ref a])) := Fr.new0 hT
    have f02 := f1.trans f2
    obtain ⟨dxn, vt, vpp, vc, vg, vu, h0, _⟩ := hn.fr f02 (fun z => z)
    refine ⟨T', _, rfl, .inl (.inl upd_same), rfl, _, _, rfl, _, _, rfl, rfl, rfl, ?_⟩
    refine ⟨_, rfl, a, _, dxn, _, _, rfl, h0, Y.c_Node, Y.n_Node_kind, rfl, .str n.kind, .str "open", .str _, .str _, kinds_fine _ (W.kd n (List.mem_of_getElem? en)), by decide +kernel, Nat.zero_le _, ?_⟩
    refine ⟨_, rfl, ?_⟩
    have e3 : openAt 0 (ns.take (i + 1)) = openAt 0 (ns.take i) ++ (if (n.kind == ("open" : Str)) = true then [i] else []) := by
      rw [take_snoc en, openAt_append, List.length_take, show 0 + min i ns.length = i by omega]
      show _ ++ ((if _ then [i] else []) ++ []) = _
      rw [List.append_nil]
    show if (n.kind == ("open" : Str)) = true then _ else _
    cases c : (n.kind == ("open" : Str)) with
    | true =>
      rw [c, if_pos rfl] at e3
      refine iteT ⟨_, rfl, _, f2.kn hD1, lt_line ?_, f02.new hD, ?_⟩
      · rw [List.length_map, openAt_len]
        have h1 : opens (ns.take i) ≤ (ns.take i).length := List.length_filter_le _ _
        have h2 := List.length_take_le' i ns
        have := W.len
        omega
      · rw [upd_same, e3, List.map_append]
        rfl
    | false =>
      rw [c, if_neg Bool.false_ne_true, List.append_nil] at e3
      refine iteF ⟨f02, ?_⟩
      rw [e3]
      exact f2.kn hD1
  · obtain ⟨f1, hD1⟩ := z
    rw [List.length_map, hal, List.take_length] at hD1
    exact ⟨D, _, _, rfl, hD1, isAll_nats _, fun r H2 f2 hr2 => q r H2 (f1.trans f2) hr2⟩
def sp_Session_node_at (K : PySem.W.Frag) : Sp := fun vs H Q E => ∃ s i tp pg ns dx ln ld vp as ds n a, vs = [.ref s, .int (i : Nat)] ∧ SesR K tp H s pg ns dx ln ld vp as ds ∧ ns[i]? = some n ∧ as[i]? = some a ∧ Q (.ref a) H
theorem sc_Session_node_at : FnScope ["self", "number"] ["self", "number"] (defScope Tx.s_Session_node_at) := C8.fnScope_by (by decide +kernel)
theorem ok_node_at (Y : Hf K mg) (Z : Mkr P w K mg base) : Me (L2.CX P w) P w K mg base 4 (aS K) "node_at" (sp_Session_node_at K) := by
  refine Y.d_Session_node_at.okX sc_Session_node_at (fun vs H Q E h => ?_) (fun f cdv A outer s H vs Q E hr h => ?_)
  · obtain ⟨s, i, tp, pg, ns, dx, ln, ld, vp, as, ds, n, a, rfl, _⟩ := h; rfl
  have nd := sc_Session_node_at.nd
  refine ⟨_, ((pss_cons (ps_if (pt_not (pt_chain op_le op_lt pe_int (pv 1) (k_lenL Y.z_len (pe_fld (pv 0) rfl))))
        (pss_one (ps_raise rfl (takes_of rfl rfl rfl rfl) (Z.mkr rfl rfl rfl rfl rfl rfl (hr.mono (by omega)) rfl pe_str rfl))) pss_nil)
    (pss_one (ps_ret (pe_ix ix_list (pe_fld (pv 0) rfl) (pv 1) fun _ _ => rfl))))), ?_⟩
  obtain ⟨s, i, tp, pg, ns, dx, ln, ld, vp, as, ds, n, a, rfl, R, en, ea, q⟩ := h
  have hal := paired_len R.nd
  have hi := (List.getElem?_eq_some_iff.mp en).1
  refine ⟨_, rfl, 0, i, rfl, rfl, _, rfl, ?_⟩
  rw [show decide ((0 : Int) ≤ ((i : Nat) : Int)) = true from decide_eq_true (by omega)]
  refine iteT ⟨_, rfl, s, _, dx, _, .ref ln, rfl, R.hs, Y.c_Session, Y.n_Session_nodes, rfl, ln, _, rfl, .inl (SqL.of R.hn), _, _, rfl, rfl, _, rfl, ?_⟩
  rw [List.length_map, hal, show decide (((i : Nat) : Int) < ((ns.length : Nat) : Int)) = true from decide_eq_true (by omega)]
  refine iteF ⟨_, rfl, s, _, dx, _, .ref ln, rfl, R.hs, Y.c_Session, Y.n_Session_nodes, rfl, _, rfl, ln, _, _, _, rfl, rfl, SqL.of R.hn, ?_, q⟩
  rw [atI_nat, List.getElem?_map, ea]
  rfl
end
end DF

namespace DF
open PySem PySem.Spec PyProof.Rows L2
section
variable {P : Program} {w : World} {K : PySem.W.Frag} {mg : Str → Option Value} {base : Heap}
def ndD (n : Nd) : PyData := .tuple [enc n.term, .str n.kind, optD n.par, natsD n.ch, optD n.tg, intsD n.us]
def sp_Session_node (K : PySem.W.Frag) : Sp := fun vs H Q E => ∃ s i tp pg ns n, vs = [.ref s, .int (i : Nat)] ∧ Ses K tp H s pg ns ∧ ns[i]? = some n ∧ Rt K H Q (ndD n)
theorem sc_Session_node : FnScope ["self", "number", "own"] ["self", "number"] (defScope Tx.s_Session_node) := C8.fnScope_by (by decide +kernel)
theorem ok_node (Y : Hf K mg) (Z : Mkr P w K mg base) : Me (L2.CX P w) P w K mg base 5 (aS K) "node" (sp_Session_node K) := by
  refine Y.d_Session_node.okX sc_Session_node (fun vs H Q E h => ?_) (fun f cdv A outer s H vs Q E hr h => ?_)
  · obtain ⟨s, i, tp, pg, ns, n, rfl, _⟩ := h; rfl
  have nd := sc_Session_node.nd
  refine ⟨_, ((pss_cons (ps_set (i := 2) nd rfl (by first | exact .inl rfl | exact .inr rfl) (kmeX (E := E) (ok_node_at Y Z) hr (passes_call (takes_of rfl rfl rfl rfl) fun _ _ _ _ h => h) (pv 0) (pa_cons (pv 1) pa_nil) (hk := by omega)))
    (pss_one (ps_ret (pe_tupD (pa_cons (pe_fld (pv 2) rfl) (pa_cons (pe_fld (pv 2) rfl) (pa_cons (pe_fld (pv 2) rfl) (pa_cons (pe_fld (pv 2) rfl) (pa_cons (pe_fld (pv 2) rfl) (pa_cons (pe_fld (pv 2) rfl) pa_nil))))))))))), ?_⟩
  obtain ⟨s, i, tp, pg, ns, n, rfl, ⟨dx, ln, ld, vp, as, ds, R⟩, en, q⟩ := h
  obtain ⟨a, ea, _, dxn, vt, vpp, vc, vg, vu, h0, h1, h2, h3, h4, h5⟩ := R.at en
  refine ⟨_, rfl, s, _, _, rfl, R.hs, rfl, _, rfl, s, i, tp, pg, ns, dx, ln, ld, vp, as, ds, n, a, rfl, R, en, ea, ?_⟩
  refine ⟨_, rfl, a, _, dxn, _, vt, rfl, h0, Y.c_Node, Y.n_Node_term, rfl, ?_⟩
  refine ⟨_, rfl, a, _, dxn, _, _, rfl, h0, Y.c_Node, Y.n_Node_kind, rfl, ?_⟩
  refine ⟨_, rfl, a, _, dxn, _, vpp, rfl, h0, Y.c_Node, Y.n_Node_parent, rfl, ?_⟩
  refine ⟨_, rfl, a, _, dxn, _, vc, rfl, h0, Y.c_Node, Y.n_Node_children, rfl, ?_⟩
  refine ⟨_, rfl, a, _, dxn, _, vg, rfl, h0, Y.c_Node, Y.n_Node_target, rfl, ?_⟩
  refine ⟨_, rfl, a, _, dxn, _, vu, rfl, h0, Y.c_Node, Y.n_Node_unknowns, rfl, ?_⟩
  exact ⟨_, .cons h1 (.cons (.str _) (.cons h2 (.cons h3 (.cons h4 (.cons h5 .nil))))), by show 6 ≤ 16000000; decide, fun v H1 f1 hv => q v H1 f1 hv⟩
def sp_Session_way (K : PySem.W.Frag) : Sp := fun vs H Q E => ∃ s i tp pg ns, vs = [.ref s, .int (i : Nat)] ∧ Ses K tp H s pg ns ∧ WfN pg ns ∧ i < ns.length ∧ ∀ l : List Nat, (∀ k ∈ l, k < ns.length) → l.length ≤ 40 → Rt K H Q (natsD l)
theorem sc_Session_way : FnScope ["self", "number", "found", "parent"] ["self", "number"] (defScope Tx.s_Session_way) := C8.fnScope_by (by decide +kernel)
theorem ok_way (Y : Hf K mg) (Z : Mkr P w K mg base) : Me (L2.CX P w) P w K mg base 5 (aS K) "way" (sp_Session_way K) := by
  refine Y.d_Session_way.okX sc_Session_way (fun vs H Q E h => ?_) (fun f cdv A outer s H vs Q E hr h => ?_)
  · obtain ⟨s, i, tp, pg, ns, rfl, _⟩ := h; rfl
  have nd := sc_Session_way.nd
  refine ⟨_, ((pss_cons (ps_set (i := 2) nd rfl (by first | exact .inl rfl | exact .inr rfl) (pe_lst pa_nil))
    (pss_cons (ps_set (i := 3) nd rfl (by first | exact .inl rfl | exact .inr rfl) (pe_fld (kmeX (E := E) (ok_node_at Y Z) hr (passes_call (takes_of rfl rfl rfl rfl) fun _ _ _ _ h => h) (pv 0) (pa_cons (pv 1) pa_nil) (hk := by omega)) rfl))
    (pss_cons (ps_while (passes_of rfl) (pt_cmp (pc_notN (pv 3)))
        (pss_cons (ps_expr (pe_bm PySem.F.plainAttrs_list PySem.F.slot_list_append PySem.F.type_list_append mt_append (pv 2) (pa_cons (pv 3) pa_nil)))
        (pss_one (ps_set (i := 3) nd rfl (by first | exact .inl rfl | exact .inr rfl) (pe_fld (pe_ix ix_list (pe_fld (pv 0) rfl) (pv 3) fun _ _ => rfl) rfl)))))
    (pss_one (ps_ret (k_tup Y.z_tuple (pv 2)))))))), ?_⟩
  obtain ⟨s, i, tp, pg, ns, rfl, ⟨dx, ln, ld, vp, as, ds, R⟩, W, hi, q⟩ := h
  obtain ⟨n, en⟩ : ∃ n, ns[i]? = some n := ⟨_, List.getElem?_eq_getElem hi⟩
  refine ⟨Nat.zero_le _, fun l hl => ?_⟩
  have f1 : Fr No H (upd H l (.lst [])) := Fr.new0 hl
  have R1 := R.kn f1
  obtain ⟨a, ea, _, dxn, vt, vpp, vc, vg, vu, h0, h1, h2, h3, h4, h5⟩ := R1.at en
  refine ⟨_, rfl, s, _, _, rfl, R1.hs, rfl, _, rfl, s, i, tp, pg, ns, dx, ln, ld, vp, as, ds, n, a, rfl, R1, en, ea, ?_⟩
  refine ⟨a, _, dxn, _, vpp, rfl, h0, Y.c_Node, Y.n_Node_parent, rfl, ?_⟩
  have hln := R.hn
  refine ⟨fun m σ H' => ∃ (o : Option Nat) (is : List Nat) (vo : V), m = (match o with | none => 0 | some k => k + 1) ∧ σ = [some (.ref s), some (.int (i : Nat)), some (.ref l), some vo] ∧ Is K H' vo (optD o) ∧ (∀ k, o = some k → k < ns.length) ∧ (∀ k ∈ is, k < ns.length) ∧ is.length + m ≤ 40 ∧ Fr No H H' ∧ H' l = some (.lst (is.map fun (k : Nat) => V.int (k : Int))),
    ⟨_, n.par, [], vpp, rfl, rfl, h2, fun k hk => ?_, fun k hk => absurd hk List.not_mem_nil, ?_, f1, upd_same⟩, ?_⟩
  · have := W.par i n k en hk
    omega
  · have hlen := W.len
    cases hp : n.par with
    | none => simp
    | some k =>
      have := W.par i n k en hp
      simp
      omega
  rintro m σ H2 ⟨o, is, vo, rfl, rfl, ho, hok, his, hm, f2, hl2⟩
  refine ⟨_, rfl, _, rfl, ?_⟩
  cases o with
  | none =>
    obtain rfl := (show Is K H2 vo .none from ho).nonE
    refine iteF ⟨_, rfl, l, _, _, rfl, hl2, isAll_nats is, fun r H3 f3 hr3 => q is his (by simp at hm; exact hm) r H3 (f2.trans f3) hr3⟩
  | some k =>
    obtain rfl := (show Is K H2 vo (.int (k : Nat)) from ho).intE
    have hk := hok k rfl
    obtain ⟨n2, en2⟩ : ∃ n, ns[k]? = some n := ⟨_, List.getElem?_eq_getElem hk⟩
    have hm : is.length + (k + 1) ≤ 40 := hm
    refine iteT ⟨_, fun σ' H' n => n, ?_⟩
    refine ⟨_, rfl, .inl ⟨rfl, _, SqL.of hl2⟩, _, rfl, l, _, _, rfl, rfl, hl2, lt_line (by rw [List.length_map]; omega), ?_⟩
    have f3 : Fr No H (upd H2 l (.lst ((is.map fun (k : Nat) => V.int (k : Int)) ++ [.int (k : Nat)]))) := f2.new hl
    have R3 := R.kn f3
    obtain ⟨a2, ea2, eat2, dxn2, vt2, vpp2, vc2, vg2, vu2, k0, k1, k2, k3, k4, k5⟩ := R3.at en2
    refine ⟨_, rfl, s, _, dx, _, .ref ln, rfl, R3.hs, Y.c_Session, Y.n_Session_nodes, rfl, _, rfl, ln, _, _, _, rfl, rfl, SqL.of R3.hn, eat2, a2, _, dxn2, _, vpp2, rfl, k0, Y.c_Node, Y.n_Node_parent, rfl, ?_⟩
    refine ⟨_, ?_, n2.par, is ++ [k], vpp2, rfl, rfl, k2, fun j hj => ?_, fun j hj => ?_, ?_, f3, by rw [upd_same, List.map_append]; rfl⟩
    · cases hp : n2.par with
      | none => exact Nat.succ_pos _
      | some j => exact Nat.succ_lt_succ (W.par k n2 j en2 hp)
    · have := W.par k n2 j en2 hj
      omega
    · rcases List.mem_append.mp hj with h | h
      · exact his j h
      · rw [List.mem_singleton.mp h]; exact hk
    · rw [List.length_append, List.length_singleton]
      cases hp : n2.par with
      | none => show is.length + 1 + 0 ≤ 40; omega
      | some j =>
        have := W.par k n2 j en2 hp
        show is.length + 1 + (j + 1) ≤ 40
        omega
def tagM : Dd → Str
  | .val => "value"
  | .stp _ => "step"
  | .nds _ _ => "needs"
  | .unk _ => "unknown"
  | .stk _ => "stuck"
  | .err => "error"
theorem encM_tag (d : Dd) : ∃ ds, encM d = .tuple (.str (tagM d) :: ds) := by cases d <;> exact ⟨_, rfl⟩
def tags : List Str := ["value", "step", "needs", "unknown", "stuck", "error"]
theorem tag_in (d : Dd) : tagM d ∈ tags := by cases d <;> simp [tagM, tags]
theorem tag_fine : ∀ k ∈ tags, fine (.str k) = true := by
  have h : (tags.all fun k => fine (.str k)) = true := by decide +kernel
  exact fun k hk => List.all_eq_true.mp h k hk
def sp_Session_whistle (K : PySem.W.Frag) : Sp := fun vs H Q E => ∃ s i tp pg ns, vs = [.ref s, .int (i : Nat)] ∧ Ses K tp H s pg ns ∧ WfN pg ns ∧ Wf pg ∧ i < ns.length ∧ (∀ H', Fr No H H' → Q .non H') ∧ ∀ (k : Nat) H', k < ns.length → Fr No H H' → Q (.int (k : Nat)) H'
theorem sc_Session_whistle : FnScope ["self", "number", "term", "wanted", "other", "kind"] ["self", "number"] (defScope Tx.s_Session_whistle) := C8.fnScope_by (by decide +kernel)
theorem ok_whistle (Y : Hf K mg) (Z : Mkr P w K mg base) : Me (L2.CX P w) P w K mg base 63 (aS K) "whistle" (sp_Session_whistle K) := by
  refine Y.d_Session_whistle.okX sc_Session_whistle (fun vs H Q E h => ?_) (fun f cdv A outer s H vs Q E hr h => ?_)
  · obtain ⟨s, i, tp, pg, ns, rfl, _⟩ := h; rfl
  have nd := sc_Session_whistle.nd
  refine ⟨_, ((pss_cons (ps_set (i := 2) nd rfl (by first | exact .inl rfl | exact .inr rfl) (pe_fld (kmeX (E := E) (ok_node_at Y Z) hr (passes_call (takes_of rfl rfl rfl rfl) fun _ _ _ _ h => h) (pv 0) (pa_cons (pv 1) pa_nil) (hk := by omega)) rfl))
    (pss_cons (ps_set (i := 3) nd rfl (by first | exact .inl rfl | exact .inr rfl) (pe_ix ix_d (kc (ok_demand Y) hr (pa_cons (pe_fld (pv 0) rfl) (pa_cons (pv 2) pa_nil)) (hk := by omega)) pe_int fun _ _ => rfl))
    (pss_cons (ps_if (pt_cmpR op_ninS (pv 3) (pe_tupD (pa_cons pe_str (pa_cons pe_str pa_nil))) rfl)
        (pss_one (ps_ret pe_non)) pss_nil)
    (pss_cons (ps_for (passes_of rfl) rfl (pi_tup (kmeX (E := E) (ok_way Y Z) hr (passes_call (takes_of rfl rfl rfl rfl) fun _ _ _ _ h => h) (pv 0) (pa_cons (pv 1) pa_nil) (hk := by omega))) (pg_name (i := 4) nd rfl (by first | exact .inl rfl | exact .inr rfl))
        (pss_cons (ps_set (i := 5) nd rfl (by first | exact .inl rfl | exact .inr rfl) (pe_fld (pe_ix ix_list (pe_fld (pv 0) rfl) (pv 4) fun _ _ => rfl) rfl))
        (pss_cons (ps_if (PW.pt (pw_and (pt_cmpR (op_eqD (n := 200) hr) (pv 3) pe_str rfl) (pw_and1 (pt_cmpR (op_eqD (n := 200) hr) (pv 5) pe_str rfl))))
            (pss_one (ps_ret pe_non)) pss_nil)
        (pss_one (ps_if (PW.pt (pw_or (pt_cmpR (op_eqD (n := 200) hr) (pv 5) pe_str rfl) (pw_or1 (PW.pt (pw_and (pt_cmpR (op_eqD (n := 200) hr) (pv 5) pe_str rfl) (pw_and1 (pt_cmpR (op_eqD (n := 200) hr) (pv 3) pe_str rfl)))))))
            (pss_one (ps_if (pt_val (kc (ok_within Y) hr (pa_cons (pe_fld (pe_ix ix_list (pe_fld (pv 0) rfl) (pv 4) fun _ _ => rfl) rfl) (pa_cons (pv 2) pa_nil)) (hk := by omega)))
                (pss_one (ps_ret (pv 4))) pss_nil)) pss_nil)))))
    (pss_one (ps_ret pe_non))))))), ?_⟩
  obtain ⟨s, i, tp, pg, ns, rfl, ⟨dx, ln, ld, vp, as, ds, R⟩, W, Wp, hi, q1, q2⟩ := h
  obtain ⟨n, en⟩ : ∃ n, ns[i]? = some n := ⟨_, List.getElem?_eq_getElem hi⟩
  have hmem := List.mem_of_getElem? en
  obtain ⟨a, ea, _, dxn, vt, vpp, vc, vg, vu, h0, h1, h2, h3, h4, h5⟩ := R.at en
  refine ⟨_, rfl, s, _, _, rfl, R.hs, rfl, _, rfl, s, i, tp, pg, ns, dx, ln, ld, vp, as, ds, n, a, rfl, R, en, ea, ?_⟩
  refine ⟨a, _, dxn, _, vt, rfl, h0, Y.c_Node, Y.n_Node_term, rfl, ?_⟩
  have hsz := W.sz n hmem
  refine ⟨_, rfl, s, _, dx, _, vp, rfl, R.hs, Y.c_Session, Y.n_Session_program, rfl, _, rfl, vp, vt, pg, n.term, rfl, R.hp, h1, Wp, W.kn n hmem, by omega, fun x H1 f1 hx => ?_⟩
  obtain ⟨dds, he⟩ := encM_tag (dem pg n.term)
  rw [he] at hx
  refine ⟨_, 0, _, rfl, hx, atI_zero _ _, fun y hy => ?_⟩
  obtain rfl := hy.strE
  generalize hg : tagM (dem pg n.term) = tg at hx
  have htg : tg ∈ tags := hg ▸ tag_in _
  have R1 := R.kn f1
  refine ⟨_, rfl, [.str "step", .str "needs"], .cons (.str _) (.cons (.str _) .nil), by show 2 ≤ 16000000; decide, fun w2 H2 f2 hw2 => ⟨tg, ["step", "needs"], rfl, hw2, _, rfl, ?_⟩⟩
  have f02 := f1.trans f2
  show if (!decide (tg ∈ (["step", "needs"] : List Str))) = true then _ else _
  by_cases c : tg ∈ (["step", "needs"] : List Str)
  · rw [decide_eq_true c]
    refine iteF (nextE ?_)
    dsimp only
    have R2 := R.kn f02
    refine ⟨_, rfl, s, _, _, rfl, R2.hs, rfl, _, rfl, s, i, tp, pg, ns, rfl, ⟨dx, ln, ld, vp, as, ds, R2⟩, W, hi, fun l hl hll v H3 f3 hv => ?_⟩
    obtain ⟨av, xs, rfl, ta, ia⟩ := hv.tupE
    have f03 := f02.trans f3
    refine ⟨av, rfl, ⟨_, ta.sq⟩, ?_⟩
    refine for_it (dwT (S := No) ta ia) (fun j σ H' => ∃ x4 x5, σ = [some (.ref s), some (.int (i : Nat)), some vt, some (.str tg), x4, x5] ∧ Fr No H3 H') ⟨none, none, rfl, .refl⟩ (fun j σ H' _ z => let ⟨_, _, _, z⟩ := z; z) (fun j x σ H4 H5 hlt z yy => ?_) fun σ H4 z => ?_
    · obtain ⟨x4, x5, rfl, f4⟩ := z
      obtain ⟨f5, d, hd, hx⟩ := yy
      rw [List.getElem?_map] at hd
      cases ek : l[j]? with
      | none => rw [ek] at hd; cases hd
      | some k =>
      rw [ek] at hd
      cases hd
      obtain rfl := hx.intE
      have hk := hl k (List.mem_of_getElem? ek)
      obtain ⟨n2, en2⟩ : ∃ n, ns[k]? = some n := ⟨_, List.getElem?_eq_getElem hk⟩
      have f45 := f4.trans f5
      have f05 := f03.trans f45
      have R5 := R.kn f05
      have hmem2 := List.mem_of_getElem? en2
      have hkf := kinds_fine _ (W.kd n2 hmem2)
      obtain ⟨a2, ea2, eat2, dxn2, vt2, vpp2, vc2, vg2, vu2, k0, k1, k2, k3, k4, k5⟩ := R5.at en2
      refine ⟨_, rfl, s, _, dx, _, .ref ln, rfl, R5.hs, Y.c_Session, Y.n_Session_nodes, rfl, _, rfl, ln, _, _, _, rfl, rfl, SqL.of R5.hn, eat2, a2, _, dxn2, _, _, rfl, k0, Y.c_Node, Y.n_Node_kind, rfl, ?_⟩
      dsimp only [gName]
      refine andE (c1 := tg == ("step" : Str)) (c2 := n2.kind == ("branched" : Str)) (fun Q1 hq => ⟨_, rfl, .str tg, .str "step", .str _, .str _, tag_fine _ htg, by decide +kernel, Nat.zero_le _, _, rfl, hq⟩) (fun _ Q1 hq => ⟨_, rfl, .str n2.kind, .str "branched", .str _, .str _, hkf, by decide +kernel, Nat.zero_le _, _, rfl, hq⟩) ?_
      cases c1 : ((tg == ("step" : Str)) && (n2.kind == ("branched" : Str))) with
      | true => exact iteT (q1 H5 f05)
      | false =>
      refine iteF (nextE ?_)
      dsimp only
      refine orE (c1 := n2.kind == ("branched" : Str)) (c2 := (n2.kind == ("stepped" : Str)) && (tg == ("step" : Str))) (fun Q1 hq => ⟨_, rfl, .str n2.kind, .str "branched", .str _, .str _, hkf, by decide +kernel, Nat.zero_le _, _, rfl, hq⟩) (fun _ Q1 hq => ?_) ?_
      · exact andE (c1 := n2.kind == ("stepped" : Str)) (c2 := tg == ("step" : Str)) (fun Q2 hq2 => ⟨_, rfl, .str n2.kind, .str "stepped", .str _, .str _, hkf, by decide +kernel, Nat.zero_le _, _, rfl, hq2⟩) (fun _ Q2 hq2 => ⟨_, rfl, .str tg, .str "step", .str _, .str _, tag_fine _ htg, by decide +kernel, Nat.zero_le _, _, rfl, hq2⟩) hq
      cases c2 : ((n2.kind == ("branched" : Str)) || ((n2.kind == ("stepped" : Str)) && (tg == ("step" : Str)))) with
      | false => exact iteF ⟨_, _, rfl, f45⟩
      | true =>
      refine iteT ⟨_, rfl, s, _, dx, _, .ref ln, rfl, R5.hs, Y.c_Session, Y.n_Session_nodes, rfl, _, rfl, ln, _, _, _, rfl, rfl, SqL.of R5.hn, eat2, a2, _, dxn2, _, vt2, rfl, k0, Y.c_Node, Y.n_Node_term, rfl, _, rfl, vt2, vt, n2.term, n.term, rfl, k1, h1.fr f05, W.sz n2 hmem2, hsz, fun H6 b f6 => ⟨_, rfl, ?_⟩⟩
      cases b with
      | true => exact iteT ⟨_, rfl, q2 k H6 hk (f05.trans f6)⟩
      | false => exact iteF ⟨_, _, rfl, f45.trans f6⟩
    · obtain ⟨x4, x5, rfl, f4⟩ := z
      exact q1 H4 (f03.trans f4)
  · rw [decide_eq_false c]
    exact iteT (q1 H2 f02)
def sp_Session_drive (K : PySem.W.Frag) : Sp := fun vs H Q E => ∃ s i tp pg ns, vs = [.ref s, .int (i : Nat)] ∧ Ses K tp H s pg ns ∧ WfN pg ns ∧ Wf pg ∧ rMove K tp s pg ns H Q E
theorem sc_Session_drive : FnScope ["self", "node", "own", "kind", "name"] ["self", "node"] (defScope Tx.s_Session_drive) := C8.fnScope_by (by decide +kernel)
theorem ok_drive (Y : Hf K mg) (Z : Mkr P w K mg base) : Me (L2.CX P w) P w K mg base 66 (aS K) "drive" (sp_Session_drive K) := by
  refine Y.d_Session_drive.okX sc_Session_drive (fun vs H Q E h => ?_) (fun f cdv A outer s H vs Q E hr h => ?_)
  · obtain ⟨s, i, tp, pg, ns, rfl, _⟩ := h; rfl
  have nd := sc_Session_drive.nd
  refine ⟨_, ((pss_cons (ps_set (i := 2) nd rfl (by first | exact .inl rfl | exact .inr rfl) (kmeX (E := E) (ok_open_at Y Z) hr (passes_call (takes_of rfl rfl rfl rfl) fun _ _ _ _ h => h) (pv 0) (pa_cons (pv 1) pa_nil) (hk := by omega)))
    (pss_cons (ps_set (i := 3) nd rfl (by first | exact .inl rfl | exact .inr rfl) (pe_ix ix_d (kc (ok_demand Y) hr (pa_cons (pe_fld (pv 0) rfl) (pa_cons (pe_fld (pv 2) rfl) pa_nil)) (hk := by omega)) pe_int fun _ _ => rfl))
    (pss_cons (ps_if (pt_cmpR op_ninS (pv 3) (pe_tupD (pa_cons pe_str (pa_cons pe_str pa_nil))) rfl)
        (pss_one (ps_raise rfl (takes_of rfl rfl rfl rfl) (Z.mkr rfl rfl rfl rfl rfl rfl (hr.mono (by omega)) rfl pe_str rfl))) pss_nil)
    (pss_cons (ps_if (pt_cmp (pc_notN (kmeX (E := E) (ok_whistle Y Z) hr (passes_call (takes_of rfl rfl rfl rfl) fun _ _ _ _ h => h) (pv 0) (pa_cons (pv 1) pa_nil) (hk := by omega))))
        (pss_one (ps_raise rfl (takes_of rfl rfl rfl rfl) (Z.mkr rfl rfl rfl rfl rfl rfl (hr.mono (by omega)) rfl pe_str rfl))) pss_nil)
    (pss_cons (ps_set (i := 4) nd rfl (by first | exact .inl rfl | exact .inr rfl) (pe_ifExp (pt_cmpR (op_eqD (n := 200) hr) (pv 3) pe_str rfl) pe_str pe_str))
    (pss_one (ps_ret (kmeX (E := E) (ok_close Y Z) hr (passes_call (takes_of rfl rfl rfl rfl) fun _ _ _ _ h => h) (pv 0) (pa_cons (pv 1) (pa_cons (pv 4) (pa_cons (kc (ok_drive_running Y) hr (pa_cons (pe_fld (pv 0) rfl) (pa_cons (pe_fld (pv 2) rfl) pa_nil)) (hk := by omega)) (pa_cons (pe_tupD (pa_cons pe_str (pa_cons (pv 1) pa_nil))) pa_nil)))) (hk := by omega)))))))))), ?_⟩
  obtain ⟨s, i, tp, pg, ns, rfl, hS, W, Wp, hE, q⟩ := h
  have hS' := hS
  obtain ⟨dx0, ln0, ld0, vp0, as0, ds0, R0⟩ := hS'
  refine ⟨_, rfl, s, _, _, rfl, R0.hs, rfl, _, rfl, s, i, tp, pg, ns, rfl, hS, fun n hn => kinds_fine _ (W.kd n hn), .inr hE, fun n a dx ln ld vp as ds en hop R ea hn => ?_⟩
  have hmem := List.mem_of_getElem? en
  have hi := (List.getElem?_eq_some_iff.mp en).1
  have hn' := hn
  obtain ⟨dxn, vt, vpp, vc, vg, vu, h0, h1, h2, h3, h4, h5⟩ := hn'
  have hsz := W.sz n hmem
  have hal := n.term.args_len
  refine ⟨_, rfl, s, _, dx, _, vp, rfl, R.hs, Y.c_Session, Y.n_Session_program, rfl, _, rfl, a, _, dxn, _, vt, rfl, h0, Y.c_Node, Y.n_Node_term, rfl, vp, vt, pg, n.term, rfl, R.hp, h1, Wp, W.kn n hmem, by omega, fun x H1 f1 hx => ?_⟩
  obtain ⟨dds, he⟩ := encM_tag (dem pg n.term)
  rw [he] at hx
  refine ⟨_, 0, _, rfl, hx, atI_zero _ _, fun y hy => ?_⟩
  obtain rfl := hy.strE
  have htg : tagM (dem pg n.term) ∈ tags := tag_in _
  refine ⟨_, rfl, [.str "step", .str "needs"], .cons (.str _) (.cons (.str _) .nil), by show 2 ≤ 16000000; decide, fun w2 H2 f2 hw2 => ⟨tagM (dem pg n.term), ["step", "needs"], rfl, hw2, _, rfl, ?_⟩⟩
  have f02 := f1.trans f2
  have R2 := R.kn f02
  show if (!decide (tagM (dem pg n.term) ∈ (["step", "needs"] : List Str))) = true then _ else _
  by_cases c : tagM (dem pg n.term) ∈ (["step", "needs"] : List Str)
  · rw [decide_eq_true c]
    refine iteF (nextE ?_)
    dsimp only
    refine ⟨_, rfl, s, _, _, rfl, R2.hs, rfl, _, rfl, s, i, tp, pg, ns, rfl, ⟨dx, ln, ld, vp, as, ds, R2⟩, W, Wp, hi, fun H3 f3 => ⟨_, rfl, iteF (nextE ?_)⟩, fun k H3 hk f3 => ⟨_, rfl, iteT fun d H4 f4 hd4 => hE d _ H4 ((f02.trans f3).trans f4) hd4⟩⟩
    dsimp only
    have f03 := f02.trans f3
    have R3 := R.kn f03
    have fin : ∀ (kind : Str), (kind == ("open" : Str)) = false → kind ∈ kinds → (drv pg n.term).length ≤ 1000 → (∀ m : Nd, m.kind = kind → m.term = n.term → m.ch.length = (drv pg n.term).length → m.tg = none → NdOk pg ns m) →
        tMeth (aS K) "close" (sp_Session_close K) [] E (tVar 0) (tCons (tVar 1) (tCons (tVar 4) (tCons (tCall (sp_drive_running K) [] E0 (tCons (tFld K (tVar 0) "program") (tCons (tFld K (tVar 2) "term") tNil))) (tCons (tTupD K (tCons (tC (.str "drive")) (tCons (tVar 1) tNil))) tNil))))
          [some (.ref s), some (.int (i : Nat)), some (.ref a), some (.str (tagM (dem pg n.term))), some (.str kind)] H3 Q := fun kind hk1 hk2 hl hok => by
      refine ⟨_, rfl, s, _, _, rfl, R3.hs, rfl, _, rfl, _, rfl, _, rfl, s, _, dx, _, vp, rfl, R3.hs, Y.c_Session, Y.n_Session_program, rfl, _, rfl, a, _, dxn, _, vt, rfl, f03.kn h0, Y.c_Node, Y.n_Node_term, rfl, vp, vt, pg, n.term, rfl, R3.hp, h1.fr f03, Wp, W.kn n hmem, hsz, fun x4 H4 f4 hx4 => ?_⟩
      refine ⟨_, rfl, [.str "drive", .int (i : Nat)], .cons (.str _) (.cons (.int _) .nil), by show 2 ≤ 16000000; decide, fun w5 H5 f5 hw5 => ?_⟩
      have f05 := (f03.trans f4).trans f5
      refine ⟨s, i, kind, drv pg n.term, tp, pg, ns, n, x4, w5, dx, ln, ld, vp, as, ds, a, rfl, R.kn f05, en, ea, hop, hk1, Is.fr f5 hx4, fun t ht => ?_, by omega, W.len, .inr (hE.of f05), fun H6 vc6 as6 ds6 f6 R6 ea6 hl6 hs6 hvc6 => ?_⟩
      · have := (drv_size Wp ht).1
        omega
      · refine q H6 vc6 _ (f05.no.trans f6) ⟨dx, ln, ld, vp, as6, ds6, R6⟩ ?_ (by rw [closeN_upd]; exact clo_upd en hop hk1)
        rw [closeN_upd]
        exact W.upd en hop rfl rfl rfl hl6 hs6 (fun t ht => (drv_size Wp ht).2 (W.kn n hmem)) hk2 (hok _ rfl rfl (chOf_len _ _) ((W.ok n hmem).ntg (by rw [hop]; decide +kernel)))
    cases hdm : dem pg n.term with
    | stp u =>
      rw [hdm] at fin
      have hd : drv pg n.term = [u] := by unfold drv; rw [hdm]
      refine ⟨_, rfl, .str "step", .str "needs", .str _, .str _, by decide +kernel, by decide +kernel, Nat.zero_le _, _, rfl, iteF ?_⟩
      exact fin "stepped" (by decide +kernel) kin_stepped (by rw [hd]; show 1 ≤ 1000; decide) fun m e1 e2 e3 e4 => .k_stepped e1 (by rw [e3, hd]; rfl) e4
    | nds j g =>
      rw [hdm] at fin
      have hd : (drv pg n.term).length = (rulesOf pg g).length := by unfold drv; rw [hdm]; exact List.length_map ..
      obtain ⟨_, y, nn, rs, hf, _⟩ := dem_nds Wp _ n.term (Nat.le_refl _) j g hdm
      have hrl : (rulesOf pg g).length ≤ 20 := by unfold rulesOf; rw [hf]; exact (Wp.cases y nn rs (fnOf_mem hf).1).2.2.1
      refine ⟨_, rfl, .str "needs", .str "needs", .str _, .str _, by decide +kernel, by decide +kernel, Nat.zero_le _, _, rfl, iteT ?_⟩
      exact fin "branched" (by decide +kernel) kin_branched (by omega) fun m e1 e2 e3 e4 => .k_branched e1 ⟨j, g, by rw [e2]; exact hdm, by rw [e3]; exact hd⟩ e4
    | val => rw [hdm] at c; exact absurd c (by decide +kernel)
    | unk j => rw [hdm] at c; exact absurd c (show ¬ ("unknown" : Str) ∈ (["step", "needs"] : List Str) by decide +kernel)
    | stk j => rw [hdm] at c; exact absurd c (show ¬ ("stuck" : Str) ∈ (["step", "needs"] : List Str) by decide +kernel)
    | err => rw [hdm] at c; exact absurd c (by decide +kernel)
  · rw [decide_eq_false c]
    exact iteT fun d H3 f3 hd3 => hE d _ H3 (f02.trans f3) hd3
end
end DF

namespace DF
open PySem PySem.Spec PyProof.Rows L2
theorem look_map (i : Int) (t : T) (j : Int) : ∀ θ : Tab, look (θ.map fun p => if p.1 = i then (p.1, t) else p) j = if j = i then (look θ i).map (fun _ => t) else look θ j
  | [] => by simp [look]
  | (k, u) :: θ => by
    rw [List.map_cons, look_cons, look_cons]
    have ih := look_map i t j θ
    by_cases h1 : k = i
    · subst h1
      rw [if_pos rfl, look_cons, if_pos rfl]
      by_cases h2 : k = j
      · subst h2; rw [if_pos rfl, if_pos rfl]; rfl
      · rw [if_neg h2, if_neg (fun z => h2 z.symm), ih, if_neg (fun z => h2 z.symm), if_neg h2]
    · rw [if_neg h1, look_cons, if_neg h1, ih]
      by_cases h2 : k = j
      · subst h2; rw [if_pos rfl, if_neg h1, if_pos rfl]
      · rw [if_neg h2, if_neg h2]
theorem look_none_of {θ : Tab} {i : Int} (h : ¬ (θ.any fun p => decide (p.1 = i)) = true) : look θ i = none := by
  unfold look
  rw [Option.map_eq_none_iff, List.find?_eq_none]
  intro p hp hh
  exact h (List.any_eq_true.mpr ⟨p, hp, hh⟩)
theorem look_set1 (θ : Tab) (i : Int) (t : T) (j : Int) : look (set1 θ i t) j = if j = i then some t else look θ j := by
  unfold set1
  split
  · rename_i h
    rw [look_map]
    by_cases h2 : j = i
    · rw [if_pos h2, if_pos h2]
      obtain ⟨p, hp, hh⟩ := List.any_eq_true.mp h
      have hs : (look θ i).isSome = true := by
        unfold look
        rw [Option.isSome_map, List.find?_isSome]
        exact ⟨p, hp, hh⟩
      obtain ⟨u, hu⟩ := Option.isSome_iff_exists.mp hs
      rw [hu]; rfl
    · rw [if_neg h2, if_neg h2]
  · rename_i h
    exact look_snoc (look_none_of h)
theorem look_fold_not {i : Int} : ∀ {ps : List (Int × T)} {θ : Tab}, i ∉ ps.map (·.1) → look (ps.foldl (fun θ p => set1 θ p.1 p.2) θ) i = look θ i
  | [], _, _ => rfl
  | p :: ps, θ, h => by
    rw [List.map_cons, List.mem_cons, not_or] at h
    rw [List.foldl_cons, look_fold_not h.2, look_set1, if_neg h.1]
theorem look_fold {p : Int × T} : ∀ {ps : List (Int × T)} {θ : Tab}, (ps.map (·.1)).Nodup → p ∈ ps → look (ps.foldl (fun θ p => set1 θ p.1 p.2) θ) p.1 = some p.2
  | [], _, _, h => absurd h List.not_mem_nil
  | q :: ps, θ, n, h => by
    rw [List.map_cons, List.nodup_cons] at n
    rw [List.foldl_cons]
    rcases List.mem_cons.mp h with e | h
    · subst e
      rw [look_fold_not n.1, look_set1, if_pos rfl]
    · exact look_fold n.2 h
theorem look_tabOf {ps : List (Int × T)} {p : Int × T} (n : (ps.map (·.1)).Nodup) (h : p ∈ ps) : look (tabOf ps) p.1 = some p.2 := look_fold n h
theorem SplitOk.kn {pg : Prog} {t b : T} {ps : List (Int × T)} (h : SplitOk t b ps) (k : Kn pg t) : Kn pg b ∧ ∀ p ∈ ps, Kn pg p.2 :=
  ⟨fun x hx lx => k x (h.eq ▸ rep_nam hx) lx, fun p hp x hx lx => k x (h.eq ▸ rep_unk (look_tabOf h.nd hp) hx (mem_unks.mp (h.st p hp))) lx⟩
theorem opens_same : ∀ {ns : List Nd} {i : Nat} {n m : Nd}, ns[i]? = some n → (m.kind == ("open" : Str)) = (n.kind == ("open" : Str)) → opens (ns.set i m) = opens ns
  | [], _, _, _, e, _ => by simp at e
  | x :: xs, 0, n, m, e, hk => by
    simp at e
    subst e
    unfold opens
    rw [List.set_cons_zero, List.filter_cons, List.filter_cons, hk]
    split <;> rfl
  | x :: xs, i + 1, n, m, e, hk => by
    have ih := opens_same (ns := xs) (i := i) (m := m) (by simpa using e) hk
    unfold opens at ih ⊢
    rw [List.set_cons_succ, List.filter_cons, List.filter_cons]
    split
    · rw [List.length_cons, List.length_cons, ih]
    · exact ih
section
variable {P : Program} {w : World} {K : PySem.W.Frag} {mg : Str → Option Value} {base : Heap}
/-- a field of a node is set -/
theorem SesR.setNd {tp : Addr → Prop} {s dx ln ld a dxn : Addr} {H : Hp} {pg : Prog} {ns : List Nd} {vp : V} {as : List Addr} {ds : List V} {i : Nat} {n m : Nd} {f f' : List (Str × V)} (R : SesR K tp H s pg ns dx ln ld vp as ds) (en : ns[i]? = some n) (ea : as[i]? = some a) (h0 : H a = some (.ins (aN K) dxn f)) (hf : sesF vp ln ld ≠ f)
    (hk : (m.kind == ("open" : Str)) = (n.kind == ("open" : Str))) (hm : NdAt K (upd H a (.ins (aN K) dxn f')) a m) : SesR K tp (upd H a (.ins (aN K) dxn f')) s pg (ns.set i m) dx ln ld vp as ds := by
  have nas : a ≠ s := (kind_ne R.hs h0 hf).symm
  have naln : a ≠ ln := fun z => by rw [z, R.hn] at h0; cases h0
  have nald : a ≠ ld := fun z => by rw [z, R.hd] at h0; cases h0
  have natp := R.t4 a (List.mem_of_getElem? ea)
  have g : Fr (At a) H (upd H a (.ins (aN K) dxn f')) := Fr.refl.mut rfl h0 fun z => z
  have ho := opens_same en hk
  exact ⟨g.k _ _ nas.symm R.hs, R.hp.fr g, g.k _ _ naln.symm R.hn, g.k _ _ nald.symm R.hd, paired_upd R.nd R.un ea (fun x' y' hne h => h.fr g fun z => hne z) hm, R.un, R.nld, by rw [ho, List.length_set]; exact R.dl, R.t1, R.t2, R.t3, R.t4, fun b hb => let ⟨o, hto⟩ := R.ht b hb; ⟨o, g.k _ _ (fun z => natp (by rw [← show b = a from z]; exact hb)) hto⟩⟩
def sp_Session_split (K : PySem.W.Frag) : Sp := fun vs H Q E => ∃ s i tp pg ns vb vps b ps, vs = [.ref s, .int (i : Nat), vb, vps] ∧ Ses K tp H s pg ns ∧ WfN pg ns ∧ Tm K H vb b ∧ Prt K H vps ps ∧ b.size ≤ 60 ∧ ps.length ≤ 1000 ∧ (∀ p ∈ ps, p.2.size ≤ 60) ∧ rMove K tp s pg ns H Q E
theorem sc_Session_split : FnScope ["self", "node", "body", "parts", "own", "problem", "terms", "pair", "children"] ["self", "node", "body", "parts"] (defScope Tx.s_Session_split) := C8.fnScope_by (by decide +kernel)
theorem ok_split (Y : Hf K mg) (Z : Mkr P w K mg base) : Me (L2.CX P w) P w K mg base 66 (aS K) "split" (sp_Session_split K) := by
  refine Y.d_Session_split.okX sc_Session_split (fun vs H Q E h => ?_) (fun f cdv A outer s H vs Q E hr h => ?_)
  · obtain ⟨s, i, tp, pg, ns, vb, vps, b, ps, rfl, _⟩ := h; rfl
  have nd := sc_Session_split.nd
  refine ⟨_, ((pss_cons (ps_set (i := 4) nd rfl (by first | exact .inl rfl | exact .inr rfl) (kmeX (E := E) (ok_open_at Y Z) hr (passes_call (takes_of rfl rfl rfl rfl) fun _ _ _ _ h => h) (pv 0) (pa_cons (pv 1) pa_nil) (hk := by omega)))
    (pss_cons (ps_set (i := 5) nd rfl (by first | exact .inl rfl | exact .inr rfl) (kc (ok_split_problem Y) hr (pa_cons (pe_fld (pv 4) rfl) (pa_cons (pv 2) (pa_cons (pv 3) pa_nil))) (hk := by omega)))
    (pss_cons (ps_if (pt_cmp (pc_notN (pv 5)))
        (pss_one (ps_raise rfl (takes_of rfl rfl rfl rfl) (Z.mkr rfl rfl rfl rfl rfl rfl (hr.mono (by omega)) rfl (pv 5) rfl))) pss_nil)
    (pss_cons (ps_set (i := 6) nd rfl (by first | exact .inl rfl | exact .inr rfl) (pe_op op_catD (pe_tupD (pa_cons (pv 2) pa_nil)) (k_tup Y.z_tuple (pe_lc (own := [("pair", 7)]) (g := (gName 7)) (tt := tYes) (te := (tOp (rD K) (tVar 7) (tC (.int 1)))) rfl nd (pi_tup (pv 3)) (blkOk_by (own := [("pair", 7)]) (N := ["self", "node", "body", "parts", "own", "problem", "terms", "pair", "children"]) (sc := defScope Tx.s_Session_split) (by decide +kernel)) (fun _ _ _ _ _ => (pg_name (i := 7) nd rfl (by first | exact .inl rfl | exact .inr rfl))) (fun _ _ _ _ _ => pts_nil) (fun _ _ _ _ _ => (pe_ix ix_d (pv 7) pe_int fun _ _ => rfl))))))
    (pss_cons (ps_set (i := 8) nd rfl (by first | exact .inl rfl | exact .inr rfl) (kmeX (E := E) (ok_close Y Z) hr (passes_call (takes_of rfl rfl rfl rfl) fun _ _ _ _ h => h) (pv 0) (pa_cons (pv 1) (pa_cons pe_str (pa_cons (pv 6) (pa_cons (pe_tupD (pa_cons pe_str (pa_cons (pv 1) (pa_cons (pv 2) (pa_cons (pv 3) pa_nil))))) pa_nil)))) (hk := by omega)))
    (pss_cons (ps_fld (pv 4) (k_tup Y.z_tuple (pe_lc (own := [("pair", 7)]) (g := (gName 7)) (tt := tYes) (te := (tOp (rD K) (tVar 7) (tC (.int 0)))) rfl nd (pi_tup (pv 3)) (blkOk_by (own := [("pair", 7)]) (N := ["self", "node", "body", "parts", "own", "problem", "terms", "pair", "children"]) (sc := defScope Tx.s_Session_split) (by decide +kernel)) (fun _ _ _ _ _ => (pg_name (i := 7) nd rfl (by first | exact .inl rfl | exact .inr rfl))) (fun _ _ _ _ _ => pts_nil) (fun _ _ _ _ _ => (pe_ix ix_d (pv 7) pe_int fun _ _ => rfl)))) rfl)
    (pss_one (ps_ret (pv 8)))))))))), ?_⟩
  obtain ⟨s, i, tp, pg, ns, vb, vps, b, ps, rfl, hS, W, hb, hps, hz1, hz2, hz3, hE, q⟩ := h
  have hS' := hS
  obtain ⟨dx0, ln0, ld0, vp0, as0, ds0, R0⟩ := hS'
  refine ⟨_, rfl, s, _, _, rfl, R0.hs, rfl, _, rfl, s, i, tp, pg, ns, rfl, hS, fun n hn => kinds_fine _ (W.kd n hn), .inr hE, fun n a dx ln ld vp as ds en hop R ea hn => ?_⟩
  have hmem := List.mem_of_getElem? en
  have hi := (List.getElem?_eq_some_iff.mp en).1
  have hn' := hn
  obtain ⟨dxn, vt, vpp, vc, vg, vu, h0, h1, h2, h3, h4, h5⟩ := hn'
  have hsz := W.sz n hmem
  refine ⟨_, rfl, a, _, dxn, _, vt, rfl, h0, Y.c_Node, Y.n_Node_term, rfl, _, rfl, _, rfl, vt, vb, vps, n.term, b, ps, rfl, h1, hb, hps, hsz, hz1, hz2, hz3, fun x H1 f1 => ?_, fun hok H1 f1 => ?_⟩
  · exact ⟨_, rfl, _, rfl, iteT ⟨_, rfl, fun d H2 f2 hd2 => hE d _ H2 (f1.trans f2) hd2⟩⟩
  refine ⟨_, rfl, _, rfl, iteF (nextE ?_)⟩
  dsimp only
  have R1 := R.kn f1
  have hps' := hps.is.tupE
  obtain ⟨av, xs, rfl, ta, ia⟩ := hps'
  refine ⟨_, rfl, [enc b], .cons (hb.fr f1) .nil, by show 1 ≤ 16000000; decide, fun w2 H2 f2 hw2 => ?_⟩
  have f02 := f1.trans f2
  refine ⟨_, rfl, av, rfl, ⟨_, (ta.fr f02).sq⟩, fun D hD => lcD (K := K) (l := ps) (en := prD) (f := fun p => some (enc p.2)) (dwT (S := No) (ta.fr f02) (ia.fr f02)) hD (by omega) (fun r x H3 yes no _ f3 hx yesH noH => ?_) fun H3 ys f3 hD3 hys => ?_⟩
  · exact ⟨rfl, yesT ⟨_, rfl, _, 1, _, rfl, hx, rfl, fun y hy => yesH y H3 _ .refl hy rfl⟩⟩
  rw [fm_some] at hys
  refine ⟨D, ys, _, rfl, hD3, hys, fun w4 H4 f4 hw4 => ⟨_, _, (hw2.fr f3).fr f4, hw4, ?_, fun w5 H5 f5 hw5 => ?_⟩⟩
  · rw [List.length_map, List.length_singleton]; omega
  have f25 := (f3.trans f4).trans f5
  have f05 := f02.trans f25
  have R5 := R.kn f05
  have hts : [enc b] ++ ps.map (fun p => enc p.2) = (b :: ps.map (·.2)).map enc := by rw [List.map_cons, List.map_map]; rfl
  rw [hts] at hw5
  refine ⟨_, rfl, s, _, _, rfl, R5.hs, rfl, _, rfl, _, rfl, _, rfl, _, rfl, _, rfl, [.str "split", .int (i : Nat), enc b, .tuple (ps.map prD)], .cons (.str _) (.cons (.int _) (.cons (hb.fr f05) (.cons (Is.fr f05 hps.is) .nil))), by show 4 ≤ 16000000; decide, fun w6 H6 f6 hw6 => ?_⟩
  have f06 := f05.trans f6
  refine ⟨s, i, "split", b :: ps.map (·.2), tp, pg, ns, n, w5, w6, dx, ln, ld, vp, as, ds, a, rfl, R.kn f06, en, ea, hop, by decide +kernel, Is.fr f6 hw5, fun t ht => ?_, by rw [List.length_cons, List.length_map]; omega, W.len, .inr (hE.of f06), fun H7 vc7 as7 ds7 f7 R7 ea7 hl7 hs7 hvc7 => ?_⟩
  · rcases List.mem_cons.mp ht with e | h
    · rw [e]; omega
    · obtain ⟨p, hp, rfl⟩ := List.mem_map.mp h
      have := hz3 p hp
      omega
  have ta7 := (ta.fr f06).fr f7
  have ia7 := (ia.fr f06).fr f7
  refine ⟨_, rfl, av, rfl, ⟨_, ta7.sq⟩, fun D2 hD2 => lcD (K := K) (l := ps) (en := prD) (f := fun p => some (.int p.1)) (dwT (S := No) ta7 ia7) hD2 (by omega) (fun r x H3 yes no _ f3 hx yesH noH => ?_) fun H8 ys8 f8 hD8 hys8 => ?_⟩
  · exact ⟨rfl, yesT ⟨_, rfl, _, 0, _, rfl, hx, rfl, fun y hy => yesH y H3 _ .refl hy rfl⟩⟩
  rw [fm_some] at hys8
  refine ⟨D2, ys8, _, rfl, hD8, hys8, fun w9 H9 f9 hw9 => ?_⟩
  have f79 := f8.trans f9
  have R9 := R7.kn f79
  rw [closeN_upd] at R9
  have en9 : (updN ns i { n with kind := "split", ch := chOf ns.length (b :: ps.map (·.2)).length } (b :: ps.map (·.2)))[i]? = some _ := updN_at hi
  obtain ⟨a9, ea9, _, dx9, vt9, vpp9, vc9, vg9, vu9, k0, k1, k2, k3, k4, k5⟩ := R9.at en9
  rw [ea7] at ea9
  cases ea9
  refine ⟨_, rfl, a, _, dx9, _, rfl, k0, Y.c_Node, Y.n_Node_unknowns, by show 6 < 1000; decide, ?_⟩
  have g : Fr (At a) H9 (upd H9 a (.ins (aN K) dx9 (ndF vt9 vpp9 (.str "split") vc9 vg9 w9))) := Fr.refl.mut rfl k0 fun z => z
  have e8 : ps.map (fun p => PyData.int p.1) = (ps.map (·.1)).map PyData.int := by rw [List.map_map]; rfl
  rw [e8] at hw9
  have Rf := R9.setNd (m := { n with kind := "split", ch := chOf ns.length (b :: ps.map (·.2)).length, us := ps.map (·.1) }) (f' := ndF vt9 vpp9 (.str "split") vc9 vg9 w9) en9 ea7 k0 ses_ne_nd rfl ⟨dx9, vt9, vpp9, vc9, vg9, w9, upd_same, k1.fr g, k2.fr g, k3.fr g, k4.fr g, Is.fr g hw9⟩
  rw [updN_set hi] at Rf
  refine ⟨_, rfl, q _ vc7 _ (((f06.no.trans f7).trans f79.no).trans (g.mono fun b' z => by rw [show b' = a from z]; exact R.t4 a (List.mem_of_getElem? ea))) ⟨dx, ln, ld, vp, as7, ds7, Rf⟩ ?_ (clo_upd en hop (by show (("split" : Str) == "open") = false; decide +kernel))⟩
  have hkn := hok.kn (W.kn n hmem)
  refine W.upd en hop rfl rfl rfl hl7 hs7 (fun t ht => ?_) kin_split (.k_split rfl (by rw [chOf_len, List.length_cons, List.length_map, List.length_map]) ((W.ok n hmem).ntg (by rw [hop]; decide +kernel)))
  rcases List.mem_cons.mp ht with e | h
  · rw [e]; exact hkn.1
  · obtain ⟨p, hp, rfl⟩ := List.mem_map.mp h
    exact hkn.2 p hp
end
end DF

namespace DF
open PySem PySem.Spec PyProof.Rows L2
section
variable {P : Program} {w : World} {K : PySem.W.Frag} {mg : Str → Option Value} {base : Heap}
def sp_Session_fold (K : PySem.W.Frag) : Sp := fun vs H Q E => ∃ s i k tp pg ns, vs = [.ref s, .int (i : Nat), .int (k : Nat)] ∧ Ses K tp H s pg ns ∧ WfN pg ns ∧ k < ns.length ∧ rMove K tp s pg ns H Q E
theorem sc_Session_fold : FnScope ["self", "node", "other", "own", "terms", "children"] ["self", "node", "other"] (defScope Tx.s_Session_fold) := C8.fnScope_by (by decide +kernel)
theorem ok_fold (Y : Hf K mg) (Z : Mkr P w K mg base) : Me (L2.CX P w) P w K mg base 66 (aS K) "fold" (sp_Session_fold K) := by
  obtain ⟨da, hDr, hDi⟩ := Z.drvn
  refine Y.d_Session_fold.okX sc_Session_fold (fun vs H Q E h => ?_) (fun f cdv A outer s H vs Q E hr h => ?_)
  · obtain ⟨s, i, k, tp, pg, ns, rfl, _⟩ := h; rfl
  have nd := sc_Session_fold.nd
  refine ⟨_, ((pss_cons (ps_set (i := 3) nd rfl (by first | exact .inl rfl | exact .inr rfl) (kmeX (E := E) (ok_open_at Y Z) hr (passes_call (takes_of rfl rfl rfl rfl) fun _ _ _ _ h => h) (pv 0) (pa_cons (pv 1) pa_nil) (hk := by omega)))
    (pss_cons (ps_if (PW.pt (pw_or (pt_not (pt_chain op_le op_lt pe_int (pv 2) (k_lenL Y.z_len (pe_fld (pv 0) rfl)))) (pw_or1 (pt_cmpR op_ninS (pe_fld (pe_ix ix_list (pe_fld (pv 0) rfl) (pv 2) fun _ _ => rfl) rfl) (pe_glob (v := .ref da) rfl hDr rfl) rfl))))
        (pss_one (ps_raise rfl (takes_of rfl rfl rfl rfl) (Z.mkr rfl rfl rfl rfl rfl rfl (hr.mono (by omega)) rfl pe_str rfl))) pss_nil)
    (pss_cons (ps_set (i := 4) nd rfl (by first | exact .inl rfl | exact .inr rfl) (kc (ok_fold_parts Y) hr (pa_cons (pe_fld (pe_ix ix_list (pe_fld (pv 0) rfl) (pv 2) fun _ _ => rfl) rfl) (pa_cons (pe_fld (pv 3) rfl) pa_nil)) (hk := by omega)))
    (pss_cons (ps_if (pt_cmp (pc_isN (pv 4)))
        (pss_one (ps_raise rfl (takes_of rfl rfl rfl rfl) (Z.mkr rfl rfl rfl rfl rfl rfl (hr.mono (by omega)) rfl pe_str rfl))) pss_nil)
    (pss_cons (ps_set (i := 5) nd rfl (by first | exact .inl rfl | exact .inr rfl) (kmeX (E := E) (ok_close Y Z) hr (passes_call (takes_of rfl rfl rfl rfl) fun _ _ _ _ h => h) (pv 0) (pa_cons (pv 1) (pa_cons pe_str (pa_cons (pv 4) (pa_cons (pe_tupD (pa_cons pe_str (pa_cons (pv 1) (pa_cons (pv 2) pa_nil)))) pa_nil)))) (hk := by omega)))
    (pss_cons (ps_fld (pv 3) (pv 2) rfl)
    (pss_one (ps_ret (pv 5)))))))))), ?_⟩
  obtain ⟨s, i, k, tp, pg, ns, rfl, hS, W, hk, hE, q⟩ := h
  have hS' := hS
  obtain ⟨dx0, ln0, ld0, vp0, as0, ds0, R0⟩ := hS'
  refine ⟨_, rfl, s, _, _, rfl, R0.hs, rfl, _, rfl, s, i, tp, pg, ns, rfl, hS, fun n hn => kinds_fine _ (W.kd n hn), .inr hE, fun n a dx ln ld vp as ds en hop R ea hn => ?_⟩
  have hmem := List.mem_of_getElem? en
  have hi := (List.getElem?_eq_some_iff.mp en).1
  have hal := paired_len R.nd
  have hn' := hn
  obtain ⟨dxn, vt, vpp, vc, vg, vu, h0, h1, h2, h3, h4, h5⟩ := hn'
  have hsz := W.sz n hmem
  obtain ⟨n2, en2⟩ : ∃ n, ns[k]? = some n := ⟨_, List.getElem?_eq_getElem hk⟩
  have hmem2 := List.mem_of_getElem? en2
  obtain ⟨a2, ea2, eat2, dxn2, vt2, vpp2, vc2, vg2, vu2, k0, k1, k2, k3, k4, k5⟩ := R.at en2
  refine ⟨_, rfl, 0, k, rfl, rfl, _, rfl, ?_⟩
  rw [show decide ((0 : Int) ≤ ((k : Nat) : Int)) = true from decide_eq_true (by omega)]
  refine iteT ⟨_, rfl, s, _, dx, _, .ref ln, rfl, R.hs, Y.c_Session, Y.n_Session_nodes, rfl, ln, _, rfl, .inl (SqL.of R.hn), _, _, rfl, rfl, _, rfl, ?_⟩
  rw [List.length_map, hal, show decide (((k : Nat) : Int) < ((ns.length : Nat) : Int)) = true from decide_eq_true (by omega)]
  refine iteF ⟨_, rfl, s, _, dx, _, .ref ln, rfl, R.hs, Y.c_Session, Y.n_Session_nodes, rfl, _, rfl, ln, _, _, _, rfl, rfl, SqL.of R.hn, eat2, a2, _, dxn2, _, _, rfl, k0, Y.c_Node, Y.n_Node_kind, rfl, n2.kind, ["stepped", "branched"], rfl, hDi H, _, rfl, ?_⟩
  show if (!decide (n2.kind ∈ (["stepped", "branched"] : List Str))) = true then _ else _
  by_cases c : n2.kind ∈ (["stepped", "branched"] : List Str)
  · rw [decide_eq_true c]
    have hdr : n2.kind = ("stepped" : Str) ∨ n2.kind = ("branched" : Str) := by simpa using c
    refine iteF (nextE ?_)
    dsimp only
    refine ⟨_, rfl, s, _, dx, _, .ref ln, rfl, R.hs, Y.c_Session, Y.n_Session_nodes, rfl, _, rfl, ln, _, _, _, rfl, rfl, SqL.of R.hn, eat2, a2, _, dxn2, _, vt2, rfl, k0, Y.c_Node, Y.n_Node_term, rfl, ?_⟩
    refine ⟨_, rfl, a, _, dxn, _, vt, rfl, h0, Y.c_Node, Y.n_Node_term, rfl, vt2, n2.term, vt, n.term, rfl, k1, h1, W.sz n2 hmem2, hsz, ?_⟩
    cases em : matchP n2.term n.term with
    | none =>
      intro H1 f1
      exact ⟨_, rfl, _, rfl, iteT fun d H2 f2 hd2 => hE d _ H2 (f1.trans f2) hd2⟩
    | some ps =>
      intro x H1 f1 hx
      have hx' := hx
      obtain ⟨ax, xs, rfl, _, _⟩ := hx'.tupE
      refine ⟨_, rfl, _, rfl, iteF (nextE ?_)⟩
      dsimp only
      have R1 := R.kn f1
      obtain ⟨hp1, hp2⟩ := matchP_parts em
      have hbg : ∀ t ∈ bigs ps, t.size ≤ n.term.size ∧ ∀ y ∈ t.heads, y ∈ n.term.heads := fun t ht => by
        unfold bigs at ht
        obtain ⟨p, hp, e⟩ := List.mem_filterMap.mp ht
        split at e
        · cases e
        · cases e; exact hp2 p hp
      have hbl : (bigs ps).length ≤ 60 := by
        have h1 := List.length_filterMap_le (fun p : Int × T => if p.2.isVar = true then none else some p.2) ps
        have h2 := congrArg List.length hp1
        rw [List.length_map] at h2
        have h3 := unks_len n2.term
        have h4 := W.sz n2 hmem2
        unfold bigs
        omega
      refine ⟨_, rfl, s, _, _, rfl, R1.hs, rfl, _, rfl, _, rfl, _, rfl, _, rfl, [.str "fold", .int (i : Nat), .int (k : Nat)], .cons (.str _) (.cons (.int _) (.cons (.int _) .nil)), by show 3 ≤ 16000000; decide, fun w6 H6 f6 hw6 => ?_⟩
      have f06 := f1.trans f6
      refine ⟨s, i, "folded", bigs ps, tp, pg, ns, n, .ref ax, w6, dx, ln, ld, vp, as, ds, a, rfl, R.kn f06, en, ea, hop, by decide +kernel, Is.fr f6 hx, fun t ht => by have := (hbg t ht).1; omega, by omega, W.len, .inr (hE.of f06), fun H7 vc7 as7 ds7 f7 R7 ea7 hl7 hs7 hvc7 => ?_⟩
      rw [closeN_upd] at R7
      have en9 : (updN ns i { n with kind := "folded", ch := chOf ns.length (bigs ps).length } (bigs ps))[i]? = some _ := updN_at hi
      obtain ⟨a9, ea9, _, dx9, vt9, vpp9, vc9, vg9, vu9, j0, j1, j2, j3, j4, j5⟩ := R7.at en9
      rw [ea7] at ea9
      cases ea9
      refine ⟨_, rfl, _, rfl, a, _, dx9, _, rfl, j0, Y.c_Node, Y.n_Node_target, by show 6 < 1000; decide, ?_⟩
      have g : Fr (At a) H7 (upd H7 a (.ins (aN K) dx9 (ndF vt9 vpp9 (.str "folded") vc9 (.int (k : Nat)) vu9))) := Fr.refl.mut rfl j0 fun z => z
      have Rf := R7.setNd (m := { n with kind := "folded", ch := chOf ns.length (bigs ps).length, tg := some k }) (f' := ndF vt9 vpp9 (.str "folded") vc9 (.int (k : Nat)) vu9) en9 ea7 j0 ses_ne_nd rfl ⟨dx9, vt9, vpp9, vc9, .int (k : Nat), vu9, upd_same, j1.fr g, j2.fr g, j3.fr g, .int _, j5.fr g⟩
      rw [updN_set hi] at Rf
      refine ⟨_, rfl, q _ vc7 _ ((f06.no.trans f7).trans (g.mono fun b' z => by rw [show b' = a from z]; exact R.t4 a (List.mem_of_getElem? ea))) ⟨dx, ln, ld, vp, as7, ds7, Rf⟩ ?_ (clo_upd en hop (by show (("folded" : Str) == "open") = false; decide +kernel))⟩
      exact W.upd en hop rfl rfl rfl hl7 hs7 (fun t ht y hy ly => W.kn n hmem y ((hbg t ht).2 _ hy) ly) kin_folded (.k_folded rfl ⟨k, n2, ps, rfl, en2, hdr, em, chOf_len _ _⟩)
  · rw [decide_eq_false c]
    exact iteT fun d H2 f2 hd2 => hE d _ H2 f2 hd2
end
end DF

namespace DF
open PySem PySem.Spec PyProof.Rows L2
section
variable {P : Program} {w : World} {K : PySem.W.Frag} {mg : Str → Option Value} {base : Heap}
def rowD (n : Nd) : PyData := .tuple [.str n.kind, enc n.term, natsD n.ch, optD n.tg, intsD n.us]
def sp_Session_graph (K : PySem.W.Frag) : Sp := fun vs H Q E => ∃ s tp pg ns, vs = [.ref s] ∧ Ses K tp H s pg ns ∧ WfN pg ns ∧ openAt 0 ns = [] ∧ Rt K H Q (.tuple (ns.map rowD))
theorem sc_Session_graph : FnScope ["self", "own"] ["self"] (defScope Tx.s_Session_graph) := C8.fnScope_by (by decide +kernel)
theorem ok_graph (Y : Hf K mg) (Z : Mkr P w K mg base) : Me (L2.CX P w) P w K mg base 4 (aS K) "graph" (sp_Session_graph K) := by
  refine Y.d_Session_graph.okX sc_Session_graph (fun vs H Q E h => ?_) (fun f cdv A outer s H vs Q E hr h => ?_)
  · obtain ⟨s, tp, pg, ns, rfl, _⟩ := h; rfl
  have nd := sc_Session_graph.nd
  refine ⟨_, ((pss_cons (ps_if (pt_tru (kme0 (ok_open_nodes Y) hr (pv 0) (hk := by omega)))
        (pss_one (ps_raise rfl (takes_of rfl rfl rfl rfl) (Z.mkr rfl rfl rfl rfl rfl rfl (hr.mono (by omega)) rfl pe_str rfl))) pss_nil)
    (pss_one (ps_ret (k_tup Y.z_tuple (pe_lc (own := [("own", 1)]) (g := (gName 1)) (tt := tYes) (te := (tTupD K (tCons (tFld K (tVar 1) "kind") (tCons (tFld K (tVar 1) "term") (tCons (tFld K (tVar 1) "children") (tCons (tFld K (tVar 1) "target") (tCons (tFld K (tVar 1) "unknowns") tNil))))))) rfl nd (pi_list (pe_fld (pv 0) rfl)) (blkOk_by (own := [("own", 1)]) (N := ["self", "own"]) (sc := defScope Tx.s_Session_graph) (by decide +kernel)) (fun _ _ _ _ _ => (pg_name (i := 1) nd rfl (by first | exact .inl rfl | exact .inr rfl))) (fun _ _ _ _ _ => pts_nil) (fun _ _ _ _ _ => (pe_tupD (pa_cons (pe_fld (pv 1) rfl) (pa_cons (pe_fld (pv 1) rfl) (pa_cons (pe_fld (pv 1) rfl) (pa_cons (pe_fld (pv 1) rfl) (pa_cons (pe_fld (pv 1) rfl) pa_nil))))))))))))), ?_⟩
  obtain ⟨s, tp, pg, ns, rfl, ⟨dx, ln, ld, vp, as, ds, R⟩, W, ho, q⟩ := h
  have hal := paired_len R.nd
  refine ⟨_, rfl, s, _, _, rfl, R.hs, rfl, s, tp, pg, ns, rfl, ⟨dx, ln, ld, vp, as, ds, R⟩, W, fun x H1 f1 hx => ⟨_, hx, ?_⟩⟩
  rw [ho]
  refine iteF (nextE ?_)
  dsimp only
  have R1 := R.kn f1
  refine ⟨_, rfl, s, _, dx, _, .ref ln, rfl, R1.hs, Y.c_Session, Y.n_Session_nodes, rfl, ln, rfl, ⟨_, SqL.of R1.hn⟩, fun D hD => ?_⟩
  refine lc_it (walk_list (K := K) (a := ln) (xs := as.map V.ref)) (fun i H' => Fr No H1 H' ∧ ∃ ys, H' D = some (.lst ys) ∧ IsAll K H' ys ((ns.take i).map rowD)) ⟨Fr.new0 hD, [], upd_same, .nil⟩ (fun i H' _ z => SqL.of (z.1.kn R1.hn)) (fun i x H2 H3 hlt z yy => ?_) fun H2 z => ?_
  · obtain ⟨f2, ys, hD2, hys⟩ := z
    obtain ⟨rfl, e2⟩ := yy
    rw [List.length_map] at hlt
    rw [List.getElem?_map] at e2
    obtain ⟨n, en⟩ : ∃ n, ns[i]? = some n := ⟨_, List.getElem?_eq_getElem (by omega)⟩
    obtain ⟨a, ea, _, hn⟩ := R1.at en
    rw [ea] at e2
    cases e2
    obtain ⟨dxn, vt, vpp, vc, vg, vu, h0, h1, h2, h3, h4, h5⟩ := hn.fr f2 (fun z => z)
    refine ⟨rfl, yesT ⟨_, rfl, a, _, dxn, _, _, rfl, h0, Y.c_Node, Y.n_Node_kind, rfl, _, rfl, a, _, dxn, _, vt, rfl, h0, Y.c_Node, Y.n_Node_term, rfl, _, rfl, a, _, dxn, _, vc, rfl, h0, Y.c_Node, Y.n_Node_children, rfl, _, rfl, a, _, dxn, _, vg, rfl, h0, Y.c_Node, Y.n_Node_target, rfl, _, rfl, a, _, dxn, _, vu, rfl, h0, Y.c_Node, Y.n_Node_unknowns, rfl, ?_⟩⟩
    refine ⟨_, .cons (.str _) (.cons h1 (.cons h3 (.cons h4 (.cons h5 .nil)))), by show 5 ≤ 16000000; decide, fun w4 H4 f4 hw4 => ⟨ys, f4.kn hD2, lt_line ?_, (f2.trans f4).new hD, ys ++ [w4], upd_same, ?_⟩⟩
    · rw [hys.len, List.length_map]
      have h1 := List.length_take_le' i ns
      have := W.len
      omega
    · have g : Fr (At D) H4 (upd H4 D (.lst (ys ++ [w4]))) := Fr.refl.mut rfl (f4.kn hD2) fun z => z
      rw [take_snoc en, List.map_append]
      exact ((hys.fr f4).fr g).append (.cons (Is.fr g hw4) .nil)
  · obtain ⟨f2, ys, hD2, hys⟩ := z
    rw [List.length_map, hal, List.take_length] at hys
    exact ⟨D, ys, _, rfl, hD2, hys, fun r H3 f3 hr3 => q r H3 ((f1.trans f2).trans f3) hr3⟩
def sp_Session_fold_on_way (K : PySem.W.Frag) : Sp := fun vs H Q E => ∃ s i tp pg ns, vs = [.ref s, .int (i : Nat)] ∧ Ses K tp H s pg ns ∧ WfN pg ns ∧ i < ns.length ∧ rMove K tp s pg ns H Q E
theorem sc_Session_fold_on_way : FnScope ["self", "number", "term", "other"] ["self", "number"] (defScope Tx.s_Session_fold_on_way) := C8.fnScope_by (by decide +kernel)
theorem ok_fold_on_way (Y : Hf K mg) (Z : Mkr P w K mg base) : Me (L2.CX P w) P w K mg base 67 (aS K) "fold_on_way" (sp_Session_fold_on_way K) := by
  obtain ⟨da, hDr, hDi⟩ := Z.drvn
  refine Y.d_Session_fold_on_way.okX sc_Session_fold_on_way (fun vs H Q E h => ?_) (fun f cdv A outer s H vs Q E hr h => ?_)
  · obtain ⟨s, i, tp, pg, ns, rfl, _⟩ := h; rfl
  have nd := sc_Session_fold_on_way.nd
  refine ⟨_, ((pss_cons (ps_set (i := 2) nd rfl (by first | exact .inl rfl | exact .inr rfl) (pe_fld (pe_ix ix_list (pe_fld (pv 0) rfl) (pv 1) fun _ _ => rfl) rfl))
    (pss_cons (ps_for (passes_of rfl) rfl (pi_tup (kmeX (E := E) (ok_way Y Z) hr (passes_call (takes_of rfl rfl rfl rfl) fun _ _ _ _ h => h) (pv 0) (pa_cons (pv 1) pa_nil) (hk := by omega))) (pg_name (i := 3) nd rfl (by first | exact .inl rfl | exact .inr rfl))
        (pss_one (ps_if (PW.pt (pw_and (pt_cmpR op_inS (pe_fld (pe_ix ix_list (pe_fld (pv 0) rfl) (pv 3) fun _ _ => rfl) rfl) (pe_glob (v := .ref da) rfl hDr rfl) rfl) (pw_and1 (pt_cmp (pc_notN (kc (ok_match Y 60) hr (pa_cons (pe_fld (pe_ix ix_list (pe_fld (pv 0) rfl) (pv 3) fun _ _ => rfl) rfl) (pa_cons (pv 2) pa_nil)) (hk := by omega)))))))
            (pss_one (ps_ret (kmeX (E := E) (ok_fold Y Z) hr (passes_call (takes_of rfl rfl rfl rfl) fun _ _ _ _ h => h) (pv 0) (pa_cons (pv 1) (pa_cons (pv 3) pa_nil)) (hk := by omega)))) pss_nil)))
    (pss_one (ps_raise rfl (takes_of rfl rfl rfl rfl) (Z.mkr rfl rfl rfl rfl rfl rfl (hr.mono (by omega)) rfl pe_str rfl)))))), ?_⟩
  obtain ⟨s, i, tp, pg, ns, rfl, ⟨dx, ln, ld, vp, as, ds, R⟩, W, hi, hE, q⟩ := h
  obtain ⟨n, en⟩ : ∃ n, ns[i]? = some n := ⟨_, List.getElem?_eq_getElem hi⟩
  have hmem := List.mem_of_getElem? en
  have hsz := W.sz n hmem
  obtain ⟨a, ea, eat, dxn, vt, vpp, vc, vg, vu, h0, h1, h2, h3, h4, h5⟩ := R.at en
  refine ⟨_, rfl, s, _, dx, _, .ref ln, rfl, R.hs, Y.c_Session, Y.n_Session_nodes, rfl, _, rfl, ln, _, _, _, rfl, rfl, SqL.of R.hn, eat, a, _, dxn, _, vt, rfl, h0, Y.c_Node, Y.n_Node_term, rfl, ?_⟩
  refine ⟨_, rfl, s, _, _, rfl, R.hs, rfl, _, rfl, s, i, tp, pg, ns, rfl, ⟨dx, ln, ld, vp, as, ds, R⟩, W, hi, fun l hl hll v H3 f3 hv => ?_⟩
  obtain ⟨av, xs, rfl, ta, ia⟩ := hv.tupE
  refine ⟨av, rfl, ⟨_, ta.sq⟩, ?_⟩
  refine for_it (dwT (S := No) ta ia) (fun j σ H' => ∃ x3, σ = [some (.ref s), some (.int (i : Nat)), some vt, x3] ∧ Fr No H3 H') ⟨none, rfl, .refl⟩ (fun j σ H' _ z => let ⟨_, _, z⟩ := z; z) (fun j x σ H4 H5 hlt z yy => ?_) fun σ H4 z => ?_
  · obtain ⟨x3, rfl, f4⟩ := z
    obtain ⟨f5, d, hd, hx⟩ := yy
    rw [List.getElem?_map] at hd
    cases ek : l[j]? with
    | none => rw [ek] at hd; cases hd
    | some k =>
    rw [ek] at hd
    cases hd
    obtain rfl := hx.intE
    have hk := hl k (List.mem_of_getElem? ek)
    obtain ⟨n2, en2⟩ : ∃ n, ns[k]? = some n := ⟨_, List.getElem?_eq_getElem hk⟩
    have f45 := f4.trans f5
    have f05 := f3.trans f45
    have R5 := R.kn f05
    have hmem2 := List.mem_of_getElem? en2
    obtain ⟨a2, ea2, eat2, dxn2, vt2, vpp2, vc2, vg2, vu2, k0, k1, k2, k3, k4, k5⟩ := R5.at en2
    refine ⟨_, rfl, s, _, dx, _, .ref ln, rfl, R5.hs, Y.c_Session, Y.n_Session_nodes, rfl, _, rfl, ln, _, _, _, rfl, rfl, SqL.of R5.hn, eat2, a2, _, dxn2, _, _, rfl, k0, Y.c_Node, Y.n_Node_kind, rfl, n2.kind, ["stepped", "branched"], rfl, hDi H5, _, rfl, ?_⟩
    show if decide (n2.kind ∈ (["stepped", "branched"] : List Str)) = true then _ else _
    by_cases c : n2.kind ∈ (["stepped", "branched"] : List Str)
    · rw [decide_eq_true c]
      refine iteT ⟨_, rfl, s, _, dx, _, .ref ln, rfl, R5.hs, Y.c_Session, Y.n_Session_nodes, rfl, _, rfl, ln, _, _, _, rfl, rfl, SqL.of R5.hn, eat2, a2, _, dxn2, _, vt2, rfl, k0, Y.c_Node, Y.n_Node_term, rfl, _, rfl, vt2, n2.term, vt, n.term, rfl, k1, h1.fr f05, W.sz n2 hmem2, by have := W.sz n2 hmem2; omega, by omega, ?_⟩
      cases em : matchP n2.term n.term with
      | none => exact fun H6 f6 => ⟨_, rfl, iteF ⟨_, rfl, f45.trans f6⟩⟩
      | some ps =>
        intro x6 H6 f6 hx6
        obtain ⟨ax, _, rfl, _, _⟩ := hx6.tupE
        have f06 := f05.trans f6
        have R6 := R.kn f06
        refine ⟨_, rfl, iteT ⟨_, rfl, s, _, _, rfl, R6.hs, rfl, _, rfl, _, rfl, s, i, k, tp, pg, ns, rfl, ⟨dx, ln, ld, vp, as, ds, R6⟩, W, hk, hE.of f06, fun H7 v7 ns7 f7 hS7 hW7 hc7 => q H7 v7 ns7 (f06.no.trans f7) hS7 hW7 hc7⟩⟩
    · rw [decide_eq_false c]
      exact iteF (iteF ⟨_, rfl, f45⟩)
  · obtain ⟨x3, rfl, f4⟩ := z
    exact fun d H5 f5 hd5 => hE d _ H5 ((f3.trans f4).trans f5) hd5
def sp_Session_split_by_whistle (K : PySem.W.Frag) : Sp := fun vs H Q E => ∃ s i tp pg ns, vs = [.ref s, .int (i : Nat)] ∧ Ses K tp H s pg ns ∧ WfN pg ns ∧ Wf pg ∧ i < ns.length ∧ rMove K tp s pg ns H Q E
theorem sc_Session_split_by_whistle : FnScope ["self", "number", "other", "term", "body", "first", "second", "parts"] ["self", "number"] (defScope Tx.s_Session_split_by_whistle) := C8.fnScope_by (by decide +kernel)
theorem ok_split_by_whistle (Y : Hf K mg) (Z : Mkr P w K mg base) : Me (L2.CX P w) P w K mg base 67 (aS K) "split_by_whistle" (sp_Session_split_by_whistle K) := by
  refine Y.d_Session_split_by_whistle.okX sc_Session_split_by_whistle (fun vs H Q E h => ?_) (fun f cdv A outer s H vs Q E hr h => ?_)
  · obtain ⟨s, i, tp, pg, ns, rfl, _⟩ := h; rfl
  have nd := sc_Session_split_by_whistle.nd
  refine ⟨_, ((pss_cons (ps_set (i := 2) nd rfl (by first | exact .inl rfl | exact .inr rfl) (kmeX (E := E) (ok_whistle Y Z) hr (passes_call (takes_of rfl rfl rfl rfl) fun _ _ _ _ h => h) (pv 0) (pa_cons (pv 1) pa_nil) (hk := by omega)))
    (pss_cons (ps_if (pt_cmp (pc_isN (pv 2)))
        (pss_one (ps_raise rfl (takes_of rfl rfl rfl rfl) (Z.mkr rfl rfl rfl rfl rfl rfl (hr.mono (by omega)) rfl pe_str rfl))) pss_nil)
    (pss_cons (ps_set (i := 3) nd rfl (by first | exact .inl rfl | exact .inr rfl) (pe_fld (pe_ix ix_list (pe_fld (pv 0) rfl) (pv 1) fun _ _ => rfl) rfl))
    (pss_cons (ps_asg (kc (ok_generalize Y 60) hr (pa_cons (pe_fld (pe_ix ix_list (pe_fld (pv 0) rfl) (pv 2) fun _ _ => rfl) rfl) (pa_cons (pv 3) pa_nil)) (hk := by omega)) (pg_tup rfl (pgs_cons (pg_name (i := 4) nd rfl (by first | exact .inl rfl | exact .inr rfl)) (pgs_cons (pg_name (i := 5) nd rfl (by first | exact .inl rfl | exact .inr rfl)) (pgs_cons (pg_name (i := 6) nd rfl (by first | exact .inl rfl | exact .inr rfl)) pgs_nil)))))
    (pss_cons (ps_asg (kc (ok_taken_out Y) hr (pa_cons (pv 3) (pa_cons (pv 4) (pa_cons (pv 6) pa_nil))) (hk := by omega)) (pg_tup rfl (pgs_cons (pg_name (i := 4) nd rfl (by first | exact .inl rfl | exact .inr rfl)) (pgs_cons (pg_name (i := 7) nd rfl (by first | exact .inl rfl | exact .inr rfl)) pgs_nil))))
    (pss_one (ps_ret (kmeX (E := E) (ok_split Y Z) hr (passes_call (takes_of rfl rfl rfl rfl) fun _ _ _ _ h => h) (pv 0) (pa_cons (pv 1) (pa_cons (pv 4) (pa_cons (pv 7) pa_nil))) (hk := by omega)))))))))), ?_⟩
  obtain ⟨s, i, tp, pg, ns, rfl, ⟨dx, ln, ld, vp, as, ds, R⟩, W, Wp, hi, hE, q⟩ := h
  refine ⟨_, rfl, s, _, _, rfl, R.hs, rfl, _, rfl, s, i, tp, pg, ns, rfl, ⟨dx, ln, ld, vp, as, ds, R⟩, W, Wp, hi, fun H1 f1 => ⟨_, rfl, _, rfl, iteT fun d H2 f2 hd2 => hE d _ H2 (f1.trans f2) hd2⟩, fun k H1 hk f1 => ?_⟩
  refine ⟨_, rfl, _, rfl, iteF (nextE ?_)⟩
  dsimp only
  have R1 := R.kn f1
  obtain ⟨n, en⟩ : ∃ n, ns[i]? = some n := ⟨_, List.getElem?_eq_getElem hi⟩
  obtain ⟨n2, en2⟩ : ∃ n, ns[k]? = some n := ⟨_, List.getElem?_eq_getElem hk⟩
  have hsz := W.sz n (List.mem_of_getElem? en)
  have hsz2 := W.sz n2 (List.mem_of_getElem? en2)
  obtain ⟨a, ea, eat, dxn, vt, vpp, vc, vg, vu, h0, h1, h2, h3, h4, h5⟩ := R1.at en
  obtain ⟨a2, ea2, eat2, dxn2, vt2, vpp2, vc2, vg2, vu2, k0, k1, k2, k3, k4, k5⟩ := R1.at en2
  refine ⟨_, rfl, s, _, dx, _, .ref ln, rfl, R1.hs, Y.c_Session, Y.n_Session_nodes, rfl, _, rfl, ln, _, _, _, rfl, rfl, SqL.of R1.hn, eat, a, _, dxn, _, vt, rfl, h0, Y.c_Node, Y.n_Node_term, rfl, ?_⟩
  refine ⟨_, rfl, s, _, dx, _, .ref ln, rfl, R1.hs, Y.c_Session, Y.n_Session_nodes, rfl, _, rfl, ln, _, _, _, rfl, rfl, SqL.of R1.hn, eat2, a2, _, dxn2, _, vt2, rfl, k0, Y.c_Node, Y.n_Node_term, rfl, _, rfl, vt2, n2.term, vt, n.term, rfl, k1, h1, hsz2, hsz2, hsz, fun c pps hc hpl hpS x3 H3 f3 hx3 => ?_⟩
  obtain ⟨ax, y1, y2, y3, rfl, tx, hy1, hy2, hy3⟩ := hx3.three
  refine ⟨ax, _, rfl, tx.sq, rfl, _, _, rfl, _, _, rfl, _, _, rfl, rfl, ?_⟩
  have hy3' : Tms K H3 y3 (pps.map (Prod.snd : T × T → T)) := by
    show Is K H3 y3 (.tuple ((pps.map (Prod.snd : T × T → T)).map enc))
    rw [List.map_map]
    exact hy3
  refine ⟨_, rfl, _, rfl, _, rfl, vt, y1, y3, n.term, c, pps.map (Prod.snd : T × T → T), rfl, h1.fr f3, hy1, hy3', hsz, hc, by rw [List.length_map]; exact hpl, fun t ht => ?_, fun w4 H4 f4 hw4 => ?_⟩
  · obtain ⟨p, hp, rfl⟩ := List.mem_map.mp ht
    exact (hpS p hp).2
  obtain ⟨ab, yb, yp, b, ps, rfl, tb, hb, hps, hbz, hpl2, hpz⟩ := hw4
  refine ⟨ab, _, rfl, tb.sq, rfl, _, _, rfl, _, _, rfl, rfl, ?_⟩
  have f04 := (f1.trans f3).trans f4
  have R4 := R.kn f04
  exact ⟨_, rfl, s, _, _, rfl, R4.hs, rfl, _, rfl, _, rfl, _, rfl, s, i, tp, pg, ns, yb, yp, b, ps, rfl, ⟨dx, ln, ld, vp, as, ds, R4⟩, W, hb, hps, hbz, by omega, hpz, hE.of f04, fun H7 v7 ns7 f7 hS7 hW7 hc7 => q H7 v7 ns7 (f04.no.trans f7) hS7 hW7 hc7⟩
end
end DF

namespace DF
open PySem PySem.Spec PyProof.Rows L2
section
variable {P : Program} {w : World} {K : PySem.W.Frag} {mg : Str → Option Value} {base : Heap}
def sp_Session_split_head (K : PySem.W.Frag) : Sp := fun vs H Q E => ∃ s i tp pg ns, vs = [.ref s, .int (i : Nat)] ∧ Ses K tp H s pg ns ∧ WfN pg ns ∧ i < ns.length ∧ rMove K tp s pg ns H Q E
theorem sc_Session_split_head : FnScope ["self", "number", "term", "fresh", "parts", "arguments", "own"] ["self", "number"] (defScope Tx.s_Session_split_head) := C8.fnScope_by (by decide +kernel)
theorem ok_split_head (Y : Hf K mg) (Z : Mkr P w K mg base) : Me (L2.CX P w) P w K mg base 67 (aS K) "split_head" (sp_Session_split_head K) := by
  refine Y.d_Session_split_head.okX sc_Session_split_head (fun vs H Q E h => ?_) (fun f cdv A outer s H vs Q E hr h => ?_)
  · obtain ⟨s, i, tp, pg, ns, rfl, _⟩ := h; rfl
  have nd := sc_Session_split_head.nd
  refine ⟨_, ((pss_cons (ps_set (i := 2) nd rfl (by first | exact .inl rfl | exact .inr rfl) (pe_fld (pe_ix ix_list (pe_fld (pv 0) rfl) (pv 1) fun _ _ => rfl) rfl))
    (pss_cons (ps_set (i := 3) nd rfl (by first | exact .inl rfl | exact .inr rfl) (kc (ok_new_unknowns Y) hr (pa_cons (pv 2) (pa_cons (k_lenT Y.z_len (pe_ix ix_d (pv 2) pe_int fun _ _ => rfl)) pa_nil)) (hk := by omega)))
    (pss_cons (ps_set (i := 4) nd rfl (by first | exact .inl rfl | exact .inr rfl) (pe_lst pa_nil))
    (pss_cons (ps_set (i := 5) nd rfl (by first | exact .inl rfl | exact .inr rfl) (pe_lst pa_nil))
    (pss_cons (ps_for (passes_of rfl) rfl (pi_tup (pe_ix ix_d (pv 2) pe_int fun _ _ => rfl)) (pg_name (i := 6) nd rfl (by first | exact .inl rfl | exact .inr rfl))
        (pss_one (ps_if (pt_val (kc (ok_is_variable_sessions Y) hr (pa_cons (pv 6) pa_nil) (hk := by omega)))
            (pss_one (ps_expr (pe_bm PySem.F.plainAttrs_list PySem.F.slot_list_append PySem.F.type_list_append mt_append (pv 5) (pa_cons (pv 6) pa_nil))))
            (pss_cons (ps_expr (pe_bm PySem.F.plainAttrs_list PySem.F.slot_list_append PySem.F.type_list_append mt_append (pv 5) (pa_cons (pe_tupD (pa_cons (pe_ix ix_list (pv 3) (k_lenL Y.z_len (pv 4)) fun _ _ => rfl) (pa_cons (pe_tupD pa_nil) pa_nil))) pa_nil)))
            (pss_one (ps_expr (pe_bm PySem.F.plainAttrs_list PySem.F.slot_list_append PySem.F.type_list_append mt_append (pv 4) (pa_cons (pe_tupD (pa_cons (pe_ix ix_list (pv 3) (k_lenL Y.z_len (pv 4)) fun _ _ => rfl) (pa_cons (pv 6) pa_nil))) pa_nil))))))))
    (pss_one (ps_ret (kmeX (E := E) (ok_split Y Z) hr (passes_call (takes_of rfl rfl rfl rfl) fun _ _ _ _ h => h) (pv 0) (pa_cons (pv 1) (pa_cons (pe_tupD (pa_cons (pe_ix ix_d (pv 2) pe_int fun _ _ => rfl) (pa_cons (k_tup Y.z_tuple (pv 5)) pa_nil))) (pa_cons (k_tupF Y.z_tuple (pv 4)) pa_nil))) (hk := by omega)))))))))), ?_⟩
  obtain ⟨s, i, tp, pg, ns, rfl, ⟨dx, ln, ld, vp, as, ds, R⟩, W, hi, hE, q⟩ := h
  obtain ⟨n, en⟩ : ∃ n, ns[i]? = some n := ⟨_, List.getElem?_eq_getElem hi⟩
  have hsz := W.sz n (List.mem_of_getElem? en)
  obtain ⟨a, ea, eat, dxn, vt, vpp, vc, vg, vu, h0, h1, h2, h3, h4, h5⟩ := R.at en
  refine ⟨_, rfl, s, _, dx, _, .ref ln, rfl, R.hs, Y.c_Session, Y.n_Session_nodes, rfl, _, rfl, ln, _, _, _, rfl, rfl, SqL.of R.hn, eat, a, _, dxn, _, vt, rfl, h0, Y.c_Node, Y.n_Node_term, rfl, ?_⟩
  have hal := n.term.args_len
  refine ⟨_, rfl, _, rfl, _, 1, _, rfl, h1.is, rfl, fun x1 hx1 => ⟨x1, _, rfl, hx1, ?_⟩⟩
  rw [List.length_map]
  refine ⟨vt, n.term, n.term.args.length, rfl, h1, by omega, by omega, fun is p H2 hp2 f2 hp0 hp1 => ?_⟩
  refine ⟨Nat.zero_le _, fun m hm0 => ⟨Nat.zero_le _, fun l hl0 => ?_⟩⟩
  have g3 : Fr No H2 (upd H2 m (.lst [])) := Fr.new0 hm0
  have g4 : Fr No (upd H2 m (.lst [])) (upd (upd H2 m (.lst [])) l (.lst [])) := Fr.new0 hl0
  have nml : m ≠ l := ne_of_none upd_same hl0
  have f04 := f2.trans (g3.trans g4)
  have hm4 := g4.kn (show (upd H2 m (.lst [])) m = some (.lst []) from upd_same)
  have nmp : m ≠ p := fun z => by rw [z, hp1] at hm0; cases hm0
  have nlp : l ≠ p := (ne_of_none (g3.kn hp1) hl0).symm
  have hp4 := (g3.trans g4).kn hp1
  refine ⟨_, rfl, _, 1, _, rfl, Tm.is (h1.fr f04), rfl, fun x2 hx2 => ?_⟩
  obtain ⟨av, xs, rfl, ta, ia⟩ := (show Tms K _ x2 n.term.args from hx2).tupE
  refine ⟨av, rfl, ⟨_, ta.sq⟩, ?_⟩
  refine for_it (dwT (S := fun b => b = l ∨ b = m) ta ia) (fun j σ H' => ∃ (x6 : Option V) (zs ws : List V) (us : List T) (qs : List (Int × T)), σ = [some (.ref s), some (.int (i : Nat)), some vt, some (.ref p), some (.ref m), some (.ref l), x6] ∧ Fr (fun b => b = l ∨ b = m) (upd (upd H2 m (.lst [])) l (.lst [])) H' ∧ H' l = some (.lst zs) ∧ IsAll K H' zs (us.map enc) ∧ H' m = some (.lst ws) ∧ IsAll K H' ws (qs.map prD) ∧
      us.length = j ∧ (∀ u ∈ us, u.size = 1) ∧ qs.length ≤ j ∧ ∀ r ∈ qs, r.2.size ≤ 60)
    ⟨none, [], [], [], [], rfl, .refl, upd_same, .nil, hm4, .nil, rfl, fun r hr => absurd hr List.not_mem_nil, Nat.le_refl _, fun r hr => absurd hr List.not_mem_nil⟩ (fun j σ H' _ z => let ⟨_, _, _, _, _, _, z, _⟩ := z; z) (fun j x σ H5 H6 hlt z yy => ?_) fun σ H5 z => ?_
  · obtain ⟨x6, zs, ws, us, qs, rfl, f5, hl5, hzs, hm5, hws, lu, su, lq, sq1⟩ := z
    obtain ⟨f6, d, hd, hx⟩ := yy
    rw [List.getElem?_map] at hd
    cases e : n.term.args[j]? with
    | none => rw [e] at hd; cases hd
    | some r =>
    rw [e] at hd
    cases hd
    have hj : j < n.term.args.length := (List.getElem?_eq_some_iff.mp e).1
    have hrs := T.arg_lt (List.mem_of_getElem? e)
    have hl6 := f6.kn hl5
    have hm6 := f6.kn hm5
    have hzl : zs.length = j := by rw [hzs.len, List.length_map, lu]
    have hwl : ws.length = qs.length := by rw [hws.len, List.length_map]
    refine ⟨_, rfl, x, r, rfl, hx, _, rfl, ?_⟩
    cases c : r.isVar with
    | true =>
      refine iteT ⟨_, rfl, .inl ⟨rfl, _, SqL.of hl6⟩, _, rfl, l, _, _, rfl, rfl, hl6, lt_line (by omega), ?_⟩
      have g8 : Fr (fun b => b = l ∨ b = m) H6 (upd H6 l (.lst (zs ++ [x]))) := Fr.refl.mut (.inl rfl) hl6 fun z => z
      refine ⟨some x, _, _, us ++ [r], qs, rfl, (f5.trans f6.no).trans g8, upd_same, ?_, by rw [upd_ne nml]; exact hm6, (hws.fr f6).fr g8, by rw [List.length_append, lu]; rfl, fun r' hr' => ?_, by omega, sq1⟩
      · rw [List.map_append]
        exact ((hzs.fr f6).fr g8).append (.cons (hx.fr g8) .nil)
      · rcases List.mem_append.mp hr' with hr' | hr'
        · exact su r' hr'
        · rw [List.mem_singleton.mp hr']
          obtain ⟨q0, rfl⟩ := isVar_lf c
          rfl
    | false =>
      obtain ⟨k0, hk0⟩ : ∃ k0, is[qs.length]? = some k0 := ⟨_, List.getElem?_eq_getElem (by omega)⟩
      have hfr : L2.atI (is.map V.int) ((qs.length : Nat) : Int) = some (.int k0) := by rw [atI_nat, List.getElem?_map, hk0]; rfl
      have hp5 := f5.k p _ (fun z => z.elim (fun z => nlp z.symm) fun z => nmp z.symm) hp4
      have hp6 := f6.kn hp5
      refine iteF ⟨_, rfl, .inl ⟨rfl, _, SqL.of hl6⟩, _, rfl, _, rfl, m, _, rfl, .inl (SqL.of hm6), p, _, _, _, rfl, rfl, SqL.of hp6, by rw [hwl]; exact hfr, ?_⟩
      refine ⟨[], .nil, Nat.zero_le _, fun w7 H7 f7 hw7 => ⟨_, .cons (.int _) (.cons hw7 .nil), by show 2 ≤ 16000000; decide, fun w8 H8 f8 hw8 => ?_⟩⟩
      have f68 := f7.trans f8
      refine ⟨l, _, _, rfl, rfl, f68.kn hl6, lt_line (by omega), ?_⟩
      have g10 : Fr (fun b => b = l ∨ b = m) H8 (upd H8 l (.lst (zs ++ [w8]))) := Fr.refl.mut (.inl rfl) (f68.kn hl6) fun z => z
      have hm10 : (upd H8 l (.lst (zs ++ [w8]))) m = some (.lst ws) := by rw [upd_ne nml]; exact f68.kn hm6
      have hp10 : (upd H8 l (.lst (zs ++ [w8]))) p = some (.lst (is.map V.int)) := by rw [upd_ne nlp.symm]; exact f68.kn hp6
      refine ⟨_, rfl, .inl ⟨rfl, _, SqL.of hm10⟩, _, rfl, _, rfl, m, _, rfl, .inl (SqL.of hm10), p, _, _, _, rfl, rfl, SqL.of hp10, by rw [hwl]; exact hfr, ?_⟩
      refine ⟨_, rfl, _, .cons (.int _) (.cons (Is.fr g10 (hx.fr f68)) .nil), by show 2 ≤ 16000000; decide, fun w11 H11 f11 hw11 => ?_⟩
      refine ⟨m, _, _, rfl, rfl, f11.kn hm10, lt_line (by omega), ?_⟩
      have g12 : Fr (fun b => b = l ∨ b = m) H11 (upd H11 m (.lst (ws ++ [w11]))) := Fr.refl.mut (.inr rfl) (f11.kn hm10) fun z => z
      have fall := ((((f5.trans f6.no).trans f68.no).trans g10).trans f11.no).trans g12
      refine ⟨some x, zs ++ [w8], ws ++ [w11], us ++ [T.lf (.u k0)], qs ++ [(k0, r)], rfl, fall, ?_, ?_, upd_same, ?_, by rw [List.length_append, lu]; rfl, fun r' hr' => ?_, by rw [List.length_append]; show qs.length + 1 ≤ j + 1; omega, fun r' hr' => ?_⟩
      · rw [upd_ne nml.symm]
        exact f11.kn upd_same
      · rw [List.map_append]
        exact (((((hzs.fr f6).fr f68).fr g10).fr f11).fr g12).append (.cons (Is.fr g12 (Is.fr f11 (Is.fr g10 hw8))) .nil)
      · rw [List.map_append]
        exact (((((hws.fr f6).fr f68).fr g10).fr f11).fr g12).append (.cons (Is.fr g12 hw11) .nil)
      · rcases List.mem_append.mp hr' with hr' | hr'
        · exact su r' hr'
        · rw [List.mem_singleton.mp hr']; rfl
      · rcases List.mem_append.mp hr' with hr' | hr'
        · exact sq1 r' hr'
        · rw [List.mem_singleton.mp hr']
          show r.size ≤ 60
          omega
  · obtain ⟨x6, zs, ws, us, qs, rfl, f5, hl5, hzs, hm5, hws, lu, su, lq, sq1⟩ := z
    rw [List.length_map] at lu lq
    have f05 : Fr No H H5 := by
      have z : Fr (fun b => b = l ∨ b = m) H H5 := f04.no.trans f5
      refine z.less fun b hb _ => ?_
      rcases hb with e | e
      · rw [e]; exact (f2.trans g3).freeN hl0
      · rw [e]; exact f2.freeN hm0
    have R5 := R.kn f05
    refine ⟨_, rfl, s, _, _, rfl, R5.hs, rfl, _, rfl, _, rfl, _, 0, _, rfl, Tm.is (h1.fr f05), rfl, fun y0 hy0 => ?_⟩
    obtain rfl := is_hd_inv hy0
    refine ⟨_, rfl, l, zs, _, rfl, hl5, hzs, fun w6 H6 f6 hw6 => ⟨_, .cons is_hd (.cons hw6 .nil), by show 2 ≤ 16000000; decide, fun w7 H7 f7 hw7 => ?_⟩⟩
    have f57 := f6.trans f7
    refine ⟨_, rfl, m, _, rfl, SqL.of (f57.kn hm5), fun p8 o8 hp8 ho8 => ?_⟩
    have f8 : Fr No H7 (upd H7 p8 (.frz o8 (.tup ws))) := Fr.new0 hp8
    have f08 := (f05.trans f57).trans f8
    have hbody : Tm K H7 w7 ((T.lf n.term.hd).aps us) := Tm.ofMk hw7
    have hbs : ((T.lf n.term.hd).aps us).size ≤ 60 := by
      rw [T.size_mk]
      have : ∀ us : List T, (∀ u ∈ us, u.size = 1) → T.sizes us = us.length := by
        intro us
        induction us with
        | nil => intro _; rfl
        | cons u us ih =>
          intro h
          rw [T.sizes_cons, ih fun v hv => h v (List.mem_cons_of_mem _ hv), h u List.mem_cons_self, List.length_cons]
          omega
      rw [this us su]
      omega
    exact ⟨s, i, tp, pg, ns, w7, .ref p8, _, qs, rfl, ⟨dx, ln, ld, vp, as, ds, R.kn f08⟩, W, Is.fr f8 hbody, Prt.of hp8 ho8 (hws.fr f57), hbs, by omega, sq1, hE.of f08, fun H9 v9 ns9 f9 hS9 hW9 hc9 => q H9 v9 ns9 (f08.no.trans f9) hS9 hW9 hc9⟩
end
end DF

namespace DF
open PySem PySem.Spec PyProof.Rows L2
section
variable {P : Program} {w : World} {K : PySem.W.Frag} {mg : Str → Option Value} {base : Heap}
theorem ifDT {p : Prop} [Decidable p] {A B : Prop} (h : p) (a : A) : if decide p = true then A else B := by rw [if_pos (decide_eq_true h)]; exact a
theorem ifDF {p : Prop} [Decidable p] {A B : Prop} (h : ¬ p) (a : B) : if decide p = true then A else B := by rw [if_neg (by rw [decide_eq_false h]; exact Bool.false_ne_true)]; exact a
def tMv (K : PySem.W.Frag) (m : Str) (sp : Sp) (W : WX) : TS := tDrop (tMeth (aS K) m sp [] (fun cls d H => ∀ σ, W cls d σ H) (tVar 0) (tCons (tVar 1) tNil))
def tbAtt (K : PySem.W.Frag) (W : WX) : TS := tIfS (tB (tEqI (tVar 2) (tC (.int 0)))) (tMv K "expose" (sp_Session_expose K) W) (tIfS (tB (tEqI (tVar 2) (tC (.int 1)))) (tMv K "fold_on_way" (sp_Session_fold_on_way K) W)
  (tIfS (tB (tEqI (tVar 2) (tC (.int 2)))) (tMv K "drive" (sp_Session_drive K) W) (tIfS (tB (tEqI (tVar 2) (tC (.int 3)))) (tMv K "split_by_whistle" (sp_Session_split_by_whistle K) W) (tMv K "split_head" (sp_Session_split_head K) W))))
def sp_Session_attempt (K : PySem.W.Frag) : Sp := fun vs H Q E => ∃ s i c tp pg ns, vs = [.ref s, .int (i : Nat), .int c] ∧ Ses K tp H s pg ns ∧ WfN pg ns ∧ Wf pg ∧ i < ns.length ∧ (∀ H', Fr No H H' → Q (.bl false) H') ∧ ∀ H' ns', Fr (Nt tp) H H' → Ses K tp H' s pg ns' → WfN pg ns' → clo ns < clo ns' → Q (.bl true) H'
theorem sc_Session_attempt : FnScope ["self", "number", "choice"] ["self", "number", "choice"] (defScope Tx.s_Session_attempt) := C8.fnScope_by (by decide +kernel)
theorem ok_attempt (Y : Hf K mg) (Z : Mkr P w K mg base) : Me (L2.CX P w) P w K mg base 68 (aS K) "attempt" (sp_Session_attempt K) := by
  refine Y.d_Session_attempt.okX sc_Session_attempt (fun vs H Q E h => ?_) (fun f cdv A outer s H vs Q E hr h => ?_)
  · obtain ⟨s, i, c, tp, pg, ns, rfl, _⟩ := h; rfl
  have nd := sc_Session_attempt.nd
  refine ⟨_, ((pss_cons (ps_try_only (tb := (tbAtt K)) (ts := (fun _ _ _ => tRet (tC (.bl false)))) rfl rfl ⟨rfl, by decide, .inl Y.m_Refused⟩ (takes_of rfl rfl rfl rfl) (fun W pn xe tkW po =>
        (pss_one (ps_if (pt_cmp (pc_eqI (pv 2) pe_int))
            (pss_one (ps_expr (kmeX (E := fun cls d H => ∀ σ, W cls d σ H) (ok_expose Y Z) hr (passes_call tkW fun _ _ σ _ h => h σ) (pv 0) (pa_cons (pv 1) pa_nil) (hk := by omega))))
            (pss_one (ps_if (pt_cmp (pc_eqI (pv 2) pe_int))
                (pss_one (ps_expr (kmeX (E := fun cls d H => ∀ σ, W cls d σ H) (ok_fold_on_way Y Z) hr (passes_call tkW fun _ _ σ _ h => h σ) (pv 0) (pa_cons (pv 1) pa_nil) (hk := by omega))))
                (pss_one (ps_if (pt_cmp (pc_eqI (pv 2) pe_int))
                    (pss_one (ps_expr (kmeX (E := fun cls d H => ∀ σ, W cls d σ H) (ok_drive Y Z) hr (passes_call tkW fun _ _ σ _ h => h σ) (pv 0) (pa_cons (pv 1) pa_nil) (hk := by omega))))
                    (pss_one (ps_if (pt_cmp (pc_eqI (pv 2) pe_int))
                        (pss_one (ps_expr (kmeX (E := fun cls d H => ∀ σ, W cls d σ H) (ok_split_by_whistle Y Z) hr (passes_call tkW fun _ _ σ _ h => h σ) (pv 0) (pa_cons (pv 1) pa_nil) (hk := by omega))))
                        (pss_one (ps_expr (kmeX (E := fun cls d H => ∀ σ, W cls d σ H) (ok_split_head Y Z) hr (passes_call tkW fun _ _ σ _ h => h σ) (pv 0) (pa_cons (pv 1) pa_nil) (hk := by omega))))))))))))) (fun a oe cls d pn hz hv =>
        (pss_one (ps_ret pe_bl))))
    (pss_one (ps_ret pe_bl)))), ?_⟩
  obtain ⟨s, i, c, tp, pg, ns, rfl, hS, W, Wp, hi, q1, q2⟩ := h
  obtain ⟨dx, ln, ld, vp, as, ds, R⟩ := hS
  have key : ∀ (m : Str) (sp : Sp) (W' : WX) (D : Ends) (σ : St), (∀ d v H', Fr No H H' → H' d = some (.xd [("reason", v)]) → ∀ σ', W' (.ref (aRf K)) (some d) σ' H') → (∀ H' ns', Fr (Nt tp) H H' → Ses K tp H' s pg ns' → WfN pg ns' → clo ns < clo ns' → D.nx σ H') → σ[0]? = some (some (.ref s)) → σ[1]? = some (some (.int (i : Nat))) →
      ((sesF vp ln ld).lookup m = none) → (∀ Q E, rMove K tp s pg ns H Q E → sp [.ref s, .int (i : Nat)] H Q E) → tMv K m sp W' D σ H := by
    intro m sp W' D σ hx hq e0 e1 hm hsp
    refine ⟨.ref s, e0, s, dx, _, rfl, R.hs, hm, .int (i : Nat), e1, ?_⟩
    exact hsp _ _ ⟨fun d v H' f hv σ' => hx d v H' f hv σ', fun H' v ns' f S' W'' hc => hq H' ns' f S' W'' hc⟩
  have hX : ∀ (D : Ends) (d : Addr) (v : V) (H' : Hp), D.rt = Q → Fr No H H' → H' d = some (.xd [("reason", v)]) → ∀ σ', wOnly K (.ref (aRf K)) (fun _ _ _ => tRet (tC (.bl false))) (fun cls d _ H => E cls d H) D (.ref (aRf K)) (some d) σ' H' :=
    fun D d v H' hD f _ σ' => ⟨true, Y.e_Refused, fun _ a _ => by show D.rt (.bl false) H'; rw [hD]; exact q1 H' f, fun h => nomatch h⟩
  have S' : Ses K tp H s pg ns := ⟨dx, ln, ld, vp, as, ds, R⟩
  unfold tbAtt
  refine ⟨_, rfl, c, 0, rfl, rfl, _, rfl, ?_⟩
  by_cases c0 : c = 0
  · refine ifDT c0 ?_
    exact key _ _ _ _ _ (fun d v H' f hv => hX _ d v H' rfl f hv) (fun H' ns' f S W hc => q2 H' ns' f S W hc) rfl rfl rfl fun Q E h => ⟨s, i, tp, pg, ns, rfl, S', W, Wp, h⟩
  refine ifDF c0 ?_
  refine ⟨_, rfl, c, 1, rfl, rfl, _, rfl, ?_⟩
  by_cases c1 : c = 1
  · refine ifDT c1 ?_
    exact key _ _ _ _ _ (fun d v H' f hv => hX _ d v H' rfl f hv) (fun H' ns' f S W hc => q2 H' ns' f S W hc) rfl rfl rfl fun Q E h => ⟨s, i, tp, pg, ns, rfl, S', W, hi, h⟩
  refine ifDF c1 ?_
  refine ⟨_, rfl, c, 2, rfl, rfl, _, rfl, ?_⟩
  by_cases c2 : c = 2
  · refine ifDT c2 ?_
    exact key _ _ _ _ _ (fun d v H' f hv => hX _ d v H' rfl f hv) (fun H' ns' f S W hc => q2 H' ns' f S W hc) rfl rfl rfl fun Q E h => ⟨s, i, tp, pg, ns, rfl, S', W, Wp, h⟩
  refine ifDF c2 ?_
  refine ⟨_, rfl, c, 3, rfl, rfl, _, rfl, ?_⟩
  by_cases c3 : c = 3
  · refine ifDT c3 ?_
    exact key _ _ _ _ _ (fun d v H' f hv => hX _ d v H' rfl f hv) (fun H' ns' f S W hc => q2 H' ns' f S W hc) rfl rfl rfl fun Q E h => ⟨s, i, tp, pg, ns, rfl, S', W, Wp, hi, h⟩
  refine ifDF c3 ?_
  exact key _ _ _ _ _ (fun d v H' f hv => hX _ d v H' rfl f hv) (fun H' ns' f S W hc => q2 H' ns' f S W hc) rfl rfl rfl fun Q E h => ⟨s, i, tp, pg, ns, rfl, S', W, hi, h⟩
end
end DF

namespace DF
open PySem PySem.Spec PyProof.Rows L2
theorem openAt_isOpen {ns : List Nd} {k : Nat} (h : k ∈ openAt 0 ns) : IsOpen ns k := let ⟨_, n, e, ho⟩ := openAt_mem h; ⟨n, e, ho⟩
theorem IsOpen.lt {ns : List Nd} {k : Nat} (h : IsOpen ns k) : k < ns.length := let ⟨_, e, _⟩ := h; (List.getElem?_eq_some_iff.mp e).1
theorem clo_le (ns : List Nd) : clo ns ≤ ns.length := Nat.sub_le _ _
section
variable {P : Program} {w : World} {K : PySem.W.Frag} {mg : Str → Option Value} {base : Heap}
def sp_Session_auto (K : PySem.W.Frag) : Sp := fun vs H Q E => ∃ s tp pg ns, vs = [.ref s] ∧ Ses K tp H s pg ns ∧ WfN pg ns ∧ Wf pg ∧ ∀ H' (c : Nat) ns', Fr (Nt tp) H H' → Ses K tp H' s pg ns' → WfN pg ns' → openAt 0 ns' = [] → Q (.int (c : Nat)) H'
theorem sc_Session_auto : FnScope ["self", "count", "number", "choice"] ["self"] (defScope Tx.s_Session_auto) := C8.fnScope_by (by decide +kernel)
theorem ok_auto (Y : Hf K mg) (Z : Mkr P w K mg base) : Me (L2.CX P w) P w K mg base 69 (aS K) "auto" (sp_Session_auto K) := by
  refine Y.d_Session_auto.okX sc_Session_auto (fun vs H Q E h => ?_) (fun f cdv A outer s H vs Q E hr h => ?_)
  · obtain ⟨s, tp, pg, ns, rfl, _⟩ := h; rfl
  have nd := sc_Session_auto.nd
  refine ⟨_, ((pss_cons (ps_set (i := 1) nd rfl (by first | exact .inl rfl | exact .inr rfl) pe_int)
    (pss_cons (ps_while (passes_of rfl) (pt_tru (kme0 (ok_open_nodes Y) hr (pv 0) (hk := by omega)))
        (pss_cons (ps_set (i := 2) nd rfl (by first | exact .inl rfl | exact .inr rfl) (pe_ix ix_d (kme0 (ok_open_nodes Y) hr (pv 0) (hk := by omega)) pe_int fun _ _ => rfl))
        (pss_cons (ps_set (i := 3) nd rfl (by first | exact .inl rfl | exact .inr rfl) pe_int)
        (pss_cons (ps_while (passes_of rfl) (PW.pt (pw_and (pt_cmp (pc_lt (pv 3) pe_int)) (pw_and1 (pt_not (pt_val (kmeX (E := E) (ok_attempt Y Z) hr (passes_call (takes_of rfl rfl rfl rfl) fun _ _ _ _ h => h) (pv 0) (pa_cons (pv 2) (pa_cons (pv 3) pa_nil)) (hk := by omega)))))))
            (pss_one (ps_aug (i := 3) nd rfl (by first | exact .inl rfl | exact .inr rfl) pe_int ip_add)))
        (pss_cons (ps_if (pt_cmp (pc_eqI (pv 3) pe_int))
            (pss_one (ps_expr (kmeX (E := E) (ok_leave Y Z) hr (passes_call (takes_of rfl rfl rfl rfl) fun _ _ _ _ h => h) (pv 0) (pa_cons (pv 2) pa_nil) (hk := by omega)))) pss_nil)
        (pss_one (ps_aug (i := 1) nd rfl (by first | exact .inl rfl | exact .inr rfl) pe_int ip_add)))))))
    (pss_one (ps_ret (pv 1)))))), ?_⟩
  obtain ⟨s, tp, pg, ns, rfl, hS, W, Wp, q⟩ := h
  refine ⟨fun m σ H1 => ∃ (c : Nat) (ns1 : List Nd) (x2 x3 : Option V), m = 41 - clo ns1 ∧ σ = [some (.ref s), some (.int (c : Nat)), x2, x3] ∧ Fr (Nt tp) H H1 ∧ Ses K tp H1 s pg ns1 ∧ WfN pg ns1, ⟨_, 0, ns, none, none, rfl, rfl, .refl, hS, W⟩, ?_⟩
  rintro m σ H1 ⟨c, ns1, x2, x3, rfl, rfl, f1, hS1, W1⟩
  have hS1' := hS1
  obtain ⟨dx, ln, ld, vp, as, ds, R1⟩ := hS1'
  refine ⟨_, rfl, s, dx, _, rfl, R1.hs, rfl, s, tp, pg, ns1, rfl, hS1, W1, fun v2 H2 f2 hv2 => ⟨_, hv2, ?_⟩⟩
  cases eo : openAt 0 ns1 with
  | nil => exact iteF ⟨_, rfl, q H2 c ns1 (f1.trans f2.no) (hS1.kn f2) W1 eo⟩
  | cons k ks =>
  have ho : IsOpen ns1 k := openAt_isOpen (by rw [eo]; exact List.mem_cons_self)
  have hk := ho.lt
  refine iteT ⟨_, fun σ' H' n => n, ?_⟩
  have S2 := hS1.kn f2
  have R2 := R1.kn f2
  refine ⟨_, rfl, s, dx, _, rfl, R2.hs, rfl, s, tp, pg, ns1, rfl, S2, W1, fun v3 H3 f3 hv3 => ?_⟩
  have f23 := f2.trans f3
  have S3 := hS1.kn f23
  refine ⟨_, 0, .int (k : Nat), rfl, hv3, by show L2.atI ((openAt 0 ns1).map fun (k : Nat) => PyData.int (k : Int)) 0 = _; rw [eo]; exact atI_zero _ _, fun w4 hw4 => ?_⟩
  obtain rfl := hw4.intE
  refine ⟨fun m σ H4 => ∃ (j : Nat), m = 5 - j ∧ j ≤ 5 ∧ σ = [some (.ref s), some (.int (c : Nat)), some (.int (k : Nat)), some (.int (j : Nat))] ∧ Fr No H1 H4, ⟨_, 0, rfl, Nat.zero_le _, rfl, f23⟩, ?_⟩
  rintro m σ H4 ⟨j, rfl, hj, rfl, f4⟩
  have S4 := hS1.kn f4
  have R4 := R1.kn f4
  refine ⟨_, rfl, (j : Nat), 5, rfl, rfl, _, rfl, ?_⟩
  by_cases c5 : (j : Int) < 5
  · refine ifDT c5 ?_
    refine ⟨_, rfl, s, dx, _, rfl, R4.hs, rfl, _, rfl, _, rfl, s, k, j, tp, pg, ns1, rfl, S4, W1, Wp, hk, fun H5 f5 => ⟨_, rfl, iteT ⟨_, fun σ' H' n => n, ?_⟩⟩, fun H5 ns5 f5 S5 W5 hc5 => ⟨_, rfl, iteF ?_⟩⟩
    · exact ⟨_, rfl, _, _, rfl, rfl, _, by omega, j + 1, rfl, by omega, rfl, f4.trans f5⟩
    · refine ⟨_, rfl, (j : Nat), 5, rfl, rfl, _, rfl, ifDF (by omega) ?_⟩
      refine ⟨_, rfl, _, _, rfl, rfl, _, ?_, c + 1, ns5, _, _, rfl, rfl, f1.trans (f4.no.trans f5), S5, W5⟩
      have := clo_le ns5
      have := W5.len
      omega
  · refine ifDF c5 (iteF ?_)
    refine ⟨_, rfl, (j : Nat), 5, rfl, rfl, _, rfl, ifDT (by omega) ?_⟩
    refine ⟨_, rfl, s, dx, _, rfl, R4.hs, rfl, _, rfl, s, k, tp, pg, ns1, rfl, S4, W1, .inl ho, fun H5 v5 n5 m5 f5 S5 W5 hc5 _ _ => ?_⟩
    refine ⟨_, rfl, _, _, rfl, rfl, _, ?_, c + 1, _, _, _, rfl, rfl, f1.trans (f4.no.trans f5), S5, W5⟩
    have := clo_le (ns1.set k m5)
    have := W5.len
    omega
end
end DF

/-! what the residual program is, in plain Lean -/
namespace DF
open PySem PySem.Spec PyProof.Rows L2
open T
/-- the prefix of the new names: the k-th -/
def pfx (k : Nat) : Str := ("r" : Str) ++ (toString (k : Int) : String) ++ ("x" : Str)
def rnmS (k i : Nat) : Str := pfx k ++ (toString (i : Int) : String)
def rnm (k i : Nat) : Nm := if h : good (rnmS k i) = true then ⟨rnmS k i, h⟩ else default
theorem rnm_s {k i : Nat} (hk : k < 9) (hi : i < 40) : (rnm k i).s = rnmS k i := by
  have h : ((List.range 9).all fun k => (List.range 40).all fun i => good (rnmS k i)) = true := by decide +kernel
  have h1 := List.all_eq_true.mp (List.all_eq_true.mp h k (List.mem_range.mpr hk)) i (List.mem_range.mpr hi)
  unfold rnm
  rw [dif_pos h1]
def vr (u : Int) : T := .lf (.u u)
/-- the parameters of a function node -/
def pars (pg : Prog) (n : Nd) : List Int := if n.kind = ("stepped" : Str) then unks n.term else match dem pg n.term with
  | .nds j _ => j :: (unks n.term).filter fun u => decide (u ≠ j)
  | _ => []
/-- a folded node's arguments, by the unknowns -/
def fnd : List (Int × T) → List T → List (Int × T)
  | [], _ => []
  | p :: ps, ts => if p.2.isVar = true then p :: fnd ps ts else (p.1, ts.headD default) :: fnd ps (ts.drop 1)
def bnd (t : T) : Option T := if t.size ≤ 120 then some t else none
def allS {α : Type} (g : Nat → Option α) : List Nat → Option (List α)
  | [] => some []
  | c :: cs => match g c, allS g cs with
    | some t, some ts => some (t :: ts)
    | _, _ => none
/-- the nodes with a function of their own -/
def isFn (ns : List Nd) (i : Nat) : Bool := match ns[i]? with
  | none => false
  | some n => decide (n.kind = ("branched" : Str)) || (decide (n.kind = ("stepped" : Str)) && ns.any fun m => decide (m.tg = some i))
section
variable (pg : Prog) (pre : Nat) (ns : List Nd)
def argsF (n : Nd) (ts : List T) : Option T := match n.tg with
  | none => none
  | some k => match ns[k]? with
    | none => none
    | some m => match matchP m.term n.term with
      | none => none
      | some ps => bnd ((T.lf (.c (rnm pre k))).aps ((pars pg m).map fun u => (look (fnd ps ts) u).getD default))
def ownT (n : Nd) (i : Nat) : T := (T.lf (.c (rnm pre i))).aps ((pars pg n).map vr)
/-- what stands for a node, by what stands for its children -/
def mk1 (g : Nat → Option T) (n : Nd) (i : Nat) : Option T :=
  if isFn ns i = true then some (ownT pg pre n i)
  else if n.kind = ("exposed" : Str) then (allS g n.ch).bind fun ts => bnd ((T.lf n.term.hd).aps ts)
  else if n.kind = ("stepped" : Str) then g (n.ch.headD 0)
  else if n.kind = ("split" : Str) then (g (n.ch.headD 0)).bind fun b => (allS g (n.ch.drop 1)).bind fun ts => bnd (put b (n.us.zip ts))
  else if n.kind = ("folded" : Str) then (allS g n.ch).bind fun ts => argsF pg pre ns n ts
  else some n.term
def stF : Nat → Nat → Option T
  | 0, _ => none
  | f + 1, i => match ns[i]? with
    | none => none
    | some n => mk1 pg pre ns (stF f) n i
/-- what stands for a node; none: too large -/
def S (i : Nat) : Option T := stF pg pre ns (ns.length - i) i
end
section
variable {pg : Prog} {pre : Nat} {ns : List Nd}
theorem allS_congr {α : Type} {g h : Nat → Option α} : ∀ {cs : List Nat}, (∀ c ∈ cs, g c = h c) → allS g cs = allS h cs
  | [], _ => rfl
  | c :: cs, e => by
    unfold allS
    rw [e c List.mem_cons_self, allS_congr fun d hd => e d (List.mem_cons_of_mem _ hd)]
theorem mk1_congr {g h : Nat → Option T} {n : Nd} {i : Nat} (e : ∀ c ∈ n.ch, g c = h c) (h1 : n.kind = ("stepped" : Str) ∨ n.kind = ("split" : Str) → n.ch ≠ []) : mk1 pg pre ns g n i = mk1 pg pre ns h n i := by
  have e0 : allS g n.ch = allS h n.ch := allS_congr e
  have e1 : allS g (n.ch.drop 1) = allS h (n.ch.drop 1) := allS_congr fun c hc => e c (List.mem_of_mem_drop hc)
  have e2 : n.ch ≠ [] → g (n.ch.headD 0) = h (n.ch.headD 0) := fun hne => by
    cases hc : n.ch with
    | nil => exact absurd hc hne
    | cons c cs => exact e c (by rw [hc]; exact List.mem_cons_self)
  unfold mk1
  rw [e0, e1]
  by_cases k1 : n.kind = ("stepped" : Str)
  · rw [e2 (h1 (.inl k1))]
  · by_cases k2 : n.kind = ("split" : Str)
    · rw [e2 (h1 (.inr k2))]
    · simp only [if_neg k1, if_neg k2]
theorem WfN.ch_ne (W : WfN pg ns) {i : Nat} {n : Nd} (e : ns[i]? = some n) (h : n.kind = ("stepped" : Str) ∨ n.kind = ("split" : Str)) : n.ch ≠ [] := by
  have ok := W.ok n (List.mem_of_getElem? e)
  rcases h with h | h
  · intro z
    have := ok.step h
    rw [z] at this
    cases this
  · intro z
    have := ok.spl h
    rw [z] at this
    cases this
theorem stF_eq (W : WfN pg ns) : ∀ (f i : Nat), ns.length - i ≤ f → stF pg pre ns f i = S pg pre ns i := by
  intro f
  induction f using Nat.strongRecOn with
  | ind f ih =>
  intro i hf
  unfold S
  cases e : ns[i]? with
  | none =>
    have : ns.length ≤ i := List.getElem?_eq_none_iff.mp e
    rw [show ns.length - i = 0 by omega]
    cases f with
    | zero => rfl
    | succ f => unfold stF; rw [e]
  | some n =>
  have hi := (List.getElem?_eq_some_iff.mp e).1
  obtain ⟨m, hm⟩ : ∃ m, ns.length - i = m + 1 := ⟨ns.length - i - 1, by omega⟩
  obtain ⟨f', rfl⟩ : ∃ f', f = f' + 1 := ⟨f - 1, by omega⟩
  rw [hm]
  show (match ns[i]? with | none => none | some n => mk1 pg pre ns (stF pg pre ns f') n i) = (match ns[i]? with | none => none | some n => mk1 pg pre ns (stF pg pre ns m) n i)
  rw [e]
  refine mk1_congr (fun c hc => ?_) (W.ch_ne e)
  have hcc := W.ch i n c e hc
  rw [ih f' (by omega) c (by omega)]
  by_cases hmf : m = f'
  · rw [hmf, ih f' (by omega) c (by omega)]
  · rw [ih m (by omega) c (by omega)]
/-- the law of S -/
theorem S_eq (W : WfN pg ns) {i : Nat} {n : Nd} (e : ns[i]? = some n) : S pg pre ns i = mk1 pg pre ns (S pg pre ns) n i := by
  have hi := (List.getElem?_eq_some_iff.mp e).1
  obtain ⟨m, hm⟩ : ∃ m, ns.length - i = m + 1 := ⟨ns.length - i - 1, by omega⟩
  show stF pg pre ns (ns.length - i) i = _
  rw [hm]
  show (match ns[i]? with | none => none | some n => mk1 pg pre ns (stF pg pre ns m) n i) = _
  rw [e]
  refine mk1_congr (fun c hc => ?_) (W.ch_ne e)
  have hcc := W.ch i n c e hc
  exact stF_eq W m c (by omega)
theorem allS_some {α : Type} {g : Nat → Option α} : ∀ {cs : List Nat} {ts : List α}, allS g cs = some ts → ts.length = cs.length ∧ ∀ (j c : Nat), cs[j]? = some c → ∃ t, g c = some t ∧ ts[j]? = some t
  | [], ts, h => by
    cases h
    exact ⟨rfl, fun j c e => by cases e⟩
  | c :: cs, ts, h => by
    unfold allS at h
    split at h
    · rename_i t ts' e1 e2
      cases h
      have ih := allS_some e2
      refine ⟨by rw [List.length_cons, ih.1, List.length_cons], fun j d ed => ?_⟩
      cases j with
      | zero => cases ed; exact ⟨t, e1, rfl⟩
      | succ j => exact ih.2 j d ed
    · cases h
theorem allS_none {α : Type} {g : Nat → Option α} : ∀ {cs : List Nat} {c : Nat}, c ∈ cs → g c = none → allS g cs = none
  | d :: cs, c, h, e => by
    unfold allS
    rcases List.mem_cons.mp h with rfl | h
    · rw [e]
    · rw [allS_none h e]
      cases g d <;> rfl
theorem allS_of {α : Type} {g : Nat → Option α} : ∀ {cs : List Nat} {ts : List α}, ts.length = cs.length → (∀ (j c : Nat) (t : α), cs[j]? = some c → ts[j]? = some t → g c = some t) → allS g cs = some ts
  | [], [], _, _ => rfl
  | [], _ :: _, h, _ => by cases h
  | _ :: _, [], h, _ => by cases h
  | c :: cs, t :: ts, h, e => by
    unfold allS
    rw [e 0 c t rfl rfl, allS_of (by simpa using h) fun j d u h1 h2 => e (j + 1) d u h1 h2]
theorem allS_snoc {α : Type} {g : Nat → Option α} {cs : List Nat} {ts : List α} {j c : Nat} {t : α} (h : allS g (cs.take j) = some ts) (e : cs[j]? = some c) (ht : g c = some t) : allS g (cs.take (j + 1)) = some (ts ++ [t]) := by
  have hs := allS_some h
  have hj := (List.getElem?_eq_some_iff.mp e).1
  have hl : ts.length = j := by rw [hs.1, List.length_take]; omega
  refine allS_of (by rw [List.length_append, hl, List.length_take, List.length_singleton]; omega) fun k d u h1 h2 => ?_
  rw [List.getElem?_take] at h1
  split at h1
  · rename_i hk
    by_cases hkj : k = j
    · subst hkj
      rw [e] at h1
      cases h1
      rw [List.getElem?_append_right (by omega), hl, Nat.sub_self] at h2
      cases h2
      exact ht
    · obtain ⟨t', e1, e2⟩ := hs.2 k d (by rw [List.getElem?_take]; rw [if_pos (by omega)]; exact h1)
      rw [List.getElem?_append_left (by omega), e2] at h2
      cases h2
      exact e1
  · cases h1
end
end DF

/-! str(n), int(n), abs(n), list(of a tuple or a list), f-strings -/
namespace DF
open PySem PySem.Spec PyProof.Rows L2
section
variable {X : Cx} {e : Expr} {te : TE} {p1 pos : Pos}
def rStrI : List V → Hp → VK → Prop := fun xs H Q => ∃ i : Int, xs = [.int i] ∧ i.natAbs.log2 < 1920 ∧ Q (.str (toString i)) H
def rIntI : List V → Hp → VK → Prop := fun xs H Q => (∃ i, xs = [.int i] ∧ Q (.int i) H) ∨ ∃ k, xs = [.bl k] ∧ Q (.int (if k then 1 else 0)) H
def rAbsI : List V → Hp → VK → Prop := fun xs H Q => ∃ i : Int, xs = [.int i] ∧ Q (.int (if i < 0 then -i else i)) H
def rListOf (K : PySem.W.Frag) : List V → Hp → VK → Prop := fun xs H Q => ∃ p ys, xs = [.ref p] ∧ (SqL K H p ys ∨ SqT K H p ys) ∧ ∀ l, H l = none → Q (.ref l) (upd H l (.lst ys))
theorem k_str (h1 : X.mg "str" = none) (he : PE X e te) (g1 : Gl X "str" := by rfl) (st : starEach (e :: []) X.env = (false, eval e X.env) :: starEach [] X.env := by rfl) (hpl : (backTo pos (starEach [] X.env)).any (·.1) = false := by rfl) :
    PE X (.Call (.Name "str" p1) [e] [] pos) (tCB rStrI (tCons te tNil)) := pe_callTy call_str_int g1 h1 (by decide +kernel) (pa_cons he pa_nil (hs := st)) (he := st) (hpl := hpl)
theorem k_int (h1 : X.mg "int" = none) (he : PE X e te) (g1 : Gl X "int" := by rfl) (st : starEach (e :: []) X.env = (false, eval e X.env) :: starEach [] X.env := by rfl) (hpl : (backTo pos (starEach [] X.env)).any (·.1) = false := by rfl) :
    PE X (.Call (.Name "int" p1) [e] [] pos) (tCB rIntI (tCons te tNil)) := pe_callTy call_int1 g1 h1 (by decide +kernel) (pa_cons he pa_nil (hs := st)) (he := st) (hpl := hpl)
theorem k_abs (h1 : X.mg "abs" = none) (he : PE X e te) (g1 : Gl X "abs" := by rfl) (st : starEach (e :: []) X.env = (false, eval e X.env) :: starEach [] X.env := by rfl) (hpl : (backTo pos (starEach [] X.env)).any (·.1) = false := by rfl) :
    PE X (.Call (.Name "abs" p1) [e] [] pos) (tCB rAbsI (tCons te tNil)) := pe_callB call_abs g1 h1 (by decide +kernel) (pa_cons he pa_nil (hs := st)) (he := st) (hpl := hpl)
theorem k_listT (h1 : X.mg "list" = none) (he : PE X e te) (g1 : Gl X "list" := by rfl) (st : starEach (e :: []) X.env = (false, eval e X.env) :: starEach [] X.env := by rfl) (hpl : (backTo pos (starEach [] X.env)).any (·.1) = false := by rfl) :
    PE X (.Call (.Name "list" p1) [e] [] pos) (tCB (rListOf X.K) (tCons te tNil)) := pe_callTy call_list_of g1 h1 (by decide +kernel) (pa_cons he pa_nil (hs := st)) (he := st) (hpl := hpl)
end
theorem empty_cat (d : Str) : Str.empty ++ d = d := by
  have e : (Str.empty ++ d).cps = d.cps := by
    rw [PySem.Str.cps_append]
    exact Array.empty_append
  cases hd : d with
  | mk a => rw [hd] at e; cases h2 : (Str.empty ++ Str.mk a) with
    | mk b => rw [h2] at e; cases e; rfl
end DF

namespace DF
open PySem PySem.Spec PyProof.Rows L2
def rSw : V → List V → Hp → VK → Prop := fun x xs H Q => ∃ a b, x = .str a ∧ xs = [.str b] ∧ Q (.bl (Txt.startswith a b)) H
def tJoin (ts : List TE) : TE := fun σ H Q => tJs ts Str.empty σ H fun out H1 => Q (.str out) H1
def hasP (pg : Prog) (k : Nat) : Bool := pg.any fun f => Txt.startswith f.nm.s (pfx k)
theorem isAll_bools {K : PySem.W.Frag} {H : Hp} : ∀ {l : List Bool} {xs : List V}, IsAll K H xs (l.map PyData.bool) → xs = l.map V.bl
  | [], _, .nil => rfl
  | _ :: _, _, .cons (.bl _) h => by rw [isAll_bools h]; rfl
structure Pfx (pg : Prog) (k : Nat) : Prop where
  lt : k < 9
  no : hasP pg k = false
  yes : ∀ j, j < k → hasP pg j = true
  few : pg.length ≤ 1000000
theorem pfx_len (k : Nat) (h : k < 9) : (pfx k).length ≤ 3 := by
  have h1 : ((List.range 9).all fun k => decide ((pfx k).length ≤ 3)) = true := by decide +kernel
  exact of_decide_eq_true (List.all_eq_true.mp h1 k (List.mem_range.mpr h))
section
variable {P : Program} {w : World} {K : PySem.W.Frag} {mg : Str → Option Value} {base : Heap}
def sp_prefix_of (K : PySem.W.Frag) : Sp := fun vs H Q _ => ∃ v pg k, vs = [v] ∧ Is K H v (encG pg) ∧ Pfx pg k ∧ ∀ H', Fr No H H' → Q (.str (pfx k)) H'
theorem sc_prefix_of : FnScope ["program", "number", "function"] ["program"] (defScope Tx.s_prefix_of) := C8.fnScope_by (by decide +kernel)
theorem ok_prefix_of (Y : Hf K mg) : Cl CX0 P w K mg base 1 "prefix_of" (sp_prefix_of K) := by
  refine Y.d_prefix_of.ok sc_prefix_of (fun vs H Q E h => ?_) (fun f cdv A outer s H vs Q E hr h => ?_)
  · obtain ⟨v, pg, k, rfl, _⟩ := h; rfl
  have nd := sc_prefix_of.nd
  refine ⟨_, ((pss_cons (ps_set (i := 1) nd rfl (by first | exact .inl rfl | exact .inr rfl) pe_int)
    (pss_cons (ps_while PassesOwn.never (pt_val (k_any Y.z_any (pe_lc (own := [("function", 2)]) (g := (gName 2)) (tt := tYes) (te := (tBM K "str" rSw (tOp (rD K) (tVar 2) (tC (.int 1))) (tCons (tJoin [(tC (.str "r")), (tFmt (tVar 1)), (tC (.str "x"))]) tNil))) rfl nd (pi_tup (pv 0)) (blkOk_by (own := [("function", 2)]) (N := ["program", "number", "function"]) (sc := defScope Tx.s_prefix_of) (by decide +kernel)) (fun _ _ _ _ _ => (pg_name (i := 2) nd rfl (by first | exact .inl rfl | exact .inr rfl))) (fun _ _ _ _ _ => pts_nil) (fun _ _ _ _ _ => (pe_bm PySem.F.plainAttrs_str PySem.F.slot_str_startswith PySem.F.type_str_startswith mt_startswith (pe_ix ix_d (pv 2) pe_int fun _ _ => rfl) (pa_cons (pe_joined (PJ.cons pe_str (PJ.cons (pe_fmt (pv 1)) (PJ.cons pe_str PJ.nil)))) pa_nil))))))
        (pss_one (ps_aug (i := 1) nd rfl (by first | exact .inl rfl | exact .inr rfl) pe_int ip_add)))
    (pss_one (ps_ret (pe_joined (PJ.cons pe_str (PJ.cons (pe_fmt (pv 1)) (PJ.cons pe_str PJ.nil))))))))), ?_⟩
  obtain ⟨v, pg, k, rfl, hv, hk, q⟩ := h
  have hlen : pg.length ≤ 1000000 := hk.few
  have sm : ∀ j : Nat, j < 9 → ((Str.empty ++ ("r" : Str)) ++ (toString (j : Int) : String)) ++ ("x" : Str) = pfx j ∧ (j : Int).natAbs.log2 < 1920 ∧ (Str.empty ++ ("r" : Str)).length ≤ sizeLine ∧ ((Str.empty ++ ("r" : Str)) ++ (toString (j : Int) : String)).length ≤ sizeLine ∧ (((Str.empty ++ ("r" : Str)) ++ (toString (j : Int) : String)) ++ ("x" : Str)).length ≤ sizeLine := by
    intro j hj
    have h1 : ((List.range 9).all fun j => decide (((Str.empty ++ ("r" : Str)) ++ (toString (j : Int) : String)) ++ ("x" : Str) = pfx j ∧ (j : Int).natAbs.log2 < 1920 ∧ (Str.empty ++ ("r" : Str)).length ≤ sizeLine ∧ ((Str.empty ++ ("r" : Str)) ++ (toString (j : Int) : String)).length ≤ sizeLine ∧ (((Str.empty ++ ("r" : Str)) ++ (toString (j : Int) : String)) ++ ("x" : Str)).length ≤ sizeLine)) = true := by decide +kernel
    exact of_decide_eq_true (List.all_eq_true.mp h1 j (List.mem_range.mpr hj))
  obtain ⟨a, xs, rfl, ta, ia⟩ := hv.tupE
  refine ⟨fun m σ H1 => ∃ j : Nat, m = k - j ∧ j ≤ k ∧ σ = [some (.ref a), some (.int (j : Nat)), none] ∧ Fr No H H1, ⟨_, 0, rfl, Nat.zero_le _, rfl, .refl⟩, ?_⟩
  rintro m σ H1 ⟨j, rfl, hj, rfl, f1⟩
  have hkl := hk.lt
  obtain ⟨e1, e2, e3, e4, e5⟩ := sm j (by omega)
  refine ⟨_, rfl, a, rfl, ⟨_, (ta.fr f1).sq⟩, fun D hD => lcD (K := K) (l := pg) (en := encF) (f := fun fn => some (.bool (Txt.startswith fn.nm.s (pfx j)))) (dwT (S := No) (ta.fr f1) (ia.fr f1)) hD (by omega) (fun fn x H3 yes no _ f3 hx yesH noH => ?_) fun H3 ys f3 hD3 hys => ?_⟩
  · refine ⟨rfl, yesT ?_⟩
    obtain ⟨a1, a2, a3, en⟩ := encF_nm fn
    rw [en] at hx
    refine ⟨_, rfl, _, 1, .str fn.nm.s, rfl, hx, rfl, fun w hw => ?_⟩
    obtain rfl := hw.strE
    refine ⟨rfl, _, rfl, e3, _, rfl, .inr ⟨_, rfl, e2, _, rfl, e4, _, rfl, e5, _, _, rfl, rfl, ?_⟩⟩
    rw [e1]
    exact yesH _ H3 _ .refl (.bl _) rfl
  · rw [fm_some] at hys
    have hyb : ys = (pg.map fun fn => Txt.startswith fn.nm.s (pfx j)).map V.bl := isAll_bools (by rw [List.map_map]; exact hys)
    subst hyb
    refine ⟨D, _, rfl, SqL.of hD3, _, rfl, ?_⟩
    rw [List.any_map]
    show if hasP pg j = true then _ else _
    by_cases c : j < k
    · rw [hk.yes j c]
      refine iteT ⟨_, fun σ' H' n => n, ?_⟩
      exact ⟨_, rfl, _, _, rfl, rfl, _, by omega, j + 1, rfl, by omega, rfl, f1.trans f3⟩
    · obtain rfl : j = k := by omega
      rw [hk.no]
      refine iteF ?_
      refine ⟨_, rfl, e3, _, rfl, .inr ⟨_, rfl, e2, _, rfl, e4, _, rfl, e5, ?_⟩⟩
      rw [e1]
      exact q _ (f1.trans f3)
end
end DF

namespace DF
open PySem PySem.Spec PyProof.Rows L2
def linesF : Fn → Nat
  | .plain _ _ _ => 1
  | .cases _ _ rs => rs.length
def tgs (ns : List Nd) : List Int := ns.filterMap fun n => if n.kind = ("folded" : Str) then n.tg.map fun k => (k : Int) else none
theorem mem_tgs {pg : Prog} {ns : List Nd} (W : WfN pg ns) (i : Nat) : decide ((i : Int) ∈ tgs ns) = ns.any fun m => decide (m.tg = some i) := by
  rw [Bool.eq_iff_iff]
  rw [decide_eq_true_iff, List.any_eq_true]
  unfold tgs
  rw [List.mem_filterMap]
  constructor
  · rintro ⟨n, hn, e⟩
    refine ⟨n, hn, decide_eq_true ?_⟩
    split at e
    · cases ht : n.tg with
      | none => rw [ht] at e; cases e
      | some k =>
        rw [ht] at e
        have : (k : Int) = i := Option.some.inj e
        rw [show k = i by omega]
    · cases e
  · rintro ⟨n, hn, e⟩
    have e := of_decide_eq_true e
    refine ⟨n, hn, ?_⟩
    by_cases c : n.kind = ("folded" : Str)
    · rw [if_pos c, e]; rfl
    · rw [(W.ok n hn).ntg c] at e
      cases e
theorem tgs_data : ∀ {ns : List Nd}, (∀ n ∈ ns, n.kind = ("folded" : Str) → ∃ k, n.tg = some k) → ns.filterMap (fun n => if n.kind = ("folded" : Str) then some (optD n.tg) else none) = (tgs ns).map PyData.int
  | [], _ => rfl
  | n :: ns, h => by
    have ih := tgs_data fun m hm => h m (List.mem_cons_of_mem _ hm)
    unfold tgs at ih ⊢
    rw [List.filterMap_cons, List.filterMap_cons]
    by_cases c : n.kind = ("folded" : Str)
    · obtain ⟨k, hk⟩ := h n List.mem_cons_self c
      rw [if_pos c, if_pos c, hk, ih]
      rfl
    · rw [if_neg c, if_neg c]
      exact ih
abbrev rdF (vp vg : V) (pre : Nat) (lt dk : Addr) : List (Str × V) := [("program", vp), ("graph", vg), ("prefix", .str (pfx pre)), ("targets", .ref lt), ("known", .ref dk)]
/-- the reader, what it knows aside -/
structure RdR (K : PySem.W.Frag) (H : Hp) (r : Addr) (pg : Prog) (ns : List Nd) (pre : Nat) (dx : Addr) (vp vg : V) (lt dk : Addr) : Prop where
  hs : H r = some (.ins (aR K) dx (rdF vp vg pre lt dk))
  hp : Is K H vp (encG pg)
  hg : Is K H vg (.tuple (ns.map rowD))
  ht : H lt = some (.lst ((tgs ns).map V.int))
  n1 : r ≠ dk
  n2 : lt ≠ dk
/-- the keys of a table: places, each once -/
def Keys (θ : Tab) : Prop := ∃ l : List Nat, l.Nodup ∧ (∀ j ∈ l, j < 40) ∧ θ.map (·.1) = l.map fun (j : Nat) => (j : Int)
theorem nodup_lt : ∀ (n : Nat) (l : List Nat), l.Nodup → (∀ j ∈ l, j < n) → l.length ≤ n
  | 0, l, _, h => by
    cases l with
    | nil => exact Nat.le_refl _
    | cons a l => exact absurd (h a List.mem_cons_self) (Nat.not_lt_zero _)
  | n + 1, l, nd, h => by
    have h1 := nodup_lt n (l.erase n) (nd.erase n) (fun j hj => by
      have h2 := (nd.mem_erase_iff).mp hj
      have h3 := h j h2.2
      have h4 := h2.1
      omega)
    rw [List.length_erase] at h1
    split at h1 <;> omega
theorem Keys.len {θ : Tab} (h : Keys θ) : θ.length ≤ 40 := by
  obtain ⟨l, nd, hl, e⟩ := h
  have h1 := congrArg List.length e
  rw [List.length_map, List.length_map] at h1
  rw [h1]
  exact nodup_lt 40 l nd hl
theorem Keys.nil : Keys [] := ⟨[], List.nodup_nil, fun j h => (by cases h), rfl⟩
theorem Keys.put {θ : Tab} (h : Keys θ) {i : Nat} (t : T) (hi : i < 40) : Keys (set1 θ (i : Int) t) := by
  obtain ⟨l, nd, hl, e⟩ := h
  unfold set1
  split
  · refine ⟨l, nd, hl, ?_⟩
    rw [List.map_map, ← e]
    refine List.map_congr_left fun p _ => ?_
    show (if p.1 = (i : Int) then (p.1, t) else p).1 = p.1
    split <;> rfl
  · rename_i c
    refine ⟨l ++ [i], ?_, fun j hj => ?_, ?_⟩
    · rw [List.nodup_append]
      refine ⟨nd, by simp, fun a ha b hb hab => c ?_⟩
      have hb : b = i := by simpa using hb
      subst hab hb
      have hm : (a : Int) ∈ θ.map (·.1) := by rw [e]; exact List.mem_map.mpr ⟨a, ha, rfl⟩
      obtain ⟨p, hp, ep⟩ := List.mem_map.mp hm
      exact List.any_eq_true.mpr ⟨p, hp, decide_eq_true ep⟩
    · rcases List.mem_append.mp hj with hj | hj
      · exact hl j hj
      · rw [List.mem_singleton.mp hj]; exact hi
    · rw [List.map_append, List.map_append, e]; rfl
theorem look_any {θ : Tab} {i : Int} : (look θ i).isSome = θ.any fun p => decide (p.1 = i) := by
  unfold look
  rw [Option.isSome_map, Bool.eq_iff_iff, List.find?_isSome, List.any_eq_true]
/-- what it knows -/
def Know (K : PySem.W.Frag) (H : Hp) (g : Nat → Option T) (dk : Addr) : Prop := ∃ kvs θ, H dk = some (.dK kvs) ∧ DTab K H kvs θ ∧ Keys θ ∧ ∀ i t, look θ i = some t → ∃ j : Nat, i = (j : Int) ∧ g j = some t
theorem Know.start {K : PySem.W.Frag} {H : Hp} {g : Nat → Option T} {dk : Addr} (h : H dk = some (.dK [])) : Know K H g dk := ⟨[], [], h, .nil, Keys.nil, fun i t e => nomatch e⟩
theorem Know.fr {K : PySem.W.Frag} {H H' : Hp} {S : Addr → Prop} {g : Nat → Option T} {dk : Addr} (k : Know K H g dk) (f : Fr S H H') (n : ¬ S dk) : Know K H' g dk :=
  let ⟨kvs, θ, h1, h2, h3⟩ := k; ⟨kvs, θ, f.k _ _ n h1, h2.fr f, h3⟩
theorem Know.kn {K : PySem.W.Frag} {H H' : Hp} {g : Nat → Option T} {dk : Addr} (k : Know K H g dk) (f : Fr No H H') : Know K H' g dk := k.fr f fun z => z
theorem RdR.frS {K : PySem.W.Frag} {H H' : Hp} {S : Addr → Prop} {r : Addr} {pg : Prog} {ns : List Nd} {pre : Nat} {dx : Addr} {vp vg : V} {lt dk : Addr} (R : RdR K H r pg ns pre dx vp vg lt dk) (f : Fr S H H') (n1 : ¬ S r) (n2 : ¬ S lt) : RdR K H' r pg ns pre dx vp vg lt dk :=
  ⟨f.k _ _ n1 R.hs, R.hp.fr f, R.hg.fr f, f.k _ _ n2 R.ht, R.n1, R.n2⟩
theorem RdR.kn {K : PySem.W.Frag} {H H' : Hp} {r : Addr} {pg : Prog} {ns : List Nd} {pre : Nat} {dx : Addr} {vp vg : V} {lt dk : Addr} (R : RdR K H r pg ns pre dx vp vg lt dk) (f : Fr No H H') : RdR K H' r pg ns pre dx vp vg lt dk := R.frS f (fun z => z) fun z => z
theorem RdR.fr {K : PySem.W.Frag} {H H' : Hp} {r : Addr} {pg : Prog} {ns : List Nd} {pre : Nat} {dx : Addr} {vp vg : V} {lt dk : Addr} (R : RdR K H r pg ns pre dx vp vg lt dk) (f : Fr (At dk) H H') : RdR K H' r pg ns pre dx vp vg lt dk :=
  ⟨f.k _ _ R.n1 R.hs, R.hp.fr f, R.hg.fr f, f.k _ _ R.n2 R.ht, R.n1, R.n2⟩
section
variable {P : Program} {w : World} {K : PySem.W.Frag} {mg : Str → Option Value} {base : Heap}
def sp_count_lines (K : PySem.W.Frag) : Sp := fun vs H Q _ => ∃ v fn, vs = [v] ∧ Is K H v (encF fn) ∧ Q (.int (linesF fn : Nat)) H
theorem sc_count_lines : FnScope ["function"] ["function"] (defScope Tx.s_count_lines) := C8.fnScope_by (by decide +kernel)
theorem ok_count_lines (Y : Hf K mg) : Cl CX0 P w K mg base 1 "count_lines" (sp_count_lines K) := by
  refine Y.d_count_lines.ok sc_count_lines (fun vs H Q E h => ?_) (fun f cdv A outer s H vs Q E hr h => ?_)
  · obtain ⟨v, fn, rfl, _⟩ := h; rfl
  have nd := sc_count_lines.nd
  refine ⟨_, ((pss_cons (ps_if (pt_cmpR (op_eqD (n := 1) hr) (pe_ix ix_d (pv 0) pe_int fun _ _ => rfl) pe_str rfl)
        (pss_one (ps_ret pe_int)) pss_nil)
    (pss_one (ps_ret (k_lenT Y.z_len (pe_ix ix_d (pv 0) pe_int fun _ _ => rfl)))))), ?_⟩
  obtain ⟨v, fn, rfl, hv, q⟩ := h
  cases fn with
  | plain x n b => exact strT rfl hv (iteT q)
  | cases x n rs => exact strT rfl hv (iteF ⟨_, rfl, _, 3, _, rfl, hv, rfl, fun w4 hw => ⟨w4, _, rfl, hw, by rw [List.length_map]; exact q⟩⟩)
def sp_Reader___init__ (K : PySem.W.Frag) : Sp := fun vs H Q _ => ∃ r dx v u pg ns pre, vs = [.ref r, v, u] ∧ H r = some (.ins (aR K) dx []) ∧ Is K H v (encG pg) ∧ Is K H u (.tuple (ns.map rowD)) ∧ WfN pg ns ∧ Pfx pg pre ∧
  ∀ H' lt dk, Fr (At r) H H' → H dk = none → RdR K H' r pg ns pre dx v u lt dk → H' dk = some (.dK []) → Q .non H'
theorem sc_Reader___init__ : FnScope ["self", "program", "graph", "row"] ["self", "program", "graph"] (defScope Tx.s_Reader___init__) := C8.fnScope_by (by decide +kernel)
theorem ok_Reader (Y : Hf K mg) : Ma CX0 P w K mg base 3 "Reader" (aR K) (sp_Reader___init__ K) := by
  obtain ⟨f, fd, F, M, hm, b⟩ := Y.d_Reader
  refine ⟨f, fd, _, M, F.ok sc_Reader___init__ (fun vs H Q E h => ?_) (fun cdv A outer s H vs Q E hr h => ?_), hm, b⟩
  · obtain ⟨s, dx, v, u, pg, ns, pre, rfl, _⟩ := h; rfl
  have nd := sc_Reader___init__.nd
  have key : ∃ t, PSs (cxOf CX0 P w K mg base ["self", "program", "graph", "row"] "Reader.__init__" (defScope Tx.s_Reader___init__) f cdv A outer s H E).nox (defBody Tx.s_Reader___init__) t ∧ t { nx := fun _ H' => Q .non H', rt := Q } (L2.start ["self", "program", "graph", "row"] vs) H := by
    refine ⟨_, ((pss_cons (ps_fld (pv 0) (pv 1) rfl)
    (pss_cons (ps_fld (pv 0) (pv 2) rfl)
    (pss_cons (ps_fld (pv 0) (kc (ok_prefix_of Y) hr (pa_cons (pv 1) pa_nil) (hk := by omega)) rfl)
    (pss_cons (ps_fld (pv 0) (pe_lc (own := [("row", 3)]) (g := (gName 3)) (tt := (tTest (tOp (rEqD 1 K) (tOp (rD K) (tVar 3) (tC (.int 0))) (tC (.str "folded"))))) (te := (tOp (rD K) (tVar 3) (tC (.int 3)))) rfl nd (pi_tup (pv 2)) (blkOk_by (own := [("row", 3)]) (N := ["self", "program", "graph", "row"]) (sc := defScope Tx.s_Reader___init__) (by decide +kernel)) (fun _ _ _ _ _ => (pg_name (i := 3) nd rfl (by first | exact .inl rfl | exact .inr rfl))) (fun _ _ _ _ _ => (pts_one (pt_cmpR (op_eqD (n := 1) hr) (pe_ix ix_d (pv 3) pe_int fun _ _ => rfl) pe_str rfl))) (fun _ _ _ _ _ => (pe_ix ix_d (pv 3) pe_int fun _ _ => rfl))) rfl)
    (pss_one (ps_fld (pv 0) pe_dnewK rfl))))))), ?_⟩
    obtain ⟨r, dx, v, u, pg, ns, pre, rfl, ha, hv, hu, W, hk, q⟩ := h
    have L : ∀ n : Nat, n ≤ 6 → n < 1000 := fun n h => by omega
    refine ⟨_, rfl, _, rfl, r, _, dx, [], rfl, ha, Y.c_Reader, Y.n_Reader_program, L 0 (by decide), ?_⟩
    have g1 : Fr (At r) H (upd H r (.ins (aR K) dx [("program", v)])) := Fr.refl.mut rfl ha fun z => z
    refine ⟨_, rfl, _, rfl, r, _, dx, [("program", v)], rfl, upd_same, Y.c_Reader, Y.n_Reader_graph, L 1 (by decide), ?_⟩
    have g2 := g1.mut (o := .ins (aR K) dx [("program", v), ("graph", u)]) rfl upd_same fun z => z
    refine ⟨_, rfl, v, pg, pre, rfl, hv.fr g2, hk, fun H1 f1 => ⟨_, rfl, r, _, dx, [("program", v), ("graph", u)], rfl, f1.kn upd_same, Y.c_Reader, Y.n_Reader_prefix, L 2 (by decide), ?_⟩⟩
    have g3 := (g2.trans f1.no).mut (o := .ins (aR K) dx [("program", v), ("graph", u), ("prefix", .str (pfx pre))]) rfl (f1.kn upd_same) fun z => z
    obtain ⟨a, xs, rfl, ta, ia⟩ := hu.tupE
    have hln := W.len
    refine ⟨_, rfl, a, rfl, ⟨_, (ta.fr g3).sq⟩, fun D hD => lcD (K := K) (l := ns) (en := rowD) (f := fun n => if n.kind = ("folded" : Str) then some (optD n.tg) else none) (dwT (S := No) (ta.fr g3) (ia.fr g3)) hD (by omega) (fun n x H3 yes no hn f3 hx yesH noH => ?_) fun H3 ys f3 hD3 hys => ?_⟩
    · refine ⟨rfl, ?_⟩
      refine strT rfl hx ?_ (kinds_fine _ (W.kd n hn))
      cases c : (n.kind == ("folded" : Str)) with
      | true => exact iteT ⟨_, rfl, _, 3, _, rfl, hx, rfl, fun w5 hw => yesH w5 H3 _ .refl hw (if_pos (eq_of_beq c))⟩
      | false => exact iteF (noH H3 .refl (if_neg fun z => by rw [z, beq_self_eq_true] at c; cases c))
    · rw [tgs_data fun n hn c => let ⟨k, _, _, e, _⟩ := (W.ok n hn).fol c; ⟨k, e⟩] at hys
      have hyv := isAll_intsV hys
      subst hyv
      have hr3 : H3 r = some (.ins (aR K) dx [("program", v), ("graph", .ref a), ("prefix", .str (pfx pre))]) := f3.kn upd_same
      refine ⟨_, rfl, r, _, dx, [("program", v), ("graph", .ref a), ("prefix", .str (pfx pre))], rfl, hr3, Y.c_Reader, Y.n_Reader_targets, L 3 (by decide), ?_⟩
      have g4 := (g3.trans f3.no).mut (o := .ins (aR K) dx [("program", v), ("graph", .ref a), ("prefix", .str (pfx pre)), ("targets", .ref D)]) rfl hr3 fun z => z
      refine fun dk hdk => ⟨_, rfl, r, _, dx, [("program", v), ("graph", .ref a), ("prefix", .str (pfx pre)), ("targets", .ref D)], rfl, ?_, Y.c_Reader, Y.n_Reader_known, L 4 (by decide), ?_⟩
      · rw [upd_ne (ne_of_none upd_same hdk)]; exact upd_same
      have nrd : r ≠ D := fun z => by rw [z, hD3] at hr3; cases hr3
      have hD4 : (upd H3 r (.ins (aR K) dx [("program", v), ("graph", .ref a), ("prefix", .str (pfx pre)), ("targets", .ref D)])) D = some (.lst ((tgs ns).map V.int)) := by rw [upd_ne nrd.symm]; exact hD3
      have nrk : r ≠ dk := ne_of_none upd_same hdk
      have nDk : D ≠ dk := ne_of_none hD4 hdk
      have g5 := (g4.trans (Fr.new0 (o := .dK []) hdk).no).mut (o := .ins (aR K) dx (rdF v (.ref a) pre D dk)) rfl (show _ = some (HO.ins (aR K) dx [("program", v), ("graph", .ref a), ("prefix", .str (pfx pre)), ("targets", .ref D)]) by rw [upd_ne nrk]; exact upd_same) fun z => z
      refine q _ D dk g5 (g4.free (fun z => nrk (show dk = r from z).symm) hdk) ⟨upd_same, hv.fr g5, hu.fr g5, ?_, nrk, nDk⟩ ?_
      · rw [upd_ne nrd.symm, upd_ne nDk]; exact hD4
      · rw [upd_ne nrk.symm]; exact upd_same
  obtain ⟨t, h1, h2⟩ := key
  exact ⟨t, h1.nox, h2⟩
end
end DF

namespace DF
open PySem PySem.Spec PyProof.Rows L2
section
variable {P : Program} {w : World} {K : PySem.W.Frag} {mg : Str → Option Value} {base : Heap}
theorem ifNDT {p : Prop} [Decidable p] {A B : Prop} (h : ¬ p) (a : A) : if (!decide p) = true then A else B := by rw [if_pos (by rw [decide_eq_false h]; rfl)]; exact a
theorem ifNDF {p : Prop} [Decidable p] {A B : Prop} (h : p) (a : B) : if (!decide p) = true then A else B := by rw [if_neg (by rw [decide_eq_true h]; exact Bool.false_ne_true)]; exact a
theorem row_at {ns : List Nd} {i : Nat} {n : Nd} (e : ns[i]? = some n) : L2.atI (ns.map rowD) (i : Int) = some (rowD n) := by
  rw [atI_nat, List.getElem?_map, e]; rfl
section
variable {r dx lt dk : Addr} {H : Hp} {pg : Prog} {ns : List Nd} {pre : Nat} {vp vg : V} {σ : St} {i j : Nat} {n : Nd} {Q : VK}
theorem RdR.graph (R : RdR K H r pg ns pre dx vp vg lt dk) (Y : Hf K mg) (e : σ[0]? = some (some (.ref r))) (q : Q vg H) : tFld K (tVar 0) "graph" σ H Q := ⟨_, e, r, _, dx, _, vg, rfl, R.hs, Y.c_Reader, Y.n_Reader_graph, rfl, q⟩
theorem RdR.row0 (R : RdR K H r pg ns pre dx vp vg lt dk) (Y : Hf K mg) (e : σ[0]? = some (some (.ref r))) (ej : σ[j]? = some (some (.int (i : Nat)))) (en : ns[i]? = some n) (q : ∀ w, Is K H w (rowD n) → Q w H) : tOp (rD K) (tFld K (tVar 0) "graph") (tVar j) σ H Q :=
  R.graph Y e ⟨_, ej, _, _, _, rfl, R.hg, row_at en, q⟩
theorem RdR.row (R : RdR K H r pg ns pre dx vp vg lt dk) (Y : Hf K mg) (e : σ[0]? = some (some (.ref r))) (ej : σ[j]? = some (some (.int (i : Nat)))) (en : ns[i]? = some n) {k : Int} {d : PyData} (hd : L2.atI [.str n.kind, enc n.term, natsD n.ch, optD n.tg, intsD n.us] k = some d) (q : ∀ w, Is K H w d → Q w H) :
    tOp (rD K) (tOp (rD K) (tFld K (tVar 0) "graph") (tVar j)) (tC (.int k)) σ H Q :=
  R.row0 Y e ej en fun w hw => ⟨_, k, d, rfl, hw, hd, q⟩
end
def sp_Reader_is_function_node (K : PySem.W.Frag) : Sp := fun vs H Q _ => ∃ r i pg ns pre dx vp vg lt dk, vs = [.ref r, .int (i : Nat)] ∧ RdR K H r pg ns pre dx vp vg lt dk ∧ WfN pg ns ∧ i < ns.length ∧ Q (.bl (isFn ns i)) H
theorem sc_Reader_is_function_node : FnScope ["self", "number", "kind"] ["self", "number"] (defScope Tx.s_Reader_is_function_node) := C8.fnScope_by (by decide +kernel)
theorem ok_is_function_node (Y : Hf K mg) : Me CX0 P w K mg base 1 (aR K) "is_function_node" (sp_Reader_is_function_node K) := by
  refine Y.d_Reader_is_function_node.ok sc_Reader_is_function_node (fun vs H Q E h => ?_) (fun f cdv A outer s H vs Q E hr h => ?_)
  · obtain ⟨r, i, pg, ns, pre, dx, vp, vg, lt, dk, rfl, _⟩ := h; rfl
  have nd := sc_Reader_is_function_node.nd
  refine ⟨_, ((pss_cons (ps_set (i := 2) nd rfl (by first | exact .inl rfl | exact .inr rfl) (pe_ix ix_d (pe_ix ix_d (pe_fld (pv 0) rfl) (pv 1) fun _ _ => rfl) pe_int fun _ _ => rfl))
    (pss_one (ps_ret (pe_or (pe_cmpR (op_eqD (n := 1) hr) (pv 2) pe_str rfl) (pe_one (pe_and (pe_cmpR (op_eqD (n := 1) hr) (pv 2) pe_str rfl) (pe_one (pe_cmpR op_inI (pv 1) (pe_fld (pv 0) rfl) rfl))))))))), ?_⟩
  obtain ⟨r, i, pg, ns, pre, dx, vp, vg, lt, dk, rfl, R, W, hi, q⟩ := h
  obtain ⟨n, en⟩ : ∃ n, ns[i]? = some n := ⟨_, List.getElem?_eq_getElem hi⟩
  refine R.row Y rfl rfl en rfl fun w1 hw1 => ?_
  obtain rfl := hw1.strE
  have hk := kinds_fine _ (W.kd n (List.mem_of_getElem? en))
  have e0 : isFn ns i = ((n.kind == ("branched" : Str)) || ((n.kind == ("stepped" : Str)) && decide ((i : Int) ∈ tgs ns))) := by
    unfold isFn
    rw [en, mem_tgs W i]
    rfl
  rw [e0] at q
  refine ⟨_, rfl, .str n.kind, .str "branched", .str _, .str _, hk, by decide +kernel, Nat.zero_le _, _, rfl, ?_⟩
  show if (n.kind == ("branched" : Str)) = true then _ else _
  cases c1 : (n.kind == ("branched" : Str)) with
  | true => rw [c1] at q; exact iteT q
  | false =>
    rw [c1] at q
    refine iteF ⟨_, rfl, .str n.kind, .str "stepped", .str _, .str _, hk, by decide +kernel, Nat.zero_le _, _, rfl, ?_⟩
    show if (n.kind == ("stepped" : Str)) = true then _ else _
    cases c2 : (n.kind == ("stepped" : Str)) with
    | false => rw [c2] at q; exact iteF q
    | true =>
      rw [c2] at q
      exact iteT ⟨_, rfl, _, rfl, r, _, dx, _, _, rfl, R.hs, Y.c_Reader, Y.n_Reader_targets, rfl, _, tgs ns, rfl, .inr ⟨lt, rfl, R.ht⟩, q⟩
theorem isFn_kind {ns : List Nd} {i : Nat} {n : Nd} (en : ns[i]? = some n) (h : isFn ns i = true) : n.kind = ("branched" : Str) ∨ n.kind = ("stepped" : Str) := by
  unfold isFn at h
  rw [en] at h
  have h : (decide (n.kind = ("branched" : Str)) || (decide (n.kind = ("stepped" : Str)) && ns.any fun m => decide (m.tg = some i))) = true := h
  rw [Bool.or_eq_true, Bool.and_eq_true] at h
  rcases h with h | h
  · exact .inl (of_decide_eq_true h)
  · exact .inr (of_decide_eq_true h.1)
def sp_Reader_parameters (K : PySem.W.Frag) : Sp := fun vs H Q _ => ∃ r i pg ns pre dx vp vg lt dk n, vs = [.ref r, .int (i : Nat)] ∧ RdR K H r pg ns pre dx vp vg lt dk ∧ WfN pg ns ∧ Wf pg ∧ ns[i]? = some n ∧ isFn ns i = true ∧ Rt K H Q (intsD (pars pg n))
theorem sc_Reader_parameters : FnScope ["self", "number", "kind", "term", "first", "unknown"] ["self", "number"] (defScope Tx.s_Reader_parameters) := C8.fnScope_by (by decide +kernel)
theorem ok_parameters (Y : Hf K mg) : Me CX0 P w K mg base 30 (aR K) "parameters" (sp_Reader_parameters K) := by
  refine Y.d_Reader_parameters.ok sc_Reader_parameters (fun vs H Q E h => ?_) (fun f cdv A outer s H vs Q E hr h => ?_)
  · obtain ⟨r, i, pg, ns, pre, dx, vp, vg, lt, dk, n, rfl, _⟩ := h; rfl
  have nd := sc_Reader_parameters.nd
  refine ⟨_, ((pss_cons (ps_par (i := 2) (j := 3) rfl nd rfl rfl (by decide) rfl rfl (pa_cons (pe_ix ix_d (pe_ix ix_d (pe_fld (pv 0) rfl) (pv 1) fun _ _ => rfl) pe_int fun _ _ => rfl) (pa_cons (pe_ix ix_d (pe_ix ix_d (pe_fld (pv 0) rfl) (pv 1) fun _ _ => rfl) pe_int fun _ _ => rfl) pa_nil)) rfl)
    (pss_cons (ps_if (pt_cmpR (op_eqD (n := 1) hr) (pv 2) pe_str rfl)
        (pss_one (ps_ret (kc (ok_unknowns Y) hr (pa_cons (pv 3) pa_nil) (hk := by omega)))) pss_nil)
    (pss_cons (ps_set (i := 4) nd rfl (by first | exact .inl rfl | exact .inr rfl) (pe_ix ix_d (kc (ok_demand Y) hr (pa_cons (pe_fld (pv 0) rfl) (pa_cons (pv 3) pa_nil)) (hk := by omega)) pe_int fun _ _ => rfl))
    (pss_one (ps_ret (pe_op op_catD (pe_tupD (pa_cons (pv 4) pa_nil)) (k_tup Y.z_tuple (pe_lc (own := [("unknown", 5)]) (g := (gName 5)) (tt := (tB (tNeI (tVar 5) (tVar 4)))) (te := (tVar 5)) rfl nd (pi_tup (kc (ok_unknowns Y) hr (pa_cons (pv 3) pa_nil) (hk := by omega))) (blkOk_by (own := [("unknown", 5)]) (N := ["self", "number", "kind", "term", "first", "unknown"]) (sc := defScope Tx.s_Reader_parameters) (by decide +kernel)) (fun _ _ _ _ _ => (pg_name (i := 5) nd rfl (by first | exact .inl rfl | exact .inr rfl))) (fun _ _ _ _ _ => (pts_one (pt_cmp (pc_neI (pv 5) (pv 4))))) (fun _ _ _ _ _ => (pv 5))))))))))), ?_⟩
  obtain ⟨r, i, pg, ns, pre, dx, vp, vg, lt, dk, n, rfl, R, W, Wp, en, hf, q⟩ := h
  refine R.row Y rfl rfl en rfl fun w1 hw1 => R.row Y rfl rfl en rfl fun w2 hw2 => ⟨_, _, rfl, ?_⟩
  obtain rfl := hw1.strE
  have hmem := List.mem_of_getElem? en
  have hk := kinds_fine _ (W.kd n hmem)
  have hz := W.sz n hmem
  refine ⟨_, rfl, .str n.kind, .str "stepped", .str _, .str _, hk, by decide +kernel, Nat.zero_le _, _, rfl, ?_⟩
  show if (n.kind == ("stepped" : Str)) = true then _ else _
  unfold pars at q
  cases c2 : (n.kind == ("stepped" : Str)) with
  | true =>
    rw [if_pos (eq_of_beq c2)] at q
    exact iteT ⟨_, rfl, w2, n.term, rfl, hw2, by omega, q⟩
  | false =>
    have nst : ¬ n.kind = ("stepped" : Str) := fun z => by rw [z, beq_self_eq_true] at c2; cases c2
    rw [if_neg nst] at q
    obtain ⟨j, g, hd, _⟩ := (W.ok n hmem).bran ((isFn_kind en hf).elim id fun z => absurd z nst)
    rw [hd] at q
    refine iteF (nextE ?_)
    dsimp only
    refine ⟨_, rfl, r, _, dx, _, vp, rfl, R.hs, Y.c_Reader, Y.n_Reader_program, rfl, _, rfl, vp, w2, pg, n.term, rfl, R.hp, hw2, Wp, W.kn n hmem, by omega, fun w3 H3 f3 hw3 => ?_⟩
    rw [hd] at hw3
    refine ⟨_, 1, .int j, rfl, hw3, rfl, fun w4 hw4 => ?_⟩
    obtain rfl := hw4.intE
    refine ⟨_, rfl, [.int j], .cons (.int _) .nil, by show 1 ≤ 16000000; decide, fun w5 H5 f5 hw5 => ?_⟩
    have f35 := f3.trans f5
    refine ⟨_, rfl, w2, n.term, rfl, hw2.fr f35, by omega, fun w6 H6 f6 hw6 => ?_⟩
    obtain ⟨a6, xs6, rfl, ta, ia⟩ := hw6.tupE
    refine ⟨a6, rfl, ⟨_, ta.sq⟩, fun D hD => lcD (K := K) (l := unks n.term) (en := PyData.int) (f := fun u => if u = j then none else some (.int u)) (dwT (S := No) ta ia) hD (by have := unks_len n.term; omega) (fun u x H7 yes no _ f7 hx yesH noH => ?_) fun H7 ys f7 hD7 hys => ?_⟩
    · obtain rfl := hx.intE
      refine ⟨rfl, _, rfl, _, rfl, u, j, rfl, rfl, _, rfl, ?_⟩
      by_cases c : u = j
      · exact ifNDF c (noH H7 .refl (if_pos c))
      · exact ifNDT c ⟨_, rfl, yesH _ H7 _ .refl (.int _) (if_neg c)⟩
    · have e1 : (unks n.term).filterMap (fun u => if u = j then none else some (PyData.int u)) = ((unks n.term).filter fun u => decide (u ≠ j)).map PyData.int := by
        induction unks n.term with
        | nil => rfl
        | cons x l ih =>
          rw [List.filterMap_cons, List.filter_cons]
          by_cases c : x = j
          · rw [if_pos c, if_neg (by simpa using c)]; exact ih
          · rw [if_neg c, if_pos (by simpa using c), List.map_cons, ih]
      rw [e1] at hys
      have hl := hys.len
      refine ⟨D, ys, _, rfl, hD7, hys, fun w8 H8 f8 hw8 => ⟨_, _, hw5.fr (f6.trans (f7.trans f8)), hw8, ?_, fun w9 H9 f9 hw9 => q w9 H9 (f35.trans (f6.trans (f7.trans (f8.trans f9)))) hw9⟩⟩
      have := unks_len n.term
      have := List.length_filter_le (fun u => decide (u ≠ j)) (unks n.term)
      rw [List.length_map]
      show 1 + _ ≤ 16000000
      omega
def sp_Reader_name (K : PySem.W.Frag) : Sp := fun vs H Q _ => ∃ r i pg ns pre dx vp vg lt dk, vs = [.ref r, .int (i : Nat)] ∧ RdR K H r pg ns pre dx vp vg lt dk ∧ pre < 9 ∧ i < 40 ∧ Q (.str (rnm pre i).s) H
theorem sc_Reader_name : FnScope ["self", "number"] ["self", "number"] (defScope Tx.s_Reader_name) := C8.fnScope_by (by decide +kernel)
theorem ok_name (Y : Hf K mg) : Me CX0 P w K mg base 1 (aR K) "name" (sp_Reader_name K) := by
  refine Y.d_Reader_name.ok sc_Reader_name (fun vs H Q E h => ?_) (fun f cdv A outer s H vs Q E hr h => ?_)
  · obtain ⟨r, i, pg, ns, pre, dx, vp, vg, lt, dk, rfl, _⟩ := h; rfl
  have nd := sc_Reader_name.nd
  refine ⟨_, ((pss_one (ps_ret (pe_joined (PJ.cons (pe_fmt (pe_fld (pv 0) rfl)) (PJ.cons (pe_fmt (pv 1)) PJ.nil)))))), ?_⟩
  obtain ⟨r, i, pg, ns, pre, dx, vp, vg, lt, dk, rfl, R, hp, hi, q⟩ := h
  have sm : (Str.empty ++ pfx pre).length ≤ sizeLine ∧ (i : Int).natAbs.log2 < 1920 ∧ (Str.empty ++ pfx pre ++ (toString (i : Int) : String)).length ≤ sizeLine := by
    have h1 : ((List.range 9).all fun k => (List.range 40).all fun i => decide ((Str.empty ++ pfx k).length ≤ sizeLine ∧ (i : Int).natAbs.log2 < 1920 ∧ (Str.empty ++ pfx k ++ (toString (i : Int) : String)).length ≤ sizeLine)) = true := by decide +kernel
    exact of_decide_eq_true (List.all_eq_true.mp (List.all_eq_true.mp h1 pre (List.mem_range.mpr hp)) i (List.mem_range.mpr hi))
  rw [rnm_s hp hi] at q
  have hz : (pfx pre).length ≤ sizeLine := Nat.le_trans (pfx_len pre hp) (by decide)
  refine ⟨_, rfl, r, _, dx, _, _, rfl, R.hs, Y.c_Reader, Y.n_Reader_prefix, rfl, .inl ⟨_, rfl, hz, _, rfl, sm.1, _, rfl, .inr ⟨_, rfl, sm.2.1, _, rfl, sm.2.2, ?_⟩⟩⟩
  rw [empty_cat]
  exact q
end
end DF

namespace DF
open PySem PySem.Spec PyProof.Rows L2
section
variable {P : Program} {w : World} {K : PySem.W.Frag} {mg : Str → Option Value} {base : Heap}
def rBnd (K : PySem.W.Frag) (t : T) (v : V) (H : Hp) (Q : VK) (E : XK) : Prop := (t.size ≤ 120 → ∀ H', Fr No H H' → Q v H') ∧ (120 < t.size → ∀ H', Fr No H H' → E (.ref (aTL K)) none H')
def sp_Reader_bounded (K : PySem.W.Frag) : Sp := fun vs H Q E => ∃ r v t, vs = [.ref r, v] ∧ Tm K H v t ∧ t.size ≤ 1000000 ∧ rBnd K t v H Q E
theorem sc_Reader_bounded : FnScope ["self", "term"] ["self", "term"] (defScope Tx.s_Reader_bounded) := C8.fnScope_by (by decide +kernel)
theorem ok_bounded (Y : Hf K mg) : Me (L2.CX P w) P w K mg base 5 (aR K) "bounded" (sp_Reader_bounded K) := by
  refine Y.d_Reader_bounded.okX sc_Reader_bounded (fun vs H Q E h => ?_) (fun f cdv A outer s H vs Q E hr h => ?_)
  · obtain ⟨r, v, t, rfl, _⟩ := h; rfl
  have nd := sc_Reader_bounded.nd
  refine ⟨_, ((pss_cons (ps_if (pt_cmp (pc_gt (kc (ok_size Y) hr (pa_cons (pv 1) pa_nil) (hk := by omega)) (pe_mint 120 rfl Y.i_MOST_BODY)))
        (pss_one (ps_raise rfl (takes_of rfl rfl rfl rfl) (pmk_own PySem.F.excBase_ValueError Y.x_TooLarge.1 Y.m_TooLarge Y.x_TooLarge.2.1 (raises_own Y.x_TooLarge.2.2.1 Y.x_TooLarge.2.2.2) rfl))) pss_nil)
    (pss_one (ps_ret (pv 1))))), ?_⟩
  obtain ⟨r, v, t, rfl, hv, hz, q1, q2⟩ := h
  refine ⟨_, rfl, v, t, rfl, hv, hz, fun H1 f1 => ⟨_, _, rfl, rfl, _, rfl, ?_⟩⟩
  show if decide ((120 : Int) < ((t.size : Nat) : Int)) = true then _ else _
  by_cases c : 120 < t.size
  · exact ifDT (by omega) (q2 c H1 f1)
  · exact ifDF (by omega) (nextE ⟨_, rfl, q1 (by omega) H1 f1⟩)
end
end DF

/-! a list comprehension whose step may raise, at the level of a def -/
namespace DF
open PySem PySem.Spec PyProof.Rows L2
open HandSPX in
/-- a further frame, whatever the flight says -/
theorem leaves_anyZ {M : Model} {A : Around} {E : Value → Shared → Prop} {s : Shared} {Z : Obj → Prop} {base : Heap} {env : Env} {outer : List Env} {L e : Addr} {fl : Value} {Q : Unit → Shared → Prop} (hZ : Steady Z)
    (hfr : A.frames = some (env :: outer)) (hf : env.frame = some L) (hkb : base.StaysIn s.heap) (hen : base.get? e = none) (hl : s.heap.FunFrames base (env :: outer)) (ht : TracedZ s.heap base e Z fl)
    (hQ : ∀ h', FlyingZ base outer e Z h' → s.heap.UpToSlots h' → Q () { s with heap := h' }) : wpAny M A (leaving env (.ref e)) Q E s := by
  cases hq : (fl == rawInt L) with
  | true =>
    obtain ⟨oe, vs, T, oT, ts, he, hz, hd, h1, hnT, hTe, hT, hdT, h3⟩ := ht
    unfold leaving noteFrame
    simp only [hf]
    refine wpAny_bind (wpAny_bind (wpAny_field he hd h1 ?_))
    rw [if_pos (show (Value.ref T != Value.none) = true from by simp)]
    refine wpAny_bind (wpAny_field hT hdT h3 ?_)
    rw [if_pos hq]
    refine wpAny_pure ?_
    refine setFlight_noneZ hkb hl ⟨oe, vs, T, oT, ts, he, hz, hd, h1, hnT, hTe, hT, hdT, h3⟩ fun h' k1 k2 k3 k4 => ?_
    obtain ⟨_, _, k2⟩ := k2
    exact hQ h' ⟨k1, hen, k2, k3⟩ k4
  | false =>
    obtain ⟨oe, vs, T, oT, ts, he, hz, hd, h1, hnT, hTe, hT, hdT, h3⟩ := ht
    unfold leaving noteFrame
    simp only [hf]
    refine wpAny_bind (wpAny_bind (wpAny_field he hd h1 ?_))
    rw [if_pos (show (Value.ref T != Value.none) = true from by simp)]
    refine wpAny_bind (wpAny_field hT hdT h3 ?_)
    rw [if_neg (by rw [hq]; exact Bool.false_ne_true)]
    refine wpAny_bind (wpAny_setField hT hdT (Array.getElem?_eq_some_iff.mp h3).1 ?_)
    have other : ∀ b, b ≠ T → (s.heap.update T (Obj.mapFields (·.setIfInBounds 3 Value.none))).get? b = s.heap.get? b := fun b hb => Heap.get?_update_other _ _ (Ne.symm hb)
    have noRecord : ∀ b o, s.heap.get? b = some o → (∀ vs, o.data ≠ .fields vs) → b ≠ T := fun b o hb hnf q => by
      rw [q, hT] at hb; injection hb with hb; subst hb; exact hnf ts hdT
    refine wpAny_newEntryZ hZ hfr (hl.of_keeps fun b o hb hnf => ⟨o, (other b (noRecord b o hb hnf)).trans hb, rfl⟩) hf ((other e (Ne.symm hTe)).trans he)
      (fun b o hbo => (other b fun q => by rw [q, hnT] at hbo; cases hbo).trans (hkb b o hbo)) hen hd (Array.getElem?_eq_some_iff.mp h1).1 hz fun h' hL => ?_
    obtain ⟨x1, ⟨_, _, x2⟩, x3, x4⟩ := hL
    exact hQ h' ⟨x1, hen, x2, x3⟩ fun b o hb hnf => x4 b o ((other b (noRecord b o hb hnf)).trans hb) hnf
theorem note_frame {e : Value} {ce env : Env} (h : ce.frame = env.frame) : noteFrame e ce = noteFrame e env := by
  unfold noteFrame PySem.frameOf
  rw [h]
theorem funFrames_on {base h h' : Heap} : ∀ {l : List Env}, h.FunFrames base l → (∀ L ∈ frs l, h'.get? L = h.get? L) → h'.FunFrames base l
  | [], _, _ => trivial
  | env :: l, x, hn => by
    obtain ⟨hk, ⟨L, o, hf, hb, ho, hd⟩, hr⟩ := x
    exact ⟨hk, ⟨L, o, hf, hb, (hn L (List.mem_filterMap.mpr ⟨env, List.mem_cons_self, hf⟩)).trans ho, hd⟩, funFrames_on hr fun b hb => by
      obtain ⟨e, he, q⟩ := List.mem_filterMap.mp hb
      exact hn b (List.mem_filterMap.mpr ⟨e, List.mem_cons_of_mem _ he, q⟩)⟩
/-- an exception that a call within the block let out leaves the comprehension, and the def -/
theorem comp_err {X : Cx} {pins : List (Addr × Obj)} {σ : St} {H : Hp} {s : Shared} (hs : X.stack = X.env :: X.outer) (hf : X.env.frame = some X.env.locals) (hex : X.ex = []) {E : XK} {E₁ : Value → Shared → Prop}
    (hx : X.xe = fun e s' => wpAny (model X.prog X.w) X.A (leaving X.env e) (fun _ s'' => CX X.prog X.w X.outer X.H_0 X.s_0 E e s'') E₁ s') {C : Addr} {ce : Env} (hce : ce.frame = X.env.frame) (I : Inv X pins σ H s) (hn : ∃ m, s.heap.Ns C m) (hC : FpOk X pins H C)
    {u : Value} {s'' : Shared} (c : CX X.prog X.w X.stack H s E u s'') {use : Option (Value → Sem Unit)} {Qf : Value → Shared → Prop} {acc : Value} :
    notedBy (model X.prog X.w) X.A ce (fun e s' => compPost (model X.prog X.w) X.A X.xe use Qf acc C (.error e) s') u s'' := by
  obtain ⟨a, B, H', cls, d, rfl, fl, hok, ub, na, os, ag, hE⟩ := c
  have hfr : X.A.frames = some (X.env :: X.outer) := by rw [I.ok.frames, hs]
  have hCs : C ∉ frs X.stack := fun hm => by
    rcases List.mem_cons.mp (I.stkSub C hm) with z | z
    · exact hC.2.1 z
    · exact hC.2.2.1 z
  obtain ⟨m, oC, es, ep, hoC, hdC, hns⟩ := hn
  have hBC : B.get? C = some oC := ub.keep C oC hoC hC.1 hCs
  show wpAny (model X.prog X.w) X.A (noteFrame (.ref a) ce) _ _ s''
  rw [note_frame hce]
  have fl2 := fl
  rw [hs] at fl2
  refine HandSPX.looks_onZ Zc.steady hfr hf fl2 fun h1 hh up1 => ?_
  obtain ⟨hkb, hen, hl, oe, vs, T, oT, ts, he, hz, hd, hv1, hnT, hTe, hT, hdT, hv3⟩ := hh
  have h1C : h1.get? C = some oC := hkb C oC hBC
  have naC : a ≠ C := fun z => by rw [z, h1C] at he; injection he with he; subst he; rw [hdC] at hd; cases hd
  have nTC : T ≠ C := fun z => by rw [z, h1C] at hT; injection hT with hT; subst hT; rw [hdC] at hdT; cases hdT
  refine ⟨m, ⟨oC, es, ep, h1C, hdC, hns⟩, fun h2 sb cenv _ => ?_⟩
  obtain ⟨G, g1, g2⟩ := restrict h2 fun b => (B.get? b).isSome
  have stG : G.StaysIn h2 := fun b o e => by
    cases q : (B.get? b).isSome with
    | true => rw [g1 b q] at e; exact e
    | false => rw [g2 b q] at e; cases e
  have gB : ∀ b o, b ≠ C → B.get? b = some o → G.get? b = some o := fun b o hb e => by
    rw [g1 b (by simp [e]), sb.2 b hb]
    exact hkb b o e
  have gN : ∀ b, B.get? b = none → G.get? b = none := fun b e => g2 b (by rw [e]; rfl)
  have fnC : ∀ b, b ∈ frs X.stack → b ≠ C := fun b hb z => hCs (z ▸ hb)
  have hl2 : h2.FunFrames G (X.env :: X.outer) := funFrames_on (funFrames_none hl fun L hL => gN L (hl.mem hL).1) fun L hL => sb.2 L (fnC L (by rw [hs]; exact hL))
  have ht2 : HandSPX.TracedZ h2 G a (Zc cls d) (rawInt X.env.locals) := ⟨oe, vs, T, oT, ts, by rw [sb.2 a naC]; exact he, hz, hd, hv1, gN T hnT, hTe, by rw [sb.2 T nTC]; exact hT, hdT, hv3⟩
  have hG : HOk X.prog X.w H' G := fun b o q => (hok b o q).stay (fun c u hc r => gB c u (fun z => by
    have hn := ub.free C oC hoC hC.1
    rcases hc with hc | hc
    · rw [← hc, z, hn] at q; cases q
    · rw [z, hn] at hc; cases hc) r) (fun _ r => r) fun _ _ r => r
  unfold PySem.passOn
  refine wpAny_bind (wpAny_field (show h2.get? a = some oe by rw [sb.2 a naC]; exact he) hd hv1 ?_)
  rw [if_neg (by simp)]
  refine wpAny_bind (HandSPX.setFlight_anyZ (base := G) stG hl2 ht2 fun h3 k1 k2 k3 up3 => ?_)
  refine wpAny_throw ?_
  rw [hx]
  refine leaves_anyZ Zc.steady hfr hf k1 (gN a hen) k2 k3 fun h4 fl4 up4 => ?_
  have nst : ∀ b o, X.s_0.heap.get? b = some o → b ∉ X.fs → b ∉ frs X.stack := fun b o e hb hm => by
    rcases List.mem_cons.mp (I.stkSub b hm) with z | z
    · have h1 := Heap.lt_size e
      have h2 := I.ok.above
      rw [z] at h1
      exact absurd (Nat.lt_of_lt_of_le h1 h2) (Nat.lt_irrefl _)
    · exact hb z
  have hex' : ∀ b, b ∉ X.ex := fun b hb => by rw [hex] at hb; cases hb
  have oldC : ∀ b o, X.s_0.heap.get? b = some o → b ≠ C := fun b o e z => by
    rcases hC.2.2.2.1 with h | h
    · exact hex' C h
    · have := Heap.lt_size e
      rw [z] at this
      exact absurd (Nat.lt_of_lt_of_le this h) (Nat.lt_irrefl _)
  refine ⟨a, G, H', cls, d, rfl, fl4, hG, ⟨fun b o e n hb => gB b o (oldC b o e) (ub.keep b o (I.base.keep b o e n hb (hex' b)) (I.base.free b o e n (hex' b)) (nst b o e hb)), fun b o e hb => ?_, fun b o e n => ?_, fun b o e hb => ?_, fun b xs e => ub.tups b xs (I.base.tups b xs e), fun b o xs e => ub.frzs b o xs (I.base.frzs b o xs e), fun b ps e => ?_⟩,
      na, ?_, ag, hE⟩
  · obtain ⟨_, o₀, e₀, hnf⟩ := I.ok.funs.mem hb
    rw [e] at e₀; cases e₀
    obtain ⟨sl, e1⟩ := I.base.slot b o e (I.ok.frf b hb) hb (hex' b)
    have hbS : b ∈ frs X.stack := by
      rw [hs]
      obtain ⟨v, hv, q⟩ := List.mem_filterMap.mp hb
      exact List.mem_filterMap.mpr ⟨v, List.mem_cons_of_mem _ hv, q⟩
    obtain ⟨sl2, e2⟩ := ub.slot b _ e1 hbS
    obtain ⟨sl3, e3⟩ := up1 b _ e2 hnf
    have e4 := (sb.2 b (oldC b o e)).trans e3
    obtain ⟨sl4, e5⟩ := up3 b _ e4 hnf
    obtain ⟨sl5, e6⟩ := up4 b _ e5 hnf
    exact ⟨sl5, e6⟩
  · obtain ⟨o1, e1⟩ := I.base.there b o e (hex' b)
    exact ub.free b o1 e1 (I.base.free b o e n (hex' b))
  · obtain ⟨o', e1⟩ := I.base.there b o e (hex' b)
    obtain ⟨o2, e2⟩ := ub.there b o' e1 (nst b o e hb)
    exact ⟨o2, gB b o2 (oldC b o e) e2⟩
  · obtain ⟨m1, e1⟩ := I.base.tbls b ps e
    obtain ⟨m2, e2⟩ := ub.tbls b _ e1
    exact ⟨m1 ++ m2, by rw [e2, Array.append_assoc]⟩
  · exact os.trans I.os
/-- [elt for target in iter if ..] at the level of a def, elt may raise -/
theorem pe_lcX {X : Cx} {E : XK} {E₁ : Value → Shared → Prop} {elt tg iter : Expr} {ifs : List Expr} {scope : Scope} {own : List (Str × Nat)} {pos : Pos} {wi : TI} {g : TG} {tt : TT} {te : TE} (hs0 : X.stack = X.env :: X.outer) (hf0 : X.env.frame = some X.env.locals) (hex : X.ex = [])
    (hxe : X.xe = fun e s' => wpAny (model X.prog X.w) X.A (leaving X.env e) (fun _ s'' => CX X.prog X.w X.outer X.H_0 X.s_0 E e s'') E₁ s')
    (hc : X.calm = true) (hN : X.N.Nodup) (hi : PI X tg iter wi) (ok : BlkOk X.N X.env.scope scope own)
    (hg : ∀ (s : Shared) (H : Hp) (C : Addr) (cl : List (Str × Addr)) (fp : List Addr), PG (X.blk s H scope (compEnvC scope cl C X.env) fp) tg g) (ht : ∀ (s : Shared) (H : Hp) (C : Addr) (cl : List (Str × Addr)) (fp : List Addr), PTs (X.blk s H scope (compEnvC scope cl C X.env) fp) ifs tt)
    (he : ∀ (s : Shared) (H : Hp) (C : Addr) (cl : List (Str × Addr)) (fp : List Addr) (xe' : Value → Shared → Prop), Passes (CX X.prog X.w) ((X.blk s H scope (compEnvC scope cl C X.env) fp).wish xe') E → PE ((X.blk s H scope (compEnvC scope cl C X.env) fp).wish xe') elt te)
    (hs : ∀ x, foldedSetIterable iter X.env x = pure x := by intro _; rfl) :
    PE X (.ListComp elt [⟨tg, iter, ifs, 0⟩] scope pos) (tLc wi g tt te (own.map (·.2))) := by
  refine ⟨fun pins s σ H Q I h => ?_⟩
  rw [eval_ListComp]
  have hfree : ∀ y ∈ scope.names, y.2 = .free → ∃ c, X.env.cells.lookup y.1 = some c := fun y hy e => by
    rcases ok.free y hy e with k | k
    · exact I.ok.has _ (.inl k)
    · exact I.ok.has _ (.inr k)
  refine wpAny_comprehension_free (use := none) rfl hs (closure_ok hfree) ok.kind (fun y hy e => by rw [ok.uniq y hy, e])
    (thn (hi.run pins s σ H _ I h) fun xv s1 hx => thn hx fun itv s2 h2 => ?_)
  obtain ⟨it, fp, tn, J, H2, e, I2, T, st2, f2, q⟩ := h2
  subst e
  refine wpAny_newObj_type (newEnv_comp ?_) (by show 0 ≤ sizeLine; decide)
  generalize hD : s2.heap.objs.size = D
  have hDn : H2 D = none := I2.hok.fresh (Nat.le_of_eq hD)
  obtain ⟨W, ⟨m0, w0⟩, turn⟩ := q D hDn
  generalize hs3 : ({ s2 with heap := s2.heap.push { cls := .type "list", data := .seq ([] : List Value).toArray } } : Shared) = s3
  have I3 : Inv X pins σ (upd H2 D (.lst [])) s3 := by
    rw [← hs3]
    refine I2.laid (t' := s2.toks) (fun b o e => Heap.get?_push_of_some _ e) (Nat.le_of_eq hD) ⟨Nat.zero_le _, [], 0, .nil, ?_⟩
    rw [← hD]
    exact Heap.get?_push_size _ rfl
  have h3 : s3.heap = s2.heap.push { cls := .type "list", data := .seq ([] : List Value).toArray } := by rw [← hs3]
  have f3 : ∀ b ∈ fp, FpOk X pins (upd H2 D (.lst [])) b ∧ b < s3.heap.objs.size := fun b hb => by
    obtain ⟨o, e, _⟩ := T.obj _ _ st2 b hb
    have hlt := Heap.lt_size e
    refine ⟨⟨?_, (f2 b hb).2⟩, by rw [h3, Heap.size_push]; exact Nat.lt_succ_of_lt hlt⟩
    rw [upd_ne (by rw [← hD]; exact Nat.ne_of_lt hlt)]
    exact (f2 b hb).1
  have st3 : tn 0 s3.heap := T.keep _ _ _ st2 fun b _ o e => by rw [h3]; exact Heap.get?_push_of_some _ e
  have I4 := block_start I3 ok hN f3
  have pg := hg s3 (upd H2 D (.lst [])) s3.heap.objs.size (cellsFrom (s3.heap.objs.size + 1) scope.names (cloFrom X.env.cells scope.names [])) fp
  have pt := ht s3 (upd H2 D (.lst [])) s3.heap.objs.size (cellsFrom (s3.heap.objs.size + 1) scope.names (cloFrom X.env.cells scope.names [])) fp
  have pe := he s3 (upd H2 D (.lst [])) s3.heap.objs.size (cellsFrom (s3.heap.objs.size + 1) scope.names (cloFrom X.env.cells scope.names [])) fp
  show codeAny _ _ (.compStart (.ListComp elt [⟨tg, iter, ifs, 0⟩] scope pos) 0 (.ref it) (.ref D) (compEnvC scope (cellsFrom (s3.heap.objs.size + 1) scope.names (cloFrom X.env.cells scope.names [])) s3.heap.objs.size X.env)) (compPost (model X.prog X.w) X.A X.xe none _ (.ref D) s3.heap.objs.size) { s3 with heap := pushCells (s3.heap.push { cls := .type "dict", data := .dict #[] }) scope.names }
  have nfp : ∀ b ∈ fp, (upd H2 D (.lst [])) b = none := fun b hb => (f3 b hb).1.1
  have cF : (compEnvC scope (cellsFrom (s3.heap.objs.size + 1) scope.names (cloFrom X.env.cells scope.names [])) s3.heap.objs.size X.env).frame = X.env.frame := rfl
  have cL : (compEnvC scope (cellsFrom (s3.heap.objs.size + 1) scope.names (cloFrom X.env.cells scope.names [])) s3.heap.objs.size X.env).locals = s3.heap.objs.size := rfl
  generalize compEnvC scope (cellsFrom (s3.heap.objs.size + 1) scope.names (cloFrom X.env.cells scope.names [])) s3.heap.objs.size X.env = ce at I4 pg pt pe cF cL ⊢
  generalize upd H2 D (.lst []) = H3 at I3 I4 pg pt pe w0 nfp f3
  generalize hs4 : ({ s3 with heap := pushCells (s3.heap.push { cls := .type "dict", data := .dict #[] }) scope.names } : Shared) = s4 at I4 ⊢
  have st4 : tn 0 s4.heap := T.keep _ _ _ st3 fun b _ o e => by rw [← hs4]; exact pushCells_keeps _ _ _ _ (Heap.get?_push_of_some _ e)
  have stat : ∀ {σ' : St} {H' : Hp} {s' : Shared}, Inv (X.blk s3 H3 scope ce fp) [] σ' H' s' → (∀ b ∈ fp, H' b = none) → ∀ b ∈ fp, FpOk (X.blk s3 H3 scope ce fp) [] H' b := fun {σ' H' s'} I' hn b hb =>
    ⟨hn b hb, (I'.ok.exf b hb).1, I'.ok.exfs b hb, .inl hb, fun x c e => (I'.ok.exf b hb).2 x c e, fun p hp => absurd (show p ∈ ([] : List (Addr × Obj)) ++ [] from hp) (by simp)⟩
  -- back in the def's context
  have back : ∀ {pins' : List (Addr × Obj)} {σ' : St} {H' : Hp} {s' : Shared}, Inv (X.blk s3 H3 scope ce fp) pins' σ' H' s' → Inv X pins σ H' s' ∧ (∃ m, s'.heap.Ns s3.heap.objs.size m) ∧ FpOk X pins H' s3.heap.objs.size := fun {pins' σ' H' s'} I' => by
    have nC : H' s3.heap.objs.size = none := by
      have z : H' ce.locals = none := I'.free
      rw [cL] at z
      exact z
    obtain ⟨m, hn, _⟩ := I'.loc
    have hn : s'.heap.Ns ce.locals m := hn
    rw [cL] at hn
    exact ⟨I3.call' (ch := fp) I'.os I'.base I'.hok I'.bare fun b hb => ⟨(f3 b hb).1.2.2.2.1, (f3 b hb).1.2.1, (f3 b hb).1.2.2.2.2.1, (f3 b hb).1.2.2.2.2.2⟩, ⟨m, hn⟩, I3.fpOk (Nat.le_refl _) nC⟩
  have loop : codeAny (model X.prog X.w) X.A (.compLoop (.ListComp elt [⟨tg, iter, ifs, 0⟩] scope pos) 0 (.ref it) (.ref D) ce) (compPost (model X.prog X.w) X.A X.xe none (fun v s' => ∃ (x : V) (H' : Hp), Inv X pins σ H' s' ∧ RelV x v ∧ Q x H') (.ref D) s3.heap.objs.size) s4 := by
    refine compLoop_any (fun n s' => ∃ i H', Inv (X.blk s3 H3 scope ce fp) [] (wipe σ (own.map (·.2))) H' s' ∧ tn i s'.heap ∧ (∀ b ∈ fp, H' b = none) ∧ W i n H') ?_ m0 ⟨0, H3, I4, st4, nfp, w0⟩
    rintro n s5 ⟨i, H5, I5, st5, n5, w5⟩
    rcases turn i n H5 w5 with ⟨stop, qq⟩ | ⟨go, Nx, hNx, step⟩
    · refine thnF (T.done (X.blk s3 H3 scope ce fp) rfl rfl rfl hc i [] s5 _ H5 (fun _ _ => False) I5 (stat I5 n5) st5 stop) fun r s6 ⟨hr, I6⟩ => ?_
      subst hr
      obtain ⟨I7, ⟨m, hn⟩, f0, f1, f2, f3, f4, f5⟩ := back I6
      refine ⟨m, hn, fun h'' sb => ?_⟩
      exact ⟨.ref D, H5, I7.turned (t' := s6.toks) (fun b o hb e => (sb.2 b hb).trans e) f0 f1 f3 f4 f5, rfl, qq⟩
    · refine thnF (T.item (X.blk s3 H3 scope ce fp) rfl rfl rfl hc i [] s5 _ H5 (fun _ _ => False) I5 (stat I5 n5) st5 go) fun r s6 ⟨u, hr, h6⟩ => ?_
      subst hr
      refine thnF h6 fun _ s7 ⟨x, H7, I7, r7, y7, st7, n7⟩ => ?_
      have I7' := I7.pinned (stat I7 n7) (T.obj _ _ st7)
      refine thnF (pg.run _ s7 _ H7 x u _ I7' r7 (step x H7 y7)) fun _ s8 ⟨σ8, H8, I8, hw8, q8⟩ => ?_
      refine thnF (pt.run _ s8 σ8 H8 _ I8 q8) fun b s9 ⟨H9, I9, q9⟩ => ?_
      have fin : ∀ {s' : Shared} {H' : Hp}, Inv (X.blk s3 H3 scope ce fp) ([] ++ pinsAt fp s7.heap) σ8 H' s' → Nx H' → ∃ m, m < n ∧ ∃ i H', Inv (X.blk s3 H3 scope ce fp) [] (wipe σ (own.map (·.2))) H' s' ∧ tn i s'.heap ∧ (∀ b ∈ fp, H' b = none) ∧ W i m H' := fun {s' H'} I' nx => by
        obtain ⟨m', hm, w'⟩ := hNx H' nx
        have pin' : ∀ b ∈ fp, ∀ o, s7.heap.get? b = some o → s'.heap.get? b = some o ∧ H' b = none := fun b hb o e =>
          let z := I'.pin (b, o) (List.mem_append_right _ (List.mem_append_right _ (mem_pinsAt hb e)))
          ⟨z.1, z.2.1⟩
        have hl : (wipe σ (own.map (·.2))).length = σ8.length := by rw [← hw8, wipe_length]
        refine ⟨m', hm, i + 1, H', (I'.unpinned (pins := [])).weak hl (fun j v e => ?_), T.keep _ _ _ st7 fun b hb o e => (pin' b hb o e).1, fun b hb => ?_, w'⟩
        · rw [← hw8] at e
          exact (wipe_some e).1
        · obtain ⟨o, e, _⟩ := T.obj _ _ st7 b hb
          exact (pin' b hb o e).2
      cases b with
      | false =>
        simp only [Bool.false_eq_true, if_false] at q9 ⊢
        exact fin I9 q9
      | true =>
        simp only [if_true] at q9 ⊢
        have hp : Passes (CX X.prog X.w) ((X.blk s3 H3 scope ce fp).wish (fun u s'' => ∃ (H' : Hp) (s : Shared), Inv X pins σ H' s ∧ (∃ m, s.heap.Ns s3.heap.objs.size m) ∧ FpOk X pins H' s3.heap.objs.size ∧ CX X.prog X.w X.stack H' s E u s'')) E := fun pins' σ' H' s e s' I' c =>
          let ⟨a, b, d⟩ := back I'.unwish
          ⟨H', s, a, b, d, c⟩
        refine wpAny_mono ((pe _ hp).run _ s9 σ8 H9 _ (I9.wish _) q9) (fun z s10 ⟨yv, H10, I10, r10, acc, hD10, hz10, nx⟩ => ?_) fun u s'' ⟨H', s, a, b, d, c⟩ => comp_err hs0 hf0 hex hxe cF a b d c
        exact app_ok (X := X.blk s3 H3 scope ce fp) I10.unwish hD10 hz10 r10 fun s11 I11 => fin I11 nx
  exact codeAny_compStart_list loop (T.self X.A 0 _ _ _ st4 loop)
end DF

/-! a def that calls itself often: the room counted by the call -/
namespace DF
open PySem PySem.Spec PyProof.Rows L2
/-- room for n calls, one within another -/
structure Rm (n : Nat) (A : Around) : Prop where
  hd : A.handled = none
  dp : A.depth + n + 40 < recursionLimit
  un : A.units + 3 * n + 400 < cLine
theorem Rm.room {n : Nat} {A : Around} (r : Rm n A) : Room 6 A := ⟨r.hd, by have := r.dp; omega, by have := r.un; omega⟩
theorem Rm.of {n k : Nat} {A : Around} (r : Room k A) (h : n + 45 ≤ 3 * k) : Rm n A := ⟨r.hd, by have := r.dp; omega, by have := r.un; omega⟩
theorem Rm.step {n : Nat} {A : Around} (r : Rm (n + 1) A) (env : Env) : Rm n (A.deeper env) := by
  have h1 := r.dp
  have h2 := r.un
  exact ⟨r.hd, (show A.depth + 1 + n + 40 < recursionLimit by omega), (show A.units + 3 + 3 * n + 400 < cLine by omega)⟩
/-- a promise that asks so much room -/
structure FnS (P : Program) (w : World) (K : PySem.W.Frag) (mg : Str → Option Value) (base : Heap) (n : Nat) (f : Addr) (fd : FuncData) (ps : List Str) (sp : Sp) : Prop where
  ln : ∀ vs H Q E, sp vs H Q E → vs.length = ps.length
  go : ∀ (A : Around) (outer : List Env) (s : Shared) (H : Hp) (args : Args) (us : List Value) (vs : List V) (Q : VK) (E : XK), Rm n A → Env0 P w K mg base A outer s H →
    BindsTo s fd args (ps.zip us) → Vals vs us → sp vs H Q E → codeAny (model P w) A (.call (.ref f) args) (CR CX0 outer P w H s Q E) s
structure ClS (P : Program) (w : World) (K : PySem.W.Frag) (mg : Str → Option Value) (base : Heap) (n : Nat) (x : Str) (sp : Sp) : Prop where
  ex : ∃ (f : Addr) (fd : FuncData) (ps : List Str), FnS P w K mg base n f fd ps sp ∧ mg x = some (.ref f) ∧ PySem.W.keepIn K (.ref f) = true ∧ Binds K fd ps []
section
variable {P : Program} {w : World} {K : PySem.W.Frag} {mg : Str → Option Value} {base : Heap} {n k : Nat} {x : Str} {sp : Sp}
theorem ClS.toCl (c : ClS P w K mg base n x sp) (h : n + 45 ≤ 3 * k) : Cl CX0 P w K mg base k x sp := by
  obtain ⟨f, fd, ps, F, hm, kp, b⟩ := c.ex
  refine ⟨f, fd, ps, ⟨F.ln, ?_⟩, hm, kp, b⟩
  intro A outer s H args us vs Q E hr
  exact F.go A outer s H args us vs Q E (.of hr h)
theorem FunD.okS {nm qual : Str} {params : Arguments} {body : List Stmt} {scope : Scope} {dvs : List V} {kws : List (Str × V)} {f : Addr} {fd : FuncData} {N ps : List Str} (F : FunD K nm qual params body scope dvs kws f fd) (S : FnScope N ps scope)
    (ln : ∀ vs H Q E, sp vs H Q E → vs.length = ps.length)
    (bd : ∀ (cdv : Value) (A : Around) (outer : List Env) (s : Shared) (H : Hp) (vs : List V) (Q : VK) (E : XK), Rm n (A.deeper (envOfC qual scope s.heap.objs.size f cdv)) → sp vs H Q E →
      ∃ t, PSs (cxOf CX0 P w K mg base N qual scope f cdv A outer s H E) body t ∧ t { nx := fun _ H' => Q .non H', rt := Q } (start N vs) H) : FnS P w K mg base (n + 1) f fd ps sp := by
  obtain ⟨oc, od, dV, kV, doc, pm, an, cdv, ct, osl, rfl, lk, hcd, _, _⟩ := F.ex
  refine ⟨ln, ?_⟩
  intro A outer s H args us vs Q E hr e0 hb r hsp
  have st : ∀ b o, base.get? b = some o → s.heap.get? b = some o := fun b o e => (e0.bs b o e).1
  have KX := e0.mod.kin.keeps st
  have hl := ln _ _ _ _ hsp
  have hd : A.depth < recursionLimit := by
    have := hr.dp
    omega
  refine codeAny_call_function hd (KX _ _ lk) rfl S.co S.gen rfl (PySem.W.codeRec_of KX hcd) (hb _ _ _ _ ?_)
  refine wpAny_newFunctionEnv_cells S.kind ?_ ?_
  · rintro ⟨y, v⟩ hy
    refine (S.par y (List.of_mem_zip hy).1).imp id fun q => ⟨q, ?_⟩
    exact PySem.W.cellsFrom_some _ _ _ (.inl q)
  intro env he s1 z
  subst he
  refine ⟨(e0.mod.nolimit.keeps st).keeps z.toInCall.keep, codeAny_func ?_⟩
  obtain ⟨t, ht, hq⟩ := bd cdv A outer s H vs Q E (hr.step _) hsp
  have J0 := inv_start (CX := CX0) (E := E) S hr.hd e0 hl r z
  refine wpAny_mono (ht.run [] s1 (start N vs) H { nx := fun _ H' => Q .non H', rt := Q } J0 hq) ?_ fun e s' hs => hs
  intro fl s' hs
  match fl, hs with
  | .ret u, ⟨v, σ', H', J, rv, q⟩ => exact ⟨v, H', J.os, J.bare, J.base, J.hok, rv, q⟩
  | .next, ⟨σ', H', J, q⟩ => exact ⟨.non, H', J.os, J.bare, J.base, J.hok, rfl, q⟩
  | .brk, ⟨_, _, _, q⟩ => exact q.elim
  | .cont, ⟨_, _, _, q⟩ => exact q.elim
theorem Dg.okS {nm : Str} {st : Stmt} {N ps : List Str} (D : Dg K mg x nm st ps) (S : FnScope N ps (defScope st)) (len : ∀ vs H Q E, sp vs H Q E → vs.length = ps.length)
    (bd : ∀ (f : Addr) (cdv : Value) (A : Around) (outer : List Env) (s : Shared) (H : Hp) (vs : List V) (Q : VK) (E : XK), Rm n (A.deeper (envOfC nm (defScope st) s.heap.objs.size f cdv)) → sp vs H Q E →
      ∃ t, PSs (cxOf CX0 P w K mg base N nm (defScope st) f cdv A outer s H E).nox (defBody st) t ∧ t { nx := fun _ H' => Q .non H', rt := Q } (start N vs) H) : ClS P w K mg base (n + 1) x sp := by
  obtain ⟨f, fd, F, hm, b⟩ := D.ex
  refine ⟨f, fd, ps, FunD.okS F S len ?_, hm, F.kp, b⟩
  intro cdv A outer s H vs Q E hr h
  obtain ⟨t, h1, h2⟩ := bd f cdv A outer s H vs Q E hr h
  exact ⟨t, h1.nox, h2⟩
theorem Dg.zeroS {nm : Str} {st : Stmt} {ps : List Str} (D : Dg K mg x nm st ps) (no : ∀ vs H Q E, ¬ sp vs H Q E) : ClS P w K mg base n x sp := by
  obtain ⟨f, fd, F, hm, b⟩ := D.ex
  exact ⟨f, fd, ps, ⟨fun vs H Q E h => absurd h (no _ _ _ _), fun _ _ _ H _ _ vs Q E _ _ _ _ h => absurd h (no _ _ _ _)⟩, hm, F.kp, b⟩
end
section
variable {X : Cx} {n : Nat} {x : Str} {sp : Sp} {p pos : Pos} {e : Expr} {es : List Expr} {t : TA}
/-- f(..), counted so -/
theorem kcS (c : ClS X.prog X.w X.K X.mg X.base n x sp) (hr : Rm n X.A) (ha : PA X (e :: es) t) (hg : Gl X x := by rfl) (hdb : (x == ("__debug__" : Str)) = false := by decide)
    (he : starEach (e :: es) X.env = (false, eval e X.env) :: starEach es X.env := by rfl) (hpl : (backTo pos (starEach es X.env)).any (·.1) = false := by rfl) : PE X (.Call (.Name x p) (e :: es) [] pos) (tCall sp [] E0 t) := by
  obtain ⟨f, fd, ps, F, hm, kp, b⟩ := c.ex
  refine ⟨fun pins s σ H Q I h => wpAny_Call_Name_kw (ld_glob I hg hm ?_ hdb)⟩
  refine PySem.W.callWith_K (h₀ := X.base) I.ok.mod.kin kp (thn (ha.run pos pins s σ H _ I h) ?_) he hpl
  rintro us s1 ⟨vs, H1, I1, r, q⟩
  have q1 : sp vs H1 Q E0 := by
    have q2 : sp (vs ++ []) H1 Q E0 := q
    rw [List.append_nil] at q2
    exact q2
  have hl : us.length = ps.length := r.length.symm.trans (F.ln _ _ _ _ q1)
  have hb : BindsTo s1 fd ⟨us, []⟩ (ps.zip us) := by
    have z := b s1 us I1.kIn (by rw [List.append_nil]; exact hl)
    rw [List.append_nil] at z
    exact z
  refine ⟨I1.kIn, wpAny_call (codeAny_mono (F.go X.A X.stack s1 H1 ⟨us, []⟩ us vs Q E0 hr I1.env0 hb r q1) ?_)⟩
  intro res s' hq
  match res, hq with
  | .ok (.ret u), hq => exact I1.after hq
  | .error er, hq => exact (show CX0 X.stack H1 s1 E0 er s' from hq).elim
  | .ok .next, hq => exact (show False from hq).elim
  | .ok .brk, hq => exact (show False from hq).elim
  | .ok .cont, hq => exact (show False from hq).elim
end
section
variable {P : Program} {w : World} {K : PySem.W.Frag} {mg : Str → Option Value} {base : Heap}
theorem ok_replacedS (Y : Hf K mg) : ∀ n, ClS P w K mg base (n + 1) "replaced" (sp_replaced K n)
  | 0 => Y.d_replaced.zeroS fun vs H Q E h => by
    obtain ⟨v, t, p, kvs, θ, _, _, _, _, h0, _⟩ := h
    have := t.size_pos
    omega
  | n + 1 => by
    have ih := ok_replacedS Y n
    refine Y.d_replaced.okS sc_replaced (fun vs H Q E h => ?_) (fun f cdv A outer s H vs Q E hs h => ?_)
    · obtain ⟨v, t, p, kvs, θ, rfl, _⟩ := h; rfl
    have nd := sc_replaced.nd
    have hr := hs.room
    refine ⟨_, ((pss_cons (ps_asg (pv 0) (pg_tup rfl (pgs_cons (pg_name (i := 2) nd rfl (by first | exact .inl rfl | exact .inr rfl)) (pgs_cons (pg_name (i := 3) nd rfl (by first | exact .inl rfl | exact .inr rfl)) pgs_nil))))
    (pss_cons (ps_set (i := 4) nd rfl (by first | exact .inl rfl | exact .inr rfl) (pe_lst pa_nil))
    (pss_cons (ps_for PassesOwn.never rfl (pi_tup (pv 3)) (pg_name (i := 5) nd rfl (by first | exact .inl rfl | exact .inr rfl))
        (pss_one (ps_expr (pe_bm PySem.F.plainAttrs_list PySem.F.slot_list_append PySem.F.type_list_append mt_append (pv 4) (pa_cons (kcS ih hs (pa_cons (pv 5) (pa_cons (pv 1) pa_nil))) pa_nil)))))
    (pss_cons (ps_if (PW.pt (pw_or (pt_val (k_isi Y.z_isinstance Y.z_str (pv 2))) (pw_or1 (pt_cmp (pc_dnotin (hu1 hr) (pv 2) (pv 1))))))
        (pss_one (ps_ret (pe_tupD (pa_cons (pv 2) (pa_cons (k_tup Y.z_tuple (pv 4)) pa_nil))))) pss_nil)
    (pss_one (ps_ret (kc (ok_applied Y) hr (pa_cons (pe_dget (hu1 hr) (pv 1) (pv 2) fun _ _ => rfl) (pa_cons (k_tup Y.z_tuple (pv 4)) pa_nil)) (hk := by omega))))))))), ?_⟩
    obtain ⟨v, t, p, kvs, θ, rfl, ht, hp, hT, hn, hz, hM, q⟩ := h
    obtain ⟨a, b, as, rfl, ta, tb, ia⟩ := ht.dest
    refine ⟨_, rfl, a, _, rfl, ta.sq, rfl, _, _, rfl, _, _, rfl, rfl, ?_⟩
    refine ⟨Nat.zero_le _, fun g hg => ⟨_, rfl, b, rfl, ⟨_, (tb.fr (Fr.new0 (S := No) hg)).sq⟩, ?_⟩⟩
    have npg : p ≠ g := ne_of_none hp hg
    refine for_it (dwT (S := No) tb ia) (fun i σ H' => ∃ x5 fs, σ = [some (.ref a), some (.ref p), some (hdV t.hd), some (.ref b), some (.ref g), x5] ∧ Fr No H H' ∧ H' g = some (.lst fs) ∧ IsAll K H' fs (((t.args.take i).map (rep θ)).map enc))
      ⟨none, [], rfl, Fr.new0 hg, upd_same, .nil⟩ (fun i σ H' _ z => let ⟨_, _, _, z, _⟩ := z; z) (fun i x σ H1 H2 hi z y => ?_) fun σ H1 z => ?_
    · obtain ⟨x5, fs, rfl, f1, hg1, i1⟩ := z
      obtain ⟨f2, d, hd, hx⟩ := y
      rw [List.getElem?_map] at hd
      cases e : t.args[i]? with
      | none => rw [e] at hd; cases hd
      | some u =>
        rw [e] at hd
        cases hd
        have hu := T.arg_lt (List.mem_of_getElem? e)
        refine ⟨_, rfl, .inl ⟨rfl, _, SqL.of (f2.kn hg1)⟩, _, rfl, _, rfl, x, u, p, kvs, θ, rfl, hx, (f1.trans f2).kn hp, hT.fr (f1.trans f2), by omega, by omega, hM, fun r H3 f3 hr3 => ?_⟩
        have hg3 := f3.kn (f2.kn hg1)
        refine ⟨g, _, _, rfl, rfl, hg3, lt_line ?_, some x, _, rfl, ((f1.trans f2).trans f3).new hg, upd_same, ?_⟩
        · rw [i1.len, List.length_map, List.length_map]
          have h1 := List.length_take_le' i t.args
          have h2 := t.args_len
          omega
        · rw [take_snoc e, List.map_append, List.map_append]
          have g4 : Fr (At g) H3 (upd H3 g (.lst (fs ++ [r]))) := Fr.refl.mut rfl hg3 fun z => z
          exact (((i1.fr f2).fr f3).fr g4).append (.cons (hr3.fr g4) .nil)
    · obtain ⟨x5, fs, rfl, f1, hg1, i1⟩ := z
      rw [List.length_map, List.take_length] at i1
      have hp1 := f1.kn hp
      have hT1 := hT.fr f1
      have e0 : rep θ t = (putH θ t.hd).aps (t.args.map (rep θ)) := rep_eq θ t
      cases hh : t.hd with
      | c x =>
        rw [hh] at e0
        refine tIsi_var (h := .c x) rfl ⟨_, rfl, ?_⟩
        refine iteT (iteT ⟨_, rfl, ⟨_, rfl, g, fs, _, rfl, hg1, i1, fun z H2 f2 hz2 => ⟨_,   .cons (is_hd (h := .c x)) (.cons hz2 .nil), by show 2 ≤ 16000000; decide, fun r H3 f3 hr3 => q _ _ ((f1.trans f2).trans f3) ?_⟩⟩⟩)
        rw [e0, show putH θ (.c x) = T.lf (.c x) from rfl, enc_mk]
        exact hr3
      | u j =>
        rw [hh] at e0
        refine tIsi_var (h := .u j) rfl ⟨_, rfl, ?_⟩
        refine iteF ⟨_, rfl, _, rfl, p, _, rfl, DGet.k (k := .inl j) hp1, _, rfl, ?_⟩
        rcases hT1.get (i := j) with ⟨l1, l2⟩ | ⟨u, y, l1, l2, hy⟩
        · rw [l2]
          refine iteT ⟨_, rfl, ⟨_, rfl, g, fs, _, rfl, hg1, i1, fun z H2 f2 hz2 => ⟨_,   .cons (is_hd (h := .u j)) (.cons hz2 .nil), by show 2 ≤ 16000000; decide, fun r H3 f3 hr3 => q _ _ ((f1.trans f2).trans f3) ?_⟩⟩⟩
          rw [e0, show putH θ (.u j) = T.lf (.u j) by show (look θ j).getD _ = _; rw [l1]; rfl, enc_mk]
          exact hr3
        · rw [l2]
          refine iteF ⟨_, rfl, _, rfl, p, _, rfl, by rw [← l2]; exact DGet.k (k := .inl j) hp1, ⟨_, rfl, g, fs, _, rfl, hg1, i1, fun z H2 f2 hz2 => ?_⟩⟩
          have hu := hM.look l1
          refine ⟨y, z, u, t.args.map (rep θ), rfl, hy.fr f2, hz2, ?_, fun r H3 f3 hr3 => q _ _ ((f1.trans f2).trans f3) ?_⟩
          · rw [List.length_map]
            have h1 := u.args_len
            have h2 := t.args_len
            omega
          · rw [e0, show putH θ (.u j) = u by show (look θ j).getD _ = _; rw [l1]; rfl]
            exact hr3
theorem ok_putS (Y : Hf K mg) (n : Nat) (hn4 : n ≤ 120) : Cl CX0 P w K mg base 60 "put" (sp_put K n) := by
  refine Y.d_put.ok sc_put (fun vs H Q E h => ?_) (fun f cdv A outer s H vs Q E hr h => ?_)
  · obtain ⟨v, t, u, ps, rfl, _⟩ := h; rfl
  have nd := sc_put.nd
  refine ⟨_, ((pss_one (ps_ret (kc ((ok_replacedS Y n).toCl (k := 58) (by omega)) hr (pa_cons (pv 0) (pa_cons (k_dict Y.z_dict (pv 1)) pa_nil)) (hk := by omega))))), ?_⟩
  obtain ⟨v, t, u, ps, rfl, ht, hu, hn, hz, hM, q⟩ := h
  obtain ⟨a, o, xs, rfl, ha, ho, hi⟩ := hu
  obtain ⟨as, kvs, rfl, h1, h2⟩ := prt_pairs hi
  refine ⟨_, rfl, ⟨_, rfl, a, o, as, kvs, rfl, ha, ho, h1, fun p hp => ?_⟩⟩
  have f1 : Fr No H (upd H p (.dK (mergeK [] kvs))) := Fr.new0 hp
  exact ⟨v, t, p, _, _, rfl, ht.fr f1, upd_same, (DTab.merge h2 .nil).fr f1, hn, hz, tabOf_le hM, fun r H2 f2 hr2 => q _ _ (f1.trans f2) hr2⟩
end
end DF

namespace DF
open PySem PySem.Spec PyProof.Rows L2 RZ
/-! ### zip of two tuples, walked -/
def zipD (ds es : List PyData) : List PyData := List.zipWith (fun d e => .tuple [d, e]) ds es
theorem map_two {α β γ : Type} (f : α → β) (g : β → γ) (l : List α) : l.map (fun a => g (f a)) = (l.map f).map g := by rw [List.map_map]; rfl
theorem zipD_len {ds es : List PyData} (h : ds.length = es.length) : (zipD ds es).length = ds.length := by
  unfold zipD
  rw [List.length_zipWith, h, Nat.min_self]
theorem dwZt {K : PySem.W.Frag} {S : Addr → Prop} {H1 : Hp} {a b : Addr} {xs ys : List V} {ds es : List PyData} (h1 : Tp K H1 a xs) (i1 : IsAll K H1 xs ds) (h2 : Tp K H1 b ys) (i2 : IsAll K H1 ys es) (hl : ds.length = es.length) : DW K S (ItzT K a b) H1 (zipD ds es) := by
  have len := zipD_len hl
  refine ⟨fun i H hi f => ?_, fun H f => ?_, fun i H x H' hi f y => ?_⟩
  · have h : i < ds.length := len ▸ hi
    have hx : i < xs.length := by rw [i1.len]; exact h
    have hy : i < ys.length := by rw [i2.len]; omega
    exact ⟨xs, ys, xs[i], ys[i], (h1.fr f).sq, (h2.fr f).sq, List.getElem?_eq_getElem hx, List.getElem?_eq_getElem hy⟩
  · exact ⟨xs, ys, (h1.fr f).sq, (h2.fr f).sq, .inl (by rw [i1.len, len]; exact Nat.le_refl _)⟩
  · obtain ⟨T, x, z, rfl, hT, rfl, g1, g2⟩ := y
    have f1 : Fr No H (upd H T (.tup [x, z])) := Fr.new0 hT
    obtain ⟨d, ed, id⟩ := (i1.fr f).get (g1 xs (h1.fr f).sq)
    obtain ⟨e, ee, ie⟩ := (i2.fr f).get (g2 ys (h2.fr f).sq)
    refine ⟨f1, .tuple [d, e], ?_, .tup (.of upd_same) (.cons (Is.fr f1 id) (.cons (Is.fr f1 ie) .nil))⟩
    unfold zipD
    rw [List.getElem?_zipWith, ed, ee]
theorem zipD_get {ds es : List PyData} {i : Nat} {d : PyData} (h : (zipD ds es)[i]? = some d) : ∃ a b, ds[i]? = some a ∧ es[i]? = some b ∧ d = .tuple [a, b] := by
  unfold zipD at h
  rw [List.getElem?_zipWith] at h
  cases e1 : ds[i]? with
  | none => rw [e1] at h; cases h
  | some a =>
    cases e2 : es[i]? with
    | none => rw [e1, e2] at h; cases h
    | some b =>
      rw [e1, e2] at h
      cases h
      exact ⟨a, b, rfl, rfl, rfl⟩
theorem zip_snoc {α β : Type} {us : List α} {ts : List β} {u : α} {t : β} (h : us[ts.length]? = some u) : us.zip (ts ++ [t]) = us.zip ts ++ [(u, t)] := by
  have e : us = us.take ts.length ++ u :: us.drop (ts.length + 1) := by
    have h1 := (List.getElem?_eq_some_iff.mp h)
    conv => lhs; rw [← List.take_append_drop ts.length us, List.drop_eq_getElem_cons h1.1, h1.2]
  have hl : (us.take ts.length).length = ts.length := by
    rw [List.length_take]
    have := (List.getElem?_eq_some_iff.mp h).1
    omega
  have e1 : us.zip (ts ++ [t]) = (us.take ts.length).zip ts ++ [(u, t)] := by
    conv => lhs; rw [e]
    rw [List.zip_append hl]
    cases us.drop (ts.length + 1) <;> rfl
  have gen : ∀ r : List α, (us.take ts.length ++ r).zip (ts ++ []) = (us.take ts.length).zip ts := fun r => by
    rw [List.zip_append hl]; simp
  have e2 : us.zip ts = (us.take ts.length).zip ts := by
    have h2 := gen (u :: us.drop (ts.length + 1))
    rwa [← e, List.append_nil] at h2
  rw [e1, e2]
section
variable {pg : Prog} {pre : Nat} {ns : List Nd}
theorem bnd_some {t u : T} (h : bnd t = some u) : u = t ∧ t.size ≤ 120 := by
  unfold bnd at h
  split at h
  · rename_i c; cases h; exact ⟨rfl, c⟩
  · cases h
theorem bnd_le {t : T} (h : t.size ≤ 120) : bnd t = some t := if_pos h
theorem bnd_gt {t : T} (h : 120 < t.size) : bnd t = none := if_neg (by omega)
theorem pars_len (n : Nd) : (pars pg n).length ≤ n.term.size + 1 := by
  have h1 := unks_len n.term
  unfold pars
  split
  · omega
  · split
    · rename_i j _ _
      have h2 := List.length_filter_le (fun u => decide (u ≠ j)) (unks n.term)
      rw [List.length_cons]
      omega
    · exact Nat.zero_le _
theorem sizes_vr : ∀ l : List Int, T.sizes (l.map vr) = l.length
  | [] => rfl
  | a :: l => by rw [List.map_cons, T.sizes_cons, sizes_vr l, List.length_cons]; show 1 + _ = _; omega
theorem ownT_size (n : Nd) (i : Nat) : (ownT pg pre n i).size ≤ n.term.size + 2 := by
  unfold ownT
  rw [T.size_mk, sizes_vr]
  have := pars_len (pg := pg) n
  omega
/-- what stands for a node has at most this size -/
theorem S_size (W : WfN pg ns) : ∀ (f i : Nat) (t : T), ns.length - i ≤ f → S pg pre ns i = some t → t.size ≤ 120 := by
  intro f
  induction f with
  | zero =>
    intro i t hf h
    unfold S at h
    rw [show ns.length - i = 0 by omega] at h
    cases h
  | succ f ih =>
    intro i t hf h
    cases e : ns[i]? with
    | none =>
      have : ns.length ≤ i := List.getElem?_eq_none_iff.mp e
      unfold S at h
      rw [show ns.length - i = 0 by omega] at h
      cases h
    | some n =>
      have hz := W.sz n (List.mem_of_getElem? e)
      rw [S_eq W e] at h
      unfold mk1 at h
      split at h
      · cases h
        have := ownT_size (pg := pg) (pre := pre) n i
        omega
      split at h
      · cases e2 : allS (S pg pre ns) n.ch with
        | none => rw [e2] at h; cases h
        | some ts =>
          rw [e2] at h
          have := bnd_some (show bnd _ = some t from h)
          rw [this.1]; exact this.2
      split at h
      · rename_i k3
        have hne := W.ch_ne e (.inl k3)
        cases hc : n.ch with
        | nil => exact absurd hc hne
        | cons c cs =>
          rw [hc] at h
          have hcc := W.ch i n c e (by rw [hc]; exact List.mem_cons_self)
          exact ih c t (by omega) h
      split at h
      · cases e2 : S pg pre ns (n.ch.headD 0) with
        | none => rw [e2] at h; cases h
        | some b =>
          rw [e2] at h
          cases e3 : allS (S pg pre ns) (n.ch.drop 1) with
          | none => rw [e3] at h; cases h
          | some ts =>
            rw [e3] at h
            have := bnd_some (show bnd _ = some t from h)
            rw [this.1]; exact this.2
      split at h
      · cases e2 : allS (S pg pre ns) n.ch with
        | none => rw [e2] at h; cases h
        | some ts =>
          rw [e2] at h
          have h : argsF pg pre ns n ts = some t := h
          unfold argsF at h
          split at h
          · cases h
          · split at h
            · cases h
            · split at h
              · cases h
              · have := bnd_some h
                rw [this.1]; exact this.2
      · cases h
        omega
theorem S_le (W : WfN pg ns) {i : Nat} {t : T} (h : S pg pre ns i = some t) : t.size ≤ 120 := S_size W _ i t (Nat.le_refl _) h
theorem allS_le (W : WfN pg ns) {cs : List Nat} {ts : List T} (h : allS (S pg pre ns) cs = some ts) : ∀ t ∈ ts, t.size ≤ 120 := fun t ht => by
  obtain ⟨j, e⟩ := List.mem_iff_getElem?.mp ht
  obtain ⟨h1, h2⟩ := allS_some h
  have hj := (List.getElem?_eq_some_iff.mp e).1
  obtain ⟨u, e1, e2⟩ := h2 j cs[j] (List.getElem?_eq_getElem (by omega))
  rw [e] at e2
  cases e2
  exact S_le W e1
end
section
variable {P : Program} {w : World} {K : PySem.W.Frag} {mg : Str → Option Value} {base : Heap}
def rSt (K : PySem.W.Frag) (dk : Addr) (H : Hp) (Q : VK) (E : XK) (g : Nat → Option T) (o : Option T) : Prop :=
  (∀ t, o = some t → ∀ v H', Fr (At dk) H H' → Know K H' g dk → Tm K H' v t → Q v H') ∧ (o = none → ∀ H', Fr (At dk) H H' → E (.ref (aTL K)) none H')
def sp_stands (K : PySem.W.Frag) (m : Nat) : Sp := fun vs H Q E => ∃ r i pg ns pre dx vp vg lt dk, vs = [.ref r, .int (i : Nat)] ∧ RdR K H r pg ns pre dx vp vg lt dk ∧ Know K H (S pg pre ns) dk ∧ WfN pg ns ∧ Wf pg ∧ Pfx pg pre ∧ i < ns.length ∧ ns.length - i ≤ m ∧
  rSt K dk H Q E (S pg pre ns) (S pg pre ns i)
def sp_made (K : PySem.W.Frag) (m : Nat) (G : Nd → Prop) (g : Prog → Nat → List Nd → Nd → Nat → Option T) : Sp := fun vs H Q E => ∃ r i n pg ns pre dx vp vg lt dk, vs = [.ref r, .int (i : Nat)] ∧ RdR K H r pg ns pre dx vp vg lt dk ∧ Know K H (S pg pre ns) dk ∧ WfN pg ns ∧ Wf pg ∧ Pfx pg pre ∧ ns[i]? = some n ∧ G n ∧ ns.length - i ≤ m + 1 ∧
  rSt K dk H Q E (S pg pre ns) (g pg pre ns n i)
def gSpl (pg : Prog) (pre : Nat) (ns : List Nd) (n : Nd) (_ : Nat) : Option T := (S pg pre ns (n.ch.headD 0)).bind fun b => (allS (S pg pre ns) (n.ch.drop 1)).bind fun ts => bnd (put b (n.us.zip ts))
theorem sc_Reader_stands : FnScope ["self", "number"] ["self", "number"] (defScope Tx.s_Reader_stands) := C8.fnScope_by (by decide +kernel)
theorem sc_Reader_made : FnScope ["self", "number", "kind", "term", "children", "unknown", "child"] ["self", "number"] (defScope Tx.s_Reader_made) := C8.fnScope_by (by decide +kernel)
theorem sc_Reader_made_split : FnScope ["self", "number", "children", "body", "parts", "unknown", "child"] ["self", "number"] (defScope Tx.s_Reader_made_split) := C8.fnScope_by (by decide +kernel)
theorem sc_Reader_made_folded : FnScope ["self", "number", "kind", "term", "children", "target", "names", "found", "at", "unknown", "part", "arguments"] ["self", "number"] (defScope Tx.s_Reader_made_folded) := C8.fnScope_by (by decide +kernel)
theorem ok_made_split (Y : Hf K mg) (m : Nat) (ih : Me (L2.CX P w) P w K mg base (4 * m + 66) (aR K) "stands" (sp_stands K m)) : Me (L2.CX P w) P w K mg base (4 * m + 68) (aR K) "made_split" (sp_made K m (fun n => n.kind = ("split" : Str)) gSpl) := by
  refine Y.d_Reader_made_split.okX sc_Reader_made_split (fun vs H Q E h => ?_) (fun f cdv A outer s H vs Q E hr h => ?_)
  · obtain ⟨r, i, n, pg, ns, pre, dx, vp, vg, lt, dk, rfl, _⟩ := h; rfl
  have nd := sc_Reader_made_split.nd
  refine ⟨_, ((pss_cons (ps_set (i := 2) nd rfl (by first | exact .inl rfl | exact .inr rfl) (pe_ix ix_d (pe_ix ix_d (pe_fld (pv 0) rfl) (pv 1) fun _ _ => rfl) pe_int fun _ _ => rfl))
    (pss_cons (ps_set (i := 3) nd rfl (by first | exact .inl rfl | exact .inr rfl) (kmeX (E := E) ih hr (passes_call (takes_of rfl rfl rfl rfl) fun _ _ _ _ h => h) (pv 0) (pa_cons (pe_ix ix_d (pv 2) pe_int fun _ _ => rfl) pa_nil) (hk := by omega)))
    (pss_cons (ps_set (i := 4) nd rfl (by first | exact .inl rfl | exact .inr rfl) (pe_lst pa_nil))
    (pss_cons (ps_for (passes_of rfl) rfl (pi_zipA rfl Y.z_zip (pa_cons (pe_ix ix_d (pe_ix ix_d (pe_fld (pv 0) rfl) (pv 1) fun _ _ => rfl) pe_int fun _ _ => rfl) (pa_cons (pe_slice sl_d (pv 2) (po_some pe_int) po_none) pa_nil))) (pg_tup rfl (pgs_cons (pg_name (i := 5) nd rfl (by first | exact .inl rfl | exact .inr rfl)) (pgs_cons (pg_name (i := 6) nd rfl (by first | exact .inl rfl | exact .inr rfl)) pgs_nil)))
        (pss_one (ps_expr (pe_bm PySem.F.plainAttrs_list PySem.F.slot_list_append PySem.F.type_list_append mt_append (pv 4) (pa_cons (pe_tupD (pa_cons (pv 5) (pa_cons (kmeX (E := E) ih hr (passes_call (takes_of rfl rfl rfl rfl) fun _ _ _ _ h => h) (pv 0) (pa_cons (pv 6) pa_nil) (hk := by omega)) pa_nil))) pa_nil)))))
    (pss_one (ps_ret (kmeX (E := E) (ok_bounded Y) hr (passes_call (takes_of rfl rfl rfl rfl) fun _ _ _ _ h => h) (pv 0) (pa_cons (kc (ok_putS Y 120 (Nat.le_refl _)) hr (pa_cons (pv 3) (pa_cons (k_tupF Y.z_tuple (pv 4)) pa_nil)) (hk := by omega)) pa_nil) (hk := by omega))))))))), ?_⟩
  obtain ⟨r, i, n, pg, ns, pre, dx, vp, vg, lt, dk, rfl, R, hkn, W, Wp, hp, en, hk, hm, q1, q2⟩ := h
  have hmem := List.mem_of_getElem? en
  have hlen := (W.ok n hmem).spl hk
  have hil := (List.getElem?_eq_some_iff.mp en).1
  have hch := W.ch i n
  obtain ⟨c0, cs, hc⟩ : ∃ c0 cs, n.ch = c0 :: cs := by
    cases h : n.ch with
    | nil => rw [h] at hlen; cases hlen
    | cons a l => exact ⟨a, l, rfl⟩
  unfold gSpl at q1 q2
  rw [hc] at q1 q2 hlen hch
  have hcl : cs.length = n.us.length := by rw [List.length_cons] at hlen; omega
  have h0 := hch c0 en List.mem_cons_self
  have hcs : ∀ c ∈ cs, i < c ∧ c < ns.length := fun c hc => hch c en (List.mem_cons_of_mem _ hc)
  have q1 : ∀ t, ((S pg pre ns c0).bind fun b => (allS (S pg pre ns) cs).bind fun ts => bnd (put b (n.us.zip ts))) = some t → ∀ v H', Fr (At dk) H H' → Know K H' (S pg pre ns) dk → Tm K H' v t → Q v H' := q1
  have q2 : ((S pg pre ns c0).bind fun b => (allS (S pg pre ns) cs).bind fun ts => bnd (put b (n.us.zip ts))) = none → ∀ H', Fr (At dk) H H' → E (.ref (aTL K)) none H' := q2
  refine R.row Y rfl rfl en rfl fun w1 hw1 => ?_
  rw [hc] at hw1
  refine ⟨_, rfl, r, dx, _, rfl, R.hs, rfl, _, rfl, _, 0, .int c0, rfl, hw1, atI_zero _ _, fun w2 hw2 => ?_⟩
  obtain rfl := hw2.intE
  refine ⟨r, c0, pg, ns, pre, dx, vp, vg, lt, dk, rfl, R, hkn, W, Wp, hp, h0.2, by omega, fun t ht v2 H2 f2 k2 hv2 => ?_, fun hn H2 f2 => q2 (by rw [hn]; rfl) H2 f2⟩
  rw [ht] at q1 q2
  have R2 := R.fr f2
  refine ⟨Nat.zero_le _, fun l hl => ?_⟩
  have f3 : Fr No H2 (upd H2 l (.lst [])) := Fr.new0 hl
  have R3 := R2.kn f3
  have k3 := k2.kn f3
  refine R3.row Y rfl rfl en rfl fun w3 hw3 => ?_
  refine ⟨_, rfl, 1, rfl, _, (hw1.fr f2).fr f3, fun w4 H4 f4 hw4 => ?_⟩
  rw [show cut (List.map (fun (k : Nat) => PyData.int (k : Int)) (c0 :: cs)) (some 1) none = cs.map (fun (k : Nat) => PyData.int (k : Int)) from cut_from _ 1] at hw4
  obtain ⟨a, xs, rfl, ta, ia⟩ := (show Is K H4 w3 (.tuple (n.us.map .int)) from hw3.fr f4).tupE
  obtain ⟨b, ys, rfl, tb, ib⟩ := hw4.tupE
  have R4 := R3.kn f4
  have k4 := k3.kn f4
  have hl4 := f4.kn (show (upd H2 l (.lst [])) l = some (.lst []) from upd_same)
  have nrl : r ≠ l := fun z => by have h := R2.hs; rw [z, hl] at h; exact nomatch h
  refine ⟨a, b, xs, ys, rfl, .inr ⟨ta.sq, tb.sq, ?_⟩⟩
  have nlk : dk ≠ l := fun z => by obtain ⟨_, _, h, _⟩ := k2; rw [z, hl] at h; exact nomatch h
  have nlt : lt ≠ l := fun z => by have h := R2.ht; rw [z, hl] at h; exact nomatch h
  have tH : Tm K H4 v2 t := (hv2.fr f3).fr f4
  refine for_it (dwZt (S := fun b => b = l ∨ b = dk) ta ia tb ib (by rw [List.length_map, List.length_map, hcl])) (fun j σ H' => ∃ (x5 x6 : Option V) (zs : List V) (ts : List T), σ = [some (.ref r), some (.int (i : Nat)), some w1, some v2, some (.ref l), x5, x6] ∧ Fr (fun b => b = l ∨ b = dk) H4 H' ∧ H' l = some (.lst zs) ∧ IsAll K H' zs ((n.us.zip ts).map prD) ∧ allS (S pg pre ns) (cs.take j) = some ts ∧ Know K H' (S pg pre ns) dk)
    ⟨none, none, [], [], rfl, .refl, hl4, by rw [List.zip_nil_right]; exact .nil, rfl, k4⟩ (fun j σ H' _ z => let ⟨_, _, _, _, _, z, _⟩ := z; z) (fun j x σ H5 H6 hlt z yy => ?_) fun σ H5 z => ?_
  · obtain ⟨x5, x6, zs, ts, rfl, f5, hl5, hzs, hts, k5⟩ := z
    obtain ⟨f6, d, hd, hx⟩ := yy
    obtain ⟨d1, d2, e1, e2, rfl⟩ := zipD_get hd
    rw [List.getElem?_map] at e1 e2
    cases eu : n.us[j]? with
    | none => rw [eu] at e1; cases e1
    | some u =>
    cases ec : cs[j]? with
    | none => rw [ec] at e2; cases e2
    | some c =>
    rw [eu] at e1
    rw [ec] at e2
    cases e1
    cases e2
    obtain ⟨a6, y1, y2, rfl, tr, hy1, hy2⟩ := hx.two
    obtain rfl := hy1.intE
    obtain rfl := hy2.intE
    have R6 := R4.frS (f5.trans f6.no) (fun z => z.elim nrl R.n1) (fun z => z.elim nlt R.n2)
    have hl6 := f6.kn hl5
    have hcc := hcs c (List.mem_of_getElem? ec)
    have hjl := (List.getElem?_eq_some_iff.mp ec).1
    have htl : ts.length = j := by rw [(allS_some hts).1, List.length_take]; omega
    refine ⟨a6, _, rfl, tr.sq, rfl, _, _, rfl, _, _, rfl, rfl, ?_⟩
    refine ⟨_, rfl, .inl ⟨rfl, _, SqL.of hl6⟩, _, rfl, _, rfl, r, dx, _, rfl, R6.hs, rfl, _, rfl, ?_⟩
    refine ⟨r, c, pg, ns, pre, dx, vp, vg, lt, dk, rfl, R6, k5.kn f6, W, Wp, hp, hcc.2, by omega, fun t7 ht7 v7 H7 f7 k7 hv7 => ?_, fun hn H7 f7 => ?_⟩
    · refine ⟨_, .cons (.int u) (.cons hv7 .nil), by show 2 ≤ 16000000; decide, fun w8 H8 f8 hw8 => ?_⟩
      have hl7 := f7.k l _ (fun z => nlk z.symm) hl6
      refine ⟨l, _, _, rfl, rfl, f8.kn hl7, lt_line (by rw [hzs.len, List.length_map, List.length_zip, htl]; have := W.cl n hmem; rw [hc, List.length_cons] at this; have := Nat.min_le_right n.us.length j; omega), ?_⟩
      have g9 : Fr (fun b => b = l ∨ b = dk) H8 (upd H8 l (.lst (zs ++ [w8]))) := Fr.refl.mut (.inl rfl) (f8.kn hl7) fun z => z
      have f7' : Fr (fun b => b = l ∨ b = dk) H6 H7 := f7.mono fun b z => .inr z
      refine ⟨_, _, _, ts ++ [t7], rfl, (((f5.trans f6.no).trans f7').trans f8.no).trans g9, upd_same, ?_, allS_snoc hts ec ht7, ?_⟩
      · rw [zip_snoc (by rw [htl]; exact eu), List.map_append]
        exact ((((hzs.fr f6).fr f7').fr f8).fr g9).append (.cons (Is.fr g9 hw8) .nil)
      · exact (k7.kn f8).fr (Fr.refl.mut (S := At l) rfl (f8.kn hl7) fun z => z) nlk
    · refine q2 ?_ H7 ?_
      · show ((allS (S pg pre ns) cs).bind fun ts => bnd (put t (n.us.zip ts))) = none
        rw [allS_none (List.mem_of_getElem? ec) hn]
        rfl
      · have fz : Fr (fun b => b = l ∨ b = dk) H2 H7 := (((f3.trans f4).no.trans f5).trans f6.no).trans (f7.mono fun b z => .inr z)
        refine f2.trans (fz.less fun b hb hn => ?_)
        rcases hb with e | e
        · rw [e]; exact hl
        · exact absurd e hn
  · obtain ⟨x5, x6, zs, ts, rfl, f5, hl5, hzs, hts, k5⟩ := z
    rw [zipD_len (by rw [List.length_map, List.length_map, hcl]), List.length_map, ← hcl, List.take_length] at hts
    have R5 := R4.frS f5 (fun z => z.elim nrl R.n1) (fun z => z.elim nlt R.n2)
    have ht5 : Tm K H5 v2 t := tH.fr f5
    have hsz := S_le W ht
    have hal := allS_le W hts
    have hps : ∀ p ∈ n.us.zip ts, p.2.size ≤ 120 := fun p hp => hal _ (List.of_mem_zip hp).2
    have hpz := put_size (t := t) (ps := n.us.zip ts) (M := 120) (by decide) hps
    rw [hts] at q1 q2
    have q1 : ∀ t', bnd (put t (n.us.zip ts)) = some t' → ∀ v H', Fr (At dk) H H' → Know K H' (S pg pre ns) dk → Tm K H' v t' → Q v H' := q1
    have q2 : bnd (put t (n.us.zip ts)) = none → ∀ H', Fr (At dk) H H' → E (.ref (aTL K)) none H' := q2
    refine ⟨_, rfl, r, dx, _, rfl, R5.hs, rfl, _, rfl, _, rfl, l, _, rfl, SqL.of hl5, fun p8 o8 hp8 ho8 => ?_⟩
    have f8 : Fr No H5 (upd H5 p8 (.frz o8 (.tup zs))) := Fr.new0 hp8
    refine ⟨v2, t, .ref p8, n.us.zip ts, rfl, ht5.fr f8, Prt.of hp8 ho8 hzs, hsz, by omega, fun p hp => by have := hps p hp; omega, fun w9 H9 f9 hw9 => ?_⟩
    have fz : ∀ H10, Fr No H9 H10 → Fr (At dk) H H10 := fun H10 f10 => by
      have fz : Fr (fun b => b = l ∨ b = dk) H2 H10 := ((f3.trans f4).no.trans f5).trans ((f8.trans f9).trans f10).no
      refine f2.trans (fz.less fun b hb hn => ?_)
      rcases hb with e | e
      · rw [e]; exact hl
      · exact absurd e hn
    refine ⟨r, w9, put t (n.us.zip ts), rfl, hw9, by omega, fun hz H10 f10 => ?_, fun hz H10 f10 => ?_⟩
    · exact q1 _ (bnd_le hz) w9 H10 (fz H10 f10) (k5.kn ((f8.trans f9).trans f10)) (Is.fr f10 hw9)
    · exact q2 (bnd_gt hz) H10 (fz H10 f10)
end
end DF

namespace DF
open PySem PySem.Spec PyProof.Rows L2 RZ
/-! ### a folded node's arguments -/
theorem fnd_keys : ∀ (ps : List (Int × T)) (ts : List T), (fnd ps ts).map (·.1) = ps.map (·.1)
  | [], _ => rfl
  | p :: ps, ts => by
    unfold fnd
    split
    · rw [List.map_cons, List.map_cons, fnd_keys ps ts]
    · rw [List.map_cons, List.map_cons, fnd_keys ps (ts.drop 1)]
theorem fnd_len (ps : List (Int × T)) (ts : List T) : (fnd ps ts).length = ps.length := by
  have := congrArg List.length (fnd_keys ps ts)
  rwa [List.length_map, List.length_map] at this
theorem bigs_cons (p : Int × T) (ps : List (Int × T)) : bigs (p :: ps) = if p.2.isVar = true then bigs ps else p.2 :: bigs ps := by
  unfold bigs
  rw [List.filterMap_cons]
  cases p.2.isVar <;> rfl
theorem bigs_snoc (ps : List (Int × T)) (p : Int × T) : bigs (ps ++ [p]) = bigs ps ++ (if p.2.isVar = true then [] else [p.2]) := by
  unfold bigs
  rw [List.filterMap_append]
  congr 1
  rw [List.filterMap_cons, List.filterMap_nil]
  cases p.2.isVar <;> rfl
theorem fnd_snocV : ∀ {ps : List (Int × T)} {ts : List T} {p : Int × T}, p.2.isVar = true → fnd (ps ++ [p]) ts = fnd ps ts ++ [p]
  | [], ts, p, h => by
    show fnd [p] ts = [p]
    unfold fnd
    rw [if_pos h]; rfl
  | q :: ps, ts, p, h => by
    show fnd (q :: (ps ++ [p])) ts = _
    unfold fnd
    split
    · rw [fnd_snocV h]; rfl
    · rw [fnd_snocV h]; rfl
theorem fnd_snocB : ∀ {ps : List (Int × T)} {ts : List T} {p : Int × T} {t : T}, p.2.isVar = false → ts.length = (bigs ps).length → fnd (ps ++ [p]) (ts ++ [t]) = fnd ps ts ++ [(p.1, t)]
  | [], ts, p, t, h, hl => by
    have : ts = [] := List.eq_nil_of_length_eq_zero hl
    subst this
    show fnd [p] [t] = [(p.1, t)]
    unfold fnd
    rw [if_neg (by rw [h]; exact Bool.false_ne_true)]; rfl
  | q :: ps, ts, p, t, h, hl => by
    show fnd (q :: (ps ++ [p])) (ts ++ [t]) = _
    rw [bigs_cons] at hl
    unfold fnd
    split
    · rename_i c
      rw [if_pos c] at hl
      rw [fnd_snocB h hl]; rfl
    · rename_i c
      rw [if_neg c] at hl
      cases ts with
      | nil => cases hl
      | cons a ts =>
        show (q.1, a) :: fnd (ps ++ [p]) (ts ++ [t]) = _
        rw [fnd_snocB h (by rw [List.length_cons, List.length_cons] at hl; omega)]; rfl
theorem look_noneK {θ : Tab} {i : Int} (h : i ∉ θ.map (·.1)) : look θ i = none := by
  cases e : look θ i with
  | none => rfl
  | some t => exact absurd (List.mem_map.mpr ⟨_, look_mem e, rfl⟩) h
theorem look_some_of : ∀ {θ : Tab} {i : Int}, i ∈ θ.map (·.1) → ∃ t, look θ i = some t
  | [], _, h => nomatch h
  | (k, u) :: θ, i, h => by
    rw [look_cons]
    by_cases c : k = i
    · rw [if_pos c]; exact ⟨u, rfl⟩
    · rw [if_neg c]
      rcases List.mem_cons.mp h with e | h
      · exact absurd e.symm c
      · exact look_some_of h
theorem set1_new {θ : Tab} {i : Int} {t : T} (h : look θ i = none) : set1 θ i t = θ ++ [(i, t)] := by
  unfold set1
  rw [if_neg]
  rw [← look_any, h]
  exact Bool.false_ne_true
theorem pars_mem {pg : Prog} {n : Nd} {u : Int} (h : u ∈ pars pg n) (hd : ∀ j g, dem pg n.term = .nds j g → Hd.u j ∈ n.term.heads) : u ∈ unks n.term := by
  unfold pars at h
  split at h
  · exact h
  · split at h
    · rename_i j g e
      rcases List.mem_cons.mp h with e2 | h
      · rw [e2]; exact mem_unks.mpr (hd j g e)
      · exact (List.mem_filter.mp h).1
    · cases h
section
variable {P : Program} {w : World} {K : PySem.W.Frag} {mg : Str → Option Value} {base : Heap}
def gFol (pg : Prog) (pre : Nat) (ns : List Nd) (n : Nd) (_ : Nat) : Option T := (allS (S pg pre ns) n.ch).bind fun ts => argsF pg pre ns n ts
theorem isFn_fol {pg : Prog} {ns : List Nd} {n m : Nd} {k : Nat} (hn : n ∈ ns) (htg : n.tg = some k) (hm : ns[k]? = some m) (h : m.kind = ("stepped" : Str) ∨ m.kind = ("branched" : Str)) : isFn ns k = true := by
  unfold isFn
  rw [hm]
  dsimp only
  rw [Bool.or_eq_true, Bool.and_eq_true]
  rcases h with h | h
  · exact .inr ⟨decide_eq_true h, List.any_eq_true.mpr ⟨n, hn, decide_eq_true htg⟩⟩
  · exact .inl (decide_eq_true h)
theorem ok_made_folded (Y : Hf K mg) (m : Nat) (ih : Me (L2.CX P w) P w K mg base (4 * m + 66) (aR K) "stands" (sp_stands K m)) : Me (L2.CX P w) P w K mg base (4 * m + 68) (aR K) "made_folded" (sp_made K m (fun n => n.kind = ("folded" : Str)) gFol) := by
  refine Y.d_Reader_made_folded.okX sc_Reader_made_folded (fun vs H Q E h => ?_) (fun f cdv A outer s H vs Q E hr h => ?_)
  · obtain ⟨r, i, n, pg, ns, pre, dx, vp, vg, lt, dk, rfl, _⟩ := h; rfl
  have nd := sc_Reader_made_folded.nd
  refine ⟨_, ((pss_cons (ps_asg (pe_ix ix_d (pe_fld (pv 0) rfl) (pv 1) fun _ _ => rfl) (pg_tup rfl (pgs_cons (pg_name (i := 2) nd rfl (by first | exact .inl rfl | exact .inr rfl)) (pgs_cons (pg_name (i := 3) nd rfl (by first | exact .inl rfl | exact .inr rfl)) (pgs_cons (pg_name (i := 4) nd rfl (by first | exact .inl rfl | exact .inr rfl)) (pgs_cons (pg_name (i := 5) nd rfl (by first | exact .inl rfl | exact .inr rfl)) (pgs_cons (pg_name (i := 6) nd rfl (by first | exact .inl rfl | exact .inr rfl)) pgs_nil)))))))
    (pss_cons (ps_set (i := 7) nd rfl (by first | exact .inl rfl | exact .inr rfl) pe_dnewK)
    (pss_cons (ps_set (i := 8) nd rfl (by first | exact .inl rfl | exact .inr rfl) pe_int)
    (pss_cons (ps_for (passes_of rfl) rfl (pi_tup (kc (ok_match Y 60) hr (pa_cons (pe_ix ix_d (pe_ix ix_d (pe_fld (pv 0) rfl) (pv 5) fun _ _ => rfl) pe_int fun _ _ => rfl) (pa_cons (pv 3) pa_nil)) (hk := by omega))) (pg_tup rfl (pgs_cons (pg_name (i := 9) nd rfl (by first | exact .inl rfl | exact .inr rfl)) (pgs_cons (pg_name (i := 10) nd rfl (by first | exact .inl rfl | exact .inr rfl)) pgs_nil)))
        (pss_one (ps_if (pt_val (kc (ok_is_variable_residuals Y) hr (pa_cons (pv 10) pa_nil) (hk := by omega)))
            (pss_one (ps_dput (hu1 hr) (pv 7) (pv 9) (pv 10) rfl))
            (pss_cons (ps_dput (hu1 hr) (pv 7) (pv 9) (kmeX (E := E) ih hr (passes_call (takes_of rfl rfl rfl rfl) fun _ _ _ _ h => h) (pv 0) (pa_cons (pe_ix ix_d (pv 4) (pv 8) fun _ _ => rfl) pa_nil) (hk := by omega)) rfl)
            (pss_one (ps_aug (i := 8) nd rfl (by first | exact .inl rfl | exact .inr rfl) pe_int ip_add))))))
    (pss_cons (ps_set (i := 11) nd rfl (by first | exact .inl rfl | exact .inr rfl) (k_tup Y.z_tuple (pe_lc (own := [("unknown", 9)]) (g := (gName 9)) (tt := tYes) (te := (tDGet (tVar 7) (tVar 9))) rfl nd (pi_tup (kme (ok_parameters Y) hr (pv 0) (pa_cons (pv 5) pa_nil) (hk := by omega))) (blkOk_by (own := [("unknown", 9)]) (N := ["self", "number", "kind", "term", "children", "target", "names", "found", "at", "unknown", "part", "arguments"]) (sc := defScope Tx.s_Reader_made_folded) (by decide +kernel)) (fun _ _ _ _ _ => (pg_name (i := 9) nd rfl (by first | exact .inl rfl | exact .inr rfl))) (fun _ _ _ _ _ => pts_nil) (fun _ _ _ _ _ => (pe_dget (hu1 hr) (pv 7) (pv 9) fun _ _ => rfl)))))
    (pss_one (ps_ret (kmeX (E := E) (ok_bounded Y) hr (passes_call (takes_of rfl rfl rfl rfl) fun _ _ _ _ h => h) (pv 0) (pa_cons (pe_tupD (pa_cons (kme (ok_name Y) hr (pv 0) (pa_cons (pv 5) pa_nil) (hk := by omega)) (pa_cons (pv 11) pa_nil))) pa_nil) (hk := by omega)))))))))), ?_⟩
  obtain ⟨r, i, n, pg, ns, pre, dx, vp, vg, lt, dk, rfl, R, hkn, W, Wp, hp, en, hk, hm, q1, q2⟩ := h
  have hmem := List.mem_of_getElem? en
  obtain ⟨k, m', ps, htg, em, hkm, hps, hcl⟩ := (W.ok n hmem).fol hk
  have hmm := List.mem_of_getElem? em
  have hkl := (List.getElem?_eq_some_iff.mp em).1
  have hnl := W.len
  have hz := W.sz n hmem
  have hzm := W.sz m' hmm
  have hFk := isFn_fol (pg := pg) hmem htg em hkm
  have hcs : ∀ c ∈ n.ch, i < c ∧ c < ns.length := fun c hc => W.ch i n c en hc
  obtain ⟨hpk, hpz⟩ := matchP_parts hps
  have hpl : ps.length ≤ 60 := by
    have h1 := congrArg List.length hpk
    rw [List.length_map] at h1
    have := unks_len m'.term
    omega
  have hnd : (ps.map (·.1)).Nodup := by rw [hpk]; exact nodup_uniq _
  have qq : gFol pg pre ns n i = (allS (S pg pre ns) n.ch).bind fun ts => bnd ((T.lf (.c (rnm pre k))).aps ((pars pg m').map fun u => (look (fnd ps ts) u).getD default)) := by
    unfold gFol argsF
    rw [htg]
    dsimp only
    rw [em]
    dsimp only
    rw [hps]
  rw [qq] at q1 q2
  refine R.row0 Y rfl rfl en fun w0 hw0 => ?_
  obtain ⟨a0, xs0, rfl, t0, i0⟩ := (show Is K H w0 (.tuple [.str n.kind, enc n.term, natsD n.ch, optD n.tg, intsD n.us]) from hw0).tupE
  rw [htg] at i0
  cases i0 with
  | cons h1 i0 =>
  cases i0 with
  | cons h2 i0 =>
  cases i0 with
  | cons h3 i0 =>
  cases i0 with
  | cons h4 i0 =>
  cases i0 with
  | cons h5 i0 =>
  cases i0
  obtain rfl := h1.strE
  obtain rfl := (show Is K H _ (.int (k : Int)) from h4).intE
  rename_i v2 v3 v5
  refine ⟨a0, _, rfl, t0.sq, rfl, _, _, rfl, _, _, rfl, _, _, rfl, _, _, rfl, _, _, rfl, rfl, ?_⟩
  refine fun d hd => ?_
  have f1 : Fr No H (upd H d (.dK [])) := Fr.new0 hd
  have R1 := R.kn f1
  have k1 := hkn.kn f1
  refine R1.row Y rfl rfl em rfl fun w2 hw2 => ?_
  refine ⟨_, rfl, w2, m'.term, v2, n.term, rfl, hw2, h2.fr f1, by omega, by omega, by omega, ?_⟩
  rw [hps]
  intro w3 H3 f3 hw3
  obtain ⟨a, xs, rfl, ta, ia⟩ := hw3.tupE
  have f13 := f1.trans f3
  have R3 := R1.kn f3
  have k3 := k1.kn f3
  have hd3 := f3.kn (show (upd H d (.dK [])) d = some (.dK []) from upd_same)
  have nrd : r ≠ d := fun z => by have h := R.hs; rw [z, hd] at h; exact nomatch h
  have ndk : dk ≠ d := fun z => by obtain ⟨_, _, h, _⟩ := hkn; rw [z, hd] at h; exact nomatch h
  have nld : lt ≠ d := fun z => by have h := R.ht; rw [z, hd] at h; exact nomatch h
  have hch3 : Is K H3 v3 (natsD n.ch) := h3.fr f13
  refine ⟨a, rfl, ⟨_, ta.sq⟩, ?_⟩
  refine for_it (dwT (S := fun b => b = d ∨ b = dk) ta ia) (fun j σ H' => ∃ (x9 x10 : Option V) (kvs : List (Key × V)) (ts : List T), σ = [some (.ref r), some (.int (i : Nat)), some (.str n.kind), some v2, some v3, some (.int (k : Nat)), some v5, some (.ref d), some (.int (ts.length : Nat)), x9, x10, none] ∧ Fr (fun b => b = d ∨ b = dk) H3 H' ∧ H' d = some (.dK kvs) ∧ DTab K H' kvs (fnd (ps.take j) ts) ∧ ts.length = (bigs (ps.take j)).length ∧ allS (S pg pre ns) (n.ch.take ts.length) = some ts ∧ Know K H' (S pg pre ns) dk)
    ⟨none, none, [], [], rfl, .refl, hd3, .nil, rfl, rfl, k3⟩ (fun j σ H' _ z => let ⟨_, _, _, _, _, z, _⟩ := z; z) (fun j x σ H5 H6 hlt z yy => ?_) fun σ H5 z => ?_
  · obtain ⟨x9, x10, kvs, ts, rfl, f5, hd5, hT, htl, hts, k5⟩ := z
    obtain ⟨f6, dd, hdd, hx⟩ := yy
    rw [List.getElem?_map] at hdd
    cases ep : ps[j]? with
    | none => rw [ep] at hdd; cases hdd
    | some p =>
    rw [ep] at hdd
    cases hdd
    have hjl := (List.getElem?_eq_some_iff.mp ep).1
    obtain ⟨a6, y1, y2, rfl, tr, hy1, hy2⟩ := (show Is K H6 x (.tuple [.int p.1, enc p.2]) from hx).two
    obtain rfl := hy1.intE
    have R6 := R3.frS (f5.trans f6.no) (fun z => z.elim nrd R.n1) (fun z => z.elim nld R.n2)
    have hd6 := f6.kn hd5
    have hT6 := hT.fr f6
    have hnot : look (fnd (ps.take j) ts) p.1 = none := by
      refine look_noneK ?_
      rw [fnd_keys]
      have e1 : ps = ps.take j ++ ps.drop j := (List.take_append_drop j ps).symm
      rw [e1, List.map_append, List.nodup_append] at hnd
      intro hin
      refine hnd.2.2 p.1 hin p.1 ?_ rfl
      rw [List.drop_eq_getElem_cons hjl, (List.getElem?_eq_some_iff.mp ep).2]
      exact List.mem_map.mpr ⟨p, List.mem_cons_self, rfl⟩
    have hkl2 : kvs.length < sizeLine := lt_line (by
      rw [hT.len, fnd_len]
      have := List.length_take_le' j ps
      omega)
    refine ⟨a6, _, rfl, tr.sq, rfl, _, _, rfl, _, _, rfl, rfl, ?_⟩
    refine ⟨_, rfl, y2, p.2, rfl, hy2, _, rfl, ?_⟩
    cases c : p.2.isVar with
    | true =>
      refine iteT ⟨_, rfl, _, rfl, _, rfl, d, _, rfl, DPut.k (k := .inl p.1) hd6 hkl2, ?_⟩
      have g8 : Fr (fun b => b = d ∨ b = dk) H6 (upd H6 d (.dK (putK kvs (.inl p.1) y2))) := Fr.refl.mut (.inl rfl) hd6 fun z => z
      have hput := (hT6.fr g8).put (i := p.1) (hy2.fr g8)
      rw [set1_new hnot] at hput
      refine ⟨_, _, _, ts, rfl, (f5.trans f6.no).trans g8, upd_same, ?_, ?_, hts, (k5.kn f6).fr (Fr.refl.mut (S := At d) rfl hd6 fun z => z) ndk⟩
      · rw [take_snoc ep, fnd_snocV c]
        exact hput
      · rw [take_snoc ep, bigs_snoc, if_pos c, List.append_nil]; exact htl
    | false =>
      have hlt2 : ts.length < n.ch.length := by
        rw [hcl, htl]
        have e2 : ps = ps.take (j + 1) ++ ps.drop (j + 1) := (List.take_append_drop _ _).symm
        conv => rhs; rw [e2]
        have e3 : bigs (ps.take (j + 1) ++ ps.drop (j + 1)) = bigs (ps.take (j + 1)) ++ bigs (ps.drop (j + 1)) := by unfold bigs; rw [List.filterMap_append]
        rw [e3, take_snoc ep, bigs_snoc, if_neg (by rw [c]; exact Bool.false_ne_true), List.length_append, List.length_append]
        show _ < _ + 1 + _
        omega
      obtain ⟨cc, ecc⟩ : ∃ cc, n.ch[ts.length]? = some cc := ⟨_, List.getElem?_eq_getElem hlt2⟩
      have hcc := hcs cc (List.mem_of_getElem? ecc)
      refine iteF ⟨_, rfl, r, dx, _, rfl, R6.hs, rfl, _, rfl, _, rfl, ?_⟩
      refine ⟨_, ts.length, .int (cc : Int), rfl, (hch3.fr f5).fr f6, by rw [atI_nat, List.getElem?_map, ecc]; rfl, fun w7 hw7 => ?_⟩
      obtain rfl := hw7.intE
      refine ⟨r, cc, pg, ns, pre, dx, vp, vg, lt, dk, rfl, R6, k5.kn f6, W, Wp, hp, hcc.2, by omega, fun t7 ht7 v7 H7 f7 k7 hv7 => ?_, fun hn H7 f7 => ?_⟩
      · have f7' : Fr (fun b => b = d ∨ b = dk) H6 H7 := f7.mono fun b z => .inr z
        have hd7 := f7.k d _ (fun z => ndk z.symm) hd6
        refine ⟨_, rfl, _, rfl, d, _, rfl, DPut.k (k := .inl p.1) hd7 hkl2, ?_⟩
        have g8 : Fr (fun b => b = d ∨ b = dk) H7 (upd H7 d (.dK (putK kvs (.inl p.1) v7))) := Fr.refl.mut (.inl rfl) hd7 fun z => z
        have hput := ((hT6.fr f7').fr g8).put (i := p.1) (hv7.fr g8)
        rw [set1_new hnot] at hput
        refine ⟨_, rfl, _, _, rfl, rfl, ?_⟩
        refine ⟨_, _, _, ts ++ [t7], by rw [List.length_append]; rfl, ((f5.trans f6.no).trans f7').trans g8, upd_same, ?_, ?_, ?_, k7.fr (Fr.refl.mut (S := At d) rfl hd7 fun z => z) ndk⟩
        · rw [take_snoc ep, fnd_snocB c htl]
          exact hput
        · rw [take_snoc ep, bigs_snoc, if_neg (by rw [c]; exact Bool.false_ne_true), List.length_append, List.length_append, htl]; rfl
        · rw [List.length_append]
          exact allS_snoc hts ecc ht7
      · refine q2 ?_ H7 ?_
        · rw [allS_none (List.mem_of_getElem? ecc) hn]; rfl
        · have fz : Fr (fun b => b = d ∨ b = dk) H H7 := ((f13.no.trans f5).trans f6.no).trans (f7.mono fun b z => .inr z)
          refine fz.less fun b hb hn => ?_
          rcases hb with e | e
          · rw [e]; exact hd
          · exact absurd e hn
  · obtain ⟨x9, x10, kvs, ts, rfl, f5, hd5, hT, htl, hts, k5⟩ := z
    rw [List.length_map, List.take_length] at hT htl
    rw [htl, ← hcl, List.take_length] at hts
    have R5 := R3.frS f5 (fun z => z.elim nrd R.n1) (fun z => z.elim nld R.n2)
    rw [hts] at q1 q2
    have q1 : ∀ t', bnd ((T.lf (.c (rnm pre k))).aps ((pars pg m').map fun u => (look (fnd ps ts) u).getD default)) = some t' → ∀ v H', Fr (At dk) H H' → Know K H' (S pg pre ns) dk → Tm K H' v t' → Q v H' := q1
    have q2 : bnd ((T.lf (.c (rnm pre k))).aps ((pars pg m').map fun u => (look (fnd ps ts) u).getD default)) = none → ∀ H', Fr (At dk) H H' → E (.ref (aTL K)) none H' := q2
    have fz : ∀ H10, Fr No H5 H10 → Fr (At dk) H H10 := fun H10 f10 => by
      have fz : Fr (fun b => b = d ∨ b = dk) H H10 := (f13.no.trans f5).trans f10.no
      refine fz.less fun b hb hn => ?_
      rcases hb with e | e
      · rw [e]; exact hd
      · exact absurd e hn
    have hdm : ∀ j g, dem pg m'.term = .nds j g → Hd.u j ∈ m'.term.heads := fun j g e => (dem_nds Wp _ m'.term (Nat.le_refl _) j g e).1
    have hpz2 : (pars pg m').length ≤ 61 := by have := pars_len (pg := pg) m'; omega
    refine ⟨_, rfl, r, dx, _, rfl, R5.hs, rfl, _, rfl, r, k, pg, ns, pre, dx, vp, vg, lt, dk, m', rfl, R5, W, Wp, em, hFk, fun w6 H6 f6 hw6 => ?_⟩
    obtain ⟨a7, xs7, rfl, t7, i7⟩ := (show Is K H6 w6 (.tuple ((pars pg m').map PyData.int)) from hw6).tupE
    refine ⟨a7, rfl, ⟨_, t7.sq⟩, fun D hD => lcD (K := K) (l := pars pg m') (en := PyData.int) (f := fun u => some (enc ((look (fnd ps ts) u).getD default))) (dwT (S := No) t7 i7) hD (by omega) (fun u x H7 yes no hu f7 hx yesH noH => ?_) fun H7 ys f7 hD7 hys => ?_⟩
    · obtain rfl := hx.intE
      refine ⟨rfl, yesT ⟨_, rfl, _, rfl, d, ?_⟩⟩
      have f57 := f6.trans f7
      rcases (hT.fr f57).get (i := u) with ⟨l1, l2⟩ | ⟨u', y, l1, l2, hy'⟩
      · obtain ⟨t', ht'⟩ := look_some_of (θ := fnd ps ts) (i := u) (by rw [fnd_keys, hpk]; exact pars_mem hu hdm)
        rw [ht'] at l1; cases l1
      · refine ⟨y, rfl, by rw [← l2]; exact DGet.k (k := .inl u) (f57.kn hd5), yesH y H7 _ .refl hy' ?_⟩
        rw [l1]; rfl
    · rw [fm_some, map_two (fun u => (look (fnd ps ts) u).getD default) enc] at hys
      refine ⟨D, ys, _, rfl, hD7, hys, fun w8 H8 f8 hw8 => ?_⟩
      have f58 := (f6.trans f7).trans f8
      have R8 := R5.kn f58
      refine ⟨_, rfl, r, dx, _, rfl, R8.hs, rfl, _, rfl, r, dx, _, rfl, R8.hs, rfl, _, rfl, r, k, pg, ns, pre, dx, vp, vg, lt, dk, rfl, R8, hp.lt, by omega, ?_⟩
      refine ⟨_, rfl, _, .cons (.str _) (.cons hw8 .nil), by show 2 ≤ 16000000; decide, fun w9 H9 f9 hw9 => ?_⟩
      have hw9 : Tm K H9 w9 ((T.lf (.c (rnm pre k))).aps ((pars pg m').map fun u => (look (fnd ps ts) u).getD default)) := Tm.ofMk hw9
      have hsz : ((T.lf (.c (rnm pre k))).aps ((pars pg m').map fun u => (look (fnd ps ts) u).getD default)).size ≤ 1000000 := by
        rw [T.size_mk]
        have hall : ∀ l : List Int, T.sizes (l.map fun u => (look (fnd ps ts) u).getD default) ≤ 121 * l.length := by
          intro l
          induction l with
          | nil => exact Nat.zero_le _
          | cons u l ih =>
            rw [List.map_cons, T.sizes_cons, List.length_cons]
            have : ((look (fnd ps ts) u).getD default).size ≤ 121 := by
              cases e : look (fnd ps ts) u with
              | none => show (T.lf default).size ≤ 121; show 1 ≤ 121; decide
              | some t =>
                have hmm := look_mem e
                show t.size ≤ 121
                have gen : ∀ (ps : List (Int × T)) (ts : List T), (∀ p ∈ ps, p.2.size ≤ 121) → (∀ t ∈ ts, t.size ≤ 121) → ∀ p ∈ fnd ps ts, p.2.size ≤ 121 := by
                  intro ps
                  induction ps with
                  | nil => intro ts _ _ p hp; cases hp
                  | cons q ps ih =>
                    intro ts h1 h2 p hp
                    unfold fnd at hp
                    split at hp
                    · rcases List.mem_cons.mp hp with e | hp
                      · rw [e]; exact h1 q List.mem_cons_self
                      · exact ih ts (fun p hp => h1 p (List.mem_cons_of_mem _ hp)) h2 p hp
                    · rcases List.mem_cons.mp hp with e | hp
                      · rw [e]
                        cases ts with
                        | nil => show (T.lf default).size ≤ 121; show 1 ≤ 121; decide
                        | cons a ts => exact h2 a List.mem_cons_self
                      · exact ih (ts.drop 1) (fun p hp => h1 p (List.mem_cons_of_mem _ hp)) (fun t ht => h2 t (List.mem_of_mem_drop ht)) p hp
                exact gen ps ts (fun p hp => by have := (hpz p hp).1; omega) (fun t ht => by have := allS_le W hts t ht; omega) _ hmm
            omega
        have := hall (pars pg m')
        omega
      refine ⟨r, w9, _, rfl, hw9, hsz, fun hz H10 f10 => ?_, fun hz H10 f10 => ?_⟩
      · exact q1 _ (bnd_le hz) w9 H10 (fz H10 ((f58.trans f9).trans f10)) (k5.kn ((f58.trans f9).trans f10)) (Is.fr f10 hw9)
      · exact q2 (bnd_gt hz) H10 (fz H10 ((f58.trans f9).trans f10))
end
end DF

namespace DF
open PySem PySem.Spec PyProof.Rows L2 RZ
section
variable {P : Program} {w : World} {K : PySem.W.Frag} {mg : Str → Option Value} {base : Heap}
def gMk (pg : Prog) (pre : Nat) (ns : List Nd) (n : Nd) (i : Nat) : Option T := mk1 pg pre ns (S pg pre ns) n i
theorem sizes_le {M : Nat} : ∀ {ts : List T}, (∀ t ∈ ts, t.size ≤ M) → T.sizes ts ≤ M * ts.length
  | [], _ => Nat.zero_le _
  | t :: ts, h => by
    have h1 := h t List.mem_cons_self
    have h2 := sizes_le (ts := ts) fun u hu => h u (List.mem_cons_of_mem _ hu)
    rw [T.sizes_cons, List.length_cons, Nat.mul_succ]
    omega
theorem ok_made (Y : Hf K mg) (m : Nat) (ih : Me (L2.CX P w) P w K mg base (4 * m + 66) (aR K) "stands" (sp_stands K m)) : Me (L2.CX P w) P w K mg base (4 * m + 69) (aR K) "made" (sp_made K m (fun _ => True) gMk) := by
  refine Y.d_Reader_made.okX sc_Reader_made (fun vs H Q E h => ?_) (fun f cdv A outer s H vs Q E hr h => ?_)
  · obtain ⟨r, i, n, pg, ns, pre, dx, vp, vg, lt, dk, rfl, _⟩ := h; rfl
  have nd := sc_Reader_made.nd
  refine ⟨_, ((pss_cons (ps_asg (pe_slice sl_d (pe_ix ix_d (pe_fld (pv 0) rfl) (pv 1) fun _ _ => rfl) po_none (po_some pe_int)) (pg_tup rfl (pgs_cons (pg_name (i := 2) nd rfl (by first | exact .inl rfl | exact .inr rfl)) (pgs_cons (pg_name (i := 3) nd rfl (by first | exact .inl rfl | exact .inr rfl)) (pgs_cons (pg_name (i := 4) nd rfl (by first | exact .inl rfl | exact .inr rfl)) pgs_nil)))))
    (pss_cons (ps_if (pt_val (kme (ok_is_function_node Y) hr (pv 0) (pa_cons (pv 1) pa_nil) (hk := by omega)))
        (pss_one (ps_ret (pe_tupD (pa_cons (kme (ok_name Y) hr (pv 0) (pa_cons (pv 1) pa_nil) (hk := by omega)) (pa_cons (k_tup Y.z_tuple (pe_lc (own := [("unknown", 5)]) (g := (gName 5)) (tt := tYes) (te := (tTupD K (tCons (tVar 5) (tCons (tTupD K tNil) tNil)))) rfl nd (pi_tup (kme (ok_parameters Y) hr (pv 0) (pa_cons (pv 1) pa_nil) (hk := by omega))) (blkOk_by (own := [("unknown", 5)]) (N := ["self", "number", "kind", "term", "children", "unknown", "child"]) (sc := defScope Tx.s_Reader_made) (by decide +kernel)) (fun _ _ _ _ _ => (pg_name (i := 5) nd rfl (by first | exact .inl rfl | exact .inr rfl))) (fun _ _ _ _ _ => pts_nil) (fun _ _ _ _ _ => (pe_tupD (pa_cons (pv 5) (pa_cons (pe_tupD pa_nil) pa_nil)))))) pa_nil))))) pss_nil)
    (pss_cons (ps_if (pt_cmpR (op_eqD (n := 1) hr) (pv 2) pe_str rfl)
        (pss_one (ps_ret (kmeX (E := E) (ok_bounded Y) hr (passes_call (takes_of rfl rfl rfl rfl) fun _ _ _ _ h => h) (pv 0) (pa_cons (pe_tupD (pa_cons (pe_ix ix_d (pv 3) pe_int fun _ _ => rfl) (pa_cons (k_tup Y.z_tuple (pe_lcX (E := E) (own := [("child", 6)]) (g := (gName 6)) (tt := tYes) (te := (tMeth (aR K) "stands" (sp_stands K m) [] E (tVar 0) (tCons (tVar 6) tNil))) rfl rfl rfl rfl rfl nd (pi_tup (pv 4)) (blkOk_by (own := [("child", 6)]) (N := ["self", "number", "kind", "term", "children", "unknown", "child"]) (sc := defScope Tx.s_Reader_made) (by decide +kernel)) (fun _ _ _ _ _ => (pg_name (i := 6) nd rfl (by first | exact .inl rfl | exact .inr rfl))) (fun _ _ _ _ _ => pts_nil) (fun _ _ _ _ _ _ hp => (kmeX (E := E) ih hr hp (pv 0) (pa_cons (pv 6) pa_nil) (hk := by omega))))) pa_nil))) pa_nil) (hk := by omega)))) pss_nil)
    (pss_cons (ps_if (pt_cmpR (op_eqD (n := 1) hr) (pv 2) pe_str rfl)
        (pss_one (ps_ret (kmeX (E := E) ih hr (passes_call (takes_of rfl rfl rfl rfl) fun _ _ _ _ h => h) (pv 0) (pa_cons (pe_ix ix_d (pv 4) pe_int fun _ _ => rfl) pa_nil) (hk := by omega)))) pss_nil)
    (pss_cons (ps_if (pt_cmpR (op_eqD (n := 1) hr) (pv 2) pe_str rfl)
        (pss_one (ps_ret (kmeX (E := E) (ok_made_split Y m ih) hr (passes_call (takes_of rfl rfl rfl rfl) fun _ _ _ _ h => h) (pv 0) (pa_cons (pv 1) pa_nil) (hk := by omega)))) pss_nil)
    (pss_cons (ps_if (pt_cmpR (op_eqD (n := 1) hr) (pv 2) pe_str rfl)
        (pss_one (ps_ret (kmeX (E := E) (ok_made_folded Y m ih) hr (passes_call (takes_of rfl rfl rfl rfl) fun _ _ _ _ h => h) (pv 0) (pa_cons (pv 1) pa_nil) (hk := by omega)))) pss_nil)
    (pss_one (ps_ret (pv 3)))))))))), ?_⟩
  obtain ⟨r, i, n, pg, ns, pre, dx, vp, vg, lt, dk, rfl, R, hkn, W, Wp, hp, en, _, hm, q1, q2⟩ := h
  have hmem := List.mem_of_getElem? en
  have hil := (List.getElem?_eq_some_iff.mp en).1
  have hnl := W.len
  have hz := W.sz n hmem
  have hk := kinds_fine _ (W.kd n hmem)
  have hcs : ∀ c ∈ n.ch, i < c ∧ c < ns.length := fun c hc => W.ch i n c en hc
  refine R.row0 Y rfl rfl en fun w0 hw0 => ⟨3, rfl, _, hw0, fun w1 H1 f1 hw1 => ?_⟩
  rw [show cut [.str n.kind, enc n.term, natsD n.ch, optD n.tg, intsD n.us] none (some 3) = [.str n.kind, enc n.term, natsD n.ch] from cut_to _ 3] at hw1
  obtain ⟨a1, y1, y2, y3, rfl, t1, g1, g2, g3⟩ := hw1.three
  obtain rfl := g1.strE
  have R1 := R.kn f1
  have k1 := hkn.kn f1
  refine ⟨a1, _, rfl, t1.sq, rfl, _, _, rfl, _, _, rfl, _, _, rfl, rfl, ?_⟩
  refine ⟨_, rfl, r, dx, _, rfl, R1.hs, rfl, _, rfl, r, i, pg, ns, pre, dx, vp, vg, lt, dk, rfl, R1, W, hil, _, rfl, ?_⟩
  unfold gMk mk1 at q1 q2
  cases hF : isFn ns i with
  | true =>
    rw [if_pos hF] at q1
    refine iteT ⟨_, rfl, r, dx, _, rfl, R1.hs, rfl, _, rfl, r, i, pg, ns, pre, dx, vp, vg, lt, dk, rfl, R1, hp.lt, by omega, ?_⟩
    refine ⟨_, rfl, r, dx, _, rfl, R1.hs, rfl, _, rfl, r, i, pg, ns, pre, dx, vp, vg, lt, dk, n, rfl, R1, W, Wp, en, hF, fun w6 H6 f6 hw6 => ?_⟩
    obtain ⟨a7, xs7, rfl, t7, i7⟩ := (show Is K H6 w6 (.tuple ((pars pg n).map PyData.int)) from hw6).tupE
    have hpl := pars_len (pg := pg) n
    refine ⟨a7, rfl, ⟨_, t7.sq⟩, fun D hD => lcD (K := K) (l := pars pg n) (en := PyData.int) (f := fun u => some (enc (vr u))) (dwT (S := No) t7 i7) hD (by omega) (fun u x H7 yes no hu f7 hx yesH noH => ?_) fun H7 ys f7 hD7 hys => ?_⟩
    · obtain rfl := hx.intE
      exact ⟨rfl, yesT ⟨_, rfl, [], .nil, Nat.zero_le _, fun w2 H2 f2 hw2 => ⟨_, .cons (.int _) (.cons hw2 .nil), by show 2 ≤ 16000000; decide, fun w3 H3 f3 hw3 => yesH w3 H3 _ (f2.trans f3) hw3 rfl⟩⟩⟩
    · rw [fm_some, map_two vr enc] at hys
      refine ⟨D, ys, _, rfl, hD7, hys, fun w8 H8 f8 hw8 => ⟨_, .cons (.str _) (.cons hw8 .nil), by show 2 ≤ 16000000; decide, fun w9 H9 f9 hw9 => ?_⟩⟩
      have fz := ((((f1.trans f6).trans f7).trans f8).trans f9)
      exact q1 _ rfl w9 H9 fz.no (hkn.kn fz) (Tm.ofMk hw9)
  | false =>
    rw [hF] at q1 q2
    rw [if_neg Bool.false_ne_true] at q1 q2
    refine iteF ⟨_, rfl, .str n.kind, .str "exposed", .str _, .str _, hk, by decide +kernel, Nat.zero_le _, _, rfl, ?_⟩
    show if (n.kind == ("exposed" : Str)) = true then _ else _
    cases c1 : (n.kind == ("exposed" : Str)) with
    | true =>
      rw [if_pos (eq_of_beq c1)] at q1 q2
      refine iteT ⟨_, rfl, r, dx, _, rfl, R1.hs, rfl, _, rfl, _, 0, _, rfl, Tm.is g2, rfl, fun z0 hz0 => ?_⟩
      obtain rfl := is_hd_inv hz0
      obtain ⟨a3, xs3, rfl, t3, i3⟩ := (show Is K H1 y3 (.tuple (n.ch.map fun (k : Nat) => .int (k : Int))) from g3).tupE
      refine ⟨_, rfl, a3, rfl, ⟨_, t3.sq⟩, fun D hD => ?_⟩
      have nrd : r ≠ D := fun z => by have h := R1.hs; rw [z, hD] at h; exact nomatch h
      have ndk : dk ≠ D := fun z => by obtain ⟨_, _, h, _⟩ := k1; rw [z, hD] at h; exact nomatch h
      have nld : lt ≠ D := fun z => by have h := R1.ht; rw [z, hD] at h; exact nomatch h
      have fz : ∀ {H7 : Hp}, Fr (fun b => b = D ∨ b = dk) H1 H7 → Fr (At dk) H H7 := fun {H7} f7 => by
        refine f1.no.trans (f7.less fun b hb hn => ?_)
        rcases hb with e | e
        · rw [e]; exact hD
        · exact absurd e hn
      refine lc_it (dwT (S := fun b => b = D ∨ b = dk) t3 i3) (fun j H' => Fr (fun b => b = D ∨ b = dk) H1 H' ∧ ∃ (ys : List V) (ts : List T), H' D = some (.lst ys) ∧ IsAll K H' ys (ts.map enc) ∧ allS (S pg pre ns) (n.ch.take j) = some ts ∧ Know K H' (S pg pre ns) dk)
        ⟨Fr.new0 hD, [], [], upd_same, .nil, rfl, k1.kn (Fr.new0 hD)⟩ (fun j H' _ z => z.1) (fun j x H5 H6 hlt z yy => ?_) fun H5 z => ?_
      · obtain ⟨f5, ys, ts, hD5, hys, hts, k5⟩ := z
        obtain ⟨f6, d, hd, hx⟩ := yy
        rw [List.getElem?_map] at hd
        cases ec : n.ch[j]? with
        | none => rw [ec] at hd; cases hd
        | some c =>
        rw [ec] at hd
        cases hd
        obtain rfl := hx.intE
        have hcc := hcs c (List.mem_of_getElem? ec)
        have R6 := R1.frS (f5.trans f6.no) (fun z => z.elim nrd R.n1) (fun z => z.elim nld R.n2)
        refine ⟨rfl, yesT ⟨_, rfl, r, dx, _, rfl, R6.hs, rfl, _, rfl, r, c, pg, ns, pre, dx, vp, vg, lt, dk, rfl, R6, k5.kn f6, W, Wp, hp, hcc.2, by omega, fun t7 ht7 v7 H7 f7 k7 hv7 => ?_, fun hn H7 f7 => ?_⟩⟩
        · have f7' : Fr (fun b => b = D ∨ b = dk) H6 H7 := f7.mono fun b z => .inr z
          have hD7 := f7.k D _ (fun z => ndk z.symm) (f6.kn hD5)
          have hcl := W.cl n hmem
          refine ⟨ys, hD7, lt_line (by rw [hys.len, List.length_map, (allS_some hts).1]; have := List.length_take_le' j n.ch; omega), ?_⟩
          have g8 : Fr (fun b => b = D ∨ b = dk) H7 (upd H7 D (.lst (ys ++ [v7]))) := Fr.refl.mut (.inl rfl) hD7 fun z => z
          refine ⟨((f5.trans f6.no).trans f7').trans g8, _, ts ++ [t7], upd_same, ?_, allS_snoc hts ec ht7, k7.fr (Fr.refl.mut (S := At D) rfl hD7 fun z => z) ndk⟩
          rw [List.map_append]
          exact (((hys.fr f6).fr f7').fr g8).append (.cons (Is.fr g8 hv7) .nil)
        · refine q2 ?_ H7 (fz ((f5.trans f6.no).trans (f7.mono fun b z => .inr z)))
          rw [allS_none (List.mem_of_getElem? ec) hn]; rfl
      · obtain ⟨f5, ys, ts, hD5, hys, hts, k5⟩ := z
        rw [List.length_map, List.take_length] at hts
        rw [hts] at q1 q2
        have q1 : ∀ t', bnd ((T.lf n.term.hd).aps ts) = some t' → ∀ v H', Fr (At dk) H H' → Know K H' (S pg pre ns) dk → Tm K H' v t' → Q v H' := q1
        have q2 : bnd ((T.lf n.term.hd).aps ts) = none → ∀ H', Fr (At dk) H H' → E (.ref (aTL K)) none H' := q2
        refine ⟨D, ys, _, rfl, hD5, hys, fun w8 H8 f8 hw8 => ⟨_, .cons is_hd (.cons hw8 .nil), by show 2 ≤ 16000000; decide, fun w9 H9 f9 hw9 => ?_⟩⟩
        have hsz : ((T.lf n.term.hd).aps ts).size ≤ 1000000 := by
          rw [T.size_mk]
          have h1 := sizes_le (allS_le W hts)
          have h2 := (allS_some hts).1
          have hcl := W.cl n hmem
          omega
        refine ⟨r, w9, _, rfl, Tm.ofMk hw9, hsz, fun hz H10 f10 => ?_, fun hz H10 f10 => ?_⟩
        · exact q1 _ (bnd_le hz) w9 H10 (fz (f5.trans ((f8.trans f9).trans f10).no)) (k5.kn ((f8.trans f9).trans f10)) (Is.fr f10 (Tm.ofMk hw9))
        · exact q2 (bnd_gt hz) H10 (fz (f5.trans ((f8.trans f9).trans f10).no))
    | false =>
    have n1 : ¬ n.kind = ("exposed" : Str) := fun z => by rw [z, beq_self_eq_true] at c1; cases c1
    rw [if_neg n1] at q1 q2
    refine iteF ⟨_, rfl, .str n.kind, .str "stepped", .str _, .str _, hk, by decide +kernel, Nat.zero_le _, _, rfl, ?_⟩
    show if (n.kind == ("stepped" : Str)) = true then _ else _
    cases c2 : (n.kind == ("stepped" : Str)) with
    | true =>
      rw [if_pos (eq_of_beq c2)] at q1 q2
      have hne := W.ch_ne en (.inl (eq_of_beq c2))
      cases hc : n.ch with
      | nil => exact absurd hc hne
      | cons c cs =>
      rw [hc] at q1 q2 g3
      have hcc := hcs c (by rw [hc]; exact List.mem_cons_self)
      refine iteT ⟨_, rfl, r, dx, _, rfl, R1.hs, rfl, _, rfl, _, 0, .int (c : Int), rfl, g3, atI_zero _ _, fun z0 hz0 => ?_⟩
      obtain rfl := hz0.intE
      exact ⟨r, c, pg, ns, pre, dx, vp, vg, lt, dk, rfl, R1, k1, W, Wp, hp, hcc.2, by omega, fun t e v H' f k hv => q1 t e v H' (f1.no.trans f) k hv, fun e H' f => q2 e H' (f1.no.trans f)⟩
    | false =>
    have n2 : ¬ n.kind = ("stepped" : Str) := fun z => by rw [z, beq_self_eq_true] at c2; cases c2
    rw [if_neg n2] at q1 q2
    refine iteF ⟨_, rfl, .str n.kind, .str "split", .str _, .str _, hk, by decide +kernel, Nat.zero_le _, _, rfl, ?_⟩
    show if (n.kind == ("split" : Str)) = true then _ else _
    cases c3 : (n.kind == ("split" : Str)) with
    | true =>
      rw [if_pos (eq_of_beq c3)] at q1 q2
      exact iteT ⟨_, rfl, r, dx, _, rfl, R1.hs, rfl, _, rfl, r, i, n, pg, ns, pre, dx, vp, vg, lt, dk, rfl, R1, k1, W, Wp, hp, en, eq_of_beq c3, hm, fun t e v H' f k hv => q1 t e v H' (f1.no.trans f) k hv, fun e H' f => q2 e H' (f1.no.trans f)⟩
    | false =>
    have n3 : ¬ n.kind = ("split" : Str) := fun z => by rw [z, beq_self_eq_true] at c3; cases c3
    rw [if_neg n3] at q1 q2
    refine iteF ⟨_, rfl, .str n.kind, .str "folded", .str _, .str _, hk, by decide +kernel, Nat.zero_le _, _, rfl, ?_⟩
    show if (n.kind == ("folded" : Str)) = true then _ else _
    cases c4 : (n.kind == ("folded" : Str)) with
    | true =>
      rw [if_pos (eq_of_beq c4)] at q1 q2
      exact iteT ⟨_, rfl, r, dx, _, rfl, R1.hs, rfl, _, rfl, r, i, n, pg, ns, pre, dx, vp, vg, lt, dk, rfl, R1, k1, W, Wp, hp, en, eq_of_beq c4, hm, fun t e v H' f k hv => q1 t e v H' (f1.no.trans f) k hv, fun e H' f => q2 e H' (f1.no.trans f)⟩
    | false =>
    have n4 : ¬ n.kind = ("folded" : Str) := fun z => by rw [z, beq_self_eq_true] at c4; cases c4
    rw [if_neg n4] at q1 q2
    exact iteF (nextE ⟨_, rfl, q1 _ rfl _ H1 f1.no k1 g2⟩)
theorem ok_stands (Y : Hf K mg) : ∀ m : Nat, Me (L2.CX P w) P w K mg base (4 * m + 66) (aR K) "stands" (sp_stands K m)
  | 0 => Y.d_Reader_stands.zero fun vs H Q E h => by
    obtain ⟨r, i, pg, ns, pre, dx, vp, vg, lt, dk, rfl, R, hkn, W, Wp, hp, hi, hm, _⟩ := h
    omega
  | m + 1 => by
    have ih := ok_stands Y m
    rw [show 4 * (m + 1) + 66 = (4 * m + 69) + 1 by omega]
    refine Y.d_Reader_stands.okX sc_Reader_stands (fun vs H Q E h => ?_) (fun f cdv A outer s H vs Q E hr h => ?_)
    · obtain ⟨r, i, pg, ns, pre, dx, vp, vg, lt, dk, rfl, _⟩ := h; rfl
    have nd := sc_Reader_stands.nd
    refine ⟨_, ((pss_cons (ps_if (pt_cmp (pc_dnotin (hu1 hr) (pv 1) (pe_fld (pv 0) rfl)))
        (pss_one (ps_dput (hu1 hr) (pe_fld (pv 0) rfl) (pv 1) (kmeX (E := E) (ok_made Y m ih) hr (passes_call (takes_of rfl rfl rfl rfl) fun _ _ _ _ h => h) (pv 0) (pa_cons (pv 1) pa_nil) (hk := by omega)) rfl)) pss_nil)
    (pss_one (ps_ret (pe_dget (hu1 hr) (pe_fld (pv 0) rfl) (pv 1) fun _ _ => rfl))))), ?_⟩
    obtain ⟨r, i, pg, ns, pre, dx, vp, vg, lt, dk, rfl, R, hkn, W, Wp, hp, hi, hm, q1, q2⟩ := h
    obtain ⟨kvs, θ, hd, hT, hKy, hl⟩ := id hkn
    have hnl := W.len
    have hkl : kvs.length < sizeLine := lt_line (by rw [hT.len]; have := hKy.len; omega)
    refine ⟨_, rfl, _, rfl, r, _, dx, _, _, rfl, R.hs, Y.c_Reader, Y.n_Reader_known, rfl, dk, _, rfl, DGet.k (k := .inl i) hd, _, rfl, ?_⟩
    rcases hT.get (i := (i : Int)) with ⟨l1, l2⟩ | ⟨u', y, l1, l2, hy'⟩
    · rw [l2]
      obtain ⟨n, en⟩ : ∃ n, ns[i]? = some n := ⟨_, List.getElem?_eq_getElem hi⟩
      rw [S_eq W en] at q1 q2
      refine iteT ⟨_, rfl, r, dx, _, rfl, R.hs, rfl, _, rfl, r, i, n, pg, ns, pre, dx, vp, vg, lt, dk, rfl, R, hkn, W, Wp, hp, en, True.intro, by omega, fun t e v2 H2 f2 k2 hv2 => ?_, fun e H2 f2 => q2 e H2 f2⟩
      have R2 := R.fr f2
      obtain ⟨kvs2, θ2, hd2, hT2, hKy2, hl2⟩ := k2
      have hkl2 : kvs2.length < sizeLine := lt_line (by rw [hT2.len]; have := hKy2.len; omega)
      refine ⟨_, rfl, r, _, dx, _, _, rfl, R2.hs, Y.c_Reader, Y.n_Reader_known, rfl, _, rfl, dk, _, rfl, DPut.k (k := .inl i) hd2 hkl2, ?_⟩
      have g3 : Fr (At dk) H2 (upd H2 dk (.dK (putK kvs2 (.inl i) v2))) := Fr.refl.mut rfl hd2 fun z => z
      have hT3 := (hT2.fr g3).put (i := (i : Int)) (hv2.fr g3)
      have R3 := R2.fr g3
      have k3 : Know K (upd H2 dk (.dK (putK kvs2 (.inl i) v2))) (S pg pre ns) dk := ⟨_, _, upd_same, hT3, hKy2.put t (by omega), fun j u ej => by
        rw [look_set1] at ej
        split at ej
        · rename_i c
          cases ej
          exact ⟨i, c, by rw [S_eq W en]; exact e⟩
        · exact hl2 j u ej⟩
      refine ⟨_, rfl, r, _, dx, _, _, rfl, R3.hs, Y.c_Reader, Y.n_Reader_known, rfl, _, rfl, dk, v2, rfl, ?_, q1 t e v2 _ (f2.trans g3) k3 (hv2.fr g3)⟩
      have hg := DGet.k (k := .inl (i : Int)) (show (upd H2 dk (.dK (putK kvs2 (.inl i) v2))) dk = some (.dK (putK kvs2 (.inl i) v2)) from upd_same)
      rcases hT3.get (i := (i : Int)) with ⟨m1, m2⟩ | ⟨u3, y3, m1, m2, hy3⟩
      · rw [look_set1, if_pos rfl] at m1; cases m1
      · have : valV (putK kvs2 (.inl (i : Int)) v2) (.inl i) = some v2 := by rw [valV_put, if_pos rfl]
        rw [this] at hg
        exact hg
    · rw [l2]
      refine iteF (nextE ⟨_, rfl, r, _, dx, _, _, rfl, R.hs, Y.c_Reader, Y.n_Reader_known, rfl, _, rfl, dk, y, rfl, by rw [← l2]; exact DGet.k (k := .inl i) hd, ?_⟩)
      obtain ⟨j, e1, e2⟩ := hl _ _ l1
      have : j = i := by omega
      subst this
      exact q1 u' e2 y H .refl hkn hy'
end
end DF

namespace DF
open PySem PySem.Spec PyProof.Rows L2 RZ
/-! ### the function of a node -/
def enI (n : Nat) : List Int → List (Nat × Int)
  | [] => []
  | u :: us => (n, u) :: enI (n + 1) us
theorem enI_len : ∀ (us : List Int) (n : Nat), (enI n us).length = us.length
  | [], _ => rfl
  | u :: us, n => by show (enI (n + 1) us).length + 1 = us.length + 1; rw [enI_len us]
theorem enI_data : ∀ (us : List Int) (n : Nat), enD n (us.map PyData.int) = (enI n us).map fun p => .tuple [.int (p.1 : Nat), .int p.2]
  | [], _ => rfl
  | u :: us, n => by
    show _ :: enD (n + 1) (us.map PyData.int) = _ :: (enI (n + 1) us).map _
    rw [enI_data us]
theorem enI_snoc : ∀ (us : List Int) (n : Nat) (u : Int), enI n (us ++ [u]) = enI n us ++ [(n + us.length, u)]
  | [], _, _ => rfl
  | a :: us, n, u => by
    show (n, a) :: enI (n + 1) (us ++ [u]) = (n, a) :: (enI (n + 1) us ++ _)
    rw [enI_snoc us, List.length_cons]
    congr 4
    omega
/-- numbered parts -/
def numP (n : Nat) (us : List Int) : List (Int × T) := (enI n us).map fun p => (p.2, vr (p.1 : Nat))
theorem numP_snoc (us : List Int) (n : Nat) (u : Int) : numP n (us ++ [u]) = numP n us ++ [(u, vr ((n + us.length : Nat) : Int))] := by
  unfold numP
  rw [enI_snoc, List.map_append]; rfl
theorem numP_one {n : Nat} {us : List Int} : ∀ p ∈ numP n us, p.2.size = 1 := fun p hp => by
  obtain ⟨q, _, rfl⟩ := List.mem_map.mp hp
  rfl
def frsP (a : Int) (c : Nat) : List (Int × T) := (List.range c).map fun (j : Nat) => (a + j, vr j)
theorem frsP_one {a : Int} {c : Nat} : ∀ p ∈ frsP a c, p.2.size = 1 := fun p hp => by
  obtain ⟨q, _, rfl⟩ := List.mem_map.mp hp
  rfl
def rlP (a : Int) (ps : List Int) (r : Rule) : List (Int × T) := frsP a r.cnt ++ numP r.cnt (ps.drop 1)
theorem rlP_one {a : Int} {ps : List Int} {r : Rule} : ∀ p ∈ rlP a ps r, p.2.size = 1 := fun p hp => by
  rcases List.mem_append.mp hp with h | h
  · exact frsP_one p h
  · exact numP_one p h
def mkR (a : Int) (ps : List Int) (r : Rule) (t : T) : Rule := ⟨r.con, r.cnt, put t (rlP a ps r)⟩
def rulesN (pg : Prog) (n : Nd) : List Rule := match dem pg n.term with
  | .nds _ f => rulesOf pg f
  | _ => []
/-- the function of a node -/
def gFun (pg : Prog) (pre : Nat) (ns : List Nd) (n : Nd) (i : Nat) : Option Fn :=
  if n.kind = ("stepped" : Str) then (S pg pre ns (n.ch.headD 0)).map fun t => Fn.plain (rnm pre i) (pars pg n).length (put t (numP 0 (pars pg n)))
  else (allS (S pg pre ns) n.ch).map fun ts => Fn.cases (rnm pre i) (pars pg n).length (((rulesN pg n).zip ts).map fun p => mkR (nextU n.term) (pars pg n) p.1 p.2)
section
variable {P : Program} {w : World} {K : PySem.W.Frag} {mg : Str → Option Value} {base : Heap}
def rFun (K : PySem.W.Frag) (dk : Addr) (H : Hp) (Q : VK) (E : XK) (g : Nat → Option T) (o : Option Fn) : Prop :=
  (∀ fn, o = some fn → ∀ v H', Fr (At dk) H H' → Know K H' g dk → Is K H' v (encF fn) → Q v H') ∧ (o = none → ∀ H', Fr (At dk) H H' → E (.ref (aTL K)) none H')
def sp_function (K : PySem.W.Frag) : Sp := fun vs H Q E => ∃ r i n pg ns pre dx vp vg lt dk, vs = [.ref r, .int (i : Nat)] ∧ RdR K H r pg ns pre dx vp vg lt dk ∧ Know K H (S pg pre ns) dk ∧ WfN pg ns ∧ Wf pg ∧ Pfx pg pre ∧ ns[i]? = some n ∧ isFn ns i = true ∧ rFun K dk H Q E (S pg pre ns) (gFun pg pre ns n i)
theorem sc_Reader_function : FnScope ["self", "number", "kind", "term", "children", "parameters", "parts", "at", "unknown", "wanted", "first", "rules", "child", "rule"] ["self", "number"] (defScope Tx.s_Reader_function) := C8.fnScope_by (by decide +kernel)
theorem ok_function (Y : Hf K mg) : Me (L2.CX P w) P w K mg base 227 (aR K) "function" (sp_function K) := by
  refine Y.d_Reader_function.okX sc_Reader_function (fun vs H Q E h => ?_) (fun f cdv A outer s H vs Q E hr h => ?_)
  · obtain ⟨r, i, n, pg, ns, pre, dx, vp, vg, lt, dk, rfl, _⟩ := h; rfl
  have nd := sc_Reader_function.nd
  refine ⟨_, ((pss_cons (ps_asg (pe_slice sl_d (pe_ix ix_d (pe_fld (pv 0) rfl) (pv 1) fun _ _ => rfl) po_none (po_some pe_int)) (pg_tup rfl (pgs_cons (pg_name (i := 2) nd rfl (by first | exact .inl rfl | exact .inr rfl)) (pgs_cons (pg_name (i := 3) nd rfl (by first | exact .inl rfl | exact .inr rfl)) (pgs_cons (pg_name (i := 4) nd rfl (by first | exact .inl rfl | exact .inr rfl)) pgs_nil)))))
    (pss_cons (ps_set (i := 5) nd rfl (by first | exact .inl rfl | exact .inr rfl) (kme (ok_parameters Y) hr (pv 0) (pa_cons (pv 1) pa_nil) (hk := by omega)))
    (pss_cons (ps_if (pt_cmpR (op_eqD (n := 1) hr) (pv 2) pe_str rfl)
        (pss_cons (ps_set (i := 6) nd rfl (by first | exact .inl rfl | exact .inr rfl) (k_tupF Y.z_tuple (pe_lc (own := [("at", 7), ("unknown", 8)]) (g := (gTup K 2 (gCons (gName 7) (gCons (gName 8) gNil)))) (tt := tYes) (te := (tTupD K (tCons (tVar 8) (tCons (tTupD K (tCons (tVar 7) (tCons (tTupD K tNil) tNil))) tNil)))) rfl nd (pi_enumT rfl Y.z_enumerate (pa_cons (pv 5) pa_nil)) (blkOk_by (own := [("at", 7), ("unknown", 8)]) (N := ["self", "number", "kind", "term", "children", "parameters", "parts", "at", "unknown", "wanted", "first", "rules", "child", "rule"]) (sc := defScope Tx.s_Reader_function) (by decide +kernel)) (fun _ _ _ _ _ => (pg_tup rfl (pgs_cons (pg_name (i := 7) nd rfl (by first | exact .inl rfl | exact .inr rfl)) (pgs_cons (pg_name (i := 8) nd rfl (by first | exact .inl rfl | exact .inr rfl)) pgs_nil)))) (fun _ _ _ _ _ => pts_nil) (fun _ _ _ _ _ => (pe_tupD (pa_cons (pv 8) (pa_cons (pe_tupD (pa_cons (pv 7) (pa_cons (pe_tupD pa_nil) pa_nil))) pa_nil)))))))
        (pss_one (ps_ret (pe_tupD (pa_cons pe_str (pa_cons (kme (ok_name Y) hr (pv 0) (pa_cons (pv 1) pa_nil) (hk := by omega)) (pa_cons (k_lenT Y.z_len (pv 5)) (pa_cons (kc (ok_putS Y 120 (Nat.le_refl _)) hr (pa_cons (kmeX (E := E) (ok_stands Y 40) hr (passes_call (takes_of rfl rfl rfl rfl) fun _ _ _ _ h => h) (pv 0) (pa_cons (pe_ix ix_d (pv 4) pe_int fun _ _ => rfl) pa_nil) (hk := by omega)) (pa_cons (pv 6) pa_nil)) (hk := by omega)) pa_nil)))))))) pss_nil)
    (pss_cons (ps_set (i := 9) nd rfl (by first | exact .inl rfl | exact .inr rfl) (kc (ok_demand Y) hr (pa_cons (pe_fld (pv 0) rfl) (pa_cons (pv 3) pa_nil)) (hk := by omega)))
    (pss_cons (ps_set (i := 10) nd rfl (by first | exact .inl rfl | exact .inr rfl) (kc (ok_next_unknown Y) hr (pa_cons (pv 3) pa_nil) (hk := by omega)))
    (pss_cons (ps_set (i := 11) nd rfl (by first | exact .inl rfl | exact .inr rfl) (pe_lst pa_nil))
    (pss_cons (ps_for (passes_of rfl) rfl (pi_zipA rfl Y.z_zip (pa_cons (pv 4) (pa_cons (pe_ix ix_d (kc (ok_function_of Y) hr (pa_cons (pe_fld (pv 0) rfl) (pa_cons (pe_ix ix_d (pv 9) pe_int fun _ _ => rfl) pa_nil)) (hk := by omega)) pe_int fun _ _ => rfl) pa_nil))) (pg_tup rfl (pgs_cons (pg_name (i := 12) nd rfl (by first | exact .inl rfl | exact .inr rfl)) (pgs_cons (pg_name (i := 13) nd rfl (by first | exact .inl rfl | exact .inr rfl)) pgs_nil)))
        (pss_cons (ps_setLc (i := 6) (own := [("at", 7)]) (g := (gName 7)) (tt := tYes) (te := (tTupD K (tCons (tAdd (tVar 10) (tVar 7)) (tCons (tTupD K (tCons (tVar 7) (tCons (tTupD K tNil) tNil))) tNil)))) rfl nd rfl rfl (sw_true rfl rfl rfl (by decide +kernel)) (pi_range1 rfl Y.z_range (pa_cons (pe_ix ix_d (pv 13) pe_int fun _ _ => rfl) pa_nil)) (blkOk_by (own := [("at", 7)]) (N := ["self", "number", "kind", "term", "children", "parameters", "parts", "at", "unknown", "wanted", "first", "rules", "child", "rule"]) (sc := defScope Tx.s_Reader_function) (by decide +kernel)) (fun _ _ _ _ _ => (pg_name (i := 7) nd rfl (by first | exact .inl rfl | exact .inr rfl))) (fun _ _ _ _ _ => pts_nil) (fun _ _ _ _ _ => (pe_tupD (pa_cons (pe_add (pv 10) (pv 7)) (pa_cons (pe_tupD (pa_cons (pv 7) (pa_cons (pe_tupD pa_nil) pa_nil))) pa_nil)))))
        (pss_cons (ps_for (passes_of rfl) rfl (pi_enumT rfl Y.z_enumerate (pa_cons (pe_slice sl_d (pv 5) (po_some pe_int) po_none) pa_nil)) (pg_tup rfl (pgs_cons (pg_name (i := 7) nd rfl (by first | exact .inl rfl | exact .inr rfl)) (pgs_cons (pg_name (i := 8) nd rfl (by first | exact .inl rfl | exact .inr rfl)) pgs_nil)))
            (pss_one (ps_expr (pe_bm PySem.F.plainAttrs_list PySem.F.slot_list_append PySem.F.type_list_append mt_append (pv 6) (pa_cons (pe_tupD (pa_cons (pv 8) (pa_cons (pe_tupD (pa_cons (pe_add (pe_ix ix_d (pv 13) pe_int fun _ _ => rfl) (pv 7)) (pa_cons (pe_tupD pa_nil) pa_nil))) pa_nil))) pa_nil)))))
        (pss_one (ps_expr (pe_bm PySem.F.plainAttrs_list PySem.F.slot_list_append PySem.F.type_list_append mt_append (pv 11) (pa_cons (pe_tupD (pa_cons (pe_ix ix_d (pv 13) pe_int fun _ _ => rfl) (pa_cons (pe_ix ix_d (pv 13) pe_int fun _ _ => rfl) (pa_cons (kc (ok_putS Y 120 (Nat.le_refl _)) hr (pa_cons (kmeX (E := E) (ok_stands Y 40) hr (passes_call (takes_of rfl rfl rfl rfl) fun _ _ _ _ h => h) (pv 0) (pa_cons (pv 12) pa_nil) (hk := by omega)) (pa_cons (k_tupF Y.z_tuple (pv 6)) pa_nil)) (hk := by omega)) pa_nil)))) pa_nil)))))))
    (pss_one (ps_ret (pe_tupD (pa_cons pe_str (pa_cons (kme (ok_name Y) hr (pv 0) (pa_cons (pv 1) pa_nil) (hk := by omega)) (pa_cons (k_lenT Y.z_len (pv 5)) (pa_cons (k_tup Y.z_tuple (pv 11)) pa_nil))))))))))))))), ?_⟩
  obtain ⟨r, i, n, pg, ns, pre, dx, vp, vg, lt, dk, rfl, R, hkn, W, Wp, hp, en, hF, q1, q2⟩ := h
  have hmem := List.mem_of_getElem? en
  have hil := (List.getElem?_eq_some_iff.mp en).1
  have hnl := W.len
  have hz := W.sz n hmem
  have hk := kinds_fine _ (W.kd n hmem)
  have hcs : ∀ c ∈ n.ch, i < c ∧ c < ns.length := fun c hc => W.ch i n c en hc
  have hpl := pars_len (pg := pg) n
  refine R.row0 Y rfl rfl en fun w0 hw0 => ⟨3, rfl, _, hw0, fun w1 H1 f1 hw1 => ?_⟩
  rw [show cut [.str n.kind, enc n.term, natsD n.ch, optD n.tg, intsD n.us] none (some 3) = [.str n.kind, enc n.term, natsD n.ch] from cut_to _ 3] at hw1
  obtain ⟨a1, y1, y2, y3, rfl, t1, g1, g2, g3⟩ := hw1.three
  obtain rfl := g1.strE
  have R1 := R.kn f1
  have k1 := hkn.kn f1
  refine ⟨a1, _, rfl, t1.sq, rfl, _, _, rfl, _, _, rfl, _, _, rfl, rfl, ?_⟩
  refine ⟨_, rfl, r, dx, _, rfl, R1.hs, rfl, _, rfl, r, i, pg, ns, pre, dx, vp, vg, lt, dk, n, rfl, R1, W, Wp, en, hF, fun w2 H2 f2 hw2 => ?_⟩
  have f02 := f1.trans f2
  have R2 := R1.kn f2
  have k2 := k1.kn f2
  have g2 : Tm K H2 y2 n.term := g2.fr f2
  have g3 : Is K H2 y3 (.tuple (n.ch.map fun (k : Nat) => .int (k : Int))) := g3.fr f2
  have hpar : Is K H2 w2 (.tuple ((pars pg n).map PyData.int)) := hw2
  refine ⟨_, rfl, .str n.kind, .str "stepped", .str _, .str _, hk, by decide +kernel, Nat.zero_le _, _, rfl, ?_⟩
  show if (n.kind == ("stepped" : Str)) = true then _ else _
  unfold gFun at q1 q2
  cases c2 : (n.kind == ("stepped" : Str)) with
  | true =>
    rw [if_pos (eq_of_beq c2)] at q1 q2
    have hne := W.ch_ne en (.inl (eq_of_beq c2))
    cases hc : n.ch with
    | nil => exact absurd hc hne
    | cons c cs =>
    rw [hc] at q1 q2 g3
    have q1 : ∀ fn, ((S pg pre ns c).map fun t => Fn.plain (rnm pre i) (pars pg n).length (put t (numP 0 (pars pg n)))) = some fn → ∀ v H', Fr (At dk) H H' → Know K H' (S pg pre ns) dk → Is K H' v (encF fn) → Q v H' := q1
    have q2 : ((S pg pre ns c).map fun t => Fn.plain (rnm pre i) (pars pg n).length (put t (numP 0 (pars pg n)))) = none → ∀ H', Fr (At dk) H H' → E (.ref (aTL K)) none H' := q2
    have hcc := hcs c (by rw [hc]; exact List.mem_cons_self)
    obtain ⟨a3, xs3, rfl, t3, i3⟩ := id hpar.tupE
    refine iteT ⟨_, rfl, a3, xs3, rfl, t3.sq, fun D hD => ?_⟩
    have hdw := dwEt (S := No) t3 i3
    rw [enI_data] at hdw
    refine lcD (K := K) (l := enI 0 (pars pg n)) (f := fun p => some (prD (p.2, vr (p.1 : Nat)))) hdw hD (by rw [enI_len]; omega) (fun p x H7 yes no hu f7 hx yesH noH => ?_) fun H7 ys f7 hD7 hys => ?_
    · obtain ⟨a6, z1, z2, rfl, tr, hz1, hz2⟩ := hx.two
      obtain rfl := hz1.intE
      obtain rfl := hz2.intE
      refine ⟨a6, _, rfl, tr.sq, rfl, _, _, rfl, _, _, rfl, rfl, rfl, yesT ⟨_, rfl, _, rfl, [], .nil, Nat.zero_le _, fun v2 H2 f2 hv2 => ?_⟩⟩
      exact ⟨_, .cons (.int _) (.cons hv2 .nil), by show 2 ≤ 16000000; decide, fun v3 H3 f3 hv3 => ⟨_, .cons (.int _) (.cons hv3 .nil), by show 2 ≤ 16000000; decide, fun v4 H4 f4 hv4 => yesH v4 H4 _ ((f2.trans f3).trans f4) hv4 rfl⟩⟩
    · rw [fm_some, map_two (fun p : Nat × Int => (p.2, vr (p.1 : Nat))) prD] at hys
      refine ⟨D, ys, rfl, SqL.of hD7, fun p8 o8 hp8 ho8 => ?_⟩
      have f8 : Fr No H7 (upd H7 p8 (.frz o8 (.tup ys))) := Fr.new0 hp8
      have f28 := f7.trans f8
      have R8 := R2.kn f28
      have P8 : Prt K (upd H7 p8 (.frz o8 (.tup ys))) (.ref p8) (numP 0 (pars pg n)) := Prt.of hp8 ho8 hys
      refine ⟨_, rfl, r, dx, _, rfl, R8.hs, rfl, _, rfl, r, i, pg, ns, pre, dx, vp, vg, lt, dk, rfl, R8, hp.lt, by omega, ?_⟩
      refine ⟨_, rfl, _, _, rfl, hpar.fr f28, ?_⟩
      refine ⟨_, rfl, r, dx, _, rfl, R8.hs, rfl, _, rfl, _, 0, .int (c : Int), rfl, g3.fr f28, atI_zero _ _, fun z0 hz0 => ?_⟩
      obtain rfl := hz0.intE
      refine ⟨r, c, pg, ns, pre, dx, vp, vg, lt, dk, rfl, R8, k2.kn f28, W, Wp, hp, hcc.2, by omega, fun t e v9 H9 f9 k9 hv9 => ?_, fun e H9 f9 => q2 (by rw [e]; rfl) H9 ((f02.trans f28).no.trans f9)⟩
      refine ⟨_, rfl, v9, t, .ref p8, numP 0 (pars pg n), rfl, hv9, P8.fr f9, S_le W e, by have := S_le W e; omega, fun p hp => by rw [numP_one p hp]; decide, fun w10 H10 f10 hw10 => ?_⟩
      refine ⟨_, .cons (.str _) (.cons (.str _) (.cons (.int _) (.cons hw10 .nil))), by show 4 ≤ 16000000; decide, fun w11 H11 f11 hw11 => ?_⟩
      refine q1 _ (by rw [e]; rfl) w11 H11 (((f02.trans f28).no.trans f9).trans (f10.trans f11).no) (k9.kn (f10.trans f11)) ?_
      rw [List.length_map] at hw11
      exact hw11
  | false =>
    have n2 : ¬ n.kind = ("stepped" : Str) := fun z => by rw [z, beq_self_eq_true] at c2; cases c2
    rw [if_neg n2] at q1 q2
    obtain ⟨ju, g, hd, hcl⟩ := (W.ok n hmem).bran ((isFn_kind en hF).elim id fun z => absurd z n2)
    obtain ⟨hju, y, ar, rs, hfn, _⟩ := dem_nds Wp _ n.term (Nat.le_refl _) ju g hd
    have hrs : rulesOf pg g = rs := by unfold rulesOf; rw [hfn]
    have hrn : rulesN pg n = rs := by unfold rulesN; rw [hd]; exact hrs
    rw [hrs] at hcl
    rw [hrn] at q1 q2
    have hw := Wp.cases y ar rs (fnOf_mem hfn).1
    refine iteF (nextE ⟨_, rfl, r, _, dx, _, vp, rfl, R2.hs, Y.c_Reader, Y.n_Reader_program, rfl, _, rfl, vp, y2, pg, n.term, rfl, R2.hp, g2, Wp, W.kn n hmem, by omega, fun w3 H3 f3 hw3 => ?_⟩)
    rw [hd] at hw3
    refine ⟨_, rfl, y2, n.term, rfl, g2.fr f3, by omega, fun z => ?_, fun H4 f4 => ?_⟩
    · have := mem_unks.mpr hju
      rw [z] at this
      cases this
    refine ⟨Nat.zero_le _, fun l hl => ?_⟩
    have f5 : Fr No H4 (upd H4 l (.lst [])) := Fr.new0 hl
    have f25 := (f3.trans f4).trans f5
    have R5 := R2.kn f25
    refine ⟨_, rfl, _, rfl, r, _, dx, _, vp, rfl, R5.hs, Y.c_Reader, Y.n_Reader_program, rfl, _, rfl, _, 2, _, rfl, hw3.fr (f4.trans f5), rfl, fun z hzz => ?_⟩
    obtain rfl := hzz.strE
    refine ⟨vp, pg, g, rfl, R5.hp, ?_⟩
    rw [hfn]
    intro w6 H6 f6 hw6
    refine ⟨_, 3, _, rfl, hw6, rfl, fun w7 hw7 => ?_⟩
    have hl6 := f6.kn (show (upd H4 l (.lst [])) l = some (.lst []) from upd_same)
    have f26 := f25.trans f6
    have R6 := R2.kn f26
    have k6 := k2.kn f26
    obtain ⟨a, xs, rfl, ta, ia⟩ := (g3.fr f26).tupE
    obtain ⟨b, ys, rfl, tb, ib⟩ := (show Is K H6 w7 (.tuple (rs.map encR)) from hw7).tupE
    have f24 := f3.trans f4
    have nrl : r ≠ l := fun z => by have h := (R2.kn f24).hs; rw [z, hl] at h; exact nomatch h
    have nlk : dk ≠ l := fun z => by obtain ⟨_, _, h, _⟩ := k2.kn f24; rw [z, hl] at h; exact nomatch h
    have nlt : lt ≠ l := fun z => by have h := (R2.kn f24).ht; rw [z, hl] at h; exact nomatch h
    have hpar6 := hpar.fr f26
    have fz : ∀ {H7 : Hp}, Fr (fun b => b = l ∨ b = dk) H6 H7 → Fr (At dk) H H7 := fun {H7} f7 => by
      have fy : Fr (fun b => b = l ∨ b = dk) H4 H7 := (f5.trans f6).no.trans f7
      refine (f02.trans f24).no.trans (fy.less fun b hb hn => ?_)
      rcases hb with e | e
      · rw [e]; exact hl
      · exact absurd e hn
    refine ⟨a, b, xs, ys, rfl, .inr ⟨ta.sq, tb.sq, ?_⟩⟩
    refine for_it (dwZt (S := fun b => b = l ∨ b = dk) ta ia tb ib (by rw [List.length_map, List.length_map, hcl])) (fun j σ H' => ∃ (x6 x7 x8 x12 x13 : Option V) (zs : List V) (ts : List T), σ = [some (.ref r), some (.int (i : Nat)), some (.str n.kind), some y2, some (.ref a), some w2, x6, x7, x8, some w3, some (.int (nextU n.term)), some (.ref l), x12, x13] ∧ Fr (fun b => b = l ∨ b = dk) H6 H' ∧ H' l = some (.lst zs) ∧
        IsAll K H' zs (((rs.zip ts).map fun p => mkR (nextU n.term) (pars pg n) p.1 p.2).map encR) ∧ allS (S pg pre ns) (n.ch.take j) = some ts ∧ Know K H' (S pg pre ns) dk)
      ⟨none, none, none, none, none, [], [], rfl, .refl, hl6, by rw [List.zip_nil_right]; exact .nil, rfl, k6⟩ (fun j σ H' _ z => let ⟨_, _, _, _, _, _, _, _, z, _⟩ := z; z) (fun j x σ H7 H8 hlt z yy => ?_) fun σ H7 z => ?_
    · obtain ⟨x6, x7, x8, x12, x13, zs, ts, rfl, f7, hl7, hzs, hts, k7⟩ := z
      obtain ⟨f8, d, hdd, hx⟩ := yy
      obtain ⟨d1, d2, e1, e2, rfl⟩ := zipD_get hdd
      rw [List.getElem?_map] at e1 e2
      cases ec : n.ch[j]? with
      | none => rw [ec] at e1; cases e1
      | some c =>
      cases er : rs[j]? with
      | none => rw [er] at e2; cases e2
      | some rl =>
      rw [ec] at e1
      rw [er] at e2
      cases e1
      cases e2
      have hcc := hcs c (List.mem_of_getElem? ec)
      have hrl := hw.2.2.2 rl (List.mem_of_getElem? er)
      have hjl := (List.getElem?_eq_some_iff.mp ec).1
      have htl : ts.length = j := by rw [(allS_some hts).1, List.length_take]; omega
      obtain ⟨a8, z1, z2, rfl, tr, hz1, hz2⟩ := hx.two
      obtain rfl := hz1.intE
      have f78 : Fr (fun b => b = l ∨ b = dk) H6 H8 := f7.trans f8.no
      have hl8 := f8.kn hl7
      have k8 := k7.kn f8
      have hrr : Is K H8 z2 (.tuple [.str rl.con.s, .int (rl.cnt : Nat), enc rl.body]) := hz2
      refine ⟨a8, _, rfl, tr.sq, rfl, _, _, rfl, _, _, rfl, rfl, ?_⟩
      refine ⟨_, rfl, _, 1, _, rfl, hrr, rfl, fun z3 hz3 => ?_⟩
      obtain rfl := hz3.intE
      refine ⟨(rl.cnt : Nat), rfl, by omega, by omega, fun D hD => lcD (K := K) (l := List.range rl.cnt) (en := fun (j : Nat) => .int (0 + j)) (f := fun (j : Nat) => some (prD (nextU n.term + j, vr j))) (dwR (S := No)) hD (by rw [List.length_range]; omega) (fun k x H9 yes no _ f9 hx yesH noH => ?_) fun H9 us f9 hD9 hus => ?_⟩
      · obtain rfl := hx.intE
        refine ⟨rfl, yesT ⟨_, rfl, _, rfl, _, _, rfl, rfl, _, rfl, [], .nil, Nat.zero_le _, fun v2 H2 f2 hv2 => ?_⟩⟩
        refine ⟨_, .cons (.int _) (.cons hv2 .nil), by show 2 ≤ 16000000; decide, fun v3 H3 f3 hv3 => ⟨_, .cons (.int _) (.cons hv3 .nil), by show 2 ≤ 16000000; decide, fun v4 H4 f4 hv4 => yesH v4 H4 _ ((f2.trans f3).trans f4) ?_ rfl⟩⟩
        rw [Int.zero_add] at hv4
        exact hv4
      · rw [fm_some, map_two (fun (k : Nat) => (nextU n.term + (k : Int), vr k)) prD] at hus
        have hus : IsAll K H9 us ((frsP (nextU n.term) rl.cnt).map prD) := hus
        have hpar9 := (hpar6.fr f78).fr f9
        refine ⟨_, rfl, 1, rfl, _, hpar9, fun w10 H10 f10 hw10 => ?_⟩
        rw [show cut ((pars pg n).map PyData.int) (some 1) none = ((pars pg n).drop 1).map PyData.int by rw [List.map_drop]; exact cut_from _ 1] at hw10
        obtain ⟨ap, xp, rfl, tp, ip⟩ := hw10.tupE
        have hD10 := f10.kn hD9
        refine ⟨ap, xp, rfl, tp.sq, ?_⟩
        refine for_it (dwEt (S := At D) tp ip) (fun k σ H' => ∃ (x7 x8 : Option V) (vs : List V), σ = [some (.ref r), some (.int (i : Nat)), some (.str n.kind), some y2, some (.ref a), some w2, some (.ref D), x7, x8, some w3, some (.int (nextU n.term)), some (.ref l), some (.int (c : Nat)), some z2] ∧ Fr (At D) H10 H' ∧ H' D = some (.lst vs) ∧ IsAll K H' vs ((frsP (nextU n.term) rl.cnt ++ numP rl.cnt (((pars pg n).drop 1).take k)).map prD))
          ⟨_, _, us, rfl, .refl, hD10, by
            show IsAll K H10 us ((frsP (nextU n.term) rl.cnt ++ []).map prD)
            rw [List.append_nil]; exact hus.fr f10⟩ (fun k σ H' _ z => let ⟨_, _, _, _, z, _⟩ := z; z) (fun k x σ H11 H12 hlt z yy => ?_) fun σ H11 z => ?_
        · obtain ⟨x7, x8, vs, rfl, f11, hD11, hvs⟩ := z
          obtain ⟨f12, d, hdd, hx⟩ := yy
          rw [enD_len, List.length_map] at hlt
          have eu : ((pars pg n).drop 1)[k]? = some (((pars pg n).drop 1)[k]) := List.getElem?_eq_getElem hlt
          generalize ((pars pg n).drop 1)[k] = u at eu
          rw [enD_get _ 0 k (.int u) (by rw [List.getElem?_map, eu]; rfl)] at hdd
          cases hdd
          obtain ⟨a12, y4, y5, rfl, tr12, hy4, hy5⟩ := hx.two
          obtain rfl := hy4.intE
          obtain rfl := hy5.intE
          have hD12 := f12.kn hD11
          refine ⟨a12, _, rfl, tr12.sq, rfl, _, _, rfl, _, _, rfl, rfl, ?_⟩
          refine ⟨_, rfl, .inl ⟨rfl, _, SqL.of hD12⟩, _, rfl, _, rfl, _, 1, _, rfl, ((hrr.fr f9).fr (f10.no.trans f11)).fr f12, rfl, fun z5 hz5 => ?_⟩
          obtain rfl := hz5.intE
          refine ⟨_, rfl, _, _, rfl, rfl, [], .nil, Nat.zero_le _, fun v2 H2 f2 hv2 => ⟨_, .cons (.int _) (.cons hv2 .nil), by show 2 ≤ 16000000; decide, fun v3 H3 f3 hv3 => ⟨_, .cons (.int _) (.cons hv3 .nil), by show 2 ≤ 16000000; decide, fun v4 H4 f4 hv4 => ?_⟩⟩⟩
          have f24' := (f2.trans f3).trans f4
          have hlv : vs.length < 16000000 := by
            rw [hvs.len, List.length_map, List.length_append]
            unfold frsP numP
            rw [List.length_map, List.length_map, List.length_range, enI_len, List.length_take]
            have := hrl.2.1
            have h2 : ((pars pg n).drop 1).length ≤ (pars pg n).length := by rw [List.length_drop]; omega
            have h3 := Nat.min_le_right k ((pars pg n).drop 1).length
            omega
          refine ⟨D, _, _, rfl, rfl, f24'.kn hD12, lt_line hlv, ?_⟩
          have g13 : Fr (At D) H4 (upd H4 D (.lst (vs ++ [v4]))) := Fr.refl.mut rfl (f24'.kn hD12) fun z => z
          refine ⟨_, _, _, rfl, ((f11.trans f12.no).trans f24'.no).trans g13, upd_same, ?_⟩
          rw [take_snoc eu, numP_snoc, ← List.append_assoc, List.map_append]
          refine (((hvs.fr f12).fr f24').fr g13).append (.cons ?_ .nil)
          have hv4 : Is K _ v4 (.tuple [.int u, .tuple [.int ((rl.cnt : Int) + ((0 + k : Nat) : Int)), .tuple []]]) := Is.fr g13 hv4
          have hlk : (((pars pg n).drop 1).take k).length = k := by rw [List.length_take]; omega
          have ei : ((rl.cnt : Int) + ((0 + k : Nat) : Int)) = ((rl.cnt + (((pars pg n).drop 1).take k).length : Nat) : Int) := by rw [hlk]; omega
          rw [ei] at hv4
          exact hv4
        · obtain ⟨x7, x8, vs, rfl, f11, hD11, hvs⟩ := z
          rw [enD_len, List.length_map, List.take_length] at hvs
          have hvs : IsAll K H11 vs ((rlP (nextU n.term) (pars pg n) rl).map prD) := hvs
          have f8_11 : Fr No H8 H11 := by
            have z : Fr (At D) H8 H11 := (f9.trans f10).no.trans f11
            exact z.less fun b hb _ => by rw [show b = D from hb]; exact hD
          have R11 := R6.frS (f78.trans f8_11.no) (fun z => z.elim nrl R.n1) (fun z => z.elim nlt R.n2)
          have hl11 := f8_11.kn hl8
          have hrr11 := hrr.fr f8_11
          refine ⟨_, rfl, .inl ⟨rfl, _, SqL.of hl11⟩, _, rfl, _, 0, _, rfl, hrr11, rfl, fun z3 hz3 => ⟨_, rfl, _, 1, _, rfl, hrr11, rfl, fun z4 hz4 => ?_⟩⟩
          refine ⟨_, rfl, r, dx, _, rfl, R11.hs, rfl, _, rfl, r, c, pg, ns, pre, dx, vp, vg, lt, dk, rfl, R11, k8.kn f8_11, W, Wp, hp, hcc.2, by omega, fun t e v12 H12 f12 k12 hv12 => ?_, fun e H12 f12 => q2 ?_ H12 (fz ((f78.trans f8_11.no).trans (f12.mono fun b z => .inr z)))⟩
          · have nDk : dk ≠ D := fun z => by obtain ⟨_, _, h, _⟩ := k8; rw [z, hD] at h; exact nomatch h
            have nDl : l ≠ D := fun z => by rw [z, hD] at hl8; cases hl8
            have hD12 := f12.k D _ (fun z => nDk z.symm) hD11
            refine ⟨_, rfl, D, _, rfl, SqL.of hD12, fun p13 o13 hp13 ho13 => ?_⟩
            have f13 : Fr No H12 (upd H12 p13 (.frz o13 (.tup vs))) := Fr.new0 hp13
            refine ⟨v12, t, .ref p13, rlP (nextU n.term) (pars pg n) rl, rfl, hv12.fr f13, Prt.of hp13 ho13 (hvs.fr f12), S_le W e, by have := S_le W e; omega, fun p hp => by rw [rlP_one p hp]; decide, fun w14 H14 f14 hw14 => ?_⟩
            have f1214 := f13.trans f14
            refine ⟨_, .cons ((Is.fr f12 hz3).fr f1214) (.cons ((Is.fr f12 hz4).fr f1214) (.cons hw14 .nil)), by show 3 ≤ 16000000; decide, fun w15 H15 f15 hw15 => ?_⟩
            have f1215 := f1214.trans f15
            have hl12 := f12.k l _ (fun z => nlk z.symm) hl11
            refine ⟨l, _, _, rfl, rfl, f1215.kn hl12, lt_line ?_, ?_⟩
            · rw [hzs.len, List.length_map, List.length_map, List.length_zip]
              have := hw.2.2.1
              have := Nat.min_le_left rs.length ts.length
              omega
            · have g16 : Fr (fun b => b = l ∨ b = dk) H15 (upd H15 l (.lst (zs ++ [w15]))) := Fr.refl.mut (.inl rfl) (f1215.kn hl12) fun z => z
              have f12' : Fr (fun b => b = l ∨ b = dk) H11 H12 := f12.mono fun b z => .inr z
              refine ⟨_, _, _, _, _, _, ts ++ [t], rfl, (((f78.trans f8_11.no).trans f12').trans f1215.no).trans g16, upd_same, ?_, allS_snoc hts ec e, (k12.kn f1215).fr (Fr.refl.mut (S := At l) rfl (f1215.kn hl12) fun z => z) nlk⟩
              rw [zip_snoc (by rw [htl]; exact er), List.map_append, List.map_append]
              exact (((((hzs.fr f8).fr f8_11).fr f12').fr f1215).fr g16).append (.cons (Is.fr g16 hw15) .nil)
          · rw [allS_none (List.mem_of_getElem? ec) e]; rfl
    · obtain ⟨x6, x7, x8, x12, x13, zs, ts, rfl, f7, hl7, hzs, hts, k7⟩ := z
      rw [zipD_len (by rw [List.length_map, List.length_map, hcl]), List.length_map, List.take_length] at hts
      have R7 := R6.frS f7 (fun z => z.elim nrl R.n1) (fun z => z.elim nlt R.n2)
      refine ⟨_, rfl, r, dx, _, rfl, R7.hs, rfl, _, rfl, r, i, pg, ns, pre, dx, vp, vg, lt, dk, rfl, R7, hp.lt, by omega, ?_⟩
      refine ⟨_, rfl, _, _, rfl, hpar6.fr f7, ?_⟩
      refine ⟨_, rfl, l, zs, _, rfl, hl7, hzs, fun w8 H8 f8 hw8 => ?_⟩
      refine ⟨_, .cons (.str _) (.cons (.str _) (.cons (.int _) (.cons hw8 .nil))), by show 4 ≤ 16000000; decide, fun w9 H9 f9 hw9 => ?_⟩
      refine q1 _ (by rw [hts]; rfl) w9 H9 (fz (f7.trans (f8.trans f9).no)) (k7.kn (f8.trans f9)) ?_
      rw [List.length_map] at hw9
      exact hw9
end
end DF

namespace DF
open PySem PySem.Spec PyProof.Rows L2 RZ
/-! ### the residual program -/
def gFunI (pg : Prog) (pre : Nat) (ns : List Nd) (i : Nat) : Option Fn := match ns[i]? with
  | none => none
  | some n => gFun pg pre ns n i
def fnodes (ns : List Nd) (j : Nat) : List Nat := (List.range j).filter (isFn ns)
def resF (pg : Prog) (pre : Nat) (ns : List Nd) (j : Nat) : Option (List Fn) := allS (gFunI pg pre ns) (fnodes ns j)
theorem fnodes_yes {ns : List Nd} {j : Nat} (h : isFn ns j = true) : fnodes ns (j + 1) = fnodes ns j ++ [j] := by
  unfold fnodes
  rw [List.range_succ, List.filter_append, List.filter_cons, if_pos h]; rfl
theorem fnodes_no {ns : List Nd} {j : Nat} (h : isFn ns j = false) : fnodes ns (j + 1) = fnodes ns j := by
  unfold fnodes
  rw [List.range_succ, List.filter_append, List.filter_cons, if_neg (by rw [h]; exact Bool.false_ne_true), List.filter_nil, List.append_nil]
theorem fnodes_len (ns : List Nd) (j : Nat) : (fnodes ns j).length ≤ j := by
  have := List.length_filter_le (isFn ns) (List.range j)
  rwa [List.length_range] at this
theorem fnodes_mem {ns : List Nd} {i j : Nat} (h : i < j) (hf : isFn ns i = true) : i ∈ fnodes ns j := List.mem_filter.mpr ⟨List.mem_range.mpr h, hf⟩
theorem allS_app {α : Type} {g : Nat → Option α} {cs : List Nat} {ts : List α} {c : Nat} {t : α} (h : allS g cs = some ts) (ht : g c = some t) : allS g (cs ++ [c]) = some (ts ++ [t]) := by
  have hl := (allS_some h).1
  have e : (cs ++ [c]).take cs.length = cs := by simp
  have h2 := allS_snoc (g := g) (cs := cs ++ [c]) (ts := ts) (j := cs.length) (c := c) (t := t) (by rw [e]; exact h) (by simp) ht
  rwa [List.take_of_length_le (by simp)] at h2
/-- few functions, of few rules -/
structure Few (pg : Prog) : Prop where
  len : pg.length ≤ 50
  two : ∀ f ∈ pg, linesF f ≤ 2
theorem gFun_two {pg : Prog} {pre : Nat} {ns : List Nd} {n : Nd} {i : Nat} {fn : Fn} (F : Few pg) (h : gFun pg pre ns n i = some fn) : linesF fn ≤ 2 := by
  unfold gFun at h
  split at h
  · cases e : S pg pre ns (n.ch.headD 0) with
    | none => rw [e] at h; cases h
    | some t => rw [e] at h; cases h; exact Nat.le_succ 1
  · cases e : allS (S pg pre ns) n.ch with
    | none => rw [e] at h; cases h
    | some ts =>
      rw [e] at h
      cases h
      show (List.map _ _).length ≤ 2
      rw [List.length_map, List.length_zip]
      refine Nat.le_trans (Nat.min_le_left _ _) ?_
      unfold rulesN
      split
      · unfold rulesOf
        split
        · rename_i y m rs e2
          exact F.two _ (fnOf_mem e2).1
        · exact Nat.zero_le _
      · exact Nat.zero_le _
theorem resF_two {pg : Prog} {pre : Nat} {ns : List Nd} {j : Nat} {fs : List Fn} (F : Few pg) (h : resF pg pre ns j = some fs) : fs.length ≤ j ∧ ∀ f ∈ fs, linesF f ≤ 2 := by
  obtain ⟨h1, h2⟩ := allS_some h
  have h3 := fnodes_len ns j
  refine ⟨by omega, fun f hf => ?_⟩
  obtain ⟨k, ek⟩ := List.mem_iff_getElem?.mp hf
  have hk := (List.getElem?_eq_some_iff.mp ek).1
  obtain ⟨t, e1, e2⟩ := h2 k _ (List.getElem?_eq_getElem (show k < (fnodes ns j).length by omega))
  rw [ek] at e2
  cases e2
  unfold gFunI at e1
  split at e1
  · cases e1
  · exact gFun_two F e1
theorem sum_le2 : ∀ {l : List Fn}, (∀ f ∈ l, linesF f ≤ 2) → (l.map fun f => ((linesF f : Nat) : Int)).sum ≤ 2 * (l.length : Int)
  | [], _ => Int.le_refl _
  | f :: l, h => by
    have h1 := h f List.mem_cons_self
    have h2 := sum_le2 (l := l) fun g hg => h g (List.mem_cons_of_mem _ hg)
    rw [List.map_cons, List.sum_cons, List.length_cons]
    omega
section
variable {P : Program} {w : World} {K : PySem.W.Frag} {mg : Str → Option Value} {base : Heap}
def sp_residual (K : PySem.W.Frag) : Sp := fun vs H Q E => ∃ v u pg ns pre, vs = [v, u] ∧ Is K H v (encG pg) ∧ Is K H u (.tuple (ns.map rowD)) ∧ WfN pg ns ∧ Wf pg ∧ Pfx pg pre ∧ Few pg ∧
  (∀ fs t, resF pg pre ns ns.length = some fs → S pg pre ns 0 = some t → Rt K H Q (.tuple [encG (pg ++ fs), enc t])) ∧ (resF pg pre ns ns.length = none ∨ S pg pre ns 0 = none → ∀ H', Fr No H H' → E (.ref (aTL K)) none H')
theorem sc_residual : FnScope ["program", "graph", "reader", "functions", "number", "start", "function"] ["program", "graph"] (defScope Tx.s_residual) := C8.fnScope_by (by decide +kernel)
theorem ok_residual (Y : Hf K mg) : Cl (L2.CX P w) P w K mg base 228 "residual" (sp_residual K) := by
  refine Y.d_residual.okX sc_residual (fun vs H Q E h => ?_) (fun f cdv A outer s H vs Q E hr h => ?_)
  · obtain ⟨v, u, pg, ns, pre, rfl, _⟩ := h; rfl
  have nd := sc_residual.nd
  refine ⟨_, ((pss_cons (ps_set (i := 2) nd rfl (by first | exact .inl rfl | exact .inr rfl) (kma (ok_Reader Y) hr (pa_cons (pv 0) (pa_cons (pv 1) pa_nil)) (hk := by omega)))
    (pss_cons (ps_set (i := 3) nd rfl (by first | exact .inl rfl | exact .inr rfl) (k_listT Y.z_list (pv 0)))
    (pss_cons (ps_for (passes_of rfl) rfl (pi_range1 rfl Y.z_range (pa_cons (k_lenT Y.z_len (pv 1)) pa_nil)) (pg_name (i := 4) nd rfl (by first | exact .inl rfl | exact .inr rfl))
        (pss_one (ps_if (pt_val (kme (ok_is_function_node Y) hr (pv 2) (pa_cons (pv 4) pa_nil) (hk := by omega)))
            (pss_one (ps_expr (pe_bm PySem.F.plainAttrs_list PySem.F.slot_list_append PySem.F.type_list_append mt_append (pv 3) (pa_cons (kmeX (E := E) (ok_function Y) hr (passes_call (takes_of rfl rfl rfl rfl) fun _ _ _ _ h => h) (pv 2) (pa_cons (pv 4) pa_nil) (hk := by omega)) pa_nil)))) pss_nil)))
    (pss_cons (ps_set (i := 5) nd rfl (by first | exact .inl rfl | exact .inr rfl) (kmeX (E := E) (ok_stands Y 40) hr (passes_call (takes_of rfl rfl rfl rfl) fun _ _ _ _ h => h) (pv 2) (pa_cons pe_int pa_nil) (hk := by omega)))
    (pss_cons (ps_if (pt_cmp (pc_gt (k_sum Y.z_sum (pe_lc (own := [("function", 6)]) (g := (gName 6)) (tt := tYes) (te := (tCall (sp_count_lines K) [] E0 (tCons (tVar 6) tNil))) rfl nd (pi_list (pv 3)) (blkOk_by (own := [("function", 6)]) (N := ["program", "graph", "reader", "functions", "number", "start", "function"]) (sc := defScope Tx.s_residual) (by decide +kernel)) (fun _ _ _ _ _ => (pg_name (i := 6) nd rfl (by first | exact .inl rfl | exact .inr rfl))) (fun _ _ _ _ _ => pts_nil) (fun _ _ _ _ _ => (kc (ok_count_lines Y) hr (pa_cons (pv 6) pa_nil) (hk := by omega))))) (pe_mint 200 rfl Y.i_MOST_LINES)))
        (pss_one (ps_raise rfl (takes_of rfl rfl rfl rfl) (pmk_own PySem.F.excBase_ValueError Y.x_TooLarge.1 Y.m_TooLarge Y.x_TooLarge.2.1 (raises_own Y.x_TooLarge.2.2.1 Y.x_TooLarge.2.2.2) rfl))) pss_nil)
    (pss_one (ps_ret (pe_tupD (pa_cons (k_tup Y.z_tuple (pv 3)) (pa_cons (pv 5) pa_nil))))))))))), ?_⟩
  obtain ⟨v, u, pg, ns, pre, rfl, hv, hu, W, Wp, hp, F, q1, q2⟩ := h
  have hnl := W.len
  refine ⟨_, rfl, _, rfl, fun r dx hr0 hdx hne => ?_⟩
  have f1 : Fr No H (upd (upd H dx (.own r)) r (.ins (aR K) dx [])) := (Fr.new0 hdx).trans (Fr.new0 (by rw [upd_ne (fun z => hne z.symm)]; exact hr0))
  refine ⟨r, dx, v, u, pg, ns, pre, rfl, upd_same, hv.fr f1, hu.fr f1, W, hp, fun H2 lt dk f2 hd1 R hdk => ⟨rfl, ?_⟩⟩
  have f02 : Fr No H H2 := by
    have z : Fr (At r) H H2 := f1.no.trans f2
    exact z.less fun b hb _ => by rw [show b = r from hb]; exact hr0
  have hv2 := hv.fr f02
  have hu2 := hu.fr f02
  obtain ⟨a, xs, rfl, ta, ia⟩ := hv2.tupE
  refine ⟨_, rfl, a, xs, rfl, .inr ta.sq, fun l hl => ?_⟩
  have f3 : Fr No H2 (upd H2 l (.lst xs)) := Fr.new0 hl
  have R3 := R.kn f3
  have nrl : r ≠ l := fun z => by have h := R.hs; rw [z, hl] at h; exact nomatch h
  have nlk : dk ≠ l := fun z => by rw [z, hl] at hdk; exact nomatch hdk
  have nlt : lt ≠ l := fun z => by have h := R.ht; rw [z, hl] at h; exact nomatch h
  have k3 : Know K (upd H2 l (.lst xs)) (S pg pre ns) dk := Know.start (f3.kn hdk)
  refine ⟨_, rfl, _, _, rfl, hu2.fr f3, ?_⟩
  rw [List.length_map]
  refine ⟨(ns.length : Nat), rfl, by omega, by omega, ?_⟩
  have fz : ∀ {H7 : Hp}, Fr (fun b => b = l ∨ b = dk) (upd H2 l (.lst xs)) H7 → Fr No H H7 := fun {H7} f7 => by
    have z : Fr (fun b => b = l ∨ b = dk ∨ b = r) H H7 := ((f1.no.trans (f2.mono fun b hb => .inr (.inr hb))).trans f3.no).trans (f7.mono fun b hb => hb.elim .inl fun z => .inr (.inl z))
    refine z.less fun b hb _ => ?_
    rcases hb with e | e | e
    · rw [e]; exact f02.freeN hl
    · rw [e]; exact f1.freeN hd1
    · rw [e]; exact hr0
  have hl3 : (upd H2 l (.lst xs)) l = some (.lst xs) := upd_same
  refine for_it (dwR (K := K) (S := fun b => b = l ∨ b = dk) (lo := 0) (n := ns.length)) (fun j σ H' => ∃ (x4 : Option V) (zs : List V) (fs : List Fn), σ = [some (.ref a), some u, some (.ref r), some (.ref l), x4, none, none] ∧ Fr (fun b => b = l ∨ b = dk) (upd H2 l (.lst xs)) H' ∧ H' l = some (.lst zs) ∧ IsAll K H' zs ((pg ++ fs).map encF) ∧ resF pg pre ns j = some fs ∧ Know K H' (S pg pre ns) dk)
    ⟨none, xs, [], rfl, .refl, hl3, by rw [List.append_nil]; exact ia.fr f3, rfl, k3⟩ (fun j σ H' _ z => let ⟨_, _, _, _, z, _⟩ := z; z) (fun j x σ H5 H6 hlt z yy => ?_) fun σ H5 z => ?_
  · obtain ⟨x4, zs, fs, rfl, f5, hl5, hzs, hfs, k5⟩ := z
    obtain ⟨f6, d, hd, hx⟩ := yy
    rw [List.length_map, List.length_range] at hlt
    rw [List.getElem?_map, List.getElem?_range hlt] at hd
    cases hd
    have hx : Is K H6 x (.int (0 + (j : Int))) := hx
    rw [Int.zero_add] at hx
    obtain rfl := hx.intE
    have f56 : Fr (fun b => b = l ∨ b = dk) (upd H2 l (.lst xs)) H6 := f5.trans f6.no
    have R6 := R3.frS f56 (fun z => z.elim nrl R.n1) (fun z => z.elim nlt R.n2)
    have hl6 := f6.kn hl5
    refine ⟨_, rfl, r, dx, _, rfl, R6.hs, rfl, _, rfl, r, j, pg, ns, pre, dx, .ref a, u, lt, dk, rfl, R6, W, hlt, _, rfl, ?_⟩
    cases hF : isFn ns j with
    | false => exact iteF ⟨_, zs, fs, rfl, f56, hl6, hzs.fr f6, by unfold resF; rw [fnodes_no hF]; exact hfs, k5.kn f6⟩
    | true =>
      obtain ⟨n, en⟩ : ∃ n, ns[j]? = some n := ⟨_, List.getElem?_eq_getElem hlt⟩
      have eg : gFunI pg pre ns j = gFun pg pre ns n j := by unfold gFunI; rw [en]
      refine iteT ⟨_, rfl, .inl ⟨rfl, _, SqL.of hl6⟩, _, rfl, r, dx, _, rfl, R6.hs, rfl, _, rfl, r, j, n, pg, ns, pre, dx, .ref a, u, lt, dk, rfl, R6, k5.kn f6, W, Wp, hp, en, hF, fun fn e v7 H7 f7 k7 hv7 => ?_, fun e H7 f7 => ?_⟩
      · have f7' : Fr (fun b => b = l ∨ b = dk) H6 H7 := f7.mono fun b z => .inr z
        have hl7 := f7.k l _ (fun z => nlk z.symm) hl6
        have hres : resF pg pre ns (j + 1) = some (fs ++ [fn]) := by
          unfold resF
          rw [fnodes_yes hF]
          exact allS_app hfs (eg.trans e)
        have h2 := resF_two F hfs
        have h3 := F.len
        refine ⟨l, _, _, rfl, rfl, hl7, lt_line (by rw [hzs.len, List.length_map, List.length_append]; omega), ?_⟩
        have g8 : Fr (fun b => b = l ∨ b = dk) H7 (upd H7 l (.lst (zs ++ [v7]))) := Fr.refl.mut (.inl rfl) hl7 fun z => z
        refine ⟨_, _, fs ++ [fn], rfl, (f56.trans f7').trans g8, upd_same, ?_, hres, k7.fr (Fr.refl.mut (S := At l) rfl hl7 fun z => z) nlk⟩
        rw [← List.append_assoc, List.map_append]
        exact (((hzs.fr f6).fr f7').fr g8).append (.cons (Is.fr g8 hv7) .nil)
      · refine q2 (.inl ?_) H7 (fz (f56.trans (f7.mono fun b z => .inr z)))
        unfold resF
        exact allS_none (fnodes_mem hlt hF) (eg.trans e)
  · obtain ⟨x4, zs, fs, rfl, f5, hl5, hzs, hfs, k5⟩ := z
    rw [List.length_map, List.length_range] at hfs
    have R5 := R3.frS f5 (fun z => z.elim nrl R.n1) (fun z => z.elim nlt R.n2)
    refine ⟨_, rfl, r, dx, _, rfl, R5.hs, rfl, r, 0, pg, ns, pre, dx, .ref a, u, lt, dk, rfl, R5, k5, W, Wp, hp, W.ne, by omega, fun t e v6 H6 f6 k6 hv6 => ?_, fun e H6 f6 => q2 (.inr e) H6 (fz (f5.trans (f6.mono fun b z => .inr z)))⟩
    have f56 : Fr (fun b => b = l ∨ b = dk) (upd H2 l (.lst xs)) H6 := f5.trans (f6.mono fun b z => .inr z)
    have hl6 := f6.k l _ (fun z => nlk z.symm) hl5
    have hzs6 := hzs.fr f6
    have h2 := resF_two F hfs
    have h3 := F.len
    have hlen : (pg ++ fs).length ≤ 90 := by rw [List.length_append]; omega
    refine ⟨_, rfl, l, rfl, ⟨_, SqL.of hl6⟩, fun D hD => lcD (K := K) (l := pg ++ fs) (en := encF) (f := fun fn => some (.int (linesF fn : Nat))) (dwL (S := No) hl6 hzs6 (fun z => z)) hD (by omega) (fun fn x H7 yes no _ f7 hx yesH noH => ?_) fun H7 ys f7 hD7 hys => ?_⟩
    · exact ⟨rfl, yesT ⟨_, rfl, x, fn, rfl, hx, yesH _ H7 _ .refl (.int _) rfl⟩⟩
    · rw [fm_some, map_two (fun fn => ((linesF fn : Nat) : Int)) PyData.int] at hys
      have hyv := isAll_intsV hys
      subst hyv
      refine ⟨D, _, rfl, SqL.of hD7, _, _, rfl, rfl, _, rfl, ?_⟩
      have hs := sum_le2 (l := pg ++ fs) fun f hf => (List.mem_append.mp hf).elim (F.two f) (h2.2 f)
      refine ifDF (by omega) (nextE ?_)
      have hl7 := f7.kn hl6
      refine ⟨_, rfl, l, zs, _, rfl, hl7, hzs6.fr f7, fun w8 H8 f8 hw8 => ⟨_, rfl, _, .cons hw8 (.cons ((hv6.fr f7).fr f8) .nil), by show 2 ≤ 16000000; decide, fun w9 H9 f9 hw9 => ?_⟩⟩
      exact q1 fs t hfs e w9 H9 (fz (f56.trans ((f7.trans f8).trans f9).no)) hw9
end
end DF

namespace DF
open PySem PySem.Spec PyProof.Rows L2 RZ
/-! ### the tape -/
structure Tap (H : Hp) (tp nl : Addr) : Prop where
  ex : ∃ (k : Nat) (tot : Int) (ns : List Int), H tp = some (.lst [.int (k : Nat), .ref nl, .int tot]) ∧ H nl = some (.lst (ns.map V.int))
  ne : tp ≠ nl
theorem Tap.fr {H H' : Hp} {S : Addr → Prop} {tp nl : Addr} (t : Tap H tp nl) (f : Fr S H H') (n1 : ¬ S tp) (n2 : ¬ S nl) : Tap H' tp nl :=
  let ⟨k, tot, ns, h1, h2⟩ := t.ex; ⟨⟨k, tot, ns, f.k _ _ n1 h1, f.k _ _ n2 h2⟩, t.ne⟩
theorem Tap.kn {H H' : Hp} {tp nl : Addr} (t : Tap H tp nl) (f : Fr No H H') : Tap H' tp nl := t.fr f (fun z => z) fun z => z
theorem sqL_kn {K : PySem.W.Frag} {H H' : Hp} {a : Addr} {xs : List V} (f : Fr No H H') (h : SqL K H a xs) : SqL K H' a xs := by
  rcases h with (h | ⟨o, h⟩) | h
  · exact .inl (.inl (f.kn h))
  · exact .inl (.inr ⟨o, f.kn h⟩)
  · exact .inr h
theorem cutV_map (l : List Int) (lo hi : Option Int) : cutV (l.map V.int) lo hi = (cut l lo hi).map V.int := by
  unfold cutV cut
  rw [List.length_map, List.map_take, List.map_drop]
theorem ifET {p : Prop} [Decidable p] {A B : Prop} (a : p → A) (b : ¬ p → B) : if decide p = true then A else B := by
  by_cases c : p
  · exact ifDT c (a c)
  · exact ifDF c (b c)
section
variable {P : Program} {w : World} {K : PySem.W.Frag} {mg : Str → Option Value} {base : Heap}
def sp_law_tape (K : PySem.W.Frag) : Sp := fun vs H Q _ => ∃ (a : Addr) (ns : List Int), vs = [.ref a] ∧ SqL K H a (ns.map V.int) ∧ ∀ H' tp nl, Fr No H H' → Tap H' tp nl → Q (.ref tp) H'
theorem sc__law_tape : FnScope ["_law_script", "_law_numbers", "_law_total", "_law_cell", "_law_rest", "_law_k"] ["_law_script"] (defScope Tx.s__law_tape) := C8.fnScope_by (by decide +kernel)
theorem ok_law_tape (Y : Hf K mg) : Cl CX0 P w K mg base 1 "_law_tape" (sp_law_tape K) := by
  refine Y.d__law_tape.ok sc__law_tape (fun vs H Q E h => ?_) (fun f cdv A outer s H vs Q E hr h => ?_)
  · obtain ⟨a, ns, rfl, _⟩ := h; rfl
  have nd := sc__law_tape.nd
  refine ⟨_, ((pss_cons (ps_set (i := 1) nd rfl (by first | exact .inl rfl | exact .inr rfl) (pe_lst pa_nil))
    (pss_cons (ps_set (i := 2) nd rfl (by first | exact .inl rfl | exact .inr rfl) pe_int)
    (pss_cons (ps_for PassesOwn.never rfl (pi_list (pe_slice sl_list (pv 0) po_none (po_some pe_int))) (pg_name (i := 3) nd rfl (by first | exact .inl rfl | exact .inr rfl))
        (pss_cons (ps_set (i := 4) nd rfl (by first | exact .inl rfl | exact .inr rfl) (k_abs Y.z_abs (k_int Y.z_int (pv 3))))
        (pss_cons (ps_set (i := 2) nd rfl (by first | exact .inl rfl | exact .inr rfl) (pe_add (pv 2) (pv 4)))
        (pss_one (ps_for PassesOwn.never rfl (pi_range1 rfl Y.z_range (pa_cons pe_int pa_nil)) (pg_name (i := 5) nd rfl (by first | exact .inl rfl | exact .inr rfl))
            (pss_cons (ps_expr (pe_bm PySem.F.plainAttrs_list PySem.F.slot_list_append PySem.F.type_list_append mt_append (pv 1) (pa_cons (pe_op op_mod (k_int Y.z_int (pv 4)) pe_int) pa_nil)))
            (pss_cons (ps_set (i := 4) nd rfl (by first | exact .inl rfl | exact .inr rfl) (pe_op op_fdiv (pv 4) pe_int))
            (pss_one (ps_if (pt_cmp (pc_eqI (pv 4) pe_int))
                (pss_one ps_break) pss_nil)))))))))
    (pss_one (ps_ret (pe_lst (pa_cons pe_int (pa_cons (pv 1) (pa_cons (pe_op op_mod (k_int Y.z_int (pv 2)) pe_int) pa_nil)))))))))), ?_⟩
  obtain ⟨a, ns, rfl, ha, q⟩ := h
  refine ⟨Nat.zero_le _, fun nl hnl => ?_⟩
  have f1 : Fr No H (upd H nl (.lst [])) := Fr.new0 hnl
  refine ⟨_, rfl, 63, rfl, a, _, rfl, sqL_kn f1 ha, fun p hp => ⟨p, rfl, ⟨_, SqL.of upd_same⟩, ?_⟩⟩
  have f2 : Fr No (upd H nl (.lst [])) (upd (upd H nl (.lst [])) p (.lst (cutV (ns.map V.int) none (some 63)))) := Fr.new0 hp
  have nnp : nl ≠ p := ne_of_none upd_same hp
  have hnl2 := f2.kn (show (upd H nl (.lst [])) nl = some (.lst []) from upd_same)
  have hp2 : (upd (upd H nl (.lst [])) p (.lst (cutV (ns.map V.int) none (some 63)))) p = some (.lst (cutV (ns.map V.int) none (some 63))) := upd_same
  rw [cutV_map] at hp2 f2 hnl2 ⊢
  have hcl : (cut ns none (some 63)).length ≤ 63 := by
    rw [show cut ns none (some 63) = ns.take 63 from cut_to ns 63]
    exact List.length_take_le 63 ns
  generalize cut ns none (some 63) = cs at hp2 f2 hnl2 hcl ⊢
  generalize upd (upd H nl (.lst [])) p (.lst (cs.map V.int)) = H2 at hp2 f2 hnl2 ⊢
  refine for_it (dwL (S := At nl) hp2 (isAll_ints cs) nnp.symm) (fun i σ H' => ∃ (tot : Int) (x3 x4 x5 : Option V) (ms : List Int), σ = [some (.ref a), some (.ref nl), some (.int tot), x3, x4, x5] ∧ Fr (At nl) H2 H' ∧ H' nl = some (.lst (ms.map V.int)) ∧ ms.length ≤ 24 * i)
    ⟨1, none, none, none, [], rfl, .refl, hnl2, Nat.zero_le _⟩ (fun i σ H' _ z => let ⟨_, _, _, _, _, _, z, _⟩ := z; z) (fun i x σ H5 H6 hlt z yy => ?_) fun σ H5 z => ?_
  · obtain ⟨tot, x3, x4, x5, ms, rfl, f5, h5, hm⟩ := z
    obtain ⟨f6, d, hd, hx⟩ := yy
    rw [List.length_map] at hlt
    rw [List.getElem?_map, List.getElem?_eq_getElem hlt] at hd
    cases hd
    obtain rfl := hx.intE
    have h6 := f6.kn h5
    refine ⟨_, rfl, .inl ⟨_, rfl, _, rfl, ?_⟩⟩
    refine ⟨_, rfl, _, rfl, _, _, rfl, rfl, ?_⟩
    refine ⟨24, rfl, by decide, by decide, ?_⟩
    refine for_it (dwR (K := K) (S := At nl) (lo := 0) (n := 24)) (fun j σ H' => ∃ (rest : Int) (x5 : Option V) (ms : List Int), σ = [some (.ref a), some (.ref nl), some (.int _), some (.int _), some (.int rest), x5] ∧ Fr (At nl) H6 H' ∧ H' nl = some (.lst (ms.map V.int)) ∧ ms.length ≤ 24 * i + j)
      ⟨_, _, ms, rfl, .refl, h6, hm⟩ (fun i σ H' _ z => let ⟨_, _, _, _, z, _⟩ := z; z) (fun j x σ H7 H8 hlt7 z yy => ?_) fun σ H7 z => ?_
    · obtain ⟨rest, x5, ms, rfl, f7, h7, hm7⟩ := z
      obtain ⟨f8, d, hd, hx⟩ := yy
      have h8 := f8.kn h7
      refine ⟨_, rfl, .inl ⟨rfl, _, SqL.of h8⟩, _, rfl, .inl ⟨rest, rfl, _, _, rfl, rfl, (by show (0 : Int) < 60; decide), nl, _, _, rfl, rfl, h8, lt_line (by rw [List.length_map]; rw [List.length_map, List.length_range] at hlt7; omega), ?_⟩⟩
      have g9 : Fr (At nl) H8 (upd H8 nl (.lst (ms.map V.int ++ [V.int (rest % 60)]))) := Fr.refl.mut rfl h8 fun z => z
      have h9 : (upd H8 nl (.lst (ms.map V.int ++ [V.int (rest % 60)]))) nl = some (.lst ((ms ++ [rest % 60]).map V.int)) := by rw [upd_same, List.map_append]; rfl
      have f9 := (f7.trans f8.no).trans g9
      have hl9 : (ms ++ [rest % 60]).length ≤ 24 * i + (j + 1) := by rw [List.length_append]; show ms.length + 1 ≤ _; omega
      refine ⟨_, rfl, _, _, rfl, rfl, ⟨by decide, by decide⟩, ?_⟩
      refine ⟨_, rfl, _, _, rfl, rfl, _, rfl, ifET (fun c => ?_) fun c => ?_⟩
      · rw [List.length_map, List.length_range] at hlt7
        exact ⟨_, _, _, _, _, rfl, (f5.trans f6.no).trans f9, h9, by omega⟩
      · exact ⟨_, _, _, rfl, f9, h9, hl9⟩
    · obtain ⟨rest, x5, ms, rfl, f7, h7, hm7⟩ := z
      rw [List.length_map, List.length_range] at hm7
      exact ⟨_, _, _, _, _, rfl, (f5.trans f6.no).trans f7, h7, by omega⟩
  · obtain ⟨tot, x3, x4, x5, ms, rfl, f5, h5, hm⟩ := z
    refine ⟨_, rfl, _, rfl, .inl ⟨_, rfl, _, _, rfl, rfl, (by show (0 : Int) < 1000003; decide), le_line (by show 3 ≤ 16000000; decide), fun tp htp => ?_⟩⟩
    have f6 : Fr No H5 (upd H5 tp (.lst [.int 0, .ref nl, .int (tot % 1000003)])) := Fr.new0 htp
    refine q _ tp nl ?_ ⟨⟨0, _, ms, upd_same, f6.kn h5⟩, (ne_of_none h5 htp).symm⟩
    have z : Fr (At nl) H (upd H5 tp (.lst [.int 0, .ref nl, .int (tot % 1000003)])) := (((f1.trans f2).no).trans f5).trans f6.no
    exact z.less fun b hb _ => by rw [show b = nl from hb]; exact hnl
def sp_law_next (K : PySem.W.Frag) : Sp := fun vs H Q _ => ∃ tp nl m, vs = [.ref tp, .int (m : Nat)] ∧ Tap H tp nl ∧ 0 < m ∧ ∀ (i : Nat) H', i < m → Fr (At tp) H H' → Tap H' tp nl → Q (.int (i : Nat)) H'
theorem sc__law_next : FnScope ["_law_tape_here", "_law_many", "_law_at"] ["_law_tape_here", "_law_many"] (defScope Tx.s__law_next) := C8.fnScope_by (by decide +kernel)
theorem ok_law_next (Y : Hf K mg) : Cl CX0 P w K mg base 1 "_law_next" (sp_law_next K) := by
  refine Y.d__law_next.ok sc__law_next (fun vs H Q E h => ?_) (fun f cdv A outer s H vs Q E hr h => ?_)
  · obtain ⟨tp, nl, m, rfl, _⟩ := h; rfl
  have nd := sc__law_next.nd
  refine ⟨_, ((pss_cons (ps_set (i := 2) nd rfl (by first | exact .inl rfl | exact .inr rfl) (pe_ix ix_list (pv 0) pe_int fun _ _ => rfl))
    (pss_cons (ps_asg (pe_add (pv 2) pe_int) (pg_sub (pv 0) pe_int set_list))
    (pss_cons (ps_if (pt_cmp (pc_lt (pv 2) (k_lenL Y.z_len (pe_ix ix_list (pv 0) pe_int fun _ _ => rfl))))
        (pss_one (ps_ret (pe_op op_mod (k_int Y.z_int (pe_ix ix_list (pe_ix ix_list (pv 0) pe_int fun _ _ => rfl) (pv 2) fun _ _ => rfl)) (pv 1)))) pss_nil)
    (pss_one (ps_ret (pe_op op_mod (pe_op op_fdiv (pe_op op_mod (k_int Y.z_int (pe_add (pe_op op_mul (pe_add (pv 2) pe_int) pe_int) (pe_op op_mul (pe_ix ix_list (pv 0) pe_int fun _ _ => rfl) pe_int))) pe_int) pe_int) (pv 1)))))))), ?_⟩
  obtain ⟨tp, nl, m, rfl, T, hm, q⟩ := h
  obtain ⟨k, tot, ns, h1, h2⟩ := T.ex
  have ne := T.ne
  refine ⟨_, rfl, tp, _, 0, _, rfl, rfl, SqL.of h1, rfl, ?_⟩
  refine ⟨_, rfl, _, _, rfl, rfl, _, rfl, tp, _, 0, 0, rfl, rfl, h1, rfl, ?_⟩
  have f1 : Fr (At tp) H (upd H tp (.lst [.int ((k : Int) + 1), .ref nl, .int tot])) := Fr.refl.mut rfl h1 fun z => z
  have h1' : (upd H tp (.lst [.int ((k : Int) + 1), .ref nl, .int tot])) tp = some (.lst [.int ((k : Int) + 1), .ref nl, .int tot]) := upd_same
  have h2' : (upd H tp (.lst [.int ((k : Int) + 1), .ref nl, .int tot])) nl = some (.lst (ns.map V.int)) := by rw [upd_ne ne.symm]; exact h2
  have T' : Tap (upd H tp (.lst [.int ((k : Int) + 1), .ref nl, .int tot])) tp nl := ⟨⟨k + 1, tot, ns, h1', h2'⟩, ne⟩
  have fin : ∀ x : Int, ∃ i : Nat, x % (m : Int) = (i : Int) ∧ i < m := fun x => by
    have e1 := Int.emod_nonneg x (show (m : Int) ≠ 0 by omega)
    have e2 := Int.emod_lt_of_pos x (show (0 : Int) < m by omega)
    exact ⟨(x % (m : Int)).toNat, by omega, by omega⟩
  refine ⟨_, rfl, _, rfl, tp, _, 1, _, rfl, rfl, SqL.of h1', rfl, nl, _, rfl, .inl (SqL.of h2'), _, _, rfl, rfl, _, rfl, ?_⟩
  show if decide ((k : Int) < (((ns.map V.int).length : Nat) : Int)) = true then _ else _
  rw [List.length_map]
  by_cases c : k < ns.length
  · obtain ⟨x, ex⟩ : ∃ x, ns[k]? = some x := ⟨_, List.getElem?_eq_getElem c⟩
    refine ifDT (by omega) ⟨_, rfl, tp, _, 1, _, rfl, rfl, SqL.of h1', rfl, _, rfl, nl, _, _, _, rfl, rfl, SqL.of h2', by rw [atI_nat, List.getElem?_map, ex]; rfl, ?_⟩
    refine .inl ⟨x, rfl, _, rfl, x, _, rfl, rfl, by show (0 : Int) < m; omega, ?_⟩
    obtain ⟨i, e, hi⟩ := fin x
    show Q (V.int (x % (m : Int))) _
    rw [e]
    exact q i _ hi f1 T'
  · refine ifDF (by omega) ?_
    refine ⟨_, rfl, _, _, rfl, rfl, _, _, rfl, rfl, .inr ⟨by decide, by decide⟩, ?_⟩
    refine ⟨_, rfl, tp, _, 2, _, rfl, rfl, SqL.of h1', rfl, _, _, rfl, rfl, .inr ⟨by decide, by decide⟩, ?_⟩
    refine ⟨_, _, rfl, rfl, .inl ⟨_, rfl, ?_⟩⟩
    refine ⟨_, _, rfl, rfl, (by show (0 : Int) < 2147483647; decide), ?_⟩
    refine ⟨_, _, rfl, rfl, ⟨by decide, by decide⟩, ?_⟩
    refine ⟨_, rfl, _, _, rfl, rfl, by show (0 : Int) < m; omega, ?_⟩
    obtain ⟨i, e, hi⟩ := fin ((((k : Int) + 1) * 48271 + tot * 69621) % 2147483647 / 11)
    show Q (V.int ((((k : Int) + 1) * 48271 + tot * 69621) % 2147483647 / 11 % (m : Int))) _
    rw [e]
    exact q i _ hi f1 T'
end
end DF

namespace DF
open PySem PySem.Spec PyProof.Rows L2 RZ
/-! ### heads, the prefix, owners, parameters -/
def hdE (p : Str × Int) : PyData := .tuple [.str p.1, .int p.2]
theorem le16 {n : Nat} (h : n ≤ 1000) : n ≤ 16000000 := by omega
def rAddS : R2 := fun x y H Q => ∃ i j, x = .str i ∧ y = .str j ∧ i.length + j.length ≤ sizeLine ∧ Q (.str (i ++ j)) H
def hd1 : List (Str × Int) := [("add", 2), ("S", 1), ("app", 2), ("Cons", 2), ("rev", 2), ("map", 2), ("twice", 2), ("even", 1)]
def hd2 : List (Str × Int) := [("add", 2), ("S", 1), ("k", 2), ("f", 2), ("g", 2), ("Z", 0), ("one", 0), ("?", 0), ("loop", 1)]
def hds : List (Str × Int) := hd1 ++ hd2
section
variable {P : Program} {w : World} {K : PySem.W.Frag} {mg : Str → Option Value} {base : Heap}
def sp_law_heads (K : PySem.W.Frag) : Sp := fun vs H Q _ => vs = [] ∧ ∀ H' p xs, Fr No H H' → H p = none → H' p = some (.lst xs) → IsAll K H' xs (hds.map hdE) → Q (.ref p) H'
theorem sc__law_heads : FnScope ["_law_heads_here"] [] (defScope Tx.s__law_heads) := C8.fnScope_by (by decide +kernel)
theorem ok_law_heads (Y : Hf K mg) : Cl CX0 P w K mg base 1 "_law_heads" (sp_law_heads K) := by
  refine Y.d__law_heads.ok sc__law_heads (fun vs H Q E h => ?_) (fun f cdv A outer s H vs Q E hr h => ?_)
  · obtain ⟨rfl, _⟩ := h; rfl
  have nd := sc__law_heads.nd
  refine ⟨_, ((pss_cons (ps_set (i := 0) nd rfl (by first | exact .inl rfl | exact .inr rfl) (pe_lst (pa_cons (pe_tupD (pa_cons pe_str (pa_cons pe_int pa_nil))) (pa_cons (pe_tupD (pa_cons pe_str (pa_cons pe_int pa_nil))) (pa_cons (pe_tupD (pa_cons pe_str (pa_cons pe_int pa_nil))) (pa_cons (pe_tupD (pa_cons pe_str (pa_cons pe_int pa_nil))) (pa_cons (pe_tupD (pa_cons pe_str (pa_cons pe_int pa_nil))) (pa_cons (pe_tupD (pa_cons pe_str (pa_cons pe_int pa_nil))) (pa_cons (pe_tupD (pa_cons pe_str (pa_cons pe_int pa_nil))) (pa_cons (pe_tupD (pa_cons pe_str (pa_cons pe_int pa_nil))) pa_nil))))))))))
    (pss_one (ps_ret (pe_op op_cat (pv 0) (pe_lst (pa_cons (pe_tupD (pa_cons pe_str (pa_cons pe_int pa_nil))) (pa_cons (pe_tupD (pa_cons pe_str (pa_cons pe_int pa_nil))) (pa_cons (pe_tupD (pa_cons pe_str (pa_cons pe_int pa_nil))) (pa_cons (pe_tupD (pa_cons pe_str (pa_cons pe_int pa_nil))) (pa_cons (pe_tupD (pa_cons pe_str (pa_cons pe_int pa_nil))) (pa_cons (pe_tupD (pa_cons pe_str (pa_cons pe_int pa_nil))) (pa_cons (pe_tupD (pa_cons pe_str (pa_cons pe_int pa_nil))) (pa_cons (pe_tupD (pa_cons pe_str (pa_cons pe_int pa_nil))) (pa_cons (pe_tupD (pa_cons pe_str (pa_cons pe_int pa_nil))) pa_nil))))))))))))))), ?_⟩
  obtain ⟨rfl, q⟩ := h
  refine ⟨_, .cons (.str _) (.cons (.int _) .nil), le16 (Nat.le_of_ble_eq_true rfl), fun a0 Ha0 fa0 ha0 => ⟨_, .cons (.str _) (.cons (.int _) .nil), le16 (Nat.le_of_ble_eq_true rfl), fun a1 Ha1 fa1 ha1 => ⟨_, .cons (.str _) (.cons (.int _) .nil), le16 (Nat.le_of_ble_eq_true rfl), fun a2 Ha2 fa2 ha2 => ⟨_, .cons (.str _) (.cons (.int _) .nil), le16 (Nat.le_of_ble_eq_true rfl), fun a3 Ha3 fa3 ha3 => ⟨_, .cons (.str _) (.cons (.int _) .nil), le16 (Nat.le_of_ble_eq_true rfl), fun a4 Ha4 fa4 ha4 => ⟨_, .cons (.str _) (.cons (.int _) .nil), le16 (Nat.le_of_ble_eq_true rfl), fun a5 Ha5 fa5 ha5 => ⟨_, .cons (.str _) (.cons (.int _) .nil), le16 (Nat.le_of_ble_eq_true rfl), fun a6 Ha6 fa6 ha6 => ⟨_, .cons (.str _) (.cons (.int _) .nil), le16 (Nat.le_of_ble_eq_true rfl), fun a7 Ha7 fa7 ha7 => ⟨le_line (le16 (Nat.le_of_ble_eq_true rfl)), fun p hp => ?_⟩⟩⟩⟩⟩⟩⟩⟩⟩
  have f1 := (((((((fa0.trans fa1).trans fa2).trans fa3).trans fa4).trans fa5).trans fa6).trans fa7)
  have hxs : IsAll K Ha7 [a0, a1, a2, a3, a4, a5, a6, a7] (hd1.map hdE) := (.cons (Is.fr ((((((fa1.trans fa2).trans fa3).trans fa4).trans fa5).trans fa6).trans fa7) ha0) (.cons (Is.fr (((((fa2.trans fa3).trans fa4).trans fa5).trans fa6).trans fa7) ha1) (.cons (Is.fr ((((fa3.trans fa4).trans fa5).trans fa6).trans fa7) ha2) (.cons (Is.fr (((fa4.trans fa5).trans fa6).trans fa7) ha3) (.cons (Is.fr ((fa5.trans fa6).trans fa7) ha4) (.cons (Is.fr (fa6.trans fa7) ha5) (.cons (Is.fr fa7 ha6) (.cons ha7 .nil))))))))
  have f2 : Fr No Ha7 (upd Ha7 p (.lst [a0, a1, a2, a3, a4, a5, a6, a7])) := Fr.new0 hp
  refine ⟨_, rfl, ⟨_, .cons (.str _) (.cons (.int _) .nil), le16 (Nat.le_of_ble_eq_true rfl), fun b0 Hb0 fb0 hb0 => ⟨_, .cons (.str _) (.cons (.int _) .nil), le16 (Nat.le_of_ble_eq_true rfl), fun b1 Hb1 fb1 hb1 => ⟨_, .cons (.str _) (.cons (.int _) .nil), le16 (Nat.le_of_ble_eq_true rfl), fun b2 Hb2 fb2 hb2 => ⟨_, .cons (.str _) (.cons (.int _) .nil), le16 (Nat.le_of_ble_eq_true rfl), fun b3 Hb3 fb3 hb3 => ⟨_, .cons (.str _) (.cons (.int _) .nil), le16 (Nat.le_of_ble_eq_true rfl), fun b4 Hb4 fb4 hb4 => ⟨_, .cons (.str _) (.cons (.int _) .nil), le16 (Nat.le_of_ble_eq_true rfl), fun b5 Hb5 fb5 hb5 => ⟨_, .cons (.str _) (.cons (.int _) .nil), le16 (Nat.le_of_ble_eq_true rfl), fun b6 Hb6 fb6 hb6 => ⟨_, .cons (.str _) (.cons (.int _) .nil), le16 (Nat.le_of_ble_eq_true rfl), fun b7 Hb7 fb7 hb7 => ⟨_, .cons (.str _) (.cons (.int _) .nil), le16 (Nat.le_of_ble_eq_true rfl), fun b8 Hb8 fb8 hb8 => ⟨le_line (le16 (Nat.le_of_ble_eq_true rfl)), fun b hb => ?_⟩⟩⟩⟩⟩⟩⟩⟩⟩⟩⟩
  have f3 := ((((((((fb0.trans fb1).trans fb2).trans fb3).trans fb4).trans fb5).trans fb6).trans fb7).trans fb8)
  have hys : IsAll K Hb8 [b0, b1, b2, b3, b4, b5, b6, b7, b8] (hd2.map hdE) := (.cons (Is.fr (((((((fb1.trans fb2).trans fb3).trans fb4).trans fb5).trans fb6).trans fb7).trans fb8) hb0) (.cons (Is.fr ((((((fb2.trans fb3).trans fb4).trans fb5).trans fb6).trans fb7).trans fb8) hb1) (.cons (Is.fr (((((fb3.trans fb4).trans fb5).trans fb6).trans fb7).trans fb8) hb2) (.cons (Is.fr ((((fb4.trans fb5).trans fb6).trans fb7).trans fb8) hb3) (.cons (Is.fr (((fb5.trans fb6).trans fb7).trans fb8) hb4) (.cons (Is.fr ((fb6.trans fb7).trans fb8) hb5) (.cons (Is.fr (fb7.trans fb8) hb6) (.cons (Is.fr fb8 hb7) (.cons hb8 .nil)))))))))
  have f4 : Fr No Hb8 (upd Hb8 b (.lst [b0, b1, b2, b3, b4, b5, b6, b7, b8])) := Fr.new0 hb
  refine ⟨p, b, _, _, rfl, rfl, (f3.trans f4).kn upd_same, upd_same, le_line (le16 (Nat.le_of_ble_eq_true rfl)), fun c hc => ?_⟩
  have f5 := Fr.new0 (S := No) (o := .lst ([a0, a1, a2, a3, a4, a5, a6, a7] ++ [b0, b1, b2, b3, b4, b5, b6, b7, b8])) hc
  have f25 := f2.trans ((f3.trans f4).trans f5)
  refine q _ c _ (f1.trans f25) ((f1.trans (f2.trans (f3.trans f4))).freeN hc) upd_same ?_
  unfold hds
  rw [List.map_append]
  exact (hxs.fr f25).append ((hys.fr f4).fr f5)
def sp_law_prefix (K : PySem.W.Frag) : Sp := fun vs H Q _ => ∃ v pg k, vs = [v] ∧ Is K H v (encG pg) ∧ Pfx pg k ∧ ∀ H', Fr No H H' → Q (.str (pfx k)) H'
theorem sc__law_prefix : FnScope ["_law_program_here", "_law_number", "_law_prefix_here", "_law_function_here"] ["_law_program_here"] (defScope Tx.s__law_prefix) := C8.fnScope_by (by decide +kernel)
theorem ok_law_prefix (Y : Hf K mg) : Cl CX0 P w K mg base 1 "_law_prefix" (sp_law_prefix K) := by
  refine Y.d__law_prefix.ok sc__law_prefix (fun vs H Q E h => ?_) (fun f cdv A outer s H vs Q E hr h => ?_)
  · obtain ⟨v, pg, k, rfl, _⟩ := h; rfl
  have nd := sc__law_prefix.nd
  refine ⟨_, ((pss_cons (ps_for PassesOwn.never rfl (pi_range1 rfl Y.z_range (pa_cons pe_int pa_nil)) (pg_name (i := 1) nd rfl (by first | exact .inl rfl | exact .inr rfl))
        (pss_cons (ps_set (i := 2) nd rfl (by first | exact .inl rfl | exact .inr rfl) (pe_op op_add_str (pe_op op_add_str pe_str (k_str Y.z_str (pv 1))) pe_str))
        (pss_one (ps_if (pt_cmp (pc_eqI (k_lenL Y.z_len (pe_lc (own := [("_law_function_here", 3)]) (g := (gName 3)) (tt := (tB (tBM K "str" rSw (tOp (rD K) (tVar 3) (tC (.int 1))) (tCons (tVar 2) tNil)))) (te := (tVar 3)) rfl nd (pi_tup (pv 0)) (blkOk_by (own := [("_law_function_here", 3)]) (N := ["_law_program_here", "_law_number", "_law_prefix_here", "_law_function_here"]) (sc := defScope Tx.s__law_prefix) (by decide +kernel)) (fun _ _ _ _ _ => (pg_name (i := 3) nd rfl (by first | exact .inl rfl | exact .inr rfl))) (fun _ _ _ _ _ => (pts_one (pt_val (pe_bm PySem.F.plainAttrs_str PySem.F.slot_str_startswith PySem.F.type_str_startswith mt_startswith (pe_ix ix_d (pv 3) pe_int fun _ _ => rfl) (pa_cons (pv 2) pa_nil))))) (fun _ _ _ _ _ => (pv 3)))) pe_int))
            (pss_one (ps_ret (pv 2))) pss_nil))))
    (pss_one (ps_ret pe_non)))), ?_⟩
  obtain ⟨v, pg, k, rfl, hv, hk, q⟩ := h
  have hlen : pg.length ≤ 1000000 := hk.few
  have sm : ∀ j : Nat, j < 9 → ((("r" : Str) ++ (toString (j : Int) : String)) ++ ("x" : Str)) = pfx j ∧ (j : Int).natAbs.log2 < 1920 ∧ ("r" : Str).length + (Str.ofString (toString (j : Int))).length ≤ sizeLine ∧ (("r" : Str) ++ (toString (j : Int) : String)).length + ("x" : Str).length ≤ sizeLine := by
    intro j hj
    have h1 : ((List.range 9).all fun j => decide (((("r" : Str) ++ (toString (j : Int) : String)) ++ ("x" : Str)) = pfx j ∧ (j : Int).natAbs.log2 < 1920 ∧ ("r" : Str).length + (Str.ofString (toString (j : Int))).length ≤ sizeLine ∧ (("r" : Str) ++ (toString (j : Int) : String)).length + ("x" : Str).length ≤ sizeLine)) = true := by decide +kernel
    exact of_decide_eq_true (List.all_eq_true.mp h1 j (List.mem_range.mpr hj))
  obtain ⟨a, xs, rfl, ta, ia⟩ := hv.tupE
  refine ⟨9, rfl, by decide, by decide, ?_⟩
  have hkl := hk.lt
  refine for_it (dwR (K := K) (S := No) (H1 := H) (lo := 0) (n := 9)) (fun j σ H' => ∃ (x1 x2 : Option V), σ = [some (.ref a), x1, x2, none] ∧ Fr No H H' ∧ j ≤ k)
    ⟨none, none, rfl, .refl, Nat.zero_le _⟩ (fun i σ H' _ z => let ⟨_, _, _, z, _⟩ := z; z) (fun j x σ H5 H6 hlt z yy => ?_) fun σ H5 z => ?_
  · obtain ⟨x1, x2, rfl, f5, hjk⟩ := z
    obtain ⟨f6, d, hd, hx⟩ := yy
    rw [List.length_map, List.length_range] at hlt
    rw [List.getElem?_map, List.getElem?_range hlt] at hd
    cases hd
    have hx : Is K H6 x (.int (0 + (j : Int))) := hx
    rw [Int.zero_add] at hx
    obtain rfl := hx.intE
    obtain ⟨e1, e2, e3, e4⟩ := sm j hlt
    have f56 := f5.trans f6
    refine ⟨_, rfl, _, rfl, e2, _, _, rfl, rfl, e3, _, _, rfl, rfl, e4, ?_⟩
    refine ⟨_, rfl, a, rfl, ⟨_, (ta.fr f56).sq⟩, fun D hD => lcD (K := K) (l := pg) (en := encF) (f := fun fn => if Txt.startswith fn.nm.s (pfx j) = true then some (encF fn) else none) (dwT (S := No) (ta.fr f56) (ia.fr f56)) hD (by omega) (fun fn x H7 yes no _ f7 hx yesH noH => ?_) fun H7 ys f7 hD7 hys => ?_⟩
    · refine ⟨rfl, ?_⟩
      obtain ⟨a1, a2, a3, en⟩ := encF_nm fn
      refine ⟨_, rfl, _, 1, .str fn.nm.s, rfl, by rw [en] at hx; exact hx, rfl, fun w hw => ?_⟩
      obtain rfl := hw.strE
      refine ⟨rfl, _, rfl, _, _, rfl, rfl, _, rfl, ?_⟩
      show if Txt.startswith fn.nm.s _ = true then _ else _
      rw [show ((("r" : Str) ++ (toString (j : Int) : String)) ++ ("x" : Str)) = pfx j from e1]
      cases c : Txt.startswith fn.nm.s (pfx j) with
      | true => exact iteT ⟨_, rfl, yesH x H7 _ .refl hx (if_pos c)⟩
      | false => exact iteF (noH H7 .refl (if_neg (by rw [c]; exact Bool.false_ne_true)))
    · refine ⟨D, _, rfl, .inl (SqL.of hD7), _, _, rfl, rfl, _, rfl, ?_⟩
      have hy := hys.len
      have hP : hasP pg j = decide (0 < ys.length) := by
        rw [hy, Bool.eq_iff_iff, decide_eq_true_iff]
        unfold hasP
        rw [List.any_eq_true]
        constructor
        · rintro ⟨fn, h1, h2⟩
          have : encF fn ∈ pg.filterMap fun fn => if Txt.startswith fn.nm.s (pfx j) = true then some (encF fn) else none := List.mem_filterMap.mpr ⟨fn, h1, if_pos h2⟩
          exact List.length_pos_of_mem this
        · intro h
          obtain ⟨d, hd⟩ := List.exists_mem_of_length_pos h
          obtain ⟨fn, h1, h2⟩ := List.mem_filterMap.mp hd
          refine ⟨fn, h1, ?_⟩
          split at h2
          · assumption
          · cases h2
      refine ifET (fun c => ?_) fun c => ?_
      · have hj : hasP pg j = false := by rw [hP]; exact decide_eq_false (by omega)
        have : j = k := by
          rcases Nat.lt_or_ge j k with h | h
          · rw [hk.yes j h] at hj; cases hj
          · omega
        subst this
        refine ⟨_, rfl, ?_⟩
        rw [show ((("r" : Str) ++ (toString (j : Int) : String)) ++ ("x" : Str)) = pfx j from e1]
        exact q _ (f56.trans f7)
      · have hj : hasP pg j = true := by rw [hP]; exact decide_eq_true (by omega)
        refine ⟨_, _, rfl, f56.trans f7, ?_⟩
        rcases Nat.lt_or_ge j k with h | h
        · exact h
        · have : j = k := by omega
          rw [this, hk.no] at hj
          cases hj
  · obtain ⟨x1, x2, rfl, f5, hjk⟩ := z
    rw [List.length_map, List.length_range] at hjk
    omega
def sp_law_owner (K : PySem.W.Frag) : Sp := fun vs H Q _ => ∃ (v : V) (i : Nat) (pg : Prog) (ns : List Nd), vs = [v, .int (i : Nat)] ∧ Is K H v (.tuple (ns.map rowD)) ∧ WfN pg ns ∧ i < ns.length ∧ ∀ H', Fr No H H' → Q (.bl (isFn ns i)) H'
theorem sc__law_owner : FnScope ["_law_graph", "_law_number", "_law_row"] ["_law_graph", "_law_number"] (defScope Tx.s__law_owner) := C8.fnScope_by (by decide +kernel)
theorem ok_law_owner (Y : Hf K mg) : Cl CX0 P w K mg base 1 "_law_owner" (sp_law_owner K) := by
  refine Y.d__law_owner.ok sc__law_owner (fun vs H Q E h => ?_) (fun f cdv A outer s H vs Q E hr h => ?_)
  · obtain ⟨v, i, pg, ns, rfl, _⟩ := h; rfl
  have nd := sc__law_owner.nd
  refine ⟨_, ((pss_cons (ps_if (pt_cmpR (op_eqD (n := 1) hr) (pe_ix ix_d (pe_ix ix_d (pv 0) (pv 1) fun _ _ => rfl) pe_int fun _ _ => rfl) pe_str rfl)
        (pss_one (ps_ret pe_bl)) pss_nil)
    (pss_one (ps_ret (pe_and (pe_cmpR (op_eqD (n := 1) hr) (pe_ix ix_d (pe_ix ix_d (pv 0) (pv 1) fun _ _ => rfl) pe_int fun _ _ => rfl) pe_str rfl) (pe_one (pe_cmp (pc_gt (k_lenL Y.z_len (pe_lc (own := [("_law_row", 2)]) (g := (gName 2)) (tt := (tTest (tOp (rEqD 1 K) (tOp (rD K) (tVar 2) (tC (.int 3))) (tVar 1)))) (te := (tVar 2)) rfl nd (pi_tup (pv 0)) (blkOk_by (own := [("_law_row", 2)]) (N := ["_law_graph", "_law_number", "_law_row"]) (sc := defScope Tx.s__law_owner) (by decide +kernel)) (fun _ _ _ _ _ => (pg_name (i := 2) nd rfl (by first | exact .inl rfl | exact .inr rfl))) (fun _ _ _ _ _ => (pts_one (pt_cmpR (op_eqD (n := 1) hr) (pe_ix ix_d (pv 2) pe_int fun _ _ => rfl) (pv 1) rfl))) (fun _ _ _ _ _ => (pv 2)))) pe_int)))))))), ?_⟩
  obtain ⟨v, i, pg, ns, rfl, hv, W, hi, q⟩ := h
  obtain ⟨n, en⟩ : ∃ n, ns[i]? = some n := ⟨_, List.getElem?_eq_getElem hi⟩
  have hk := kinds_fine _ (W.kd n (List.mem_of_getElem? en))
  have hln := W.len
  have e0 : isFn ns i = ((n.kind == ("branched" : Str)) || ((n.kind == ("stepped" : Str)) && ns.any fun m => decide (m.tg = some i))) := by
    unfold isFn
    rw [en]
    rfl
  rw [e0] at q
  refine ⟨_, rfl, _, rfl, _, _, _, rfl, hv, row_at en, fun w1 hw1 => ⟨_, 0, _, rfl, hw1, rfl, fun w2 hw2 => ?_⟩⟩
  refine ⟨_, _, hw2, .str "branched", hk, by decide +kernel, Nat.zero_le _, _, rfl, ?_⟩
  show if (n.kind == ("branched" : Str)) = true then _ else _
  cases c1 : (n.kind == ("branched" : Str)) with
  | true => rw [c1] at q; exact iteT (q H .refl)
  | false =>
    rw [c1] at q
    refine iteF (nextE ⟨_, rfl, _, rfl, _, _, _, rfl, hv, row_at en, fun w1 hw1 => ⟨_, 0, _, rfl, hw1, rfl, fun w2 hw2 => ?_⟩⟩)
    refine ⟨_, _, hw2, .str "stepped", hk, by decide +kernel, Nat.zero_le _, _, rfl, ?_⟩
    show if (n.kind == ("stepped" : Str)) = true then _ else _
    cases c2 : (n.kind == ("stepped" : Str)) with
    | false => rw [c2] at q; exact iteF (q H .refl)
    | true =>
      rw [c2] at q
      obtain ⟨a, xs, rfl, ta, ia⟩ := hv.tupE
      refine iteT ⟨_, rfl, a, rfl, ⟨_, ta.sq⟩, fun D hD => lcD (K := K) (l := ns) (en := rowD) (f := fun n => if n.tg = some i then some (rowD n) else none) (dwT (S := No) ta ia) hD (by omega) (fun n x H7 yes no _ f7 hx yesH noH => ?_) fun H7 ys f7 hD7 hys => ?_⟩
      · refine ⟨rfl, _, rfl, _, 3, _, rfl, hx, rfl, fun w hw => ⟨_, rfl, _, _, hw, .int (i : Int), ?_, rfl, ?_, _, rfl, ?_⟩⟩
        · cases n.tg <;> rfl
        · cases n.tg <;> exact Nat.zero_le _
        · have e : PyData.eqv (optD n.tg) (.int (i : Int)) = decide (n.tg = some i) := by
            cases n.tg with
            | none => simp [optD, PyData.eqv]
            | some k =>
              show ((k : Int) == (i : Int)) = decide (some k = some i)
              rw [Bool.eq_iff_iff, beq_iff_eq, decide_eq_true_iff, Option.some.injEq]
              omega
          rw [e]
          exact ifET (fun c => ⟨_, rfl, yesH x H7 _ .refl hx (if_pos c)⟩) fun c => noH H7 .refl (if_neg c)
      · refine ⟨D, _, rfl, .inl (SqL.of hD7), _, _, rfl, rfl, ?_⟩
        have e : decide ((0 : Int) < (ys.length : Int)) = ns.any fun m => decide (m.tg = some i) := by
          rw [hys.len, Bool.eq_iff_iff, decide_eq_true_iff, List.any_eq_true]
          constructor
          · intro h
            obtain ⟨d, hd⟩ := List.exists_mem_of_length_pos (show 0 < (ns.filterMap fun n => if n.tg = some i then some (rowD n) else none).length by omega)
            obtain ⟨m, h1, h2⟩ := List.mem_filterMap.mp hd
            refine ⟨m, h1, ?_⟩
            split at h2
            · rename_i c; exact decide_eq_true c
            · cases h2
          · rintro ⟨m, h1, h2⟩
            have : rowD m ∈ ns.filterMap fun n => if n.tg = some i then some (rowD n) else none := List.mem_filterMap.mpr ⟨m, h1, if_pos (of_decide_eq_true h2)⟩
            have := List.length_pos_of_mem this
            omega
        show Q (.bl (decide ((0 : Int) < (ys.length : Int)))) H7
        rw [e]
        exact q H7 f7
def sp_law_parameters (K : PySem.W.Frag) : Sp := fun vs H Q _ => ∃ (v u : V) (pg : Prog) (ns : List Nd) (n : Nd) (i : Nat), vs = [v, u] ∧ Is K H v (encG pg) ∧ Is K H u (rowD n) ∧ WfN pg ns ∧ Wf pg ∧ ns[i]? = some n ∧ isFn ns i = true ∧ ∀ H' p, Fr No H H' → H p = none → H' p = some (.lst ((pars pg n).map V.int)) → Q (.ref p) H'
theorem sc__law_parameters : FnScope ["_law_program_here", "_law_row", "_law_first", "_law_unknown"] ["_law_program_here", "_law_row"] (defScope Tx.s__law_parameters) := C8.fnScope_by (by decide +kernel)
theorem ok_law_parameters (Y : Hf K mg) : Cl CX0 P w K mg base 27 "_law_parameters" (sp_law_parameters K) := by
  refine Y.d__law_parameters.ok sc__law_parameters (fun vs H Q E h => ?_) (fun f cdv A outer s H vs Q E hr h => ?_)
  · obtain ⟨v, u, pg, ns, n, i, rfl, _⟩ := h; rfl
  have nd := sc__law_parameters.nd
  refine ⟨_, ((pss_cons (ps_if (pt_cmpR (op_eqD (n := 1) hr) (pe_ix ix_d (pv 1) pe_int fun _ _ => rfl) pe_str rfl)
        (pss_one (ps_ret (k_listT Y.z_list (kc (ok_unknowns Y) hr (pa_cons (pe_ix ix_d (pv 1) pe_int fun _ _ => rfl) pa_nil) (hk := by omega))))) pss_nil)
    (pss_cons (ps_set (i := 2) nd rfl (by first | exact .inl rfl | exact .inr rfl) (pe_ix ix_d (kc (ok_demand Y) hr (pa_cons (pv 0) (pa_cons (pe_ix ix_d (pv 1) pe_int fun _ _ => rfl) pa_nil)) (hk := by omega)) pe_int fun _ _ => rfl))
    (pss_one (ps_ret (pe_op op_cat (pe_lst (pa_cons (pv 2) pa_nil)) (pe_lc (own := [("_law_unknown", 3)]) (g := (gName 3)) (tt := (tB (tNeI (tVar 3) (tVar 2)))) (te := (tVar 3)) rfl nd (pi_tup (kc (ok_unknowns Y) hr (pa_cons (pe_ix ix_d (pv 1) pe_int fun _ _ => rfl) pa_nil) (hk := by omega))) (blkOk_by (own := [("_law_unknown", 3)]) (N := ["_law_program_here", "_law_row", "_law_first", "_law_unknown"]) (sc := defScope Tx.s__law_parameters) (by decide +kernel)) (fun _ _ _ _ _ => (pg_name (i := 3) nd rfl (by first | exact .inl rfl | exact .inr rfl))) (fun _ _ _ _ _ => (pts_one (pt_cmp (pc_neI (pv 3) (pv 2))))) (fun _ _ _ _ _ => (pv 3))))))))), ?_⟩
  obtain ⟨v, u, pg, ns, n, i, rfl, hv, hu, W, Wp, en, hF, q⟩ := h
  have hmem := List.mem_of_getElem? en
  have hk := kinds_fine _ (W.kd n hmem)
  have hz := W.sz n hmem
  refine strT rfl hu ?_ hk
  unfold pars at q
  cases c2 : (n.kind == ("stepped" : Str)) with
  | true =>
    rw [if_pos (eq_of_beq c2)] at q
    refine iteT ⟨_, rfl, _, 1, _, rfl, hu, rfl, fun w1 hw1 => ⟨w1, n.term, rfl, hw1, by omega, fun w2 H2 f2 hw2 => ?_⟩⟩
    obtain ⟨a, xs, rfl, ta, ia⟩ := hw2.tupE
    have hxs := isAll_intsV ia
    subst hxs
    exact ⟨a, _, rfl, .inr ta.sq, fun l hl => q _ l (f2.trans (Fr.new0 hl)) (f2.freeN hl) upd_same⟩
  | false =>
    have nst : ¬ n.kind = ("stepped" : Str) := fun z => by rw [z, beq_self_eq_true] at c2; cases c2
    rw [if_neg nst] at q
    obtain ⟨j, g, hd, _⟩ := (W.ok n hmem).bran ((isFn_kind en hF).elim id fun z => absurd z nst)
    rw [hd] at q
    refine iteF (nextE ⟨_, rfl, _, rfl, _, 1, _, rfl, hu, rfl, fun w1 hw1 => ⟨v, w1, pg, n.term, rfl, hv, hw1, Wp, W.kn n hmem, by omega, fun w3 H3 f3 hw3 => ?_⟩⟩)
    rw [hd] at hw3
    refine ⟨_, 1, .int j, rfl, hw3, rfl, fun w4 hw4 => ?_⟩
    obtain rfl := hw4.intE
    refine ⟨_, rfl, le_line (by show 1 ≤ 16000000; decide), fun l hl => ?_⟩
    have f4 : Fr No H3 (upd H3 l (.lst [.int j])) := Fr.new0 hl
    have f34 := f3.trans f4
    refine ⟨_, rfl, _, 1, _, rfl, hu.fr f34, rfl, fun w5 hw5 => ⟨w5, n.term, rfl, hw5, by omega, fun w6 H6 f6 hw6 => ?_⟩⟩
    obtain ⟨a6, xs6, rfl, ta, ia⟩ := hw6.tupE
    have hul := unks_len n.term
    refine ⟨a6, rfl, ⟨_, ta.sq⟩, fun D hD => lcD (K := K) (l := unks n.term) (en := PyData.int) (f := fun u => if u = j then none else some (.int u)) (dwT (S := No) ta ia) hD (by omega) (fun u x H7 yes no _ f7 hx yesH noH => ?_) fun H7 ys f7 hD7 hys => ?_⟩
    · obtain rfl := hx.intE
      refine ⟨rfl, _, rfl, _, rfl, u, j, rfl, rfl, _, rfl, ?_⟩
      by_cases c : u = j
      · exact ifNDF c (noH H7 .refl (if_pos c))
      · exact ifNDT c ⟨_, rfl, yesH _ H7 _ .refl (.int _) (if_neg c)⟩
    · have e1 : (unks n.term).filterMap (fun u => if u = j then none else some (PyData.int u)) = ((unks n.term).filter fun u => decide (u ≠ j)).map PyData.int := by
        induction unks n.term with
        | nil => rfl
        | cons x l ih =>
          rw [List.filterMap_cons, List.filter_cons]
          by_cases c : x = j
          · rw [if_pos c, if_neg (by simpa using c)]; exact ih
          · rw [if_neg c, if_pos (by simpa using c), List.map_cons, ih]
      rw [e1] at hys
      have hyv := isAll_intsV hys
      subst hyv
      have hl7 := (f6.trans f7).kn (show (upd H3 l (.lst [.int j])) l = some (.lst [.int j]) from upd_same)
      refine ⟨l, D, _, _, rfl, rfl, hl7, hD7, le_line ?_, fun p hp => ?_⟩
      · rw [List.length_map]
        have := List.length_filter_le (fun u => decide (u ≠ j)) (unks n.term)
        show 1 + _ ≤ 16000000
        omega
      · have f8 := (f34.trans (f6.trans f7))
        exact q _ p (f8.trans (Fr.new0 hp)) (f8.freeN hp) upd_same
end
end DF

namespace DF
open PySem PySem.Spec PyProof.Rows L2 RZ
/-! ### drawn terms -/
def nmsL : List Str := ["Z", "Nil", "T", "add", "S", "app", "Cons", "rev", "map", "twice", "even", "k", "f", "g", "one", "loop"]
theorem nms_good : ∀ s ∈ nmsL, good s = true := by
  have h : (nmsL.all good) = true := by decide +kernel
  exact fun s hs => List.all_eq_true.mp h s hs
theorem hds_ok : ∀ p ∈ hds, fine (.str p.1) = true ∧ (p.1 = ("?" : Str) ∨ p.1 ∈ nmsL) ∧ 0 ≤ p.2 ∧ p.2 ≤ 2 := by
  have h : (hds.all fun p => decide (fine (.str p.1) = true ∧ (p.1 = ("?" : Str) ∨ p.1 ∈ nmsL) ∧ 0 ≤ p.2 ∧ p.2 ≤ 2)) = true := by decide +kernel
  exact fun p hp => of_decide_eq_true (List.all_eq_true.mp h p hp)
/-- a drawn term: unknowns below m, names of the list -/
def TmOk (m : Nat) (t : T) : Prop := ∀ h ∈ t.heads, (∃ i : Nat, i < m ∧ h = .u i) ∨ ∃ x : Nm, h = .c x ∧ x.s ∈ nmsL
theorem TmOk.var {m i : Nat} (h : i < m) : TmOk m (.lf (.u i)) := fun g hg => .inl ⟨i, h, List.mem_singleton.mp hg⟩
theorem TmOk.con {m : Nat} {x : Nm} (h : x.s ∈ nmsL) : TmOk m (.lf (.c x)) := fun g hg => .inr ⟨x, List.mem_singleton.mp hg, h⟩
theorem TmOk.aps {m : Nat} {h : Hd} {ts : List T} (h0 : TmOk m (.lf h)) (hs : ∀ t ∈ ts, TmOk m t) : TmOk m ((T.lf h).aps ts) := fun g hg => by
  rw [T.heads_aps] at hg
  rcases List.mem_append.mp hg with hg | hg
  · exact h0 g hg
  · obtain ⟨l, hl, hh⟩ := List.mem_flatten.mp hg
    obtain ⟨t, ht, rfl⟩ := List.mem_map.mp hl
    exact hs t ht g hh
def szB : Nat → Nat
  | 0 => 1
  | d + 1 => 1 + 3 * szB d
theorem szB_pos (d : Nat) : 1 ≤ szB d := by cases d <;> simp [szB]
theorem ifBoth {p : Prop} [Decidable p] {A B : Prop} {R : Nat → Hp → Prop} {G : Nat → Hp → Prop} (tail : ∀ c H, G c H → R c H) (a : p → (∀ c H, G c H → R c H) → A) (b : ¬ p → (∀ c H, G c H → R c H) → B) : if decide p = true then A else B := ifET (fun c => a c tail) fun c => b c tail
section
variable {P : Program} {w : World} {K : PySem.W.Frag} {mg : Str → Option Value} {base : Heap}
def sp_law_term (K : PySem.W.Frag) (n : Nat) : Sp := fun vs H Q _ => ∃ (tp nl hl : Addr) (xs : List V) (m d : Nat), vs = [.ref tp, .ref hl, .int (m : Nat), .int (d : Nat)] ∧ Tap H tp nl ∧ H hl = some (.lst xs) ∧ IsAll K H xs (hds.map hdE) ∧ hl ≠ tp ∧ d < n ∧
  ∀ t v H', Fr (At tp) H H' → Tap H' tp nl → Tm K H' v t → TmOk m t → t.size ≤ szB d → Q v H'
theorem sc__law_term : FnScope ["_law_tape_here", "_law_heads_here", "_law_most", "_law_depth", "_law_choice", "_law_head", "_law_count", "_law_k"] ["_law_tape_here", "_law_heads_here", "_law_most", "_law_depth"] (defScope Tx.s__law_term) := C8.fnScope_by (by decide +kernel)
theorem ok_law_term (Y : Hf K mg) : ∀ n : Nat, Cl CX0 P w K mg base (n + 1) "_law_term" (sp_law_term K n)
  | 0 => Y.d__law_term.zero fun vs H Q E h => by
    obtain ⟨tp, nl, hl, xs, m, d, rfl, _, _, _, _, h, _⟩ := h
    omega
  | n + 1 => by
    have ih := ok_law_term Y n
    refine Y.d__law_term.ok sc__law_term (fun vs H Q E h => ?_) (fun f cdv A outer s H vs Q E hr h => ?_)
    · obtain ⟨tp, nl, hl, xs, m, d, rfl, _⟩ := h; rfl
    have nd := sc__law_term.nd
    refine ⟨_, ((pss_cons (ps_set (i := 4) nd rfl (by first | exact .inl rfl | exact .inr rfl) (kc (ok_law_next Y) hr (pa_cons (pv 0) (pa_cons pe_int pa_nil)) (hk := by omega)))
    (pss_cons (ps_if (PW.pt (pw_or (pt_cmp (pc_eqI (pv 3) pe_int)) (pw_or1 (pt_cmp (pc_eqI (pv 4) pe_int)))))
        (pss_cons (ps_if (PW.pt (pw_and (pt_cmp (pc_gt (pv 2) pe_int)) (pw_and1 (pt_cmp (pc_gt (kc (ok_law_next Y) hr (pa_cons (pv 0) (pa_cons pe_int pa_nil)) (hk := by omega)) pe_int)))))
            (pss_one (ps_ret (pe_tupD (pa_cons (kc (ok_law_next Y) hr (pa_cons (pv 0) (pa_cons (pv 2) pa_nil)) (hk := by omega)) (pa_cons (pe_tupD pa_nil) pa_nil))))) pss_nil)
        (pss_one (ps_ret (pe_tupD (pa_cons (pe_ix ix_list (pe_lst (pa_cons pe_str (pa_cons pe_str (pa_cons pe_str pa_nil)))) (kc (ok_law_next Y) hr (pa_cons (pv 0) (pa_cons pe_int pa_nil)) (hk := by omega)) fun _ _ => rfl) (pa_cons (pe_tupD pa_nil) pa_nil)))))) pss_nil)
    (pss_cons (ps_set (i := 5) nd rfl (by first | exact .inl rfl | exact .inr rfl) (pe_ix ix_list (pv 1) (kc (ok_law_next Y) hr (pa_cons (pv 0) (pa_cons (k_lenL Y.z_len (pv 1)) pa_nil)) (hk := by omega)) fun _ _ => rfl))
    (pss_cons (ps_if (pt_cmpR (op_eqD (n := 1) hr) (pe_ix ix_d (pv 5) pe_int fun _ _ => rfl) pe_str rfl)
        (pss_cons (ps_if (pt_cmp (pc_eqI (pv 2) pe_int))
            (pss_one (ps_ret (pe_tupD (pa_cons pe_str (pa_cons (pe_tupD pa_nil) pa_nil))))) pss_nil)
        (pss_one (ps_ret (pe_tupD (pa_cons (kc (ok_law_next Y) hr (pa_cons (pv 0) (pa_cons (pv 2) pa_nil)) (hk := by omega)) (pa_cons (pe_tupD (pa_cons (kc ih hr (pa_cons (pv 0) (pa_cons (pv 1) (pa_cons (pv 2) (pa_cons (pe_sub (pv 3) pe_int) pa_nil)))) (hk := by omega)) pa_nil)) pa_nil)))))) pss_nil)
    (pss_cons (ps_set (i := 6) nd rfl (by first | exact .inl rfl | exact .inr rfl) (pe_ix ix_d (pv 5) pe_int fun _ _ => rfl))
    (pss_cons (ps_if (pt_cmp (pc_eqI (kc (ok_law_next Y) hr (pa_cons (pv 0) (pa_cons pe_int pa_nil)) (hk := by omega)) pe_int))
        (pss_one (ps_set (i := 6) nd rfl (by first | exact .inl rfl | exact .inr rfl) (kc (ok_law_next Y) hr (pa_cons (pv 0) (pa_cons pe_int pa_nil)) (hk := by omega)))) pss_nil)
    (pss_one (ps_ret (pe_tupD (pa_cons (pe_ix ix_d (pv 5) pe_int fun _ _ => rfl) (pa_cons (k_tup Y.z_tuple (pe_lc (own := [("_law_k", 7)]) (g := (gName 7)) (tt := tYes) (te := (tCall (sp_law_term K n) [] E0 (tCons (tVar 0) (tCons (tVar 1) (tCons (tVar 2) (tCons (tSub (tVar 3) (tC (.int 1))) tNil)))))) rfl nd (pi_range1 rfl Y.z_range (pa_cons (pv 6) pa_nil)) (blkOk_by (own := [("_law_k", 7)]) (N := ["_law_tape_here", "_law_heads_here", "_law_most", "_law_depth", "_law_choice", "_law_head", "_law_count", "_law_k"]) (sc := defScope Tx.s__law_term) (by decide +kernel)) (fun _ _ _ _ _ => (pg_name (i := 7) nd rfl (by first | exact .inl rfl | exact .inr rfl))) (fun _ _ _ _ _ => pts_nil) (fun _ _ _ _ _ => (kc ih hr (pa_cons (pv 0) (pa_cons (pv 1) (pa_cons (pv 2) (pa_cons (pe_sub (pv 3) pe_int) pa_nil)))) (hk := by omega))))) pa_nil)))))))))))), ?_⟩
    obtain ⟨tp, nl, hl, xs, m, d, rfl, T0, hhl, hxs, hne, hd, q⟩ := h
    have leaf : ∀ {h : Hd} {v : V} {H1 H2 : Hp}, TmOk m (.lf h) → Fr (At tp) H H1 → Tap H1 tp nl → Fr No H1 H2 → Is K H2 v (.tuple [hdD h, .tuple []]) → Q v H2 := fun {h v H1 H2} ok f1 T1 f2 hv => q (.lf h) v H2 (f1.trans f2.no) (T1.kn f2) hv ok (szB_pos d)
    refine ⟨_, rfl, tp, nl, 4, rfl, T0, by decide, fun ch H1 hch f1 T1 => ?_⟩
    have leaf2 : ∀ {i : Nat} {v : V} {H1 H2 : Hp}, i < 3 → Fr (At tp) H H1 → Tap H1 tp nl → Fr No H1 H2 → (∀ c : Str, [("Z" : Str), "Nil", "T"][i]? = some c → Is K H2 v (.tuple [.str c, .tuple []])) → Q v H2 := fun {i v H1 H2} hi f1 T1 f2 hv => by
      obtain ⟨c, hc⟩ : ∃ c, [("Z" : Str), "Nil", "T"][i]? = some c := ⟨_, List.getElem?_eq_getElem hi⟩
      have hm : c ∈ nmsL := by
        have := List.mem_of_getElem? hc
        have h : ([("Z" : Str), "Nil", "T"].all fun c => decide (c ∈ nmsL)) = true := by decide +kernel
        exact of_decide_eq_true (List.all_eq_true.mp h c this)
      exact leaf (h := .c ⟨c, nms_good c hm⟩) (TmOk.con hm) f1 T1 f2 (hv c hc)
    show tOr (tB (tEqI (tVar 3) (tC (.int 0)))) (tB (tEqI (tVar 4) (tC (.int 0)))) [some (.ref tp), some (.ref hl), some (.int (m : Nat)), some (.int (d : Nat)), some (.int (ch : Nat)), none, none, none] H1 _
    refine orE (c1 := decide ((d : Int) = 0)) (c2 := decide ((ch : Int) = 0)) (fun Q h => ⟨_, rfl, _, _, rfl, rfl, _, rfl, h⟩) (fun _ Q h => ⟨_, rfl, _, _, rfl, rfl, _, rfl, h⟩) ?_
    cases c0 : (decide ((d : Int) = 0) || decide ((ch : Int) = 0)) with
    | true =>
      refine iteT ?_
      -- the test most > 0 and next(3) > 0
      refine ⟨_, rfl, _, _, rfl, rfl, _, rfl, ?_⟩
      apply ifBoth (G := fun (_ : Nat) H2 => Fr (At tp) H H2 ∧ Tap H2 tp nl)
      case a =>
        intro c C
        refine ⟨_, rfl, tp, nl, 3, rfl, T1, by decide, fun i H2 hi f2 T2 => ⟨_, _, rfl, rfl, _, rfl, ifET (fun c2 => ?_) fun c2 => C i H2 ⟨f1.trans f2, T2⟩⟩⟩
        refine ⟨_, rfl, _, rfl, tp, nl, m, rfl, T2, by omega, fun i H3 hi3 f3 T3 => ⟨[], .nil, Nat.zero_le _, fun v4 H4 f4 hv4 => ⟨_, .cons (.int _) (.cons hv4 .nil), by show 2 ≤ 16000000; decide, fun v5 H5 f5 hv5 => ?_⟩⟩⟩
        exact leaf (TmOk.var hi3) ((f1.trans f2).trans f3) T3 (f4.trans f5) hv5
      case b =>
        intro c C
        exact C 0 H1 ⟨f1, T1⟩
      case tail =>
        intro _ H2 g
        obtain ⟨f2, T2⟩ := g
        refine ⟨le_line (le16 (Nat.le_of_ble_eq_true rfl)), fun l hl' => ?_⟩
        have f3 : Fr No H2 (upd H2 l (.lst [.str "Z", .str "Nil", .str "T"])) := Fr.new0 hl'
        have hl3 : (upd H2 l (.lst [.str "Z", .str "Nil", .str "T"])) l = some (.lst ([("Z" : Str), "Nil", "T"].map V.str)) := upd_same
        have ntl : tp ≠ l := by
          obtain ⟨_, _, _, h, _⟩ := T2.ex
          exact ne_of_none h hl'
        refine ⟨_, rfl, tp, nl, 3, rfl, T2.kn f3, by decide, fun i H4 hi f4 T4 => ?_⟩
        obtain ⟨c, hc⟩ : ∃ c, [("Z" : Str), "Nil", "T"][i]? = some c := ⟨_, List.getElem?_eq_getElem hi⟩
        refine ⟨l, _, _, .str c, rfl, rfl, SqL.of (f4.k l _ (fun z => ntl z.symm) hl3), by rw [atI_nat, List.getElem?_map, hc]; rfl, [], .nil, Nat.zero_le _, fun v5 H5 f5 hv5 => ⟨_, .cons (.str _) (.cons hv5 .nil), by show 2 ≤ 16000000; decide, fun v6 H6 f6 hv6 => ?_⟩⟩
        exact leaf2 hi ((f2.trans f3.no).trans f4) T4 (f5.trans f6) fun c' hc' => by rw [hc] at hc'; cases hc'; exact hv6
    | false =>
      have hd0 : d ≠ 0 := fun z => by rw [z] at c0; cases c0
      obtain ⟨d', rfl⟩ : ∃ d', d = d' + 1 := ⟨d - 1, by omega⟩
      have edn : V.int (((d' + 1 : Nat) : Int) - 1) = V.int (d' : Nat) := congrArg V.int (by omega)
      have hhl1 := f1.k hl _ hne hhl
      have hxs1 := hxs.fr f1
      have hxl : xs.length = 17 := hxs.len
      refine iteF ⟨_, rfl, _, rfl, _, rfl, hl, _, rfl, .inl (SqL.of hhl1), tp, nl, xs.length, rfl, T1, by omega, fun i H2 hi f2 T2 => ?_⟩
      have hhl2 := f2.k hl _ hne hhl1
      have hxs2 := hxs1.fr f2
      have f02 := f1.trans f2
      obtain ⟨p, ep⟩ : ∃ p, hds[i]? = some p := ⟨_, List.getElem?_eq_getElem (by show i < 17; omega)⟩
      obtain ⟨x, ex, hx⟩ := hxs2.at (show (hds.map hdE)[i]? = some (hdE p) by rw [List.getElem?_map, ep]; rfl)
      obtain ⟨p1, p2, p3, p4⟩ := hds_ok p (List.mem_of_getElem? ep)
      obtain ⟨px, pn⟩ := p
      dsimp only at p1 p2 p3 p4
      obtain ⟨cn0, rfl⟩ : ∃ c : Nat, pn = (c : Int) := ⟨pn.toNat, by omega⟩
      have hx : Is K H2 x (.tuple [.str px, .int (cn0 : Nat)]) := hx
      refine ⟨hl, _, _, x, rfl, rfl, SqL.of hhl2, by rw [atI_nat]; exact ex, ?_⟩
      refine strT rfl hx ?_ p1
      cases cq : (px == ("?" : Str)) with
      | true =>
        refine iteT ⟨_, rfl, _, _, rfl, rfl, _, rfl, ifET (fun c => ?_) fun c => ?_⟩
        · refine ⟨[], .nil, Nat.zero_le _, fun v4 H4 f4 hv4 => ⟨_, .cons (.str _) (.cons hv4 .nil), by show 2 ≤ 16000000; decide, fun v5 H5 f5 hv5 => ?_⟩⟩
          exact leaf (h := .c ⟨"Z", by decide +kernel⟩) (TmOk.con (by show ("Z" : Str) ∈ nmsL; decide +kernel)) f02 T2 (f4.trans f5) hv5
        · refine ⟨_, rfl, _, rfl, tp, nl, m, rfl, T2, by omega, fun j H3 hj f3 T3 => ?_⟩
          refine ⟨_, rfl, _, rfl, _, rfl, _, rfl, _, _, rfl, rfl, tp, nl, hl, xs, m, d', by rw [edn]; rfl, T3, f3.k hl _ hne hhl2, hxs2.fr f3, hne, by omega, fun t v4 H4 f4 T4 hv4 ok hz => ?_⟩
          refine ⟨_, .cons hv4 .nil, by show 1 ≤ 16000000; decide, fun v5 H5 f5 hv5 => ⟨_, .cons (.int _) (.cons hv5 .nil), by show 2 ≤ 16000000; decide, fun v6 H6 f6 hv6 => ?_⟩⟩
          refine q ((T.lf (.u (j : Nat))).aps [t]) v6 H6 ((f02.trans f3).trans (f4.trans (f5.trans f6).no)) (T4.kn (f5.trans f6)) ?_ (TmOk.aps (TmOk.var hj) fun u hu => by rw [List.mem_singleton.mp hu]; exact ok) ?_
          · exact Tm.ofMk (h := .u (j : Nat)) (as := [t]) hv6
          · rw [T.size_mk, T.sizes_cons]
            show 1 + (t.size + 0) ≤ 1 + 3 * szB d'
            omega
      | false =>
        have hpn : px ∈ nmsL := p2.elim (fun z => by rw [z, beq_self_eq_true] at cq; cases cq) id
        refine iteF ⟨_, rfl, _, 1, _, rfl, hx, rfl, fun z hz => ?_⟩
        obtain rfl := hz.intE
        refine ⟨_, rfl, tp, nl, 8, rfl, T2, by decide, fun j H3 hj f3 T3 => ⟨_, _, rfl, rfl, _, rfl, ?_⟩⟩
        apply ifBoth (G := fun (cn : Nat) H4 => cn ≤ 3 ∧ Fr (At tp) H2 H4 ∧ Tap H4 tp nl)
        case a =>
          intro c C
          exact ⟨_, rfl, tp, nl, 4, rfl, T3, by decide, fun i H4 hi4 f4 T4 => C i H4 ⟨by omega, f3.trans f4, T4⟩⟩
        case b =>
          intro c C
          exact C cn0 H3 ⟨by omega, f3, T3⟩
        case tail =>
          intro cn H4 g
          obtain ⟨hcn, f4, T4⟩ := g
          refine ⟨_, rfl, _, 0, _, rfl, hx.fr f4, rfl, fun z hz => ?_⟩
          obtain rfl := hz.strE
          have hhl4 := f4.k hl _ hne hhl2
          have hxs4 := hxs2.fr f4
          refine ⟨_, rfl, (cn : Int), rfl, by omega, by omega, fun D hD => ?_⟩
          have nhD : hl ≠ D := ne_of_none hhl4 hD
          obtain ⟨nT1, nT2⟩ : tp ≠ D ∧ nl ≠ D := by
            obtain ⟨_, _, _, h1, h2⟩ := T4.ex
            exact ⟨ne_of_none h1 hD, ne_of_none h2 hD⟩
          refine lc_it (dwR (K := K) (S := fun b => b = D ∨ b = tp) (H1 := H4) (lo := 0) (n := cn)) (fun j H' => Fr (fun b => b = D ∨ b = tp) H4 H' ∧ ∃ (ys : List V) (ts : List T), H' D = some (.lst ys) ∧ IsAll K H' ys (ts.map enc) ∧ ts.length = j ∧ (∀ t ∈ ts, TmOk m t ∧ t.size ≤ szB d') ∧ Tap H' tp nl)
            ⟨Fr.new0 hD, [], [], upd_same, .nil, rfl, fun t ht => absurd ht List.not_mem_nil, T4.kn (Fr.new0 hD)⟩ (fun j H' _ z => z.1) (fun j x H5 H6 hlt z yy => ?_) fun H5 z => ?_
          · obtain ⟨f5, ys, ts, hD5, hys, hl5, ht5, T5⟩ := z
            obtain ⟨f6, _, _, _⟩ := yy
            rw [List.length_map, List.length_range] at hlt
            have f56 := f5.trans f6.no
            refine ⟨rfl, yesT ⟨_, rfl, _, rfl, _, rfl, _, rfl, _, _, rfl, rfl, tp, nl, hl, xs, m, d', by rw [edn]; rfl, T5.kn f6, f56.k hl _ (fun z => z.elim nhD hne) hhl4, hxs4.fr f56, hne, by omega, fun t v7 H7 f7 T7 hv7 ok hz => ?_⟩⟩
            have hD7 := f7.k D _ (fun z => nT1 z.symm) (f6.kn hD5)
            have f7' : Fr (fun b => b = D ∨ b = tp) H6 H7 := f7.mono fun b z => .inr z
            refine ⟨ys, hD7, lt_line (by rw [hys.len, List.length_map]; omega), ?_⟩
            have g8 : Fr (fun b => b = D ∨ b = tp) H7 (upd H7 D (.lst (ys ++ [v7]))) := Fr.refl.mut (.inl rfl) hD7 fun z => z
            refine ⟨(f56.trans f7').trans g8, _, ts ++ [t], upd_same, ?_, by rw [List.length_append, hl5]; rfl, fun u hu => ?_, T7.fr (Fr.refl.mut (S := At D) rfl hD7 fun z => z) nT1 nT2⟩
            · rw [List.map_append]
              exact (((hys.fr f6).fr f7').fr g8).append (.cons (Is.fr g8 hv7) .nil)
            · rcases List.mem_append.mp hu with hu | hu
              · exact ht5 u hu
              · rw [List.mem_singleton.mp hu]; exact ⟨ok, hz⟩
          · obtain ⟨f5, ys, ts, hD5, hys, hl5, ht5, T5⟩ := z
            rw [List.length_map, List.length_range] at hl5
            refine ⟨D, ys, _, rfl, hD5, hys, fun w6 H6 f6 hw6 => ⟨_, .cons (.str _) (.cons hw6 .nil), by show 2 ≤ 16000000; decide, fun w7 H7 f7 hw7 => ?_⟩⟩
            have f47 : Fr (At tp) H4 H7 := by
              have z : Fr (fun b => b = D ∨ b = tp) H4 H7 := f5.trans (f6.trans f7).no
              refine z.less fun b hb hn => ?_
              rcases hb with e | e
              · rw [e]; exact hD
              · exact absurd e hn
            refine q ((T.lf (.c ⟨px, nms_good px hpn⟩)).aps ts) w7 H7 ((f02.trans f4).trans f47) (T5.kn (f6.trans f7)) (Tm.ofMk (h := .c ⟨px, nms_good px hpn⟩) hw7) (TmOk.aps (TmOk.con hpn) fun u hu => (ht5 u hu).1) ?_
            rw [T.size_mk]
            have h1 := sizes_le (ts := ts) (M := szB d') fun u hu => (ht5 u hu).2
            have h2 : szB d' * ts.length ≤ szB d' * 3 := Nat.mul_le_mul_left _ (by omega)
            show 1 + T.sizes ts ≤ 1 + 3 * szB d'
            omega
end
end DF

namespace DF
open PySem PySem.Spec PyProof.Rows L2 RZ
/-! ### the program -/
abbrev nm (s : Str) (h : good s = true := by decide +kernel) : Nm := ⟨s, h⟩
abbrev cc (x : Nm) (ts : List T) : T := (T.lf (.c x)).aps ts
abbrev uu (i : Int) (ts : List T) : T := (T.lf (.u i)).aps ts
def progD (t1 t2 t3 : T) : Prog := [
  .cases (nm "add") 2 [⟨nm "Z", 0, vr 0⟩, ⟨nm "S", 1, cc (nm "S") [cc (nm "add") [vr 0, vr 1]]⟩],
  .cases (nm "app") 2 [⟨nm "Nil", 0, vr 0⟩, ⟨nm "Cons", 2, cc (nm "Cons") [vr 0, cc (nm "app") [vr 1, vr 2]]⟩],
  .cases (nm "rev") 2 [⟨nm "Nil", 0, vr 0⟩, ⟨nm "Cons", 2, cc (nm "rev") [vr 1, cc (nm "Cons") [vr 0, vr 2]]⟩],
  .cases (nm "map") 2 [⟨nm "Nil", 0, cc (nm "Nil") []⟩, ⟨nm "Cons", 2, cc (nm "Cons") [uu 2 [vr 0], cc (nm "map") [vr 1, vr 2]]⟩],
  .cases (nm "even") 1 [⟨nm "Z", 0, cc (nm "T") []⟩, ⟨nm "S", 1, cc (nm "odd") [vr 0]⟩],
  .cases (nm "odd") 1 [⟨nm "Z", 0, cc (nm "F") []⟩, ⟨nm "S", 1, cc (nm "even") [vr 0]⟩],
  .plain (nm "twice") 2 (uu 0 [uu 0 [vr 1]]),
  .plain (nm "k") 2 (vr 0),
  .plain (nm "one") 0 (cc (nm "S") [cc (nm "Z") []]),
  .plain (nm "loop") 1 (cc (nm "loop") [vr 0]),
  .plain (nm "f") 2 t1,
  .cases (nm "g") 2 [⟨nm "Z", 0, t2⟩, ⟨nm "S", 1, t3⟩]]
section
variable {P : Program} {w : World} {K : PySem.W.Frag} {mg : Str → Option Value} {base : Heap}
def sp_law_program (K : PySem.W.Frag) : Sp := fun vs H Q _ => ∃ (tp nl : Addr), vs = [.ref tp] ∧ Tap H tp nl ∧ ∀ t1 t2 t3 v H', Fr (At tp) H H' → Tap H' tp nl → Is K H' v (encG (progD t1 t2 t3)) → TmOk 2 t1 ∧ t1.size ≤ 13 → TmOk 1 t2 ∧ t2.size ≤ 13 → TmOk 2 t3 ∧ t3.size ≤ 13 → Q v H'
theorem sc__law_program : FnScope ["_law_tape_here", "_law_x", "_law_y", "_law_z", "_law_zero", "_law_add", "_law_app", "_law_rev", "_law_mapped", "_law_maps", "_law_even", "_law_odd", "_law_plain", "_law_loop", "_law_heads_here", "_law_first", "_law_rules", "_law_second"] ["_law_tape_here"] (defScope Tx.s__law_program) := C8.fnScope_by (by decide +kernel)
theorem ok_law_program (Y : Hf K mg) : Cl CX0 P w K mg base 6 "_law_program" (sp_law_program K) := by
  refine Y.d__law_program.ok sc__law_program (fun vs H Q E h => ?_) (fun f cdv A outer s H vs Q E hr h => ?_)
  · obtain ⟨tp, nl, rfl, _⟩ := h; rfl
  have nd := sc__law_program.nd
  refine ⟨_, ((pss_cons (ps_set (i := 1) nd rfl (by first | exact .inl rfl | exact .inr rfl) (pe_tupD (pa_cons pe_int (pa_cons (pe_tupD pa_nil) pa_nil))))
    (pss_cons (ps_set (i := 2) nd rfl (by first | exact .inl rfl | exact .inr rfl) (pe_tupD (pa_cons pe_int (pa_cons (pe_tupD pa_nil) pa_nil))))
    (pss_cons (ps_set (i := 3) nd rfl (by first | exact .inl rfl | exact .inr rfl) (pe_tupD (pa_cons pe_int (pa_cons (pe_tupD pa_nil) pa_nil))))
    (pss_cons (ps_set (i := 4) nd rfl (by first | exact .inl rfl | exact .inr rfl) (pe_tupD (pa_cons pe_str (pa_cons (pe_tupD pa_nil) pa_nil))))
    (pss_cons (ps_set (i := 5) nd rfl (by first | exact .inl rfl | exact .inr rfl) (pe_tupD (pa_cons pe_str (pa_cons pe_str (pa_cons pe_int (pa_cons (pe_tupD (pa_cons (pe_tupD (pa_cons pe_str (pa_cons pe_int (pa_cons (pv 1) pa_nil)))) (pa_cons (pe_tupD (pa_cons pe_str (pa_cons pe_int (pa_cons (pe_tupD (pa_cons pe_str (pa_cons (pe_tupD (pa_cons (pe_tupD (pa_cons pe_str (pa_cons (pe_tupD (pa_cons (pv 1) (pa_cons (pv 2) pa_nil))) pa_nil))) pa_nil)) pa_nil))) pa_nil)))) pa_nil))) pa_nil))))))
    (pss_cons (ps_set (i := 6) nd rfl (by first | exact .inl rfl | exact .inr rfl) (pe_tupD (pa_cons pe_str (pa_cons pe_str (pa_cons pe_int (pa_cons (pe_tupD (pa_cons (pe_tupD (pa_cons pe_str (pa_cons pe_int (pa_cons (pv 1) pa_nil)))) (pa_cons (pe_tupD (pa_cons pe_str (pa_cons pe_int (pa_cons (pe_tupD (pa_cons pe_str (pa_cons (pe_tupD (pa_cons (pv 1) (pa_cons (pe_tupD (pa_cons pe_str (pa_cons (pe_tupD (pa_cons (pv 2) (pa_cons (pv 3) pa_nil))) pa_nil))) pa_nil))) pa_nil))) pa_nil)))) pa_nil))) pa_nil))))))
    (pss_cons (ps_set (i := 7) nd rfl (by first | exact .inl rfl | exact .inr rfl) (pe_tupD (pa_cons pe_str (pa_cons pe_str (pa_cons pe_int (pa_cons (pe_tupD (pa_cons (pe_tupD (pa_cons pe_str (pa_cons pe_int (pa_cons (pv 1) pa_nil)))) (pa_cons (pe_tupD (pa_cons pe_str (pa_cons pe_int (pa_cons (pe_tupD (pa_cons pe_str (pa_cons (pe_tupD (pa_cons (pv 2) (pa_cons (pe_tupD (pa_cons pe_str (pa_cons (pe_tupD (pa_cons (pv 1) (pa_cons (pv 3) pa_nil))) pa_nil))) pa_nil))) pa_nil))) pa_nil)))) pa_nil))) pa_nil))))))
    (pss_cons (ps_set (i := 8) nd rfl (by first | exact .inl rfl | exact .inr rfl) (pe_tupD (pa_cons pe_str (pa_cons (pe_tupD (pa_cons (pe_tupD (pa_cons pe_int (pa_cons (pe_tupD (pa_cons (pv 1) pa_nil)) pa_nil))) (pa_cons (pe_tupD (pa_cons pe_str (pa_cons (pe_tupD (pa_cons (pv 2) (pa_cons (pv 3) pa_nil))) pa_nil))) pa_nil))) pa_nil))))
    (pss_cons (ps_set (i := 9) nd rfl (by first | exact .inl rfl | exact .inr rfl) (pe_tupD (pa_cons pe_str (pa_cons pe_str (pa_cons pe_int (pa_cons (pe_tupD (pa_cons (pe_tupD (pa_cons pe_str (pa_cons pe_int (pa_cons (pe_tupD (pa_cons pe_str (pa_cons (pe_tupD pa_nil) pa_nil))) pa_nil)))) (pa_cons (pe_tupD (pa_cons pe_str (pa_cons pe_int (pa_cons (pv 8) pa_nil)))) pa_nil))) pa_nil))))))
    (pss_cons (ps_set (i := 10) nd rfl (by first | exact .inl rfl | exact .inr rfl) (pe_tupD (pa_cons pe_str (pa_cons pe_str (pa_cons pe_int (pa_cons (pe_tupD (pa_cons (pe_tupD (pa_cons pe_str (pa_cons pe_int (pa_cons (pe_tupD (pa_cons pe_str (pa_cons (pe_tupD pa_nil) pa_nil))) pa_nil)))) (pa_cons (pe_tupD (pa_cons pe_str (pa_cons pe_int (pa_cons (pe_tupD (pa_cons pe_str (pa_cons (pe_tupD (pa_cons (pv 1) pa_nil)) pa_nil))) pa_nil)))) pa_nil))) pa_nil))))))
    (pss_cons (ps_set (i := 11) nd rfl (by first | exact .inl rfl | exact .inr rfl) (pe_tupD (pa_cons pe_str (pa_cons pe_str (pa_cons pe_int (pa_cons (pe_tupD (pa_cons (pe_tupD (pa_cons pe_str (pa_cons pe_int (pa_cons (pe_tupD (pa_cons pe_str (pa_cons (pe_tupD pa_nil) pa_nil))) pa_nil)))) (pa_cons (pe_tupD (pa_cons pe_str (pa_cons pe_int (pa_cons (pe_tupD (pa_cons pe_str (pa_cons (pe_tupD (pa_cons (pv 1) pa_nil)) pa_nil))) pa_nil)))) pa_nil))) pa_nil))))))
    (pss_cons (ps_set (i := 12) nd rfl (by first | exact .inl rfl | exact .inr rfl) (pe_tupD (pa_cons (pe_tupD (pa_cons pe_str (pa_cons pe_str (pa_cons pe_int (pa_cons (pe_tupD (pa_cons pe_int (pa_cons (pe_tupD (pa_cons (pe_tupD (pa_cons pe_int (pa_cons (pe_tupD (pa_cons (pv 2) pa_nil)) pa_nil))) pa_nil)) pa_nil))) pa_nil))))) (pa_cons (pe_tupD (pa_cons pe_str (pa_cons pe_str (pa_cons pe_int (pa_cons (pv 1) pa_nil))))) (pa_cons (pe_tupD (pa_cons pe_str (pa_cons pe_str (pa_cons pe_int (pa_cons (pe_tupD (pa_cons pe_str (pa_cons (pe_tupD (pa_cons (pv 4) pa_nil)) pa_nil))) pa_nil))))) pa_nil)))))
    (pss_cons (ps_set (i := 13) nd rfl (by first | exact .inl rfl | exact .inr rfl) (pe_tupD (pa_cons pe_str (pa_cons pe_str (pa_cons pe_int (pa_cons (pe_tupD (pa_cons pe_str (pa_cons (pe_tupD (pa_cons (pv 1) pa_nil)) pa_nil))) pa_nil))))))
    (pss_cons (ps_set (i := 14) nd rfl (by first | exact .inl rfl | exact .inr rfl) (kc0 (ok_law_heads Y) hr (hk := by omega)))
    (pss_cons (ps_set (i := 15) nd rfl (by first | exact .inl rfl | exact .inr rfl) (pe_tupD (pa_cons pe_str (pa_cons pe_str (pa_cons pe_int (pa_cons (kc (ok_law_term Y 3) hr (pa_cons (pv 0) (pa_cons (pv 14) (pa_cons pe_int (pa_cons pe_int pa_nil)))) (hk := by omega)) pa_nil))))))
    (pss_cons (ps_set (i := 16) nd rfl (by first | exact .inl rfl | exact .inr rfl) (pe_tupD (pa_cons (pe_tupD (pa_cons pe_str (pa_cons pe_int (pa_cons (kc (ok_law_term Y 3) hr (pa_cons (pv 0) (pa_cons (pv 14) (pa_cons pe_int (pa_cons pe_int pa_nil)))) (hk := by omega)) pa_nil)))) (pa_cons (pe_tupD (pa_cons pe_str (pa_cons pe_int (pa_cons (kc (ok_law_term Y 3) hr (pa_cons (pv 0) (pa_cons (pv 14) (pa_cons pe_int (pa_cons pe_int pa_nil)))) (hk := by omega)) pa_nil)))) pa_nil))))
    (pss_cons (ps_set (i := 17) nd rfl (by first | exact .inl rfl | exact .inr rfl) (pe_tupD (pa_cons pe_str (pa_cons pe_str (pa_cons pe_int (pa_cons (pv 16) pa_nil))))))
    (pss_one (ps_ret (pe_op op_catD (pe_op op_catD (pe_tupD (pa_cons (pv 5) (pa_cons (pv 6) (pa_cons (pv 7) (pa_cons (pv 9) (pa_cons (pv 10) (pa_cons (pv 11) pa_nil))))))) (pv 12)) (pe_tupD (pa_cons (pv 13) (pa_cons (pv 15) (pa_cons (pv 17) pa_nil))))))))))))))))))))))))), ?_⟩
  obtain ⟨tp, nl, rfl, T0, q⟩ := h
  refine ⟨_, .nil, le16 (Nat.le_of_ble_eq_true rfl), fun w1 W1 e1 g1 => ⟨_, (.cons (.int _) (.cons g1 .nil)), le16 (Nat.le_of_ble_eq_true rfl), fun w2 W2 e2 g2 => ?_⟩⟩
  show tSeq _ _ _ [some (.ref tp), some w2, none, none, none, none, none, none, none, none, none, none, none, none, none, none, none, none] _
  have f1 := (e1.trans e2)
  have h1 := g2
  have T0 := T0.kn f1
  have fa : Fr (At tp) H _ := f1.no
  refine ⟨_, .nil, le16 (Nat.le_of_ble_eq_true rfl), fun w3 W3 e3 g3 => ⟨_, (.cons (.int _) (.cons g3 .nil)), le16 (Nat.le_of_ble_eq_true rfl), fun w4 W4 e4 g4 => ?_⟩⟩
  show tSeq _ _ _ [some (.ref tp), some w2, some w4, none, none, none, none, none, none, none, none, none, none, none, none, none, none, none] _
  have f2 := (e3.trans e4)
  have h2 := g4
  have h1 := h1.fr f2
  have T0 := T0.kn f2
  have fa := fa.trans f2.no
  refine ⟨_, .nil, le16 (Nat.le_of_ble_eq_true rfl), fun w5 W5 e5 g5 => ⟨_, (.cons (.int _) (.cons g5 .nil)), le16 (Nat.le_of_ble_eq_true rfl), fun w6 W6 e6 g6 => ?_⟩⟩
  show tSeq _ _ _ [some (.ref tp), some w2, some w4, some w6, none, none, none, none, none, none, none, none, none, none, none, none, none, none] _
  have f3 := (e5.trans e6)
  have h3 := g6
  have h1 := h1.fr f3
  have h2 := h2.fr f3
  have T0 := T0.kn f3
  have fa := fa.trans f3.no
  refine ⟨_, .nil, le16 (Nat.le_of_ble_eq_true rfl), fun w7 W7 e7 g7 => ⟨_, (.cons (.str _) (.cons g7 .nil)), le16 (Nat.le_of_ble_eq_true rfl), fun w8 W8 e8 g8 => ?_⟩⟩
  show tSeq _ _ _ [some (.ref tp), some w2, some w4, some w6, some w8, none, none, none, none, none, none, none, none, none, none, none, none, none] _
  have f4 := (e7.trans e8)
  have h4 := g8
  have h1 := h1.fr f4
  have h2 := h2.fr f4
  have h3 := h3.fr f4
  have T0 := T0.kn f4
  have fa := fa.trans f4.no
  refine ⟨_, rfl, _, (.cons (.str _) (.cons (.int _) (.cons h1 .nil))), le16 (Nat.le_of_ble_eq_true rfl), fun w9 W9 e9 g9 => ⟨_, rfl, _, rfl, _, (.cons (Is.fr e9 h1) (.cons (Is.fr e9 h2) .nil)), le16 (Nat.le_of_ble_eq_true rfl), fun w10 W10 e10 g10 => ⟨_, (.cons (.str _) (.cons g10 .nil)), le16 (Nat.le_of_ble_eq_true rfl), fun w11 W11 e11 g11 => ⟨_, (.cons g11 .nil), le16 (Nat.le_of_ble_eq_true rfl), fun w12 W12 e12 g12 => ⟨_, (.cons (.str _) (.cons g12 .nil)), le16 (Nat.le_of_ble_eq_true rfl), fun w13 W13 e13 g13 => ⟨_, (.cons (.str _) (.cons (.int _) (.cons g13 .nil))), le16 (Nat.le_of_ble_eq_true rfl), fun w14 W14 e14 g14 => ⟨_, (.cons (Is.fr ((((e10.trans e11).trans e12).trans e13).trans e14) g9) (.cons g14 .nil)), le16 (Nat.le_of_ble_eq_true rfl), fun w15 W15 e15 g15 => ⟨_, (.cons (.str _) (.cons (.str _) (.cons (.int _) (.cons g15 .nil)))), le16 (Nat.le_of_ble_eq_true rfl), fun w16 W16 e16 g16 => ?_⟩⟩⟩⟩⟩⟩⟩⟩
  show tSeq _ _ _ [some (.ref tp), some w2, some w4, some w6, some w8, some w16, none, none, none, none, none, none, none, none, none, none, none, none] _
  have f5 := (((((((e9.trans e10).trans e11).trans e12).trans e13).trans e14).trans e15).trans e16)
  have h5 := g16
  have h1 := h1.fr f5
  have h2 := h2.fr f5
  have h3 := h3.fr f5
  have h4 := h4.fr f5
  have T0 := T0.kn f5
  have fa := fa.trans f5.no
  refine ⟨_, rfl, _, (.cons (.str _) (.cons (.int _) (.cons h1 .nil))), le16 (Nat.le_of_ble_eq_true rfl), fun w17 W17 e17 g17 => ⟨_, rfl, _, rfl, _, rfl, _, (.cons (Is.fr e17 h2) (.cons (Is.fr e17 h3) .nil)), le16 (Nat.le_of_ble_eq_true rfl), fun w18 W18 e18 g18 => ⟨_, (.cons (.str _) (.cons g18 .nil)), le16 (Nat.le_of_ble_eq_true rfl), fun w19 W19 e19 g19 => ⟨_, (.cons (Is.fr ((e17.trans e18).trans e19) h1) (.cons g19 .nil)), le16 (Nat.le_of_ble_eq_true rfl), fun w20 W20 e20 g20 => ⟨_, (.cons (.str _) (.cons g20 .nil)), le16 (Nat.le_of_ble_eq_true rfl), fun w21 W21 e21 g21 => ⟨_, (.cons (.str _) (.cons (.int _) (.cons g21 .nil))), le16 (Nat.le_of_ble_eq_true rfl), fun w22 W22 e22 g22 => ⟨_, (.cons (Is.fr ((((e18.trans e19).trans e20).trans e21).trans e22) g17) (.cons g22 .nil)), le16 (Nat.le_of_ble_eq_true rfl), fun w23 W23 e23 g23 => ⟨_, (.cons (.str _) (.cons (.str _) (.cons (.int _) (.cons g23 .nil)))), le16 (Nat.le_of_ble_eq_true rfl), fun w24 W24 e24 g24 => ?_⟩⟩⟩⟩⟩⟩⟩⟩
  show tSeq _ _ _ [some (.ref tp), some w2, some w4, some w6, some w8, some w16, some w24, none, none, none, none, none, none, none, none, none, none, none] _
  have f6 := (((((((e17.trans e18).trans e19).trans e20).trans e21).trans e22).trans e23).trans e24)
  have h6 := g24
  have h1 := h1.fr f6
  have h2 := h2.fr f6
  have h3 := h3.fr f6
  have h4 := h4.fr f6
  have h5 := h5.fr f6
  have T0 := T0.kn f6
  have fa := fa.trans f6.no
  refine ⟨_, rfl, _, (.cons (.str _) (.cons (.int _) (.cons h1 .nil))), le16 (Nat.le_of_ble_eq_true rfl), fun w25 W25 e25 g25 => ⟨_, rfl, _, rfl, _, rfl, _, (.cons (Is.fr e25 h1) (.cons (Is.fr e25 h3) .nil)), le16 (Nat.le_of_ble_eq_true rfl), fun w26 W26 e26 g26 => ⟨_, (.cons (.str _) (.cons g26 .nil)), le16 (Nat.le_of_ble_eq_true rfl), fun w27 W27 e27 g27 => ⟨_, (.cons (Is.fr ((e25.trans e26).trans e27) h2) (.cons g27 .nil)), le16 (Nat.le_of_ble_eq_true rfl), fun w28 W28 e28 g28 => ⟨_, (.cons (.str _) (.cons g28 .nil)), le16 (Nat.le_of_ble_eq_true rfl), fun w29 W29 e29 g29 => ⟨_, (.cons (.str _) (.cons (.int _) (.cons g29 .nil))), le16 (Nat.le_of_ble_eq_true rfl), fun w30 W30 e30 g30 => ⟨_, (.cons (Is.fr ((((e26.trans e27).trans e28).trans e29).trans e30) g25) (.cons g30 .nil)), le16 (Nat.le_of_ble_eq_true rfl), fun w31 W31 e31 g31 => ⟨_, (.cons (.str _) (.cons (.str _) (.cons (.int _) (.cons g31 .nil)))), le16 (Nat.le_of_ble_eq_true rfl), fun w32 W32 e32 g32 => ?_⟩⟩⟩⟩⟩⟩⟩⟩
  show tSeq _ _ _ [some (.ref tp), some w2, some w4, some w6, some w8, some w16, some w24, some w32, none, none, none, none, none, none, none, none, none, none] _
  have f7 := (((((((e25.trans e26).trans e27).trans e28).trans e29).trans e30).trans e31).trans e32)
  have h7 := g32
  have h1 := h1.fr f7
  have h2 := h2.fr f7
  have h3 := h3.fr f7
  have h4 := h4.fr f7
  have h5 := h5.fr f7
  have h6 := h6.fr f7
  have T0 := T0.kn f7
  have fa := fa.trans f7.no
  refine ⟨_, rfl, _, (.cons h1 .nil), le16 (Nat.le_of_ble_eq_true rfl), fun w33 W33 e33 g33 => ⟨_, (.cons (.int _) (.cons g33 .nil)), le16 (Nat.le_of_ble_eq_true rfl), fun w34 W34 e34 g34 => ⟨_, rfl, _, rfl, _, (.cons (Is.fr (e33.trans e34) h2) (.cons (Is.fr (e33.trans e34) h3) .nil)), le16 (Nat.le_of_ble_eq_true rfl), fun w35 W35 e35 g35 => ⟨_, (.cons (.str _) (.cons g35 .nil)), le16 (Nat.le_of_ble_eq_true rfl), fun w36 W36 e36 g36 => ⟨_, (.cons (Is.fr (e35.trans e36) g34) (.cons g36 .nil)), le16 (Nat.le_of_ble_eq_true rfl), fun w37 W37 e37 g37 => ⟨_, (.cons (.str _) (.cons g37 .nil)), le16 (Nat.le_of_ble_eq_true rfl), fun w38 W38 e38 g38 => ?_⟩⟩⟩⟩⟩⟩
  show tSeq _ _ _ [some (.ref tp), some w2, some w4, some w6, some w8, some w16, some w24, some w32, some w38, none, none, none, none, none, none, none, none, none] _
  have f8 := (((((e33.trans e34).trans e35).trans e36).trans e37).trans e38)
  have h8 := g38
  have h1 := h1.fr f8
  have h2 := h2.fr f8
  have h3 := h3.fr f8
  have h4 := h4.fr f8
  have h5 := h5.fr f8
  have h6 := h6.fr f8
  have h7 := h7.fr f8
  have T0 := T0.kn f8
  have fa := fa.trans f8.no
  refine ⟨_, .nil, le16 (Nat.le_of_ble_eq_true rfl), fun w39 W39 e39 g39 => ⟨_, (.cons (.str _) (.cons g39 .nil)), le16 (Nat.le_of_ble_eq_true rfl), fun w40 W40 e40 g40 => ⟨_, (.cons (.str _) (.cons (.int _) (.cons g40 .nil))), le16 (Nat.le_of_ble_eq_true rfl), fun w41 W41 e41 g41 => ⟨_, rfl, _, (.cons (.str _) (.cons (.int _) (.cons (Is.fr ((e39.trans e40).trans e41) h8) .nil))), le16 (Nat.le_of_ble_eq_true rfl), fun w42 W42 e42 g42 => ⟨_, (.cons (Is.fr e42 g41) (.cons g42 .nil)), le16 (Nat.le_of_ble_eq_true rfl), fun w43 W43 e43 g43 => ⟨_, (.cons (.str _) (.cons (.str _) (.cons (.int _) (.cons g43 .nil)))), le16 (Nat.le_of_ble_eq_true rfl), fun w44 W44 e44 g44 => ?_⟩⟩⟩⟩⟩⟩
  show tSeq _ _ _ [some (.ref tp), some w2, some w4, some w6, some w8, some w16, some w24, some w32, some w38, some w44, none, none, none, none, none, none, none, none] _
  have f9 := (((((e39.trans e40).trans e41).trans e42).trans e43).trans e44)
  have h9 := g44
  have h1 := h1.fr f9
  have h2 := h2.fr f9
  have h3 := h3.fr f9
  have h4 := h4.fr f9
  have h5 := h5.fr f9
  have h6 := h6.fr f9
  have h7 := h7.fr f9
  have h8 := h8.fr f9
  have T0 := T0.kn f9
  have fa := fa.trans f9.no
  refine ⟨_, .nil, le16 (Nat.le_of_ble_eq_true rfl), fun w45 W45 e45 g45 => ⟨_, (.cons (.str _) (.cons g45 .nil)), le16 (Nat.le_of_ble_eq_true rfl), fun w46 W46 e46 g46 => ⟨_, (.cons (.str _) (.cons (.int _) (.cons g46 .nil))), le16 (Nat.le_of_ble_eq_true rfl), fun w47 W47 e47 g47 => ⟨_, rfl, _, (.cons (Is.fr ((e45.trans e46).trans e47) h1) .nil), le16 (Nat.le_of_ble_eq_true rfl), fun w48 W48 e48 g48 => ⟨_, (.cons (.str _) (.cons g48 .nil)), le16 (Nat.le_of_ble_eq_true rfl), fun w49 W49 e49 g49 => ⟨_, (.cons (.str _) (.cons (.int _) (.cons g49 .nil))), le16 (Nat.le_of_ble_eq_true rfl), fun w50 W50 e50 g50 => ⟨_, (.cons (Is.fr ((e48.trans e49).trans e50) g47) (.cons g50 .nil)), le16 (Nat.le_of_ble_eq_true rfl), fun w51 W51 e51 g51 => ⟨_, (.cons (.str _) (.cons (.str _) (.cons (.int _) (.cons g51 .nil)))), le16 (Nat.le_of_ble_eq_true rfl), fun w52 W52 e52 g52 => ?_⟩⟩⟩⟩⟩⟩⟩⟩
  show tSeq _ _ _ [some (.ref tp), some w2, some w4, some w6, some w8, some w16, some w24, some w32, some w38, some w44, some w52, none, none, none, none, none, none, none] _
  have f10 := (((((((e45.trans e46).trans e47).trans e48).trans e49).trans e50).trans e51).trans e52)
  have h10 := g52
  have h1 := h1.fr f10
  have h2 := h2.fr f10
  have h3 := h3.fr f10
  have h4 := h4.fr f10
  have h5 := h5.fr f10
  have h6 := h6.fr f10
  have h7 := h7.fr f10
  have h8 := h8.fr f10
  have h9 := h9.fr f10
  have T0 := T0.kn f10
  have fa := fa.trans f10.no
  refine ⟨_, .nil, le16 (Nat.le_of_ble_eq_true rfl), fun w53 W53 e53 g53 => ⟨_, (.cons (.str _) (.cons g53 .nil)), le16 (Nat.le_of_ble_eq_true rfl), fun w54 W54 e54 g54 => ⟨_, (.cons (.str _) (.cons (.int _) (.cons g54 .nil))), le16 (Nat.le_of_ble_eq_true rfl), fun w55 W55 e55 g55 => ⟨_, rfl, _, (.cons (Is.fr ((e53.trans e54).trans e55) h1) .nil), le16 (Nat.le_of_ble_eq_true rfl), fun w56 W56 e56 g56 => ⟨_, (.cons (.str _) (.cons g56 .nil)), le16 (Nat.le_of_ble_eq_true rfl), fun w57 W57 e57 g57 => ⟨_, (.cons (.str _) (.cons (.int _) (.cons g57 .nil))), le16 (Nat.le_of_ble_eq_true rfl), fun w58 W58 e58 g58 => ⟨_, (.cons (Is.fr ((e56.trans e57).trans e58) g55) (.cons g58 .nil)), le16 (Nat.le_of_ble_eq_true rfl), fun w59 W59 e59 g59 => ⟨_, (.cons (.str _) (.cons (.str _) (.cons (.int _) (.cons g59 .nil)))), le16 (Nat.le_of_ble_eq_true rfl), fun w60 W60 e60 g60 => ?_⟩⟩⟩⟩⟩⟩⟩⟩
  show tSeq _ _ _ [some (.ref tp), some w2, some w4, some w6, some w8, some w16, some w24, some w32, some w38, some w44, some w52, some w60, none, none, none, none, none, none] _
  have f11 := (((((((e53.trans e54).trans e55).trans e56).trans e57).trans e58).trans e59).trans e60)
  have h11 := g60
  have h1 := h1.fr f11
  have h2 := h2.fr f11
  have h3 := h3.fr f11
  have h4 := h4.fr f11
  have h5 := h5.fr f11
  have h6 := h6.fr f11
  have h7 := h7.fr f11
  have h8 := h8.fr f11
  have h9 := h9.fr f11
  have h10 := h10.fr f11
  have T0 := T0.kn f11
  have fa := fa.trans f11.no
  refine ⟨_, rfl, _, (.cons h2 .nil), le16 (Nat.le_of_ble_eq_true rfl), fun w61 W61 e61 g61 => ⟨_, (.cons (.int _) (.cons g61 .nil)), le16 (Nat.le_of_ble_eq_true rfl), fun w62 W62 e62 g62 => ⟨_, (.cons g62 .nil), le16 (Nat.le_of_ble_eq_true rfl), fun w63 W63 e63 g63 => ⟨_, (.cons (.int _) (.cons g63 .nil)), le16 (Nat.le_of_ble_eq_true rfl), fun w64 W64 e64 g64 => ⟨_, (.cons (.str _) (.cons (.str _) (.cons (.int _) (.cons g64 .nil)))), le16 (Nat.le_of_ble_eq_true rfl), fun w65 W65 e65 g65 => ⟨_, rfl, _, (.cons (.str _) (.cons (.str _) (.cons (.int _) (.cons (Is.fr ((((e61.trans e62).trans e63).trans e64).trans e65) h1) .nil)))), le16 (Nat.le_of_ble_eq_true rfl), fun w66 W66 e66 g66 => ⟨_, rfl, _, (.cons (Is.fr (((((e61.trans e62).trans e63).trans e64).trans e65).trans e66) h4) .nil), le16 (Nat.le_of_ble_eq_true rfl), fun w67 W67 e67 g67 => ⟨_, (.cons (.str _) (.cons g67 .nil)), le16 (Nat.le_of_ble_eq_true rfl), fun w68 W68 e68 g68 => ⟨_, (.cons (.str _) (.cons (.str _) (.cons (.int _) (.cons g68 .nil)))), le16 (Nat.le_of_ble_eq_true rfl), fun w69 W69 e69 g69 => ⟨_, (.cons (Is.fr (((e66.trans e67).trans e68).trans e69) g65) (.cons (Is.fr ((e67.trans e68).trans e69) g66) (.cons g69 .nil))), le16 (Nat.le_of_ble_eq_true rfl), fun w70 W70 e70 g70 => ?_⟩⟩⟩⟩⟩⟩⟩⟩⟩⟩
  show tSeq _ _ _ [some (.ref tp), some w2, some w4, some w6, some w8, some w16, some w24, some w32, some w38, some w44, some w52, some w60, some w70, none, none, none, none, none] _
  have f12 := (((((((((e61.trans e62).trans e63).trans e64).trans e65).trans e66).trans e67).trans e68).trans e69).trans e70)
  have h12 := g70
  have h1 := h1.fr f12
  have h2 := h2.fr f12
  have h3 := h3.fr f12
  have h4 := h4.fr f12
  have h5 := h5.fr f12
  have h6 := h6.fr f12
  have h7 := h7.fr f12
  have h8 := h8.fr f12
  have h9 := h9.fr f12
  have h10 := h10.fr f12
  have h11 := h11.fr f12
  have T0 := T0.kn f12
  have fa := fa.trans f12.no
  refine ⟨_, rfl, _, (.cons h1 .nil), le16 (Nat.le_of_ble_eq_true rfl), fun w71 W71 e71 g71 => ⟨_, (.cons (.str _) (.cons g71 .nil)), le16 (Nat.le_of_ble_eq_true rfl), fun w72 W72 e72 g72 => ⟨_, (.cons (.str _) (.cons (.str _) (.cons (.int _) (.cons g72 .nil)))), le16 (Nat.le_of_ble_eq_true rfl), fun w73 W73 e73 g73 => ?_⟩⟩⟩
  show tSeq _ _ _ [some (.ref tp), some w2, some w4, some w6, some w8, some w16, some w24, some w32, some w38, some w44, some w52, some w60, some w70, some w73, none, none, none, none] _
  have f13 := ((e71.trans e72).trans e73)
  have h13 := g73
  have h1 := h1.fr f13
  have h2 := h2.fr f13
  have h3 := h3.fr f13
  have h4 := h4.fr f13
  have h5 := h5.fr f13
  have h6 := h6.fr f13
  have h7 := h7.fr f13
  have h8 := h8.fr f13
  have h9 := h9.fr f13
  have h10 := h10.fr f13
  have h11 := h11.fr f13
  have h12 := h12.fr f13
  have T0 := T0.kn f13
  have fa := fa.trans f13.no
  refine ⟨rfl, fun G14 hl xs f14 hl0 hhl hxs => ?_⟩
  show tSeq _ _ _ [some (.ref tp), some w2, some w4, some w6, some w8, some w16, some w24, some w32, some w38, some w44, some w52, some w60, some w70, some w73, some (.ref hl), none, none, none] _
  have hne : hl ≠ tp := fun z => by obtain ⟨_, _, _, h, _⟩ := T0.ex; rw [z, h] at hl0; cases hl0
  have h1 := h1.fr f14
  have h2 := h2.fr f14
  have h3 := h3.fr f14
  have h4 := h4.fr f14
  have h5 := h5.fr f14
  have h6 := h6.fr f14
  have h7 := h7.fr f14
  have h8 := h8.fr f14
  have h9 := h9.fr f14
  have h10 := h10.fr f14
  have h11 := h11.fr f14
  have h12 := h12.fr f14
  have h13 := h13.fr f14
  have T0 := T0.kn f14
  have fa := fa.trans f14.no
  refine ⟨_, rfl, _, rfl, tp, nl, hl, xs, 2, 2, rfl, T0, hhl, hxs, hne, by decide, fun t1 v1 H1 f1 T1 hv1 ok1 hz1 => ?_⟩
  have h1 := h1.fr f1
  have h2 := h2.fr f1
  have h3 := h3.fr f1
  have h4 := h4.fr f1
  have h5 := h5.fr f1
  have h6 := h6.fr f1
  have h7 := h7.fr f1
  have h8 := h8.fr f1
  have h9 := h9.fr f1
  have h10 := h10.fr f1
  have h11 := h11.fr f1
  have h12 := h12.fr f1
  have h13 := h13.fr f1
  have hhl := f1.k hl _ hne hhl
  have hxs := hxs.fr f1
  have fa := fa.trans f1
  refine ⟨_, .cons (.str _) (.cons (.str _) (.cons (.int _) (.cons hv1 .nil))), le16 (Nat.le_of_ble_eq_true rfl), fun v15 G15 f15 h15 => ?_⟩
  show tSeq _ _ _ [some (.ref tp), some w2, some w4, some w6, some w8, some w16, some w24, some w32, some w38, some w44, some w52, some w60, some w70, some w73, some (.ref hl), some v15, none, none] _
  have h1 := h1.fr f15
  have h2 := h2.fr f15
  have h3 := h3.fr f15
  have h4 := h4.fr f15
  have h5 := h5.fr f15
  have h6 := h6.fr f15
  have h7 := h7.fr f15
  have h8 := h8.fr f15
  have h9 := h9.fr f15
  have h10 := h10.fr f15
  have h11 := h11.fr f15
  have h12 := h12.fr f15
  have h13 := h13.fr f15
  have hhl := f15.kn hhl
  have hxs := hxs.fr f15
  have T1 := T1.kn f15
  have fa := fa.trans f15.no
  refine ⟨_, rfl, _, rfl, tp, nl, hl, xs, 1, 2, rfl, T1, hhl, hxs, hne, by decide, fun t2 v2 H2 f2 T2 hv2 ok2 hz2 => ?_⟩
  have h1 := h1.fr f2
  have h2 := h2.fr f2
  have h3 := h3.fr f2
  have h4 := h4.fr f2
  have h5 := h5.fr f2
  have h6 := h6.fr f2
  have h7 := h7.fr f2
  have h8 := h8.fr f2
  have h9 := h9.fr f2
  have h10 := h10.fr f2
  have h11 := h11.fr f2
  have h12 := h12.fr f2
  have h13 := h13.fr f2
  have h15 := h15.fr f2
  have hhl := f2.k hl _ hne hhl
  have hxs := hxs.fr f2
  have fa := fa.trans f2
  refine ⟨_, .cons (.str _) (.cons (.int _) (.cons hv2 .nil)), le16 (Nat.le_of_ble_eq_true rfl), fun va Ga ga ha => ?_⟩
  have h1 := h1.fr ga
  have h2 := h2.fr ga
  have h3 := h3.fr ga
  have h4 := h4.fr ga
  have h5 := h5.fr ga
  have h6 := h6.fr ga
  have h7 := h7.fr ga
  have h8 := h8.fr ga
  have h9 := h9.fr ga
  have h10 := h10.fr ga
  have h11 := h11.fr ga
  have h12 := h12.fr ga
  have h13 := h13.fr ga
  have h15 := h15.fr ga
  have hhl := ga.kn hhl
  have hxs := hxs.fr ga
  have T2 := T2.kn ga
  have fa := fa.trans ga.no
  refine ⟨_, rfl, _, rfl, tp, nl, hl, xs, 2, 2, rfl, T2, hhl, hxs, hne, by decide, fun t3 v3 H3 f3 T3 hv3 ok3 hz3 => ?_⟩
  have h1 := h1.fr f3
  have h2 := h2.fr f3
  have h3 := h3.fr f3
  have h4 := h4.fr f3
  have h5 := h5.fr f3
  have h6 := h6.fr f3
  have h7 := h7.fr f3
  have h8 := h8.fr f3
  have h9 := h9.fr f3
  have h10 := h10.fr f3
  have h11 := h11.fr f3
  have h12 := h12.fr f3
  have h13 := h13.fr f3
  have h15 := h15.fr f3
  have ha := Is.fr f3 ha
  have fa := fa.trans f3
  refine ⟨_, .cons (.str _) (.cons (.int _) (.cons hv3 .nil)), le16 (Nat.le_of_ble_eq_true rfl), fun vb Gb gb hb => ?_⟩
  have h1 := h1.fr gb
  have h2 := h2.fr gb
  have h3 := h3.fr gb
  have h4 := h4.fr gb
  have h5 := h5.fr gb
  have h6 := h6.fr gb
  have h7 := h7.fr gb
  have h8 := h8.fr gb
  have h9 := h9.fr gb
  have h10 := h10.fr gb
  have h11 := h11.fr gb
  have h12 := h12.fr gb
  have h13 := h13.fr gb
  have h15 := h15.fr gb
  have ha := Is.fr gb ha
  have T3 := T3.kn gb
  have fa := fa.trans gb.no
  refine ⟨_, .cons ha (.cons hb .nil), le16 (Nat.le_of_ble_eq_true rfl), fun v16 G16 f16 h16 => ?_⟩
  show tSeq _ _ _ [some (.ref tp), some w2, some w4, some w6, some w8, some w16, some w24, some w32, some w38, some w44, some w52, some w60, some w70, some w73, some (.ref hl), some v15, some v16, none] _
  have h1 := h1.fr f16
  have h2 := h2.fr f16
  have h3 := h3.fr f16
  have h4 := h4.fr f16
  have h5 := h5.fr f16
  have h6 := h6.fr f16
  have h7 := h7.fr f16
  have h8 := h8.fr f16
  have h9 := h9.fr f16
  have h10 := h10.fr f16
  have h11 := h11.fr f16
  have h12 := h12.fr f16
  have h13 := h13.fr f16
  have h15 := h15.fr f16
  have T3 := T3.kn f16
  have fa := fa.trans f16.no
  refine ⟨_, rfl, _, (.cons (.str _) (.cons (.str _) (.cons (.int _) (.cons h16 .nil)))), le16 (Nat.le_of_ble_eq_true rfl), fun w74 W74 e74 g74 => ?_⟩
  have f17 := e74
  have h17 := g74
  have h1 := h1.fr f17
  have h2 := h2.fr f17
  have h3 := h3.fr f17
  have h4 := h4.fr f17
  have h5 := h5.fr f17
  have h6 := h6.fr f17
  have h7 := h7.fr f17
  have h8 := h8.fr f17
  have h9 := h9.fr f17
  have h10 := h10.fr f17
  have h11 := h11.fr f17
  have h12 := h12.fr f17
  have h13 := h13.fr f17
  have h15 := h15.fr f17
  have h16 := h16.fr f17
  have T3 := T3.kn f17
  have fa := fa.trans f17.no
  refine ⟨_, rfl, _, rfl, _, rfl, _, rfl, _, rfl, _, rfl, _, (.cons h5 (.cons h6 (.cons h7 (.cons h9 (.cons h10 (.cons h11 .nil)))))), le16 (Nat.le_of_ble_eq_true rfl), fun w75 W75 e75 g75 => ?_⟩
  have f30 := e75
  have g30 := g75
  have h1 := h1.fr f30
  have h2 := h2.fr f30
  have h3 := h3.fr f30
  have h4 := h4.fr f30
  have h5 := h5.fr f30
  have h6 := h6.fr f30
  have h7 := h7.fr f30
  have h8 := h8.fr f30
  have h9 := h9.fr f30
  have h10 := h10.fr f30
  have h11 := h11.fr f30
  have h12 := h12.fr f30
  have h13 := h13.fr f30
  have h15 := h15.fr f30
  have h16 := h16.fr f30
  have h17 := h17.fr f30
  have T3 := T3.kn f30
  have fa := fa.trans f30.no
  refine ⟨_, rfl, _, _, g30, h12, le16 (Nat.le_of_ble_eq_true rfl), fun vb G31 f31 g31 => ?_⟩
  have h1 := h1.fr f31
  have h2 := h2.fr f31
  have h3 := h3.fr f31
  have h4 := h4.fr f31
  have h5 := h5.fr f31
  have h6 := h6.fr f31
  have h7 := h7.fr f31
  have h8 := h8.fr f31
  have h9 := h9.fr f31
  have h10 := h10.fr f31
  have h11 := h11.fr f31
  have h12 := h12.fr f31
  have h13 := h13.fr f31
  have h15 := h15.fr f31
  have h16 := h16.fr f31
  have h17 := h17.fr f31
  have T3 := T3.kn f31
  have fa := fa.trans f31.no
  refine ⟨_, rfl, _, rfl, _, rfl, _, (.cons h13 (.cons h15 (.cons h17 .nil))), le16 (Nat.le_of_ble_eq_true rfl), fun w76 W76 e76 g76 => ?_⟩
  have f32 := e76
  have g32 := g76
  have T3 := T3.kn f32
  have fa := fa.trans f32.no
  refine ⟨_, _, Is.fr f32 g31, g32, le16 (Nat.le_of_ble_eq_true rfl), fun vd G33 f33 g33 => ?_⟩
  exact q t1 t2 t3 vd G33 (fa.trans f33.no) (T3.kn f33) g33 ⟨ok1, hz1⟩ ⟨ok2, hz2⟩ ⟨ok3, hz3⟩
end
end DF

namespace DF
open PySem PySem.Spec PyProof.Rows L2 RZ
/-! ### the drawn programs run -/
def knB (NL : List Nm) (t : T) : Bool := t.heads.all fun h => match h with
  | .u _ => true
  | .c x => !low x || decide (x ∈ NL)
def rlB (NL : List Nm) (r : Rule) : Bool := !low r.con && (decide (r.cnt ≤ 3) && (knB NL r.body && decide (r.body.size ≤ 20)))
def fnB (NL : List Nm) : Fn → Bool
  | .plain _ n b => knB NL b && (decide (b.size ≤ 20) && decide (n ≤ 20))
  | .cases _ n rs => decide (1 ≤ n) && (decide (n ≤ 20) && (decide (rs.length ≤ 2) && rs.all (rlB NL)))
theorem fnOf_some {pg : Prog} {x : Nm} (h : x ∈ pg.map Fn.nm) : (fnOf pg x).isSome = true := by
  obtain ⟨f, hf, e⟩ := List.mem_map.mp h
  unfold fnOf
  rw [List.find?_isSome]
  exact ⟨f, hf, decide_eq_true e⟩
theorem knB_kn {pg : Prog} {NL : List Nm} (h1 : ∀ x ∈ NL, x ∈ pg.map Fn.nm) {t : T} (h : knB NL t = true) : Kn pg t := fun x hx lx => by
  have h2 := List.all_eq_true.mp h _ hx
  have h2 : (!low x || decide (x ∈ NL)) = true := h2
  rw [lx] at h2
  exact fnOf_some (h1 x (of_decide_eq_true (by simpa using h2)))
theorem wf_of {pg : Prog} {NL : List Nm} (h1 : ∀ x ∈ NL, x ∈ pg.map Fn.nm) (h2 : pg.all (fnB NL) = true) (h3 : pg.length ≤ 40) : Wf pg ∧ Few pg := by
  have h2 := List.all_eq_true.mp h2
  refine ⟨⟨fun x n b hf => ?_, fun x n rs hf => ?_, h3⟩, ⟨by omega, fun f hf => ?_⟩⟩
  · have h := h2 _ hf
    have h : (knB NL b && (decide (b.size ≤ 20) && decide (n ≤ 20))) = true := h
    obtain ⟨a, h⟩ := Bool.and_eq_true_iff.mp h
    obtain ⟨b', c⟩ := Bool.and_eq_true_iff.mp h
    exact ⟨knB_kn h1 a, of_decide_eq_true b', of_decide_eq_true c⟩
  · have h := h2 _ hf
    have h : (decide (1 ≤ n) && (decide (n ≤ 20) && (decide (rs.length ≤ 2) && rs.all (rlB NL)))) = true := h
    obtain ⟨a, h⟩ := Bool.and_eq_true_iff.mp h
    obtain ⟨b, h⟩ := Bool.and_eq_true_iff.mp h
    obtain ⟨c, d⟩ := Bool.and_eq_true_iff.mp h
    have c := of_decide_eq_true c
    refine ⟨of_decide_eq_true a, of_decide_eq_true b, by omega, fun r hr => ?_⟩
    have h := List.all_eq_true.mp d r hr
    have h : (!low r.con && (decide (r.cnt ≤ 3) && (knB NL r.body && decide (r.body.size ≤ 20)))) = true := h
    obtain ⟨a, h⟩ := Bool.and_eq_true_iff.mp h
    obtain ⟨b, h⟩ := Bool.and_eq_true_iff.mp h
    obtain ⟨c, d⟩ := Bool.and_eq_true_iff.mp h
    exact ⟨by simpa using a, of_decide_eq_true b, knB_kn h1 c, of_decide_eq_true d⟩
  · have h := h2 _ hf
    cases f with
    | plain x n b => exact Nat.le_succ 1
    | cases x n rs =>
      have h : (decide (1 ≤ n) && (decide (n ≤ 20) && (decide (rs.length ≤ 2) && rs.all (rlB NL)))) = true := h
      obtain ⟨a, h⟩ := Bool.and_eq_true_iff.mp h
      obtain ⟨b, h⟩ := Bool.and_eq_true_iff.mp h
      obtain ⟨c, d⟩ := Bool.and_eq_true_iff.mp h
      exact of_decide_eq_true c
def NL : List Nm := (progD default default default).map Fn.nm
theorem low_nms : ∀ s ∈ nmsL, ∀ x : Nm, x.s = s → low x = true → x ∈ NL := by
  have h : (nmsL.all fun s => !(match s.cps.toList with | c :: _ => Txt.islower ⟨#[c]⟩ | [] => false) || decide (s ∈ NL.map Nm.s)) = true := by decide +kernel
  intro s hs x e lx
  subst e
  have h1 := List.all_eq_true.mp h _ hs
  have e2 : (match x.s.cps.toList with | c :: _ => Txt.islower ⟨#[c]⟩ | [] => false) = true := lx
  rw [e2] at h1
  have h2 : x.s ∈ NL.map Nm.s := of_decide_eq_true (by simpa using h1)
  obtain ⟨y, hy, ey⟩ := List.mem_map.mp h2
  rw [← Nm.inj ey]
  exact hy
theorem TmOk.knB {m : Nat} {t : T} (h : TmOk m t) : knB NL t = true := by
  refine List.all_eq_true.mpr fun g hg => ?_
  rcases h g hg with ⟨i, _, rfl⟩ | ⟨x, rfl, hx⟩
  · rfl
  · show (!low x || decide (x ∈ NL)) = true
    cases lx : low x with
    | false => rfl
    | true => exact decide_eq_true (low_nms _ hx x rfl lx)
structure PgOk (pg : Prog) : Prop where
  wf : Wf pg
  few : Few pg
  pfx : ∃ k, Pfx pg k
  kn : ∀ (m : Nat) (t : T), TmOk m t → Kn pg t
def exN : List Str := ["r0x", "r0xa", "r1x", "r0"]
theorem ex_good : ∀ s ∈ exN, good s = true := by
  have h : (exN.all good) = true := by decide +kernel
  exact fun s hs => List.all_eq_true.mp h s hs
theorem hasP_map {pg : Prog} {k : Nat} : hasP pg k = (pg.map fun f => f.nm.s).any fun s => Txt.startswith s (pfx k) := by
  unfold hasP
  rw [List.any_map]
  rfl
theorem pgOk {t1 t2 t3 : T} {ex : Prog} (o1 : TmOk 2 t1 ∧ t1.size ≤ 13) (o2 : TmOk 1 t2 ∧ t2.size ≤ 13) (o3 : TmOk 2 t3 ∧ t3.size ≤ 13) (hex : ex.all (fnB NL) = true) (hl : ex.length ≤ 1)
    (hp : ∃ k, k < 9 ∧ (((NL.map Nm.s) ++ ex.map fun f => f.nm.s).any fun s => Txt.startswith s (pfx k)) = false ∧ ∀ j, j < k → (((NL.map Nm.s) ++ ex.map fun f => f.nm.s).any fun s => Txt.startswith s (pfx j)) = true) : PgOk (progD t1 t2 t3 ++ ex) := by
  have h1 : ∀ x ∈ NL, x ∈ (progD t1 t2 t3 ++ ex).map Fn.nm := fun x hx => by
    rw [List.map_append]
    exact List.mem_append_left _ hx
  have h2 : (progD t1 t2 t3 ++ ex).all (fnB NL) = true := by
    rw [List.all_append, hex, Bool.and_true]
    have e : progD t1 t2 t3 = (progD default default default).take 10 ++ [.plain (nm "f") 2 t1, .cases (nm "g") 2 [⟨nm "Z", 0, t2⟩, ⟨nm "S", 1, t3⟩]] := rfl
    have c : ((progD default default default).take 10).all (fnB NL) = true := by decide +kernel
    rw [e, List.all_append, c, Bool.true_and]
    have z1 := o1.1.knB
    have z2 := o2.1.knB
    have z3 := o3.1.knB
    have l1 : low (nm "Z") = false := by decide +kernel
    have l2 : low (nm "S") = false := by decide +kernel
    show (((knB NL t1 && (decide (t1.size ≤ 20) && decide (2 ≤ 20)))) && (((decide (1 ≤ 2) && (decide (2 ≤ 20) && (decide (2 ≤ 2) && ((!low (nm "Z") && (decide (0 ≤ 3) && (knB NL t2 && decide (t2.size ≤ 20)))) && ((!low (nm "S") && (decide (1 ≤ 3) && (knB NL t3 && decide (t3.size ≤ 20)))) && true))))) && true))) = true
    rw [z1, z2, z3, l1, l2, decide_eq_true (show t1.size ≤ 20 by omega), decide_eq_true (show t2.size ≤ 20 by omega), decide_eq_true (show t3.size ≤ 20 by omega)]
    rfl
  have hlen : (progD t1 t2 t3 ++ ex).length ≤ 13 := by rw [List.length_append]; show 12 + _ ≤ 13; omega
  obtain ⟨w, fw⟩ := wf_of h1 h2 (by omega)
  refine ⟨w, fw, ?_, fun m t h => knB_kn h1 h.knB⟩
  obtain ⟨k, k1, k2, k3⟩ := hp
  have em : (progD t1 t2 t3 ++ ex).map (fun f => f.nm.s) = (NL.map Nm.s) ++ ex.map fun f => f.nm.s := by rw [List.map_append]; rfl
  exact ⟨k, k1, by rw [hasP_map, em]; exact k2, fun j hj => by rw [hasP_map, em]; exact k3 j hj, by omega⟩
theorem pgOk0 {t1 t2 t3 : T} (o1 : TmOk 2 t1 ∧ t1.size ≤ 13) (o2 : TmOk 1 t2 ∧ t2.size ≤ 13) (o3 : TmOk 2 t3 ∧ t3.size ≤ 13) : PgOk (progD t1 t2 t3) := by
  have h := pgOk (ex := []) o1 o2 o3 rfl (Nat.zero_le _) ⟨0, by decide, by decide +kernel, fun j hj => absurd hj (Nat.not_lt_zero _)⟩
  rwa [List.append_nil] at h
theorem pgOk1 {t1 t2 t3 : T} (o1 : TmOk 2 t1 ∧ t1.size ≤ 13) (o2 : TmOk 1 t2 ∧ t2.size ≤ 13) (o3 : TmOk 2 t3 ∧ t3.size ≤ 13) {s : Str} (hs : s ∈ exN) : PgOk (progD t1 t2 t3 ++ [.plain ⟨s, ex_good s hs⟩ 1 (vr 0)]) := by
  have key : ∀ s ∈ exN, ∃ k, k < 9 ∧ (((NL.map Nm.s) ++ [s]).any fun s => Txt.startswith s (pfx k)) = false ∧ ∀ j, j < k → (((NL.map Nm.s) ++ [s]).any fun s => Txt.startswith s (pfx j)) = true := by
    have a : ∀ s ∈ (["r0x", "r0xa"] : List Str), (((NL.map Nm.s) ++ [s]).any fun s => Txt.startswith s (pfx 1)) = false ∧ (((NL.map Nm.s) ++ [s]).any fun s => Txt.startswith s (pfx 0)) = true := by
      have h : ((["r0x", "r0xa"] : List Str).all fun s => decide ((((NL.map Nm.s) ++ [s]).any fun s => Txt.startswith s (pfx 1)) = false ∧ (((NL.map Nm.s) ++ [s]).any fun s => Txt.startswith s (pfx 0)) = true)) = true := by decide +kernel
      exact fun s hs => of_decide_eq_true (List.all_eq_true.mp h s hs)
    have b : ∀ s ∈ (["r1x", "r0"] : List Str), (((NL.map Nm.s) ++ [s]).any fun s => Txt.startswith s (pfx 0)) = false := by
      have h : ((["r1x", "r0"] : List Str).all fun s => decide ((((NL.map Nm.s) ++ [s]).any fun s => Txt.startswith s (pfx 0)) = false)) = true := by decide +kernel
      exact fun s hs => of_decide_eq_true (List.all_eq_true.mp h s hs)
    intro s hs
    have hs : s ∈ (["r0x", "r0xa"] : List Str) ++ (["r1x", "r0"] : List Str) := hs
    rcases List.mem_append.mp hs with h | h
    · exact ⟨1, by decide, (a s h).1, fun j hj => by rw [show j = 0 by omega]; exact (a s h).2⟩
    · exact ⟨0, by decide, b s h, fun j hj => absurd hj (Nat.not_lt_zero _)⟩
  exact pgOk (ex := [.plain ⟨s, ex_good s hs⟩ 1 (vr 0)]) o1 o2 o3 rfl (Nat.le_refl _) (key s hs)
end DF

namespace DF
open PySem PySem.Spec PyProof.Rows L2 RZ
/-! ### drawn splits -/
/-- a test of which nothing is told -/
theorem weakIf {c : TT} {t u : TS} {D : Ends} {σ : St} {H : Hp} (G : Hp → Prop) (h1 : ∀ Q' : Bool → Hp → Prop, (∀ b H', G H' → Q' b H') → c σ H Q') (h2 : ∀ H', G H' → t D σ H') (h3 : ∀ H', G H' → u D σ H') : tIfS c t u D σ H :=
  h1 _ fun b H' g => by
    cases b with
    | true => exact iteT (h2 H' g)
    | false => exact iteF (h3 H' g)
theorem Fr.upS {S : Addr → Prop} {H H' : Hp} {p : Addr} {xs : List V} {o : HO} (f : Fr S H H') (h : S p ∨ H p = none) (e : H' p = some (.lst xs)) : Fr S H (upd H' p o) := by
  rcases h with h | h
  · exact f.mut h e fun z => z
  · exact f.new h
def BodyPs (K : PySem.W.Frag) (H : Hp) (w1 : V) (t : T) : Prop := ∃ a x y b ps, w1 = .ref a ∧ Tp K H a [x, y] ∧ Tm K H x b ∧ Prt K H y ps ∧ b.size ≤ t.size ∧ ps.length ≤ t.size ∧ ∀ p ∈ ps, p.2.size ≤ t.size
section
variable {P : Program} {w : World} {K : PySem.W.Frag} {mg : Str → Option Value} {base : Heap}
def sp_law_split (K : PySem.W.Frag) (n : Nat) : Sp := fun vs H Q _ => ∃ (tp nl : Addr) (v : V) (t : T), vs = [.ref tp, v] ∧ Tap H tp nl ∧ Tm K H v t ∧ t.size ≤ n ∧ t.size ≤ 60 ∧ ∀ w H', Fr (At tp) H H' → Tap H' tp nl → BodyPs K H' w t → Q w H'
theorem sc__law_split : FnScope ["_law_tape_here", "_law_term_here", "_law_fresh", "_law_arguments", "_law_parts", "_law_part", "_law_inner"] ["_law_tape_here", "_law_term_here"] (defScope Tx.s__law_split) := C8.fnScope_by (by decide +kernel)
theorem ok_law_split (Y : Hf K mg) : ∀ n : Nat, Cl CX0 P w K mg base (n + 1) "_law_split" (sp_law_split K n)
  | 0 => Y.d__law_split.zero fun vs H Q E h => by
    obtain ⟨tp, nl, v, t, rfl, _, _, h, _⟩ := h
    have := t.size_pos
    omega
  | n + 1 => by
    have ih := ok_law_split Y n
    refine Y.d__law_split.ok sc__law_split (fun vs H Q E h => ?_) (fun f cdv A outer s H vs Q E hr h => ?_)
    · obtain ⟨tp, nl, v, t, rfl, _⟩ := h; rfl
    have nd := sc__law_split.nd
    refine ⟨_, ((pss_cons (ps_set (i := 2) nd rfl (by first | exact .inl rfl | exact .inr rfl) (pe_add pe_int (kc (ok_law_next Y) hr (pa_cons (pv 0) (pa_cons pe_int pa_nil)) (hk := by omega))))
    (pss_cons (ps_set (i := 3) nd rfl (by first | exact .inl rfl | exact .inr rfl) (pe_lst pa_nil))
    (pss_cons (ps_set (i := 4) nd rfl (by first | exact .inl rfl | exact .inr rfl) (pe_lst pa_nil))
    (pss_cons (ps_for PassesOwn.never rfl (pi_tup (pe_ix ix_d (pv 1) pe_int fun _ _ => rfl)) (pg_name (i := 5) nd rfl (by first | exact .inl rfl | exact .inr rfl))
        (pss_one (ps_if (PW.pt (pw_and (pt_cmp (pc_gt (k_lenT Y.z_len (pe_ix ix_d (pv 5) pe_int fun _ _ => rfl)) pe_int)) (pw_and (pt_cmp (pc_eqI (k_lenL Y.z_len (pv 4)) pe_int)) (pw_and1 (pt_cmp (pc_eqI (kc (ok_law_next Y) hr (pa_cons (pv 0) (pa_cons pe_int pa_nil)) (hk := by omega)) pe_int))))))
            (pss_cons (ps_set (i := 6) nd rfl (by first | exact .inl rfl | exact .inr rfl) (kc ih hr (pa_cons (pv 0) (pa_cons (pv 5) pa_nil)) (hk := by omega)))
            (pss_cons (ps_expr (pe_bm PySem.F.plainAttrs_list PySem.F.slot_list_append PySem.F.type_list_append mt_append (pv 3) (pa_cons (pe_ix ix_d (pv 6) pe_int fun _ _ => rfl) pa_nil)))
            (pss_one (ps_set (i := 4) nd rfl (by first | exact .inl rfl | exact .inr rfl) (pe_op op_cat (pv 4) (k_listT Y.z_list (pe_ix ix_d (pv 6) pe_int fun _ _ => rfl)))))))
            (pss_one (ps_if (PW.pt (pw_and (PW.pt (pw_or (pt_cmp (pc_gt (k_lenT Y.z_len (pe_ix ix_d (pv 5) pe_int fun _ _ => rfl)) pe_int)) (pw_or1 (pt_val (k_isi Y.z_isinstance Y.z_str (pe_ix ix_d (pv 5) pe_int fun _ _ => rfl)))))) (pw_and1 (pt_cmp (pc_gt (kc (ok_law_next Y) hr (pa_cons (pv 0) (pa_cons pe_int pa_nil)) (hk := by omega)) pe_int)))))
                (pss_cons (ps_expr (pe_bm PySem.F.plainAttrs_list PySem.F.slot_list_append PySem.F.type_list_append mt_append (pv 3) (pa_cons (pe_tupD (pa_cons (pe_add (pe_add (pv 2) (k_lenL Y.z_len (pv 4))) pe_int) (pa_cons (pe_tupD pa_nil) pa_nil))) pa_nil)))
                (pss_one (ps_expr (pe_bm PySem.F.plainAttrs_list PySem.F.slot_list_append PySem.F.type_list_append mt_append (pv 4) (pa_cons (pe_tupD (pa_cons (pe_add (pe_add (pv 2) (k_lenL Y.z_len (pv 4))) pe_int) (pa_cons (pv 5) pa_nil))) pa_nil)))))
                (pss_one (ps_expr (pe_bm PySem.F.plainAttrs_list PySem.F.slot_list_append PySem.F.type_list_append mt_append (pv 3) (pa_cons (pv 5) pa_nil)))))))))
    (pss_one (ps_ret (pe_tup (pa_cons (pe_tupD (pa_cons (pe_ix ix_d (pv 1) pe_int fun _ _ => rfl) (pa_cons (k_tup Y.z_tuple (pv 3)) pa_nil))) (pa_cons (k_tupF Y.z_tuple (pv 4)) pa_nil)))))))))), ?_⟩
    obtain ⟨tp, nl, v, t, rfl, T0, hv, hn, hz, q⟩ := h
    refine ⟨_, rfl, tp, nl, 3, rfl, T0, by decide, fun fr0 H1 hfr f1 T1 => ⟨_, _, rfl, rfl, ?_⟩⟩
    refine ⟨Nat.zero_le _, fun la hla => ⟨Nat.zero_le _, fun lp hlp => ?_⟩⟩
    have f2 : Fr No H1 (upd H1 la (.lst [])) := Fr.new0 hla
    have f3 : Fr No (upd H1 la (.lst [])) (upd (upd H1 la (.lst [])) lp (.lst [])) := Fr.new0 hlp
    have nlalp : la ≠ lp := ne_of_none upd_same hlp
    have hla3 := f3.kn (show (upd H1 la (.lst [])) la = some (.lst []) from upd_same)
    have hlp3 : (upd (upd H1 la (.lst [])) lp (.lst [])) lp = some (.lst []) := upd_same
    have f23 := f2.trans f3
    have T3 := T1.kn f23
    have hlpH1 : H1 lp = none := f2.freeN hlp
    have hv3 := (hv.fr f1).fr f23
    generalize upd (upd H1 la (.lst [])) lp (.lst []) = H3 at hla3 hlp3 f23 T3 hv3 ⊢
    refine ⟨_, rfl, _, 1, _, rfl, Tm.is hv3, rfl, fun w hw => ?_⟩
    obtain ⟨a, xs, rfl, ta, ia⟩ := (show Tms K H3 w t.args from hw).tupE
    refine ⟨a, rfl, ⟨_, ta.sq⟩, ?_⟩
    have ntp : tp ≠ la ∧ tp ≠ lp ∧ nl ≠ la ∧ nl ≠ lp := by
      obtain ⟨_, _, _, h1, h2⟩ := T1.ex
      exact ⟨ne_of_none h1 hla, ne_of_none h1 hlpH1, ne_of_none h2 hla, ne_of_none h2 hlpH1⟩
    have hts := T.size_eq t
    refine for_it (dwT (S := fun b => b = tp ∨ b = la ∨ b = lp) ta ia) (fun j σ H' => ∃ (x5 x6 : Option V) (p : Addr) (zs ws : List V) (us : List T) (qs : List (Int × T)), σ = [some (.ref tp), some v, some (.int (30 + (fr0 : Int))), some (.ref la), some (.ref p), x5, x6] ∧ Fr (fun b => b = tp ∨ b = la ∨ b = lp) H3 H' ∧ Tap H' tp nl ∧ H' la = some (.lst zs) ∧ IsAll K H' zs (us.map enc) ∧
        (p = lp ∨ H3 p = none) ∧ H' p = some (.lst ws) ∧ IsAll K H' ws (qs.map prD) ∧ us.length = j ∧ T.sizes us ≤ T.sizes (t.args.take j) ∧ qs.length ≤ T.sizes (t.args.take j) ∧ ∀ r ∈ qs, r.2.size ≤ t.size)
      ⟨none, none, lp, [], [], [], [], rfl, .refl, T3, hla3, .nil, .inl rfl, hlp3, .nil, rfl, Nat.le_refl _, Nat.le_refl _, fun r hr => absurd hr List.not_mem_nil⟩ (fun j σ H' _ z => let ⟨_, _, _, _, _, _, _, _, z, _⟩ := z; z) (fun j x σ H5 H6 hlt z yy => ?_) fun σ H5 z => ?_
    · obtain ⟨x5, x6, p, zs, ws, us, qs, rfl, f5, T5, hla5, hzs, hp5, hpp5, hws, lu, su, lq, sq⟩ := z
      obtain ⟨f6, d, hd, hx⟩ := yy
      rw [List.getElem?_map] at hd
      cases e : t.args[j]? with
      | none => rw [e] at hd; cases hd
      | some r =>
      rw [e] at hd
      cases hd
      have hx : Tm K H6 x r := hx
      have hj : j < t.args.length := (List.getElem?_eq_some_iff.mp e).1
      have hrs := T.arg_lt (List.mem_of_getElem? e)
      have htl := t.args_len
      have hsum : T.sizes (t.args.take (j + 1)) = T.sizes (t.args.take j) + r.size := by rw [take_snoc e, T.sizes_append]; rfl
      have hrp := r.size_pos
      have hsz : T.sizes (t.args.take j) + r.size ≤ T.sizes t.args := by
        have h1 := T.sizes_append (t.args.take (j + 1)) (t.args.drop (j + 1))
        rw [List.take_append_drop] at h1
        omega
      have np : p ≠ la ∧ p ≠ tp ∧ p ≠ nl := by
        refine ⟨fun z => ?_, fun z => ?_, fun z => ?_⟩
        · rcases hp5 with h | h
          · exact nlalp (z.symm.trans h)
          · rw [z, hla3] at h; cases h
        · rcases hp5 with h | h
          · exact ntp.2.1 (z.symm.trans h)
          · obtain ⟨_, _, _, h1, _⟩ := T3.ex
            rw [z, h1] at h; cases h
        · rcases hp5 with h | h
          · exact ntp.2.2.2 (z.symm.trans h)
          · obtain ⟨_, _, _, _, h1⟩ := T3.ex
            rw [z, h1] at h; cases h
      have lel : ∀ {m : Nat}, m ≤ 1000 → m < sizeLine := fun h => lt_line (by omega)
      have hlz : zs.length = j := by rw [hzs.len, List.length_map, lu]
      have hlw : ws.length = qs.length := by rw [hws.len, List.length_map]
      -- what stands at a later heap
      have later : ∀ {H7 : Hp}, Fr (At tp) H6 H7 → Fr (fun b => b = tp ∨ b = la ∨ b = lp) H3 H7 ∧ H7 la = some (.lst zs) ∧ IsAll K H7 zs (us.map enc) ∧ H7 p = some (.lst ws) ∧ IsAll K H7 ws (qs.map prD) ∧ Tm K H7 x r := fun {H7} f7 =>
        ⟨(f5.trans f6.no).trans (f7.mono fun b z => .inl z), f7.k la _ (fun z => ntp.1 (show la = tp from z).symm) (f6.kn hla5), (hzs.fr f6).fr f7, f7.k p _ (fun z => np.2.1 z) (f6.kn hpp5), (hws.fr f6).fr f7, hx.fr f7⟩
      -- an argument is appended
      have app : ∀ {H7 : Hp} {z7 : V} {u : T} {g : Addr}, Fr (fun b => b = tp ∨ b = la ∨ b = lp) H3 H7 → H7 la = some (.lst zs) → Fr (fun b => b = tp ∨ b = la ∨ b = lp) H3 (upd H7 la (.lst (zs ++ [z7]))) := fun {H7 z7 u g} h1 h2 => h1.upS (.inl (.inr (.inl rfl))) h2
      refine weakIf (fun H' => Fr (At tp) H6 H' ∧ Tap H' tp nl) (fun Q' q' => ?_) (fun H7 g => ?_) fun H7 g => ?_
      · refine ⟨_, rfl, _, 1, _, rfl, Tm.is hx, rfl, fun w hw => ⟨w, _, rfl, hw, _, _, rfl, rfl, _, rfl, ifET (fun c1 => ?_) (fun c1 => q' false H6 ⟨.refl, T5.kn f6⟩)⟩⟩
        refine ⟨_, rfl, p, _, rfl, .inl (SqL.of (f6.kn hpp5)), _, _, rfl, rfl, _, rfl, ifET (fun c1 => ?_) (fun c1 => q' false H6 ⟨.refl, T5.kn f6⟩)⟩
        exact ⟨_, rfl, tp, nl, 2, rfl, T5.kn f6, by decide, fun i H7 hi f7 T7 => ⟨_, _, rfl, rfl, _, rfl, q' _ H7 ⟨f7, T7⟩⟩⟩
      · obtain ⟨f7, T7⟩ := g
        obtain ⟨f37, hla7, hzs7, hpp7, hws7, hx7⟩ := later f7
        refine ⟨_, rfl, _, rfl, tp, nl, x, r, rfl, T7, hx7, by omega, by omega, fun w8 H8 f8 T8 bp => ?_⟩
        obtain ⟨a8, y1, y2, b, ps, rfl, t8, hb, hps, hbz, hpl, hpz⟩ := bp
        obtain ⟨f38, hla8, hzs8, hpp8, hws8, hx8⟩ := later (f7.trans f8)
        have hI : Is K H8 (.ref a8) (.tuple [enc b, .tuple (ps.map prD)]) := .tup t8 (.cons hb (.cons hps.is .nil))
        refine ⟨_, rfl, .inl ⟨rfl, _, SqL.of hla8⟩, _, rfl, _, 0, _, rfl, hI, rfl, fun w9 hw9 => ⟨la, _, _, rfl, rfl, hla8, lel (by omega), ?_⟩⟩
        have g9 : Fr (At la) H8 (upd H8 la (.lst (zs ++ [w9]))) := Fr.refl.mut rfl hla8 fun z => z
        have f39 := app (z7 := w9) (u := b) (g := la) f38 hla8
        have hpp9 : (upd H8 la (.lst (zs ++ [w9]))) p = some (.lst ws) := by rw [upd_ne np.1]; exact hpp8
        refine ⟨_, rfl, _, rfl, _, 1, _, rfl, hI.fr g9, rfl, fun w10 hw10 => ?_⟩
        obtain ⟨a10, xs10, rfl, t10, i10⟩ := hw10.tupE
        refine ⟨a10, xs10, rfl, .inr t10.sq, fun l11 hl11 => ?_⟩
        have g11 := Fr.new0 (S := No) (o := .lst xs10) hl11
        refine ⟨p, l11, ws, xs10, rfl, rfl, g11.kn hpp9, upd_same, le_line ?_, fun p12 hp12 => ?_⟩
        · rw [hlw, i10.len, List.length_map]
          omega
        have g12 := Fr.new0 (S := No) (o := .lst (ws ++ xs10)) hp12
        have g912 := g11.trans g12
        have f312 := f39.trans g912.no
        have hq12 : p12 = lp ∨ H3 p12 = none := by
          by_cases z : p12 = lp
          · exact .inl z
          · refine .inr (f39.free (fun y => ?_) (g11.freeN hp12))
            have hn12 := g11.freeN hp12
            obtain ⟨_, _, _, h1, _⟩ := (T8.fr g9 (fun z => ntp.1 z) (fun z => ntp.2.2.1 z)).ex
            rcases (show p12 = tp ∨ p12 = la ∨ p12 = lp from y) with y | y | y
            · rw [y, h1] at hn12; cases hn12
            · rw [y, upd_same] at hn12; cases hn12
            · exact z y
        refine ⟨_, _, p12, zs ++ [w9], ws ++ xs10, us ++ [b], qs ++ ps, rfl, f312, (T8.fr g9 (fun z => ntp.1 z) (fun z => ntp.2.2.1 z)).kn g912, g912.kn upd_same, ?_, hq12, upd_same, ?_, by rw [List.length_append, lu]; rfl, ?_, ?_, fun r' hr' => ?_⟩
        · rw [List.map_append]
          exact ((hzs8.fr g9).fr g912).append (.cons (Is.fr g912 (Is.fr g9 hw9)) .nil)
        · rw [List.map_append]
          exact ((hws8.fr g9).fr g912).append (i10.fr g912)
        · rw [hsum, T.sizes_append]
          show _ + (b.size + 0) ≤ _
          omega
        · rw [hsum, List.length_append]; omega
        · rcases List.mem_append.mp hr' with h | h
          · exact sq r' h
          · have := hpz r' h; omega
      · obtain ⟨f7, T7⟩ := g
        obtain ⟨f37, hla7, hzs7, hpp7, hws7, hx7⟩ := later f7
        refine weakIf (fun H' => Fr (At tp) H6 H' ∧ Tap H' tp nl) (fun Q' q' => ?_) (fun H8 g => ?_) fun H8 g => ?_
        · have last : ∀ (k : Bool → Hp → Prop), (∀ b H', Fr (At tp) H6 H' ∧ Tap H' tp nl → k b H') → ∀ (i : Nat) H8, i < 3 → Fr (At tp) H7 H8 → Tap H8 tp nl → ∀ b, k b H8 := fun k hk i H8 _ f8 T8 b => hk b H8 ⟨f7.trans f8, T8⟩
          refine ⟨_, rfl, _, 1, _, rfl, Tm.is hx7, rfl, fun w hw => ⟨w, _, rfl, hw, _, _, rfl, rfl, _, rfl, ifET (fun c1 => ?_) (fun c1 => ?_)⟩⟩
          · exact iteT ⟨_, rfl, tp, nl, 3, rfl, T7, by decide, fun i H8 hi f8 T8 => ⟨_, _, rfl, rfl, _, rfl, q' _ H8 ⟨f7.trans f8, T8⟩⟩⟩
          · refine isi0B hx7 rfl ?_
            cases isC r.hd with
            | false => exact iteF (q' false H7 ⟨f7, T7⟩)
            | true => exact iteT ⟨_, rfl, tp, nl, 3, rfl, T7, by decide, fun i H8 hi f8 T8 => ⟨_, _, rfl, rfl, _, rfl, q' _ H8 ⟨f7.trans f8, T8⟩⟩⟩
        · obtain ⟨f8, T8⟩ := g
          obtain ⟨f38, hla8, hzs8, hpp8, hws8, hx8⟩ := later f8
          refine ⟨_, rfl, .inl ⟨rfl, _, SqL.of hla8⟩, _, rfl, _, rfl, p, _, rfl, .inl (SqL.of hpp8), _, _, rfl, rfl, _, _, rfl, rfl, [], .nil, Nat.zero_le _, fun v4 H9 f9 hv4 => ⟨_, .cons (.int _) (.cons hv4 .nil), by show 2 ≤ 16000000; decide, fun v5 H10 f10 hv5 => ?_⟩⟩
          have f810 := f9.trans f10
          have hla10 := f810.kn hla8
          refine ⟨la, _, _, rfl, rfl, hla10, lel (by omega), ?_⟩
          have g11 : Fr (At la) H10 (upd H10 la (.lst (zs ++ [v5]))) := Fr.refl.mut rfl hla10 fun z => z
          have f311 := app (z7 := v5) (u := r) (g := la) (f38.trans f810.no) hla10
          have hpp11 : (upd H10 la (.lst (zs ++ [v5]))) p = some (.lst ws) := by rw [upd_ne np.1]; exact f810.kn hpp8
          refine ⟨_, rfl, .inl ⟨rfl, _, SqL.of hpp11⟩, _, rfl, _, rfl, p, _, rfl, .inl (SqL.of hpp11), _, _, rfl, rfl, _, _, rfl, rfl, _, rfl, _, .cons (.int _) (.cons ((hx8.fr f810).fr g11) .nil), by show 2 ≤ 16000000; decide, fun v12 H12 f12 hv12 => ?_⟩
          have hpp12 := f12.kn hpp11
          refine ⟨p, _, _, rfl, rfl, hpp12, lel (by omega), ?_⟩
          have g13 : Fr (At p) H12 (upd H12 p (.lst (ws ++ [v12]))) := Fr.refl.mut rfl hpp12 fun z => z
          have T11 := (T8.kn f810).fr g11 (fun z => ntp.1 z) (fun z => ntp.2.2.1 z)
          have T13 := (T11.kn f12).fr g13 (fun z => np.2.1 (show tp = p from z).symm) (fun z => np.2.2 (show nl = p from z).symm)
          have f313 := (f311.trans f12.no).upS (o := .lst (ws ++ [v12])) (hp5.imp (fun z => .inr (.inr z)) id) hpp12
          refine ⟨_, _, p, zs ++ [v5], ws ++ [v12], us ++ [T.lf (.u (30 + (fr0 : Int) + (ws.length : Nat) + 5))], qs ++ [(30 + (fr0 : Int) + (ws.length : Nat) + 5, r)], rfl, f313, T13, ?_, ?_, hp5, upd_same, ?_, by rw [List.length_append, lu]; rfl, ?_, ?_, fun r' hr' => ?_⟩
          · rw [upd_ne np.1.symm]; exact f12.kn upd_same
          · rw [List.map_append]
            exact ((((hzs8.fr f810).fr g11).fr f12).fr g13).append (.cons (Is.fr g13 (Is.fr f12 (Is.fr g11 hv5))) .nil)
          · rw [List.map_append]
            exact ((((hws8.fr f810).fr g11).fr f12).fr g13).append (.cons (Is.fr g13 hv12) .nil)
          · rw [hsum, T.sizes_append]
            show _ + (1 + 0) ≤ _
            omega
          · rw [hsum, List.length_append]
            show qs.length + 1 ≤ _
            omega
          · rcases List.mem_append.mp hr' with h | h
            · exact sq r' h
            · rw [List.mem_singleton.mp h]
              show r.size ≤ t.size
              omega
        · obtain ⟨f8, T8⟩ := g
          obtain ⟨f38, hla8, hzs8, hpp8, hws8, hx8⟩ := later f8
          refine ⟨_, rfl, .inl ⟨rfl, _, SqL.of hla8⟩, _, rfl, la, _, _, rfl, rfl, hla8, lel (by omega), ?_⟩
          have g9 : Fr (At la) H8 (upd H8 la (.lst (zs ++ [x]))) := Fr.refl.mut rfl hla8 fun z => z
          refine ⟨_, _, p, zs ++ [x], ws, us ++ [r], qs, rfl, app (z7 := x) (u := r) (g := la) f38 hla8, T8.fr g9 (fun z => ntp.1 z) (fun z => ntp.2.2.1 z), upd_same, ?_, hp5, by rw [upd_ne np.1]; exact hpp8, hws8.fr g9, by rw [List.length_append, lu]; rfl, ?_, by rw [hsum]; omega, sq⟩
          · rw [List.map_append]
            exact (hzs8.fr g9).append (.cons (Is.fr g9 hx8) .nil)
          · rw [hsum, T.sizes_append]
            show _ + (r.size + 0) ≤ _
            omega
    · obtain ⟨x5, x6, p, zs, ws, us, qs, rfl, f5, T5, hla5, hzs, hp5, hpp5, hws, lu, su, lq, sq⟩ := z
      rw [List.length_map, List.take_length] at su lq
      refine ⟨_, rfl, _, 0, _, rfl, Tm.is (hv3.fr f5), rfl, fun y0 hy0 => ?_⟩
      obtain rfl := is_hd_inv hy0
      refine ⟨_, rfl, la, zs, _, rfl, hla5, hzs, fun w6 H6 f6 hw6 => ⟨_, .cons is_hd (.cons hw6 .nil), by show 2 ≤ 16000000; decide, fun w7 H7 f7 hw7 => ?_⟩⟩
      have f57 := f6.trans f7
      refine ⟨_, rfl, p, _, rfl, SqL.of (f57.kn hpp5), fun p8 o8 hp8 ho8 => ?_⟩
      have f8 : Fr No H7 (upd H7 p8 (.frz o8 (.tup ws))) := Fr.new0 hp8
      refine ⟨le_line (le16 (Nat.le_of_ble_eq_true rfl)), fun p9 hp9 => ?_⟩
      have f9 := Fr.new0 (S := No) (o := .tup [w7, .ref p8]) hp9
      have f59 := f57.trans (f8.trans f9)
      have hbody : Tm K H7 w7 ((T.lf t.hd).aps us) := Tm.ofMk hw7
      refine q _ _ ?_ (T5.kn f59) ⟨p9, w7, .ref p8, (T.lf t.hd).aps us, qs, rfl, .of upd_same, Is.fr f9 (Is.fr f8 hbody), (Prt.of hp8 ho8 (hws.fr f57)).fr f9, ?_, by omega, sq⟩
      · have z : Fr (fun b => b = tp ∨ b = la ∨ b = lp) H1 _ := (f23.no.trans f5).trans f59.no
        refine f1.trans (z.less fun b hb hn => ?_)
        rcases hb with e | e | e
        · exact absurd e hn
        · rw [e]; exact hla
        · rw [e]; exact hlpH1
      · rw [T.size_mk]; omega
end
end DF

namespace DF
open PySem PySem.Spec PyProof.Rows L2 RZ
/-! ### drawn moves, drawn sessions -/
theorem weakIfB {c : TT} {t u : TS} {D : Ends} {σ : St} {H : Hp} (G : Bool → Hp → Prop) (h1 : ∀ Q' : Bool → Hp → Prop, (∀ b H', G b H' → Q' b H') → c σ H Q') (h2 : ∀ H', G true H' → t D σ H') (h3 : ∀ H', G false H' → u D σ H') : tIfS c t u D σ H :=
  h1 _ fun b H' g => by
    cases b with
    | true => exact iteT (h2 H' g)
    | false => exact iteF (h3 H' g)
theorem passes_len {X : Cx} {W : WX} {n : Nat} (tk : Takes X W) (hn : X.N.length = n) : Passes (L2.CX X.prog X.w) X (fun cls d H => ∀ σ : St, σ.length = n → W cls d σ H) :=
  fun _ σ _ _ e s' I c => tk e s' (XE.of_call I (fun _ _ _ h => h σ (I.len.trans hn)) c)
structure Rfx (K : PySem.W.Frag) : Prop where
  xf : XfC K (aRf K)
  no : PySem.W.findIn K (.ref (aRf K)) "reason" = some none
def TP (tp nl : Addr) : Addr → Prop := fun b => b = tp ∨ b = nl
theorem Tap.all {H : Hp} {tp nl : Addr} (t : Tap H tp nl) : ∀ b, TP tp nl b → ∃ o, H b = some o := fun b hb => by
  obtain ⟨_, _, _, h1, h2⟩ := t.ex
  rcases hb with e | e
  · rw [e]; exact ⟨_, h1⟩
  · rw [e]; exact ⟨_, h2⟩
theorem Tap.nt {H H' : Hp} {tp nl : Addr} (t : Tap H tp nl) (f : Fr (Nt (TP tp nl)) H H') : Tap H' tp nl := t.fr f (fun z => z (.inl rfl)) fun z => z (.inr rfl)
theorem Ses.at {K : PySem.W.Frag} {H H' : Hp} {tp nl s : Addr} {pg : Prog} {ns : List Nd} (h : Ses K (TP tp nl) H s pg ns) (f : Fr (At tp) H H') (t : Tap H' tp nl) : Ses K (TP tp nl) H' s pg ns := h.fr f (fun b z => .inl z) t.all
theorem openAt_head : ∀ {ns : List Nd} {m i : Nat} {rest : List Nat} {y : Nd}, openAt m ns = i :: rest → (y.kind == ("open" : Str)) = false → m ≤ i ∧ openAt m (ns.set (i - m) y) = rest
  | [], _, _, _, _, h, _ => by cases h
  | x :: xs, m, i, rest, y, h, hy => by
    have h : (if (x.kind == ("open" : Str)) = true then [m] else []) ++ openAt (m + 1) xs = i :: rest := h
    cases c : (x.kind == ("open" : Str)) with
    | true =>
      rw [c, if_pos rfl] at h
      injection h with h1 h2
      subst h1
      refine ⟨Nat.le_refl _, ?_⟩
      rw [Nat.sub_self]
      show (if (y.kind == ("open" : Str)) = true then [m] else []) ++ openAt (m + 1) xs = rest
      rw [hy]
      exact h2
    | false =>
      rw [c, if_neg Bool.false_ne_true, List.nil_append] at h
      obtain ⟨h1, h2⟩ := openAt_head h hy
      refine ⟨by omega, ?_⟩
      rw [show i - m = (i - (m + 1)) + 1 by omega]
      show (if (x.kind == ("open" : Str)) = true then [m] else []) ++ openAt (m + 1) (xs.set (i - (m + 1)) y) = rest
      rw [c, h2]; rfl
/-- the body of the drawn move -/
abbrev tMo (K : PySem.W.Frag) (m : Str) (sp : Sp) (W : WX) (t : TA) : TE := tMeth (aS K) m sp [] (fun cls d H => ∀ σ : St, σ.length = 8 → W cls d σ H) (tVar 1) t
def tbMov (K : PySem.W.Frag) (W : WX) : TS :=
  tIfS (tB (tEqI (tVar 3) (tC (.int 0)))) (tDrop (tMo K "expose" (sp_Session_expose K) W (tCons (tVar 2) tNil)))
  (tIfS (tB (tLt (tVar 3) (tC (.int 4)))) (tDrop (tMo K "drive" (sp_Session_drive K) W (tCons (tVar 2) tNil)))
  (tIfS (tB (tEqI (tVar 3) (tC (.int 4))))
    (tSeq (tAsg (tMo K "way" (sp_Session_way K) W (tCons (tVar 2) tNil)) (gName 4))
    (tSeq (tAsg (tCall (sp_law_next K) [] E0 (tCons (tVar 0) (tCons (tMeth (aS K) "count" (sp_Session_count K) [] E0 (tVar 1) tNil) tNil))) (gName 5))
    (tSeq (tIfS (tAnd (tB (tGt (tLenT K (tVar 4)) (tC (.int 0)))) (tB (tGt (tCall (sp_law_next K) [] E0 (tCons (tVar 0) (tCons (tC (.int 3)) tNil))) (tC (.int 0)))))
      (tAsg (tOp (rD K) (tVar 4) (tCall (sp_law_next K) [] E0 (tCons (tVar 0) (tCons (tLenT K (tVar 4)) tNil)))) (gName 5)) tNext)
      (tDrop (tMo K "fold" (sp_Session_fold K) W (tCons (tVar 2) (tCons (tVar 5) tNil)))))))
  (tIfS (tB (tEqI (tVar 3) (tC (.int 5))))
    (tSeq (tAsg (tCall (sp_law_split K 60) [] E0 (tCons (tVar 0) (tCons (tOp (rD K) (tMo K "node" (sp_Session_node K) W (tCons (tVar 2) tNil)) (tC (.int 0))) tNil))) (gName 6))
      (tDrop (tMo K "split" (sp_Session_split K) W (tCons (tVar 2) (tCons (tOp (rIxT K) (tVar 6) (tC (.int 0))) (tCons (tOp (rIxT K) (tVar 6) (tC (.int 1))) tNil))))))
    (tDrop (tMo K "leave" (sp_Session_leave K) W (tCons (tVar 2) tNil))))))
section
variable {P : Program} {w : World} {K : PySem.W.Frag} {mg : Str → Option Value} {base : Heap}
theorem tbMov_ok (Y : Hf K mg) {tp nl s : Addr} {i ch : Nat} {pg : Prog} {ns : List Nd} {H1 : Hp} {D : Ends} {W' : WX} (T1 : Tap H1 tp nl) (hS : Ses K (TP tp nl) H1 s pg ns) (W : WfN pg ns) (Wp : Wf pg) (hi : i < ns.length)
    (hW : ∀ H2, Fr (At tp) H1 H2 → Tap H2 tp nl → XRf K H2 (fun cls d H => ∀ σ : St, σ.length = 8 → W' cls d σ H)) (hn : ∀ σ H' ns', Fr Any H1 H' → Tap H' tp nl → Ses K (TP tp nl) H' s pg ns' → WfN pg ns' → D.nx σ H') :
    tbMov K W' D [some (.ref tp), some (.ref s), some (.int (i : Nat)), some (.int (ch : Nat)), none, none, none, none] H1 := by
  obtain ⟨dx, ln, ld, vp, as, ds, R⟩ := id hS
  have mv : ∀ {σ : St} {H2 : Hp} {Q : VK}, Fr (At tp) H1 H2 → Tap H2 tp nl → (∀ v H', Q v H' = D.nx σ H') → rMove K (TP tp nl) s pg ns H2 Q (fun cls d H => ∀ σ : St, σ.length = 8 → W' cls d σ H) := fun {σ H2 Q} f2 T2 e =>
    ⟨hW H2 f2 T2, fun H' v ns' f S' W'' hc => by rw [e]; exact hn σ H' ns' (f2.any.trans f.any) (T2.nt f) S' W''⟩
  obtain ⟨n, en⟩ : ∃ n, ns[i]? = some n := ⟨_, List.getElem?_eq_getElem hi⟩
  have hz := W.sz n (List.mem_of_getElem? en)
  unfold tbMov
  refine ⟨_, rfl, _, _, rfl, rfl, _, rfl, ifET (fun c => ?_) (fun c => ?_)⟩
  · exact ⟨_, rfl, s, dx, _, rfl, R.hs, rfl, _, rfl, s, i, TP tp nl, pg, ns, rfl, hS, W, Wp, mv .refl T1 fun _ _ => rfl⟩
  refine ⟨_, rfl, _, _, rfl, rfl, _, rfl, ifET (fun c => ?_) (fun c => ?_)⟩
  · exact ⟨_, rfl, s, dx, _, rfl, R.hs, rfl, _, rfl, s, i, TP tp nl, pg, ns, rfl, hS, W, Wp, mv .refl T1 fun _ _ => rfl⟩
  refine ⟨_, rfl, _, _, rfl, rfl, _, rfl, ifET (fun c => ?_) (fun c => ?_)⟩
  · refine ⟨_, rfl, s, dx, _, rfl, R.hs, rfl, _, rfl, s, i, TP tp nl, pg, ns, rfl, hS, W, hi, fun l hl hll w H2 f2 hw => ?_⟩
    have hS2 := hS.kn f2
    obtain ⟨dx2, _, _, _, _, _, R2⟩ := id hS2
    have T2 := T1.kn f2
    have tail : ∀ (k : Nat) (H4 : Hp), k < ns.length → Fr (At tp) H2 H4 → Tap H4 tp nl → tDrop (tMo K "fold" (sp_Session_fold K) W' (tCons (tVar 2) (tCons (tVar 5) tNil))) D [some (.ref tp), some (.ref s), some (.int (i : Nat)), some (.int (ch : Nat)), some w, some (.int (k : Nat)), none, none] H4 := fun k H4 hk f4 T4 => by
      have hS4 := hS2.at f4 T4
      obtain ⟨dx4, _, _, _, _, _, R4⟩ := id hS4
      exact ⟨_, rfl, s, dx4, _, rfl, R4.hs, rfl, _, rfl, _, rfl, s, i, k, TP tp nl, pg, ns, rfl, hS4, W, hk, mv (f2.no.trans f4) T4 fun _ _ => rfl⟩
    refine ⟨_, rfl, _, rfl, s, dx2, _, rfl, R2.hs, rfl, s, TP tp nl, pg, ns, rfl, hS2, tp, nl, ns.length, rfl, T2, W.ne, fun k H3 hk f3 T3 => ?_⟩
    have hw3 := Is.fr f3 hw
    show tIfS (tAnd (tB (tGt (tLenT K (tVar 4)) (tC (.int 0)))) (tB (tGt (tCall (sp_law_next K) [] E0 (tCons (tVar 0) (tCons (tC (.int 3)) tNil))) (tC (.int 0))))) (tAsg (tOp (rD K) (tVar 4) (tCall (sp_law_next K) [] E0 (tCons (tVar 0) (tCons (tLenT K (tVar 4)) tNil)))) (gName 5)) tNext { D with nx := (tDrop (tMo K "fold" (sp_Session_fold K) W' (tCons (tVar 2) (tCons (tVar 5) tNil)))) D } [some (.ref tp), some (.ref s), some (.int (i : Nat)), some (.int (ch : Nat)), some w, some (.int (k : Nat)), none, none] H3
    refine weakIfB (fun b H' => Fr (At tp) H2 H' ∧ Tap H' tp nl ∧ (b = true → 0 < l.length)) (fun Q' q' => ?_) (fun H4 g => ?_) fun H4 g => ?_
    · refine ⟨_, rfl, _, _, rfl, hw3, _, _, rfl, rfl, _, rfl, ?_⟩
      rw [List.length_map]
      refine ifET (fun c1 => ?_) (fun c1 => q' false H3 ⟨f3, T3, fun z => nomatch z⟩)
      exact ⟨_, rfl, tp, nl, 3, rfl, T3, by decide, fun j H4 hj f4 T4 => ⟨_, _, rfl, rfl, _, rfl, q' _ H4 ⟨f3.trans f4, T4, fun _ => by omega⟩⟩⟩
    · obtain ⟨f4, T4, hl0⟩ := g
      have hl0 := hl0 rfl
      have hw4 := Is.fr f4 hw
      refine ⟨_, rfl, _, rfl, _, rfl, _, _, rfl, hw4, ?_⟩
      rw [List.length_map]
      refine ⟨tp, nl, l.length, rfl, T4, hl0, fun j H5 hj f5 T5 => ?_⟩
      obtain ⟨k5, e5⟩ : ∃ k, l[j]? = some k := ⟨_, List.getElem?_eq_getElem hj⟩
      refine ⟨_, j, .int (k5 : Nat), rfl, Is.fr f5 hw4, by rw [atI_nat, List.getElem?_map, e5]; rfl, fun w6 hw6 => ?_⟩
      obtain rfl := hw6.intE
      exact tail k5 H5 (hl k5 (List.mem_of_getElem? e5)) (f4.trans f5) T5
    · exact tail k H4 hk g.1 g.2.1
  refine ⟨_, rfl, _, _, rfl, rfl, _, rfl, ifET (fun c => ?_) (fun c => ?_)⟩
  · refine ⟨_, rfl, _, rfl, s, dx, _, rfl, R.hs, rfl, _, rfl, s, i, TP tp nl, pg, ns, n, rfl, hS, en, fun w H2 f2 hw => ⟨_, 0, _, rfl, hw, rfl, fun w3 hw3 => ?_⟩⟩
    refine ⟨tp, nl, w3, n.term, rfl, T1.kn f2, hw3, hz, hz, fun wp H3 f3 T3 bp => ?_⟩
    obtain ⟨a8, x, y, b, ps, rfl, t8, hb, hps, hbz, hpl, hpz⟩ := bp
    have hS3 := (hS.kn f2).at f3 T3
    obtain ⟨dx3, _, _, _, _, _, R3⟩ := id hS3
    exact ⟨_, rfl, s, dx3, _, rfl, R3.hs, rfl, _, rfl, _, rfl, a8, _, _, _, rfl, rfl, t8.sq, rfl, _, rfl, a8, _, _, _, rfl, rfl, t8.sq, rfl, s, i, TP tp nl, pg, ns, x, y, b, ps, rfl, hS3, W, hb, hps, by omega, by omega, fun p hp => by have := hpz p hp; omega, mv (f2.no.trans f3) T3 fun _ _ => rfl⟩
  · exact ⟨_, rfl, s, dx, _, rfl, R.hs, rfl, _, rfl, s, i, TP tp nl, pg, ns, rfl, hS, W, .inr (hW H1 .refl T1), fun H' v n m f S' W'' _ _ _ => hn _ H' _ f.any (T1.nt f) S' W''⟩
def sp_law_moved (K : PySem.W.Frag) : Sp := fun vs H Q _ => ∃ (tp nl s : Addr) (i : Nat) (pg : Prog) (ns : List Nd), vs = [.ref tp, .ref s, .int (i : Nat)] ∧ Tap H tp nl ∧ Ses K (TP tp nl) H s pg ns ∧ WfN pg ns ∧ Wf pg ∧ i < ns.length ∧
  ∀ v H' ns', Fr Any H H' → Tap H' tp nl → Ses K (TP tp nl) H' s pg ns' → WfN pg ns' → Q v H'
theorem sc__law_moved : FnScope ["_law_tape_here", "_law_session", "_law_number", "_law_choice", "_law_way", "_law_other", "_law_pair", "problem"] ["_law_tape_here", "_law_session", "_law_number"] (defScope Tx.s__law_moved) := C8.fnScope_by (by decide +kernel)
theorem ok_law_moved (Y : Hf K mg) (Z : Mkr P w K mg base) (Zx : Rfx K) : Cl (L2.CX P w) P w K mg base 68 "_law_moved" (sp_law_moved K) := by
  refine Y.d__law_moved.okX sc__law_moved (fun vs H Q E h => ?_) (fun f cdv A outer s H vs Q E hr h => ?_)
  · obtain ⟨tp, nl, s, i, pg, ns, rfl, _⟩ := h; rfl
  have nd := sc__law_moved.nd
  refine ⟨_, ((pss_cons (ps_set (i := 3) nd rfl (by first | exact .inl rfl | exact .inr rfl) (kc (ok_law_next Y) hr (pa_cons (pv 0) (pa_cons pe_int pa_nil)) (hk := by omega)))
    (pss_cons (ps_try_as (i := 7) (tb := (tbMov K)) (ts := (fun a cls d => tRet (tXf a cls d (aRf K) "reason" (tVar 7)))) rfl rfl nd rfl rfl ⟨rfl, by decide, .inl Y.m_Refused⟩ (takes_of rfl rfl rfl rfl) (fun W pn xe tkW po =>
        (pss_one (ps_if (pt_cmp (pc_eqI (pv 3) pe_int))
            (pss_one (ps_expr (kmeX (E := fun cls d H => ∀ σ, σ.length = 8 → W cls d σ H) (ok_expose Y Z) hr (passes_len tkW rfl) (pv 1) (pa_cons (pv 2) pa_nil) (hk := by omega))))
            (pss_one (ps_if (pt_cmp (pc_lt (pv 3) pe_int))
                (pss_one (ps_expr (kmeX (E := fun cls d H => ∀ σ, σ.length = 8 → W cls d σ H) (ok_drive Y Z) hr (passes_len tkW rfl) (pv 1) (pa_cons (pv 2) pa_nil) (hk := by omega))))
                (pss_one (ps_if (pt_cmp (pc_eqI (pv 3) pe_int))
                    (pss_cons (ps_set (i := 4) nd rfl (by first | exact .inl rfl | exact .inr rfl) (kmeX (E := fun cls d H => ∀ σ, σ.length = 8 → W cls d σ H) (ok_way Y Z) hr (passes_len tkW rfl) (pv 1) (pa_cons (pv 2) pa_nil) (hk := by omega)))
                    (pss_cons (ps_set (i := 5) nd rfl (by first | exact .inl rfl | exact .inr rfl) (kc (ok_law_next Y) hr (pa_cons (pv 0) (pa_cons (kme0 (ok_count Y) hr (pv 1) (hk := by omega)) pa_nil)) (hk := by omega)))
                    (pss_cons (ps_if (PW.pt (pw_and (pt_cmp (pc_gt (k_lenT Y.z_len (pv 4)) pe_int)) (pw_and1 (pt_cmp (pc_gt (kc (ok_law_next Y) hr (pa_cons (pv 0) (pa_cons pe_int pa_nil)) (hk := by omega)) pe_int)))))
                        (pss_one (ps_set (i := 5) nd rfl (by first | exact .inl rfl | exact .inr rfl) (pe_ix ix_d (pv 4) (kc (ok_law_next Y) hr (pa_cons (pv 0) (pa_cons (k_lenT Y.z_len (pv 4)) pa_nil)) (hk := by omega)) fun _ _ => rfl))) pss_nil)
                    (pss_one (ps_expr (kmeX (E := fun cls d H => ∀ σ, σ.length = 8 → W cls d σ H) (ok_fold Y Z) hr (passes_len tkW rfl) (pv 1) (pa_cons (pv 2) (pa_cons (pv 5) pa_nil)) (hk := by omega)))))))
                    (pss_one (ps_if (pt_cmp (pc_eqI (pv 3) pe_int))
                        (pss_cons (ps_set (i := 6) nd rfl (by first | exact .inl rfl | exact .inr rfl) (kc (ok_law_split Y 60) hr (pa_cons (pv 0) (pa_cons (pe_ix ix_d (kmeX (E := fun cls d H => ∀ σ, σ.length = 8 → W cls d σ H) (ok_node Y Z) hr (passes_len tkW rfl) (pv 1) (pa_cons (pv 2) pa_nil) (hk := by omega)) pe_int fun _ _ => rfl) pa_nil)) (hk := by omega)))
                        (pss_one (ps_expr (kmeX (E := fun cls d H => ∀ σ, σ.length = 8 → W cls d σ H) (ok_split Y Z) hr (passes_len tkW rfl) (pv 1) (pa_cons (pv 2) (pa_cons (pe_ix ix_tup (pv 6) pe_int fun _ _ => rfl) (pa_cons (pe_ix ix_tup (pv 6) pe_int fun _ _ => rfl) pa_nil))) (hk := by omega)))))
                        (pss_one (ps_expr (kmeX (E := fun cls d H => ∀ σ, σ.length = 8 → W cls d σ H) (ok_leave Y Z) hr (passes_len tkW rfl) (pv 1) (pa_cons (pv 2) pa_nil) (hk := by omega))))))))))))) (fun a oe cls d pn hz hv =>
        (pss_one (ps_ret (pe_xf Zx.xf Zx.no hz hv (pv 7))))))
    (pss_one (ps_ret pe_str))))), ?_⟩
  obtain ⟨tp, nl, s, i, pg, ns, rfl, T0, hS0, W, Wp, hi, q⟩ := h
  refine ⟨_, rfl, tp, nl, 7, rfl, T0, by decide, fun ch H1 hch f1 T1 => ?_⟩
  have hS1 := hS0.at f1 T1
  refine tbMov_ok Y T1 hS1 W Wp hi (fun H2 f2 T2 d v H' f' hd σ hσ => ?_) fun σ H' ns' f' T' S' W' => ?_
  · refine ⟨true, Y.e_Refused, fun _ a ha => ?_, fun h => nomatch h⟩
    have f12 := (f1.trans f2).trans f'.no
    have T2' := T2.kn f'
    exact ⟨.ref a, List.getElem?_set_self (by omega), rfl, rfl, d, _, v, rfl, hd, rfl, q v H' ns f12.any T2' (hS0.at f12 T2') W⟩
  · exact q _ H' ns' (f1.any.trans f') T' S' W'
end
end DF

namespace DF
open PySem PySem.Spec PyProof.Rows L2 RZ
section
variable {X : Cx} {k j : Nat} {C : Addr} {m : Str} {sp : Sp} {pos apos : Pos} {o : Expr} {ta : TE} {E : XK}
theorem kmeX0 {pl : Sem Bool} (c : Me (L2.CX X.prog X.w) X.prog X.w X.K X.mg X.base k C m sp) (hr : Room j X.A) (hx : Passes (L2.CX X.prog X.w) X E) (ho : PE X o ta) (hk : k ≤ j := by decide)
    (ht : eval (.Call (.Attribute o m apos) [] [] pos) X.env = (do
      let ov ← eval o X.env
      standAt apos.atName
      let (f, first) ← holding [ov] (getMethod ov m pl)
      callWith pos f first (backTo pos (starEach [] X.env)) (backToKw pos (keywordEach [] X.env))) := by rfl) :
    PE X (.Call (.Attribute o m apos) [] [] pos) (tMeth C m sp [] E ta tNil) := by
  obtain ⟨f, fd, ps, hc, hm, F, b⟩ := c.ex
  exact pe_meth0 (pl := pl) ho hc hm F (hr.mono hk) b .nil hx ht
end
/-! ### a drawn session, closed -/
section
variable {P : Program} {w : World} {K : PySem.W.Frag} {mg : Str → Option Value} {base : Heap}
def sp_law_closed (K : PySem.W.Frag) : Sp := fun vs H Q _ => ∃ (tp nl : Addr) (v u : V) (pg : Prog) (t : T) (m : Nat), vs = [.ref tp, v, u, .int (m : Nat)] ∧ Tap H tp nl ∧ Is K H v (encG pg) ∧ Tm K H u t ∧ Wf pg ∧ Kn pg t ∧ t.size ≤ 60 ∧ m ≤ 1000 ∧
  ∀ s H' ns, Fr Any H H' → Ses K (TP tp nl) H' s pg ns → WfN pg ns → openAt 0 ns = [] → Q (.ref s) H'
theorem sc__law_closed : FnScope ["_law_tape_here", "_law_program_here", "_law_start", "_law_moves", "_law_session", "_law_k", "_law_found", "_law_number"] ["_law_tape_here", "_law_program_here", "_law_start", "_law_moves"] (defScope Tx.s__law_closed) := C8.fnScope_by (by decide +kernel)
theorem ok_law_closed (Y : Hf K mg) (Z : Mkr P w K mg base) (Zx : Rfx K) : Cl (L2.CX P w) P w K mg base 70 "_law_closed" (sp_law_closed K) := by
  refine Y.d__law_closed.okX sc__law_closed (fun vs H Q E h => ?_) (fun f cdv A outer s H vs Q E hr h => ?_)
  · obtain ⟨tp, nl, v, u, pg, t, m, rfl, _⟩ := h; rfl
  have nd := sc__law_closed.nd
  refine ⟨_, ((pss_cons (ps_set (i := 4) nd rfl (by first | exact .inl rfl | exact .inr rfl) (kma (ok_Session Y) hr (pa_cons (pv 1) (pa_cons (pv 2) pa_nil)) (hk := by omega)))
    (pss_cons (ps_for (passes_of rfl) rfl (pi_range1 rfl Y.z_range (pa_cons (pv 3) pa_nil)) (pg_name (i := 5) nd rfl (by first | exact .inl rfl | exact .inr rfl))
        (pss_cons (ps_set (i := 6) nd rfl (by first | exact .inl rfl | exact .inr rfl) (kme0 (ok_open_nodes Y) hr (pv 4) (hk := by omega)))
        (pss_one (ps_if (pt_cmp (pc_gt (k_lenT Y.z_len (pv 6)) pe_int))
            (pss_one (ps_expr (kcX (E := E) (ok_law_moved Y Z Zx) hr (passes_call (takes_of rfl rfl rfl rfl) fun _ _ _ _ h => h) (pa_cons (pv 0) (pa_cons (pv 4) (pa_cons (pe_ix ix_d (pv 6) (kc (ok_law_next Y) hr (pa_cons (pv 0) (pa_cons (k_lenT Y.z_len (pv 6)) pa_nil)) (hk := by omega)) fun _ _ => rfl) pa_nil))) (hk := by omega)))) pss_nil))))
    (pss_cons (ps_if (pt_cmp (pc_eqI (kc (ok_law_next Y) hr (pa_cons (pv 0) (pa_cons pe_int pa_nil)) (hk := by omega)) pe_int))
        (pss_one (ps_for (passes_of rfl) rfl (pi_tup (kme0 (ok_open_nodes Y) hr (pv 4) (hk := by omega))) (pg_name (i := 7) nd rfl (by first | exact .inl rfl | exact .inr rfl))
            (pss_one (ps_expr (kmeX (E := E) (ok_leave Y Z) hr (passes_call (takes_of rfl rfl rfl rfl) fun _ _ _ _ h => h) (pv 4) (pa_cons (pv 7) pa_nil) (hk := by omega))))))
        (pss_one (ps_expr (kmeX0 (E := E) (ok_auto Y Z) hr (passes_call (takes_of rfl rfl rfl rfl) fun _ _ _ _ h => h) (pv 4) (hk := by omega)))))
    (pss_one (ps_ret (pv 4))))))), ?_⟩
  obtain ⟨tp, nl, v, u, pg, t, m, rfl, T0, hv, hu, Wp, kn, hz, hm, q⟩ := h
  refine ⟨_, rfl, _, rfl, fun s dx hs0 hdx hne => ?_⟩
  have f1 : Fr No H (upd (upd H dx (.own s)) s (.ins (aS K) dx [])) := (Fr.new0 hdx).trans (Fr.new0 (by rw [upd_ne (fun z => hne z.symm)]; exact hs0))
  have T1 := T0.kn f1
  have nts : ¬ TP tp nl s := fun z => by
    obtain ⟨o, e⟩ := T0.all s z
    rw [hs0] at e; cases e
  refine ⟨s, dx, v, u, pg, t, TP tp nl, rfl, upd_same, hv.fr f1, hu.fr f1, nts, T1.all, fun H2 f2 S2 => ⟨rfl, ?_⟩⟩
  have T2 := T1.fr f2 (fun z => nts (.inl (show tp = s from z).symm)) (fun z => nts (.inr (show nl = s from z).symm))
  have f02 : Fr Any H H2 := f1.any.trans f2.any
  refine ⟨_, rfl, (m : Nat), rfl, by omega, by omega, ?_⟩
  refine for_it (dwR (K := K) (S := Any) (H1 := H2) (lo := 0) (n := m)) (fun j σ H' => ∃ (x5 x6 x7 : Option V) (ns : List Nd), σ = [some (.ref tp), some v, some u, some (.int (m : Nat)), some (.ref s), x5, x6, x7] ∧ Fr Any H2 H' ∧ Tap H' tp nl ∧ Ses K (TP tp nl) H' s pg ns ∧ WfN pg ns)
    ⟨none, none, none, _, rfl, .refl, T2, S2, WfN.start hz kn⟩ (fun j σ H' _ z => let ⟨_, _, _, _, _, z, _⟩ := z; z) (fun j x σ H5 H6 hlt z yy => ?_) fun σ H5 z => ?_
  · obtain ⟨x5, x6, x7, ns, rfl, f5, T5, S5, W⟩ := z
    obtain ⟨f6, _, _, _⟩ := yy
    have S6 := S5.kn f6
    have T6 := T5.kn f6
    obtain ⟨dx6, _, _, _, _, _, R6⟩ := id S6
    refine ⟨_, rfl, s, dx6, _, rfl, R6.hs, rfl, s, TP tp nl, pg, ns, rfl, S6, W, fun w7 H7 f7 hw7 => ?_⟩
    have S7 := S6.kn f7
    have T7 := T6.kn f7
    have f27 := (f5.trans f6.any).trans f7.any
    refine ⟨_, rfl, _, _, rfl, hw7, _, _, rfl, rfl, _, rfl, ?_⟩
    rw [List.length_map]
    refine ifET (fun c => ?_) (fun c => ⟨_, _, _, ns, rfl, f27, T7, S7, W⟩)
    refine ⟨_, rfl, _, rfl, _, rfl, _, rfl, _, rfl, _, _, rfl, hw7, ?_⟩
    rw [List.length_map]
    refine ⟨tp, nl, (openAt 0 ns).length, rfl, T7, by omega, fun i H8 hi f8 T8 => ?_⟩
    obtain ⟨k, ek⟩ : ∃ k, (openAt 0 ns)[i]? = some k := ⟨_, List.getElem?_eq_getElem hi⟩
    refine ⟨_, i, .int (k : Nat), rfl, Is.fr f8 hw7, by rw [atI_nat, List.getElem?_map, ek]; rfl, fun w9 hw9 => ?_⟩
    obtain rfl := hw9.intE
    obtain ⟨_, n, en, _⟩ := openAt_mem (List.mem_of_getElem? ek)
    rw [Nat.sub_zero] at en
    have S8 := S7.at f8 T8
    exact ⟨tp, nl, s, k, pg, ns, rfl, T8, S8, W, Wp, (List.getElem?_eq_some_iff.mp en).1, fun v' H9 ns' f9 T9 S9 W9 => ⟨_, _, _, ns', rfl, (f27.trans f8.any).trans f9, T9, S9, W9⟩⟩
  · obtain ⟨x5, x6, x7, ns, rfl, f5, T5, S5, W⟩ := z
    refine ⟨_, rfl, tp, nl, 3, rfl, T5, by decide, fun c H6 hc f6 T6 => ⟨_, _, rfl, rfl, _, rfl, ?_⟩⟩
    have S6 := S5.at f6 T6
    have f06 := (f02.trans f5).trans f6.any
    obtain ⟨dx6, _, _, _, _, _, R6⟩ := id S6
    refine ifET (fun c => ?_) (fun c => ?_)
    · refine ⟨_, rfl, s, dx6, _, rfl, R6.hs, rfl, s, TP tp nl, pg, ns, rfl, S6, W, fun w7 H7 f7 hw7 => ?_⟩
      obtain ⟨a, xs, rfl, ta, ia⟩ := (show Is K H7 w7 (.tuple ((openAt 0 ns).map fun (k : Nat) => .int (k : Int))) from hw7).tupE
      have S7 := S6.kn f7
      have T7 := T6.kn f7
      refine ⟨a, rfl, ⟨_, ta.sq⟩, ?_⟩
      refine for_it (dwT (S := Any) ta ia) (fun j σ H' => ∃ (x5 x6 x7 : Option V) (ns' : List Nd), σ = [some (.ref tp), some v, some u, some (.int (m : Nat)), some (.ref s), x5, x6, x7] ∧ Fr Any H7 H' ∧ Tap H' tp nl ∧ Ses K (TP tp nl) H' s pg ns' ∧ WfN pg ns' ∧ openAt 0 ns' = (openAt 0 ns).drop j)
        ⟨_, _, _, ns, rfl, .refl, T7, S7, W, rfl⟩ (fun j σ H' _ z => let ⟨_, _, _, _, _, z, _⟩ := z; z) (fun j x σ H8 H9 hlt z yy => ?_) fun σ H8 z => ?_
      · obtain ⟨x5, x6, x7, ns', rfl, f8, T8, S8, W8, ho⟩ := z
        obtain ⟨f9, d, hd, hx⟩ := yy
        rw [List.length_map] at hlt
        rw [List.getElem?_map, List.getElem?_eq_getElem hlt] at hd
        cases hd
        obtain rfl := hx.intE
        rw [List.drop_eq_getElem_cons hlt] at ho
        generalize (openAt 0 ns)[j] = k at ho hx ⊢
        obtain ⟨_, n, en, hop⟩ := openAt_mem (show k ∈ openAt 0 ns' by rw [ho]; exact List.mem_cons_self)
        rw [Nat.sub_zero] at en
        have S9 := S8.kn f9
        obtain ⟨dx9, _, _, _, _, _, R9⟩ := id S9
        refine ⟨_, rfl, s, dx9, _, rfl, R9.hs, rfl, _, rfl, s, k, TP tp nl, pg, ns', rfl, S9, W8, .inl ⟨n, en, hop⟩, fun H10 v' n' m' f10 S10 W10 _ _ hk => ?_⟩
        have hh := (openAt_head (m := 0) (y := m') ho (by rw [hk]; decide +kernel)).2
        rw [Nat.sub_zero] at hh
        exact ⟨_, _, _, _, rfl, (f8.trans f9.any).trans f10.any, (T8.kn f9).nt f10, S10, W10, hh⟩
      · obtain ⟨x5, x6, x7, ns', rfl, f8, T8, S8, W8, ho⟩ := z
        rw [List.length_map, List.drop_length] at ho
        exact ⟨_, rfl, q s H8 ns' ((f06.trans f7.any).trans f8) S8 W8 ho⟩
    · refine ⟨_, rfl, s, dx6, _, rfl, R6.hs, rfl, s, TP tp nl, pg, ns, rfl, S6, W, Wp, fun H7 c' ns' f7 S7 W7 ho => ⟨_, rfl, q s H7 ns' (f06.trans f7.any) S7 W7 ho⟩⟩
end
end DF

namespace DF
open PySem PySem.Spec PyProof.Rows L2 RZ
/-! ### what stands for a node, as the law works it out -/
abbrev stD (vp vg : V) (pre : Nat) (kd : Addr) (lg : Bool) : List (Key × V) := [(.inr "program", vp), (.inr "graph", vg), (.inr "prefix", .str (pfx pre)), (.inr "known", .ref kd), (.inr "large", .bl lg)]
structure StL (K : PySem.W.Frag) (H : Hp) (sd : Addr) (pg : Prog) (ns : List Nd) (pre : Nat) (vp vg : V) (kd : Addr) (lg : Bool) : Prop where
  hs : H sd = some (.dK (stD vp vg pre kd lg))
  hp : Is K H vp (encG pg)
  hg : Is K H vg (.tuple (ns.map rowD))
  kn : lg = false → Know K H (S pg pre ns) kd
  kq : ∃ kvs θ, H kd = some (.dK kvs) ∧ DTab K H kvs θ ∧ Keys θ
  ne : sd ≠ kd
def Sk (sd kd : Addr) : Addr → Prop := fun b => b = sd ∨ b = kd
section
variable {K : PySem.W.Frag} {H H' : Hp} {S' : Addr → Prop} {sd kd : Addr} {pg : Prog} {ns : List Nd} {pre : Nat} {vp vg : V} {lg : Bool}
theorem StL.fr (R : StL K H sd pg ns pre vp vg kd lg) (f : Fr S' H H') (n1 : ¬ S' sd) (n2 : ¬ S' kd) : StL K H' sd pg ns pre vp vg kd lg :=
  ⟨f.k _ _ n1 R.hs, R.hp.fr f, R.hg.fr f, fun h => (R.kn h).fr f n2, let ⟨kvs, θ, h1, h2, h3⟩ := R.kq; ⟨kvs, θ, f.k _ _ n2 h1, h2.fr f, h3⟩, R.ne⟩
theorem StL.to (R : StL K H sd pg ns pre vp vg kd lg) (f : Fr No H H') : StL K H' sd pg ns pre vp vg kd lg := R.fr f (fun z => z) fun z => z
theorem StL.get (R : StL K H sd pg ns pre vp vg kd lg) {x : Str} {v : V} (e : valV (stD vp vg pre kd lg) (.inr x) = some v) : DGet H sd (.str x) (some v) := by
  rw [← e]; exact DGet.k (k := .inr x) R.hs
end
/-- what stands for a node, its bound aside -/
def rawF (pg : Prog) (pre : Nat) (ns : List Nd) (n : Nd) (ts : List T) : Option T := match n.tg with
  | none => none
  | some k => match ns[k]? with
    | none => none
    | some m => match matchP m.term n.term with
      | none => none
      | some ps => some ((T.lf (.c (rnm pre k))).aps ((pars pg m).map fun u => (look (fnd ps ts) u).getD default))
theorem argsF_raw {pg : Prog} {pre : Nat} {ns : List Nd} {n : Nd} {ts : List T} : argsF pg pre ns n ts = (rawF pg pre ns n ts).bind bnd := by
  unfold argsF rawF
  cases n.tg with
  | none => rfl
  | some k =>
    dsimp only
    cases ns[k]? with
    | none => rfl
    | some m =>
      dsimp only
      cases matchP m.term n.term <;> rfl
def mkU (pg : Prog) (pre : Nat) (ns : List Nd) (n : Nd) (i : Nat) : Option T :=
  if isFn ns i = true then some (ownT pg pre n i)
  else if n.kind = ("exposed" : Str) then (allS (S pg pre ns) n.ch).map fun ts => (T.lf n.term.hd).aps ts
  else if n.kind = ("stepped" : Str) then S pg pre ns (n.ch.headD 0)
  else if n.kind = ("split" : Str) then (S pg pre ns (n.ch.headD 0)).bind fun b => (allS (S pg pre ns) (n.ch.drop 1)).map fun ts => put b (n.us.zip ts)
  else if n.kind = ("folded" : Str) then (allS (S pg pre ns) n.ch).bind fun ts => rawF pg pre ns n ts
  else some n.term
def bigK (n : Nd) : Bool := decide (n.kind ∈ (["exposed", "split", "folded"] : List Str))
theorem bigK_no {ns : List Nd} {n : Nd} {i : Nat} (e : ns[i]? = some n) (h : bigK n = true) : isFn ns i = false := by
  cases c : isFn ns i with
  | false => rfl
  | true =>
    have h := of_decide_eq_true h
    rcases isFn_kind e c with k | k
    · rw [k] at h; exact absurd h (by decide +kernel)
    · rw [k] at h; exact absurd h (by decide +kernel)
theorem S_U {pg : Prog} {pre : Nat} {ns : List Nd} {n : Nd} {i : Nat} (W : WfN pg ns) (e : ns[i]? = some n) : S pg pre ns i = if bigK n = true then (mkU pg pre ns n i).bind bnd else mkU pg pre ns n i := by
  rw [S_eq W e]
  cases hb : bigK n with
  | true =>
    rw [if_pos rfl]
    have hF := bigK_no e hb
    unfold mk1 mkU
    rw [hF, if_neg Bool.false_ne_true, if_neg Bool.false_ne_true]
    by_cases k1 : n.kind = ("exposed" : Str)
    · rw [if_pos k1, if_pos k1]
      cases allS (S pg pre ns) n.ch <;> rfl
    rw [if_neg k1, if_neg k1]
    by_cases k2 : n.kind = ("stepped" : Str)
    · have h := of_decide_eq_true hb
      rw [k2] at h
      exact absurd h (by decide +kernel)
    rw [if_neg k2, if_neg k2]
    by_cases k3 : n.kind = ("split" : Str)
    · rw [if_pos k3, if_pos k3]
      cases S pg pre ns (n.ch.headD 0) with
      | none => rfl
      | some b =>
        show ((allS (S pg pre ns) (n.ch.drop 1)).bind fun ts => bnd (put b (n.us.zip ts))) = ((allS (S pg pre ns) (n.ch.drop 1)).map fun ts => put b (n.us.zip ts)).bind bnd
        cases allS (S pg pre ns) (n.ch.drop 1) <;> rfl
    rw [if_neg k3, if_neg k3]
    by_cases k4 : n.kind = ("folded" : Str)
    · rw [if_pos k4, if_pos k4]
      cases allS (S pg pre ns) n.ch with
      | none => rfl
      | some ts => exact argsF_raw
    · have h := of_decide_eq_true hb
      rcases List.mem_cons.mp h with z | h
      · exact absurd z k1
      · rcases List.mem_cons.mp h with z | h
        · exact absurd z k3
        · exact absurd (List.mem_singleton.mp h) k4
  | false =>
    rw [if_neg Bool.false_ne_true]
    have hk : ∀ s : Str, s ∈ (["exposed", "split", "folded"] : List Str) → ¬ n.kind = s := fun s hs z => by
      rw [← z] at hs
      unfold bigK at hb
      rw [decide_eq_true hs] at hb
      cases hb
    unfold mk1 mkU
    rw [if_neg (hk _ (by decide +kernel)), if_neg (hk "split" (by decide +kernel)), if_neg (hk "folded" (by decide +kernel)), if_neg (hk "exposed" (by decide +kernel)), if_neg (hk "split" (by decide +kernel)), if_neg (hk "folded" (by decide +kernel))]
theorem set1_two {θ : Tab} {i : Int} {a b : T} (h : look θ i = none) : set1 (θ ++ [(i, a)]) i b = θ ++ [(i, b)] := by
  unfold set1
  have hn : ∀ p ∈ θ, ¬ p.1 = i := fun p hp z => by
    have : θ.any (fun p => decide (p.1 = i)) = true := List.any_eq_true.mpr ⟨p, hp, decide_eq_true z⟩
    rw [← look_any, h] at this
    cases this
  rw [if_pos (by rw [List.any_append]; simp), List.map_append]
  have e1 : θ.map (fun p => if p.1 = i then (p.1, b) else p) = θ := by
    conv => rhs; rw [← List.map_id θ]
    exact List.map_congr_left fun p hp => if_neg (hn p hp)
  rw [e1]
  simp
theorem fnd_le : ∀ (ps : List (Int × T)) (ts : List T), (∀ p ∈ ps, p.2.size ≤ 121) → (∀ t ∈ ts, t.size ≤ 121) → ∀ p ∈ fnd ps ts, p.2.size ≤ 121
  | [], _, _, _, p, hp => by cases hp
  | q :: ps, ts, h1, h2, p, hp => by
    unfold fnd at hp
    split at hp
    · rcases List.mem_cons.mp hp with e | hp
      · rw [e]; exact h1 q List.mem_cons_self
      · exact fnd_le ps ts (fun p hp => h1 p (List.mem_cons_of_mem _ hp)) h2 p hp
    · rcases List.mem_cons.mp hp with e | hp
      · rw [e]
        cases ts with
        | nil => show (T.lf default).size ≤ 121; show 1 ≤ 121; decide
        | cons a ts => exact h2 a List.mem_cons_self
      · exact fnd_le ps (ts.drop 1) (fun p hp => h1 p (List.mem_cons_of_mem _ hp)) (fun t ht => h2 t (List.mem_of_mem_drop ht)) p hp
theorem raw_size {x : Nm} {us : List Int} {ps : List (Int × T)} {ts : List T} (h1 : ∀ p ∈ ps, p.2.size ≤ 121) (h2 : ∀ t ∈ ts, t.size ≤ 121) : ((T.lf (.c x)).aps (us.map fun u => (look (fnd ps ts) u).getD default)).size ≤ 1 + 121 * us.length := by
  rw [T.size_mk]
  have := sizes_le (M := 121) (ts := us.map fun u => (look (fnd ps ts) u).getD default) fun t ht => by
    obtain ⟨u, _, rfl⟩ := List.mem_map.mp ht
    cases e : look (fnd ps ts) u with
    | none => show (T.lf default).size ≤ 121; show 1 ≤ 121; decide
    | some t => exact fnd_le ps ts h1 h2 _ (look_mem e)
  rw [List.length_map] at this
  omega
theorem orIf {t1 t2 : TT} {a b : TS} {D : Ends} {σ : St} {H : Hp} (c : Bool) (h1 : ∀ Q' : Bool → Hp → Prop, Q' c H → tOr t1 t2 σ H Q') (h2 : c = true → a D σ H) (h3 : c = false → b D σ H) : tIfS (tOr t1 t2) a b D σ H :=
  h1 _ (by
    cases c with
    | true => exact iteT (h2 rfl)
    | false => exact iteF (h3 rfl))
section
variable {P : Program} {w : World} {K : PySem.W.Frag} {mg : Str → Option Value} {base : Heap}
def rLs (K : PySem.W.Frag) (pg : Prog) (ns : List Nd) (pre : Nat) (sd : Addr) (vp vg : V) (kd : Addr) (H : Hp) (Q : VK) (lg : Bool) (o : Option T) : Prop :=
  ∀ (t : T) (lg' : Bool) (v : V) (H' : Hp), Fr (Sk sd kd) H H' → StL K H' sd pg ns pre vp vg kd lg' → Tm K H' v t → t.size ≤ 120 → (lg' = false → lg = false ∧ o = some t) → (lg' = true → lg = true ∨ o = none) → Q v H'
def sp_law_stands (K : PySem.W.Frag) (m : Nat) : Sp := fun vs H Q _ => ∃ (sd : Addr) (i : Nat) (pg : Prog) (ns : List Nd) (pre : Nat) (vp vg : V) (kd : Addr) (lg : Bool), vs = [.ref sd, .int (i : Nat)] ∧ StL K H sd pg ns pre vp vg kd lg ∧ WfN pg ns ∧ Wf pg ∧ Pfx pg pre ∧ i < ns.length ∧ ns.length - i ≤ m ∧
  rLs K pg ns pre sd vp vg kd H Q lg (S pg pre ns i)
def sp_law_folded (K : PySem.W.Frag) (m : Nat) : Sp := fun vs H Q _ => ∃ (sd : Addr) (u : V) (i : Nat) (n : Nd) (pg : Prog) (ns : List Nd) (pre : Nat) (vp vg : V) (kd : Addr), vs = [.ref sd, u] ∧ Is K H u (rowD n) ∧ ns[i]? = some n ∧ n.kind = ("folded" : Str) ∧ StL K H sd pg ns pre vp vg kd false ∧ WfN pg ns ∧ Wf pg ∧ Pfx pg pre ∧ ns.length - i ≤ m + 1 ∧
  ∀ (t : T) (lg' : Bool) (v : V) (H' : Hp), Fr (Sk sd kd) H H' → StL K H' sd pg ns pre vp vg kd lg' → Tm K H' v t → t.size ≤ 1000000 → (lg' = false → ((allS (S pg pre ns) n.ch).bind fun ts => rawF pg pre ns n ts) = some t) → (lg' = true → ((allS (S pg pre ns) n.ch).bind fun ts => rawF pg pre ns n ts) = none) → Q v H'
theorem sc__law_stands : FnScope ["_law_state", "_law_number", "_law_program_here", "_law_graph", "_law_row", "_law_result", "_law_arguments", "_law_unknown", "_law_child", "_law_body", "_law_parts", "_law_k", "_law_known"] ["_law_state", "_law_number"] (defScope Tx.s__law_stands) := C8.fnScope_by (by decide +kernel)
theorem sc__law_folded : FnScope ["_law_state", "_law_row", "_law_found", "_law_at", "_law_pair", "_law_parameters_here", "_law_unknown"] ["_law_state", "_law_row"] (defScope Tx.s__law_folded) := C8.fnScope_by (by decide +kernel)
theorem isi_or {K : PySem.W.Frag} {σ : St} {H : Hp} {r : T} : (isC r.hd || decide (0 < r.args.length)) = !r.isVar := by
  cases r with
  | lf h => cases h <;> rfl
  | ap f a =>
    have e : 0 < (T.ap f a).args.length := by show 0 < (f.args ++ [a]).length; rw [List.length_append]; exact Nat.succ_pos _
    rw [decide_eq_true e, Bool.or_true]; rfl
theorem ok_law_folded (Y : Hf K mg) (m : Nat) (ih : Cl CX0 P w K mg base (2 * m + 124) "_law_stands" (sp_law_stands K m)) : Cl CX0 P w K mg base (2 * m + 125) "_law_folded" (sp_law_folded K m) := by
  refine Y.d__law_folded.ok sc__law_folded (fun vs H Q E h => ?_) (fun f cdv A outer s H vs Q E hr h => ?_)
  · obtain ⟨sd, u, i, n, pg, ns, pre, vp, vg, kd, rfl, _⟩ := h; rfl
  have nd := sc__law_folded.nd
  refine ⟨_, ((pss_cons (ps_set (i := 2) nd rfl (by first | exact .inl rfl | exact .inr rfl) pe_dnewK)
    (pss_cons (ps_set (i := 3) nd rfl (by first | exact .inl rfl | exact .inr rfl) pe_int)
    (pss_cons (ps_for PassesOwn.never rfl (pi_tup (kc (ok_match Y 60) hr (pa_cons (pe_ix ix_d (pe_ix ix_d (pe_dget (hu1 hr) (pv 0) pe_str fun _ _ => rfl) (pe_ix ix_d (pv 1) pe_int fun _ _ => rfl) fun _ _ => rfl) pe_int fun _ _ => rfl) (pa_cons (pe_ix ix_d (pv 1) pe_int fun _ _ => rfl) pa_nil)) (hk := by omega))) (pg_name (i := 4) nd rfl (by first | exact .inl rfl | exact .inr rfl))
        (pss_cons (ps_dput (hu1 hr) (pv 2) (pe_ix ix_d (pv 4) pe_int fun _ _ => rfl) (pe_ix ix_d (pv 4) pe_int fun _ _ => rfl) rfl)
        (pss_one (ps_if (PW.pt (pw_or (pt_val (k_isi Y.z_isinstance Y.z_str (pe_ix ix_d (pe_ix ix_d (pv 4) pe_int fun _ _ => rfl) pe_int fun _ _ => rfl))) (pw_or1 (pt_cmp (pc_gt (k_lenT Y.z_len (pe_ix ix_d (pe_ix ix_d (pv 4) pe_int fun _ _ => rfl) pe_int fun _ _ => rfl)) pe_int)))))
            (pss_cons (ps_dput (hu1 hr) (pv 2) (pe_ix ix_d (pv 4) pe_int fun _ _ => rfl) (kc ih hr (pa_cons (pv 0) (pa_cons (pe_ix ix_d (pe_ix ix_d (pv 1) pe_int fun _ _ => rfl) (pv 3) fun _ _ => rfl) pa_nil)) (hk := by omega)) rfl)
            (pss_one (ps_set (i := 3) nd rfl (by first | exact .inl rfl | exact .inr rfl) (pe_add (pv 3) pe_int)))) pss_nil))))
    (pss_cons (ps_set (i := 5) nd rfl (by first | exact .inl rfl | exact .inr rfl) (kc (ok_law_parameters Y) hr (pa_cons (pe_dget (hu1 hr) (pv 0) pe_str fun _ _ => rfl) (pa_cons (pe_ix ix_d (pe_dget (hu1 hr) (pv 0) pe_str fun _ _ => rfl) (pe_ix ix_d (pv 1) pe_int fun _ _ => rfl) fun _ _ => rfl) pa_nil)) (hk := by omega)))
    (pss_one (ps_ret (pe_tupD (pa_cons (pe_op op_add_str (pe_dget (hu1 hr) (pv 0) pe_str fun _ _ => rfl) (k_str Y.z_str (pe_ix ix_d (pv 1) pe_int fun _ _ => rfl))) (pa_cons (k_tup Y.z_tuple (pe_lc (own := [("_law_unknown", 6)]) (g := (gName 6)) (tt := tYes) (te := (tDGet (tVar 2) (tVar 6))) rfl nd (pi_list (pv 5)) (blkOk_by (own := [("_law_unknown", 6)]) (N := ["_law_state", "_law_row", "_law_found", "_law_at", "_law_pair", "_law_parameters_here", "_law_unknown"]) (sc := defScope Tx.s__law_folded) (by decide +kernel)) (fun _ _ _ _ _ => (pg_name (i := 6) nd rfl (by first | exact .inl rfl | exact .inr rfl))) (fun _ _ _ _ _ => pts_nil) (fun _ _ _ _ _ => (pe_dget (hu1 hr) (pv 2) (pv 6) fun _ _ => rfl)))) pa_nil)))))))))), ?_⟩
  obtain ⟨sd, u, i, n, pg, ns, pre, vp, vg, kd, rfl, hu, en, hk, R, W, Wp, hp, hm, q⟩ := h
  have hmem := List.mem_of_getElem? en
  obtain ⟨k, m', ps, htg, em, hkm, hps, hcl⟩ := (W.ok n hmem).fol hk
  have hmm := List.mem_of_getElem? em
  have hkl := (List.getElem?_eq_some_iff.mp em).1
  have hnl := W.len
  have hz := W.sz n hmem
  have hzm := W.sz m' hmm
  have hFk := isFn_fol (pg := pg) hmem htg em hkm
  have hcs : ∀ c ∈ n.ch, i < c ∧ c < ns.length := fun c hc => W.ch i n c en hc
  obtain ⟨hpk, hpz⟩ := matchP_parts hps
  have hpl : ps.length ≤ 60 := by
    have h1 := congrArg List.length hpk
    rw [List.length_map] at h1
    have := unks_len m'.term
    omega
  have hnd : (ps.map (·.1)).Nodup := by rw [hpk]; exact nodup_uniq _
  have hraw : ∀ ts, rawF pg pre ns n ts = some ((T.lf (.c (rnm pre k))).aps ((pars pg m').map fun u => (look (fnd ps ts) u).getD default)) := fun ts => by
    unfold rawF
    rw [htg]
    dsimp only
    rw [em]
    dsimp only
    rw [hps]
  have hu : Is K H u (.tuple [.str n.kind, enc n.term, natsD n.ch, .int (k : Nat), intsD n.us]) := by
    unfold rowD at hu
    rw [htg] at hu
    exact hu
  refine fun d hd => ?_
  have f1 : Fr No H (upd H d (.dK [])) := Fr.new0 hd
  have R1 := R.to f1
  have hu1 := hu.fr f1
  refine ⟨_, rfl, sd, vg, rfl, R1.get rfl, _, rfl, _, 3, _, rfl, hu1, rfl, fun w1 hw1 => ?_⟩
  obtain rfl := hw1.intE
  refine ⟨_, k, _, rfl, R1.hg, row_at em, fun w2 hw2 => ⟨_, 1, _, rfl, hw2, rfl, fun w3 hw3 => ⟨_, rfl, _, 1, _, rfl, hu1, rfl, fun w4 hw4 => ?_⟩⟩⟩
  refine ⟨w3, m'.term, w4, n.term, rfl, hw3, hw4, by omega, by omega, by omega, ?_⟩
  rw [hps]
  intro w5 H3 f3 hw5
  obtain ⟨a, xs, rfl, ta, ia⟩ := hw5.tupE
  have f13 := f1.trans f3
  have R3 := R1.to f3
  have hd3 := f3.kn (show (upd H d (.dK [])) d = some (.dK []) from upd_same)
  have nsd : sd ≠ d := fun z => by have h := R.hs; rw [z, hd] at h; exact nomatch h
  have nkd : kd ≠ d := fun z => by obtain ⟨_, _, h, _⟩ := R.kq; rw [z, hd] at h; exact nomatch h
  have hu3 := hu1.fr f3
  refine ⟨a, rfl, ⟨_, ta.sq⟩, ?_⟩
  refine for_it (dwT (S := fun b => b = d ∨ Sk sd kd b) ta ia) (fun j σ H' => ∃ (x4 : Option V) (kvs : List (Key × V)) (ts : List T) (lg : Bool), σ = [some (.ref sd), some u, some (.ref d), some (.int (ts.length : Nat)), x4, none, none] ∧ Fr (fun b => b = d ∨ Sk sd kd b) H3 H' ∧ H' d = some (.dK kvs) ∧ DTab K H' kvs (fnd (ps.take j) ts) ∧ ts.length = (bigs (ps.take j)).length ∧ (∀ t ∈ ts, t.size ≤ 120) ∧
      StL K H' sd pg ns pre vp vg kd lg ∧ (lg = false → allS (S pg pre ns) (n.ch.take ts.length) = some ts) ∧ (lg = true → allS (S pg pre ns) n.ch = none))
    ⟨none, [], [], false, rfl, .refl, hd3, .nil, rfl, fun t ht => absurd ht List.not_mem_nil, R3, fun _ => rfl, fun z => nomatch z⟩ (fun j σ H' _ z => let ⟨_, _, _, _, _, z, _⟩ := z; z) (fun j x σ H5 H6 hlt z yy => ?_) fun σ H5 z => ?_
  · obtain ⟨x4, kvs, ts, lg, rfl, f5, hd5, hT, htl, htz, R5, e1, e2⟩ := z
    obtain ⟨f6, dd, hdd, hx⟩ := yy
    rw [List.getElem?_map] at hdd
    cases ep : ps[j]? with
    | none => rw [ep] at hdd; cases hdd
    | some p =>
    rw [ep] at hdd
    cases hdd
    have hjl := (List.getElem?_eq_some_iff.mp ep).1
    have hx : Is K H6 x (.tuple [.int p.1, enc p.2]) := hx
    have R6 := R5.to f6
    have hd6 := f6.kn hd5
    have hT6 := hT.fr f6
    have hu6 := (hu3.fr f5).fr f6
    have hnot : look (fnd (ps.take j) ts) p.1 = none := by
      refine look_noneK ?_
      rw [fnd_keys]
      have e1 : ps = ps.take j ++ ps.drop j := (List.take_append_drop j ps).symm
      rw [e1, List.map_append, List.nodup_append] at hnd
      intro hin
      refine hnd.2.2 p.1 hin p.1 ?_ rfl
      rw [List.drop_eq_getElem_cons hjl, (List.getElem?_eq_some_iff.mp ep).2]
      exact List.mem_map.mpr ⟨p, List.mem_cons_self, rfl⟩
    have hkl2 : kvs.length < sizeLine := lt_line (by
      rw [hT.len, fnd_len]
      have := List.length_take_le' j ps
      omega)
    refine ⟨_, rfl, _, 1, _, rfl, hx, rfl, fun y hy => ⟨_, rfl, _, rfl, _, 0, _, rfl, hx, rfl, fun z hz => ?_⟩⟩
    obtain rfl := hz.intE
    refine ⟨d, _, rfl, DPut.k (k := .inl p.1) hd6 hkl2, ?_⟩
    have g7 : Fr (fun b => b = d ∨ Sk sd kd b) H6 (upd H6 d (.dK (putK kvs (.inl p.1) y))) := Fr.refl.mut (.inl rfl) hd6 fun z => z
    have g7' : Fr (At d) H6 (upd H6 d (.dK (putK kvs (.inl p.1) y))) := Fr.refl.mut rfl hd6 fun z => z
    have hput := (hT6.fr g7).put (i := p.1) (Is.fr g7 hy)
    rw [set1_new hnot] at hput
    have hd7 : (upd H6 d (.dK (putK kvs (.inl p.1) y))) d = some (.dK (putK kvs (.inl p.1) y)) := upd_same
    have R7 := R6.fr g7' nsd nkd
    have hx7 := hx.fr g7
    have hu7 := hu6.fr g7
    have hk7 : (putK kvs (.inl p.1) y).length < sizeLine := lt_line (by
      rw [hput.len, List.length_append, fnd_len]
      have := List.length_take_le' j ps
      show _ + 1 < _
      omega)
    have f57 := (f5.trans f6.no).trans g7
    generalize upd H6 d (.dK (putK kvs (.inl p.1) y)) = H7 at g7 g7' hput hd7 R7 hx7 hu7 f57 ⊢
    generalize putK kvs (.inl p.1) y = kvs7 at hput hd7 hk7 ⊢
    dsimp only
    refine orIf (!p.2.isVar) (fun Q' q' => ?_) (fun c => ?_) (fun c => ?_)
    · refine ⟨_, rfl, _, 1, _, rfl, hx7, rfl, fun y hy => ⟨_, 0, _, rfl, Tm.is hy, rfl, fun z hz => ?_⟩⟩
      obtain rfl := is_hd_inv hz
      refine isiE p.2.hd ⟨_, rfl, ?_⟩
      have e := isi_or (K := K) (σ := []) (H := H7) (r := p.2)
      show if isC p.2.hd = true then Q' true H7 else _
      cases hc : isC p.2.hd with
      | true =>
        rw [hc, Bool.true_or] at e
        rw [← e] at q'
        exact iteT q'
      | false =>
        rw [hc, Bool.false_or] at e
        rw [← e] at q'
        refine iteF ⟨_, rfl, _, 1, _, rfl, hx7, rfl, fun y hy => ⟨_, 1, _, rfl, Tm.is hy, rfl, fun z hz => ⟨_, _, rfl, hz, _, _, rfl, rfl, _, rfl, ?_⟩⟩⟩
        rw [List.length_map]
        have e2 : decide ((0 : Int) < ((p.2.args.length : Nat) : Int)) = decide (0 < p.2.args.length) := by rw [decide_eq_decide]; omega
        show Q' (decide ((0 : Int) < ((p.2.args.length : Nat) : Int))) H7
        rw [e2]
        exact q'
    · have c : p.2.isVar = false := by simpa using c
      have hlt2 : ts.length < n.ch.length := by
        rw [hcl, htl]
        have e2 : ps = ps.take (j + 1) ++ ps.drop (j + 1) := (List.take_append_drop _ _).symm
        conv => rhs; rw [e2]
        have e3 : bigs (ps.take (j + 1) ++ ps.drop (j + 1)) = bigs (ps.take (j + 1)) ++ bigs (ps.drop (j + 1)) := by unfold bigs; rw [List.filterMap_append]
        rw [e3, take_snoc ep, bigs_snoc, if_neg (by rw [c]; exact Bool.false_ne_true), List.length_append, List.length_append]
        show _ < _ + 1 + _
        omega
      obtain ⟨cc, ecc⟩ : ∃ cc, n.ch[ts.length]? = some cc := ⟨_, List.getElem?_eq_getElem hlt2⟩
      have hcc := hcs cc (List.mem_of_getElem? ecc)
      refine ⟨_, rfl, _, rfl, _, 2, _, rfl, hu7, rfl, fun w8 hw8 => ⟨_, rfl, _, ts.length, .int (cc : Int), rfl, hw8, by rw [atI_nat, List.getElem?_map, ecc]; rfl, fun w9 hw9 => ?_⟩⟩
      obtain rfl := hw9.intE
      refine ⟨sd, cc, pg, ns, pre, vp, vg, kd, lg, rfl, R7, W, Wp, hp, hcc.2, by omega, fun t8 lg8 v8 H8 f8 R8 hv8 hz8 i1 i2 => ?_⟩
      have f8' : Fr (fun b => b = d ∨ Sk sd kd b) H7 H8 := f8.mono fun b z => .inr z
      have hd8 := f8.k d _ (fun z => z.elim (fun z => nsd z.symm) fun z => nkd z.symm) hd7
      refine ⟨_, rfl, _, rfl, _, 0, _, rfl, hx7.fr f8, rfl, fun z hz => ?_⟩
      obtain rfl := hz.intE
      refine ⟨d, _, rfl, DPut.k (k := .inl p.1) hd8 hk7, _, rfl, _, _, rfl, rfl, ?_⟩
      have g9 : Fr (fun b => b = d ∨ Sk sd kd b) H8 (upd H8 d (.dK (putK kvs7 (.inl p.1) v8))) := Fr.refl.mut (.inl rfl) hd8 fun z => z
      have hput9 := ((hput.fr f8').fr g9).put (i := p.1) (hv8.fr g9)
      rw [set1_two hnot] at hput9
      refine ⟨_, _, ts ++ [t8], lg8, by rw [List.length_append]; rfl, (f57.trans f8').trans g9, upd_same, ?_, ?_, fun t ht => ?_, R8.fr (Fr.refl.mut (S := At d) rfl hd8 fun z => z) nsd nkd, fun z => ?_, fun z => ?_⟩
      · rw [take_snoc ep, fnd_snocB c htl]
        exact hput9
      · rw [take_snoc ep, bigs_snoc, if_neg (by rw [c]; exact Bool.false_ne_true), List.length_append, List.length_append, htl]; rfl
      · rcases List.mem_append.mp ht with h | h
        · exact htz t h
        · rw [List.mem_singleton.mp h]; exact hz8
      · rw [List.length_append]
        exact allS_snoc (e1 (i1 z).1) ecc (i1 z).2
      · rcases i2 z with h | h
        · exact e2 h
        · exact allS_none (List.mem_of_getElem? ecc) h
    · have c : p.2.isVar = true := by simpa using c
      refine ⟨_, _, ts, lg, rfl, f57, hd7, ?_, ?_, htz, R7, e1, e2⟩
      · rw [take_snoc ep, fnd_snocV c]
        exact hput
      · rw [take_snoc ep, bigs_snoc, if_pos c, List.append_nil]; exact htl
  · obtain ⟨x4, kvs, ts, lg, rfl, f5, hd5, hT, htl, htz, R5, e1, e2⟩ := z
    rw [List.length_map, List.take_length] at hT htl
    have e1 : lg = false → allS (S pg pre ns) n.ch = some ts := fun z => by
      have := e1 z
      rwa [htl, ← hcl, List.take_length] at this
    have hu5 := hu3.fr f5
    have fz : ∀ {H10}, Fr No H5 H10 → Fr (Sk sd kd) H H10 := fun {H10} f10 => by
      have fz : Fr (fun b => b = d ∨ Sk sd kd b) H H10 := (f13.no.trans f5).trans f10.no
      refine fz.less fun b hb hn => ?_
      rcases hb with e | e
      · rw [e]; exact hd
      · exact absurd e hn
    have hdm : ∀ j g, dem pg m'.term = .nds j g → Hd.u j ∈ m'.term.heads := fun j g e => (dem_nds Wp _ m'.term (Nat.le_refl _) j g e).1
    have hpz2 : (pars pg m').length ≤ 61 := by have := pars_len (pg := pg) m'; omega
    refine ⟨_, rfl, sd, vp, rfl, R5.get rfl, _, rfl, sd, vg, rfl, R5.get rfl, _, rfl, _, 3, _, rfl, hu5, rfl, fun w6 hw6 => ?_⟩
    obtain rfl := hw6.intE
    refine ⟨_, k, _, rfl, R5.hg, row_at em, fun w7 hw7 => ⟨vp, w7, pg, ns, m', k, rfl, R5.hp, hw7, W, Wp, em, hFk, fun H6 p6 f6 hp60 hp6 => ?_⟩⟩
    have R6 := R5.to f6
    have sm : (k : Int).natAbs.log2 < 1920 ∧ (pfx pre).length + (Str.ofString (toString (k : Int))).length ≤ sizeLine := by
      have h1 : ((List.range 9).all fun k => (List.range 40).all fun i => decide ((i : Int).natAbs.log2 < 1920 ∧ (pfx k).length + (Str.ofString (toString (i : Int))).length ≤ sizeLine)) = true := by decide +kernel
      exact of_decide_eq_true (List.all_eq_true.mp (List.all_eq_true.mp h1 pre (List.mem_range.mpr hp.lt)) k (List.mem_range.mpr (by omega)))
    refine ⟨_, rfl, sd, _, rfl, R6.get rfl, _, rfl, _, 3, _, rfl, hu5.fr f6, rfl, fun w8 hw8 => ?_⟩
    obtain rfl := hw8.intE
    refine ⟨_, rfl, sm.1, _, _, rfl, rfl, sm.2, ?_⟩
    refine ⟨_, rfl, p6, rfl, ⟨_, SqL.of hp6⟩, fun D hD => lcD (K := K) (l := pars pg m') (en := PyData.int) (f := fun u => some (enc ((look (fnd ps ts) u).getD default))) (dwL (S := No) hp6 (isAll_ints _) (fun z => z)) hD (by omega) (fun u x H7 yes no hu f7 hx yesH noH => ?_) fun H7 ys f7 hD7 hys => ?_⟩
    · obtain rfl := hx.intE
      refine ⟨rfl, yesT ⟨_, rfl, _, rfl, d, ?_⟩⟩
      have f57 := f6.trans f7
      rcases (hT.fr f57).get (i := u) with ⟨l1, l2⟩ | ⟨u', y, l1, l2, hy'⟩
      · obtain ⟨t', ht'⟩ := look_some_of (θ := fnd ps ts) (i := u) (by rw [fnd_keys, hpk]; exact pars_mem hu hdm)
        rw [ht'] at l1; cases l1
      · refine ⟨y, rfl, by rw [← l2]; exact DGet.k (k := .inl u) (f57.kn hd5), yesH y H7 _ .refl hy' ?_⟩
        rw [l1]; rfl
    · rw [fm_some, map_two (fun u => (look (fnd ps ts) u).getD default) enc] at hys
      refine ⟨D, ys, _, rfl, hD7, hys, fun w8 H8 f8 hw8 => ⟨_, .cons (.str _) (.cons hw8 .nil), by show 2 ≤ 16000000; decide, fun w9 H9 f9 hw9 => ?_⟩⟩
      have f59 := ((f6.trans f7).trans f8).trans f9
      have hw9 : Is K H9 w9 (.tuple [.str (rnmS pre k), .tuple (((pars pg m').map fun u => (look (fnd ps ts) u).getD default).map enc)]) := hw9
      rw [← rnm_s hp.lt (show k < 40 by omega)] at hw9
      refine q _ lg w9 H9 (fz f59) (R5.to f59) (Tm.ofMk (h := .c (rnm pre k)) hw9) ?_ (fun z => ?_) fun z => ?_
      · have := raw_size (x := rnm pre k) (us := pars pg m') (fun p hp => by have := (hpz p hp).1; omega) (fun t ht => by have := htz t ht; omega)
        omega
      · rw [e1 z]; exact hraw ts
      · rw [e2 z]; rfl
end
end DF

namespace DF
open PySem PySem.Spec PyProof.Rows L2 RZ
theorem seqTailIf {c : TT} {t u B : TS} {D : Ends} {σ σ0 : St} {H : Hp} (e : σ = σ0) (R : St → Hp → Prop) (h1 : ∀ D' : Ends, (∀ σ' H', R σ' H' → D'.nx σ' H') → tIfS c t u D' σ0 H) (h2 : ∀ σ' H', R σ' H' → B D σ' H') : tSeq (tIfS c t u) B D σ H := by subst e; exact h1 _ h2
theorem andIf {t1 t2 : TT} {a b : TS} {D : Ends} {σ : St} {H : Hp} (c : Bool) (G : Hp → Prop) (h1 : ∀ Q' : Bool → Hp → Prop, (∀ H', G H' → Q' c H') → tAnd t1 t2 σ H Q') (h2 : c = true → ∀ H', G H' → a D σ H') (h3 : c = false → ∀ H', G H' → b D σ H') : tIfS (tAnd t1 t2) a b D σ H :=
  h1 _ fun H' g => by
    cases c with
    | true => exact iteT (h2 rfl H' g)
    | false => exact iteF (h3 rfl H' g)
theorem num_ok {pre i : Nat} (hp : pre < 9) (hi : i < 40) : (i : Int).natAbs.log2 < 1920 ∧ (pfx pre).length + (Str.ofString (toString (i : Int))).length ≤ sizeLine := by
  have h1 : ((List.range 9).all fun k => (List.range 40).all fun i => decide ((i : Int).natAbs.log2 < 1920 ∧ (pfx k).length + (Str.ofString (toString (i : Int))).length ≤ sizeLine)) = true := by decide +kernel
  exact of_decide_eq_true (List.all_eq_true.mp (List.all_eq_true.mp h1 pre (List.mem_range.mpr hp)) i (List.mem_range.mpr hi))
section
variable {P : Program} {w : World} {K : PySem.W.Frag} {mg : Str → Option Value} {base : Heap}
theorem ok_law_stands (Y : Hf K mg) : ∀ m : Nat, Cl CX0 P w K mg base (2 * m + 124) "_law_stands" (sp_law_stands K m)
  | 0 => Y.d__law_stands.zero fun vs H Q E h => by
    obtain ⟨sd, i, pg, ns, pre, vp, vg, kd, lg, rfl, R, W, Wp, hp, hi, hm, _⟩ := h
    omega
  | m + 1 => by
    have ih := ok_law_stands Y m
    rw [show 2 * (m + 1) + 124 = (2 * m + 125) + 1 by omega]
    refine Y.d__law_stands.ok sc__law_stands (fun vs H Q E h => ?_) (fun f cdv A outer s H vs Q E hr h => ?_)
    · obtain ⟨sd, i, pg, ns, pre, vp, vg, kd, lg, rfl, _⟩ := h; rfl
    have nd := sc__law_stands.nd
    refine ⟨_, ((pss_cons (ps_if (pt_val (pe_dget (hu1 hr) (pv 0) pe_str fun _ _ => rfl))
        (pss_one (ps_ret (pe_tupD (pa_cons pe_str (pa_cons (pe_tupD pa_nil) pa_nil))))) pss_nil)
    (pss_cons (ps_if (pt_cmp (pc_din (hu1 hr) (pv 1) (pe_dget (hu1 hr) (pv 0) pe_str fun _ _ => rfl)))
        (pss_one (ps_ret (pe_dget (hu1 hr) (pe_dget (hu1 hr) (pv 0) pe_str fun _ _ => rfl) (pv 1) fun _ _ => rfl))) pss_nil)
    (pss_cons (ps_set (i := 2) nd rfl (by first | exact .inl rfl | exact .inr rfl) (pe_dget (hu1 hr) (pv 0) pe_str fun _ _ => rfl))
    (pss_cons (ps_set (i := 3) nd rfl (by first | exact .inl rfl | exact .inr rfl) (pe_dget (hu1 hr) (pv 0) pe_str fun _ _ => rfl))
    (pss_cons (ps_set (i := 4) nd rfl (by first | exact .inl rfl | exact .inr rfl) (pe_ix ix_d (pv 3) (pv 1) fun _ _ => rfl))
    (pss_cons (ps_set (i := 5) nd rfl (by first | exact .inl rfl | exact .inr rfl) (pe_ix ix_d (pv 4) pe_int fun _ _ => rfl))
    (pss_cons (ps_if (pt_val (kc (ok_law_owner Y) hr (pa_cons (pv 3) (pa_cons (pv 1) pa_nil)) (hk := by omega)))
        (pss_cons (ps_setLc (i := 6) (own := [("_law_unknown", 7)]) (g := (gName 7)) (tt := tYes) (te := (tTupD K (tCons (tVar 7) (tCons (tTupD K tNil) tNil)))) rfl nd rfl rfl (sw_true rfl rfl rfl (by decide +kernel)) (pi_list (kc (ok_law_parameters Y) hr (pa_cons (pv 2) (pa_cons (pv 4) pa_nil)) (hk := by omega))) (blkOk_by (own := [("_law_unknown", 7)]) (N := ["_law_state", "_law_number", "_law_program_here", "_law_graph", "_law_row", "_law_result", "_law_arguments", "_law_unknown", "_law_child", "_law_body", "_law_parts", "_law_k", "_law_known"]) (sc := defScope Tx.s__law_stands) (by decide +kernel)) (fun _ _ _ _ _ => (pg_name (i := 7) nd rfl (by first | exact .inl rfl | exact .inr rfl))) (fun _ _ _ _ _ => pts_nil) (fun _ _ _ _ _ => (pe_tupD (pa_cons (pv 7) (pa_cons (pe_tupD pa_nil) pa_nil)))))
        (pss_one (ps_set (i := 5) nd rfl (by first | exact .inl rfl | exact .inr rfl) (pe_tupD (pa_cons (pe_op op_add_str (pe_dget (hu1 hr) (pv 0) pe_str fun _ _ => rfl) (k_str Y.z_str (pv 1))) (pa_cons (k_tup Y.z_tuple (pv 6)) pa_nil))))))
        (pss_one (ps_if (pt_cmpR (op_eqD (n := 1) hr) (pe_ix ix_d (pv 4) pe_int fun _ _ => rfl) pe_str rfl)
            (pss_one (ps_set (i := 5) nd rfl (by first | exact .inl rfl | exact .inr rfl) (pe_tupD (pa_cons (pe_ix ix_d (pe_ix ix_d (pv 4) pe_int fun _ _ => rfl) pe_int fun _ _ => rfl) (pa_cons (k_tup Y.z_tuple (pe_lc (own := [("_law_child", 8)]) (g := (gName 8)) (tt := tYes) (te := (tCall (sp_law_stands K m) [] E0 (tCons (tVar 0) (tCons (tVar 8) tNil)))) rfl nd (pi_tup (pe_ix ix_d (pv 4) pe_int fun _ _ => rfl)) (blkOk_by (own := [("_law_child", 8)]) (N := ["_law_state", "_law_number", "_law_program_here", "_law_graph", "_law_row", "_law_result", "_law_arguments", "_law_unknown", "_law_child", "_law_body", "_law_parts", "_law_k", "_law_known"]) (sc := defScope Tx.s__law_stands) (by decide +kernel)) (fun _ _ _ _ _ => (pg_name (i := 8) nd rfl (by first | exact .inl rfl | exact .inr rfl))) (fun _ _ _ _ _ => pts_nil) (fun _ _ _ _ _ => (kc ih hr (pa_cons (pv 0) (pa_cons (pv 8) pa_nil)) (hk := by omega))))) pa_nil)))))
            (pss_one (ps_if (pt_cmpR (op_eqD (n := 1) hr) (pe_ix ix_d (pv 4) pe_int fun _ _ => rfl) pe_str rfl)
                (pss_one (ps_set (i := 5) nd rfl (by first | exact .inl rfl | exact .inr rfl) (kc ih hr (pa_cons (pv 0) (pa_cons (pe_ix ix_d (pe_ix ix_d (pv 4) pe_int fun _ _ => rfl) pe_int fun _ _ => rfl) pa_nil)) (hk := by omega))))
                (pss_one (ps_if (pt_cmpR (op_eqD (n := 1) hr) (pe_ix ix_d (pv 4) pe_int fun _ _ => rfl) pe_str rfl)
                    (pss_cons (ps_set (i := 9) nd rfl (by first | exact .inl rfl | exact .inr rfl) (kc ih hr (pa_cons (pv 0) (pa_cons (pe_ix ix_d (pe_ix ix_d (pv 4) pe_int fun _ _ => rfl) pe_int fun _ _ => rfl) pa_nil)) (hk := by omega)))
                    (pss_cons (ps_setLc (i := 10) (own := [("_law_k", 11)]) (g := (gName 11)) (tt := tYes) (te := (tTupD K (tCons (tOp (rD K) (tOp (rD K) (tVar 4) (tC (.int 4))) (tVar 11)) (tCons (tCall (sp_law_stands K m) [] E0 (tCons (tVar 0) (tCons (tOp (rD K) (tOp (rD K) (tVar 4) (tC (.int 2))) (tAdd (tVar 11) (tC (.int 1)))) tNil))) tNil)))) rfl nd rfl rfl (sw_true rfl rfl rfl (by decide +kernel)) (pi_range1 rfl Y.z_range (pa_cons (k_lenT Y.z_len (pe_ix ix_d (pv 4) pe_int fun _ _ => rfl)) pa_nil)) (blkOk_by (own := [("_law_k", 11)]) (N := ["_law_state", "_law_number", "_law_program_here", "_law_graph", "_law_row", "_law_result", "_law_arguments", "_law_unknown", "_law_child", "_law_body", "_law_parts", "_law_k", "_law_known"]) (sc := defScope Tx.s__law_stands) (by decide +kernel)) (fun _ _ _ _ _ => (pg_name (i := 11) nd rfl (by first | exact .inl rfl | exact .inr rfl))) (fun _ _ _ _ _ => pts_nil) (fun _ _ _ _ _ => (pe_tupD (pa_cons (pe_ix ix_d (pe_ix ix_d (pv 4) pe_int fun _ _ => rfl) (pv 11) fun _ _ => rfl) (pa_cons (kc ih hr (pa_cons (pv 0) (pa_cons (pe_ix ix_d (pe_ix ix_d (pv 4) pe_int fun _ _ => rfl) (pe_add (pv 11) pe_int) fun _ _ => rfl) pa_nil)) (hk := by omega)) pa_nil)))))
                    (pss_one (ps_set (i := 5) nd rfl (by first | exact .inl rfl | exact .inr rfl) (kc (ok_put Y 120) hr (pa_cons (pv 9) (pa_cons (k_tupF Y.z_tuple (pv 10)) pa_nil)) (hk := by omega))))))
                    (pss_one (ps_if (pt_cmpR (op_eqD (n := 1) hr) (pe_ix ix_d (pv 4) pe_int fun _ _ => rfl) pe_str rfl)
                        (pss_one (ps_set (i := 5) nd rfl (by first | exact .inl rfl | exact .inr rfl) (kc (ok_law_folded Y m ih) hr (pa_cons (pv 0) (pa_cons (pv 4) pa_nil)) (hk := by omega)))) pss_nil)))))))))
    (pss_cons (ps_if (PW.pt (pw_and (pt_cmpR op_in_seq (pe_ix ix_d (pv 4) pe_int fun _ _ => rfl) (pe_lst (pa_cons pe_str (pa_cons pe_str (pa_cons pe_str pa_nil)))) rfl) (pw_and1 (pt_cmp (pc_gt (kc (ok_size Y) hr (pa_cons (pv 5) pa_nil) (hk := by omega)) pe_int)))))
        (pss_cons (ps_dput (hu1 hr) (pv 0) pe_str pe_bl rfl)
        (pss_one (ps_ret (pe_tupD (pa_cons pe_str (pa_cons (pe_tupD pa_nil) pa_nil)))))) pss_nil)
    (pss_cons (ps_set (i := 12) nd rfl (by first | exact .inl rfl | exact .inr rfl) (pe_dget (hu1 hr) (pv 0) pe_str fun _ _ => rfl))
    (pss_cons (ps_dput (hu1 hr) (pv 12) (pv 1) (pv 5) rfl)
    (pss_one (ps_ret (pv 5)))))))))))))), ?_⟩
    obtain ⟨sd, i, pg, ns, pre, vp, vg, kd, lg, rfl, R, W, Wp, hp, hi, hm, q⟩ := h
    have hnl := W.len
    refine ⟨_, rfl, sd, .bl lg, rfl, R.get rfl, _, rfl, ?_⟩
    cases lg with
    | true =>
      refine iteT ⟨[], .nil, Nat.zero_le _, fun v1 H1 f1 hv1 => ⟨_, .cons (.str _) (.cons hv1 .nil), le16 (Nat.le_of_ble_eq_true rfl), fun v2 H2 f2 hv2 => ?_⟩⟩
      exact q (.lf (.c (nm "Z"))) true v2 H2 (f1.trans f2).no (R.to (f1.trans f2)) hv2 (by show 1 ≤ 120; decide) (fun z => nomatch z) fun _ => .inl rfl
    | false =>
    obtain ⟨kvs, θ, hd, hT, hKy, hl⟩ := R.kn rfl
    refine iteF ⟨_, rfl, _, rfl, sd, .ref kd, rfl, R.get rfl, kd, _, rfl, DGet.k (k := .inl i) hd, _, rfl, ?_⟩
    rcases hT.get (i := (i : Int)) with ⟨l1, l2⟩ | ⟨u', y, l1, l2, hy'⟩
    case inr =>
      rw [l2]
      refine iteT ⟨_, rfl, sd, .ref kd, rfl, R.get rfl, _, rfl, kd, y, rfl, by rw [← l2]; exact DGet.k (k := .inl i) hd, ?_⟩
      obtain ⟨j, e1, e2⟩ := hl _ _ l1
      have : j = i := by omega
      subst this
      exact q u' false y H .refl R hy' (S_le W e2) (fun _ => ⟨rfl, e2⟩) fun z => nomatch z
    rw [l2]
    obtain ⟨n, en⟩ : ∃ n, ns[i]? = some n := ⟨_, List.getElem?_eq_getElem hi⟩
    have hmem := List.mem_of_getElem? en
    have hz := W.sz n hmem
    have hk := kinds_fine _ (W.kd n hmem)
    have hcs : ∀ c ∈ n.ch, i < c ∧ c < ns.length := fun c hc => W.ch i n c en hc
    have hcl := W.cl n hmem
    refine iteF ⟨_, rfl, sd, vp, rfl, R.get rfl, _, rfl, sd, vg, rfl, R.get rfl, _, rfl, _, rfl, _, i, _, rfl, R.hg, row_at en, fun w4 hw4 => ⟨_, rfl, _, 1, _, rfl, hw4, rfl, fun w5 hw5 => ?_⟩⟩
    dsimp only [gName]
    refine seqTailIf (σ0 := [some (.ref sd), some (.int (i : Nat)), some vp, some vg, some w4, some w5, none, none, none, none, none, none, none]) rfl (R := fun σ' H' => ∃ (t : T) (lg : Bool) (v : V) (x6 x7 x8 x9 x10 x11 : Option V), σ' = [some (.ref sd), some (.int (i : Nat)), some vp, some vg, some w4, some v, x6, x7, x8, x9, x10, x11, none] ∧ Fr (Sk sd kd) H H' ∧ StL K H' sd pg ns pre vp vg kd lg ∧ Tm K H' v t ∧ t.size ≤ 1000000 ∧
      (bigK n = false → t.size ≤ 120) ∧ (lg = false → mkU pg pre ns n i = some t) ∧ (lg = true → mkU pg pre ns n i = none)) (fun D' hn => ?_) (fun σ' H' r => ?_)
    · -- the branches
      refine ⟨_, rfl, _, rfl, vg, i, pg, ns, rfl, R.hg, W, hi, fun H1 f1 => ⟨_, rfl, ?_⟩⟩
      have R1 := R.to f1
      have hw4 := Is.fr f1 hw4
      have hw5 : Tm K H1 w5 n.term := Is.fr f1 hw5
      unfold mkU at hn
      cases hF : isFn ns i with
      | true =>
        rw [hF, if_pos rfl] at hn
        refine iteT ⟨_, rfl, _, rfl, vp, w4, pg, ns, n, i, rfl, R1.hp, hw4, W, Wp, en, hF, fun H2 p2 f2 hp20 hp2 => ?_⟩
        have hpl := pars_len (pg := pg) n
        refine ⟨p2, rfl, ⟨_, SqL.of hp2⟩, fun D hD => lcD (K := K) (l := pars pg n) (en := PyData.int) (f := fun u => some (enc (vr u))) (dwL (S := No) hp2 (isAll_ints _) (fun z => z)) hD (by omega) (fun u x H7 yes no hu f7 hx yesH noH => ?_) fun H7 ys f7 hD7 hys => ?_⟩
        · obtain rfl := hx.intE
          exact ⟨rfl, yesT ⟨_, rfl, [], .nil, Nat.zero_le _, fun w2 H2 f2 hw2 => ⟨_, .cons (.int _) (.cons hw2 .nil), le16 (Nat.le_of_ble_eq_true rfl), fun w3 H3 f3 hw3 => yesH w3 H3 _ (f2.trans f3) hw3 rfl⟩⟩⟩
        · rw [fm_some, map_two vr enc] at hys
          have R7 := R1.to (f2.trans f7)
          obtain ⟨n1, n2⟩ := num_ok (pre := pre) (i := i) hp.lt (by omega)
          refine ⟨_, rfl, sd, _, rfl, R7.get rfl, _, rfl, (i : Int), rfl, n1, _, _, rfl, rfl, n2, _, rfl, D, ys, _, rfl, hD7, hys, fun w8 H8 f8 hw8 => ⟨_, .cons (.str _) (.cons hw8 .nil), le16 (Nat.le_of_ble_eq_true rfl), fun w9 H9 f9 hw9 => ?_⟩⟩
          have hw9 : Is K H9 w9 (.tuple [.str (rnmS pre i), .tuple (((pars pg n).map vr).map enc)]) := hw9
          rw [← rnm_s hp.lt (show i < 40 by omega)] at hw9
          have f19 := ((f2.trans f7).trans f8).trans f9
          have hos := ownT_size (pg := pg) (pre := pre) n i
          exact hn _ H9 ⟨ownT pg pre n i, false, w9, _, _, _, _, _, _, rfl, (f1.trans f19).no, R1.to f19, Tm.ofMk (h := .c (rnm pre i)) hw9, by omega, fun _ => by omega, fun _ => rfl, fun z => nomatch z⟩
      | false =>
      rw [hF, if_neg Bool.false_ne_true] at hn
      refine iteF (strT rfl hw4 ?_ hk)
      cases c1 : (n.kind == ("exposed" : Str)) with
      | true =>
        rw [if_pos (eq_of_beq c1)] at hn
        refine iteT ⟨_, rfl, _, 1, _, rfl, hw4, rfl, fun y hy => ⟨_, 0, _, rfl, Tm.is hy, rfl, fun z hz => ?_⟩⟩
        obtain rfl := is_hd_inv hz
        refine ⟨_, rfl, _, 2, _, rfl, hw4, rfl, fun y3 hy3 => ?_⟩
        obtain ⟨a3, xs3, rfl, t3, i3⟩ := (show Is K H1 y3 (.tuple (n.ch.map fun (k : Nat) => .int (k : Int))) from hy3).tupE
        refine ⟨a3, rfl, ⟨_, t3.sq⟩, fun D hD => ?_⟩
        have nsD : sd ≠ D := fun z => by have h := R1.hs; rw [z, hD] at h; exact nomatch h
        have nkD : kd ≠ D := fun z => by obtain ⟨_, _, h, _⟩ := R1.kq; rw [z, hD] at h; exact nomatch h
        have fz : ∀ {H7 : Hp}, Fr (fun b => b = D ∨ Sk sd kd b) H1 H7 → Fr (Sk sd kd) H H7 := fun {H7} f7 => by
          refine f1.no.trans (f7.less fun b hb hn => ?_)
          rcases hb with e | e
          · rw [e]; exact hD
          · exact absurd e hn
        refine lc_it (dwT (S := fun b => b = D ∨ Sk sd kd b) t3 i3) (fun j H' => Fr (fun b => b = D ∨ Sk sd kd b) H1 H' ∧ ∃ (ys : List V) (ts : List T) (lg : Bool), H' D = some (.lst ys) ∧ IsAll K H' ys (ts.map enc) ∧ ts.length = j ∧ (∀ t ∈ ts, t.size ≤ 120) ∧ StL K H' sd pg ns pre vp vg kd lg ∧ (lg = false → allS (S pg pre ns) (n.ch.take j) = some ts) ∧ (lg = true → allS (S pg pre ns) n.ch = none))
          ⟨Fr.new0 hD, [], [], false, upd_same, .nil, rfl, fun t ht => absurd ht List.not_mem_nil, R1.to (Fr.new0 hD), fun _ => rfl, fun z => nomatch z⟩ (fun j H' _ z => z.1) (fun j x H5 H6 hlt z yy => ?_) fun H5 z => ?_
        · obtain ⟨f5, ys, ts, lg, hD5, hys, htl, htz, R5, e1, e2⟩ := z
          obtain ⟨f6, d, hd, hx⟩ := yy
          rw [List.getElem?_map] at hd
          cases ec : n.ch[j]? with
          | none => rw [ec] at hd; cases hd
          | some c =>
          rw [ec] at hd
          cases hd
          obtain rfl := hx.intE
          have hcc := hcs c (List.mem_of_getElem? ec)
          have hjl := (List.getElem?_eq_some_iff.mp ec).1
          refine ⟨rfl, yesT ⟨_, rfl, _, rfl, sd, c, pg, ns, pre, vp, vg, kd, lg, rfl, R5.to f6, W, Wp, hp, hcc.2, by omega, fun t7 lg7 v7 H7 f7 R7 hv7 hz7 i1 i2 => ?_⟩⟩
          have f7' : Fr (fun b => b = D ∨ Sk sd kd b) H6 H7 := f7.mono fun b z => .inr z
          have hD7 := f7.k D _ (fun z => z.elim (fun z => nsD z.symm) fun z => nkD z.symm) (f6.kn hD5)
          refine ⟨ys, hD7, lt_line (by rw [hys.len, List.length_map, htl]; omega), ?_⟩
          have g8 : Fr (fun b => b = D ∨ Sk sd kd b) H7 (upd H7 D (.lst (ys ++ [v7]))) := Fr.refl.mut (.inl rfl) hD7 fun z => z
          refine ⟨((f5.trans f6.no).trans f7').trans g8, _, ts ++ [t7], lg7, upd_same, ?_, by rw [List.length_append, htl]; rfl, fun t ht => ?_, R7.fr (Fr.refl.mut (S := At D) rfl hD7 fun z => z) nsD nkD, fun z => allS_snoc (e1 (i1 z).1) ec (i1 z).2, fun z => ?_⟩
          · rw [List.map_append]
            exact (((hys.fr f6).fr f7').fr g8).append (.cons (Is.fr g8 hv7) .nil)
          · rcases List.mem_append.mp ht with h | h
            · exact htz t h
            · rw [List.mem_singleton.mp h]; exact hz7
          · rcases i2 z with h | h
            · exact e2 h
            · exact allS_none (List.mem_of_getElem? ec) h
        · obtain ⟨f5, ys, ts, lg, hD5, hys, htl, htz, R5, e1, e2⟩ := z
          rw [List.length_map] at e1 htl
          rw [List.take_length] at e1
          refine ⟨D, ys, _, rfl, hD5, hys, fun w8 H8 f8 hw8 => ⟨_, .cons is_hd (.cons hw8 .nil), le16 (Nat.le_of_ble_eq_true rfl), fun w9 H9 f9 hw9 => ?_⟩⟩
          have hsz : ((T.lf n.term.hd).aps ts).size ≤ 1000000 := by
            rw [T.size_mk]
            have h1 := sizes_le htz
            omega
          have hb : bigK n = true := by
            unfold bigK
            rw [eq_of_beq c1]
            decide +kernel
          refine hn _ H9 ⟨(T.lf n.term.hd).aps ts, lg, w9, _, _, _, _, _, _, rfl, fz (f5.trans (f8.trans f9).no), R5.to (f8.trans f9), Tm.ofMk hw9, hsz, (fun z => by rw [hb] at z; cases z), fun z => by rw [e1 z]; rfl, fun z => by rw [e2 z]; rfl⟩
      | false =>
      have n1 : ¬ n.kind = ("exposed" : Str) := fun z => by rw [z, beq_self_eq_true] at c1; cases c1
      rw [if_neg n1] at hn
      refine iteF (strT rfl hw4 ?_ hk)
      cases c2 : (n.kind == ("stepped" : Str)) with
      | true =>
        rw [if_pos (eq_of_beq c2)] at hn
        have hne := W.ch_ne en (.inl (eq_of_beq c2))
        cases hc : n.ch with
        | nil => exact absurd hc hne
        | cons c cs =>
        have hcc := hcs c (by rw [hc]; exact List.mem_cons_self)
        rw [hc] at hn
        refine iteT ⟨_, rfl, _, rfl, _, 2, _, rfl, hw4, rfl, fun y hy => ?_⟩
        rw [hc] at hy
        refine ⟨_, 0, .int (c : Int), rfl, hy, atI_zero _ _, fun z0 hz0 => ?_⟩
        obtain rfl := hz0.intE
        exact ⟨sd, c, pg, ns, pre, vp, vg, kd, false, rfl, R1, W, Wp, hp, hcc.2, by omega, fun t lg v H' f R' hv hz i1 i2 => hn _ H' ⟨t, lg, v, _, _, _, _, _, _, rfl, f1.no.trans f, R', hv, by omega, fun _ => hz, fun z => (i1 z).2, fun z => (i2 z).elim (fun h => nomatch h) id⟩⟩
      | false =>
      have n2 : ¬ n.kind = ("stepped" : Str) := fun z => by rw [z, beq_self_eq_true] at c2; cases c2
      rw [if_neg n2] at hn
      refine iteF (strT rfl hw4 ?_ hk)
      cases c3 : (n.kind == ("split" : Str)) with
      | true =>
        rw [if_pos (eq_of_beq c3)] at hn
        have hlen := (W.ok n hmem).spl (eq_of_beq c3)
        obtain ⟨c0, cs, hc⟩ : ∃ c0 cs, n.ch = c0 :: cs := by
          cases h : n.ch with
          | nil => rw [h] at hlen; cases hlen
          | cons a l => exact ⟨a, l, rfl⟩
        have hb : bigK n = true := by
          unfold bigK
          rw [eq_of_beq c3]
          decide +kernel
        rw [hc] at hn
        have hn : ∀ σ' H', (∃ (t : T) (lg : Bool) (v : V) (x6 x7 x8 x9 x10 x11 : Option V), σ' = [some (.ref sd), some (.int (i : Nat)), some vp, some vg, some w4, some v, x6, x7, x8, x9, x10, x11, none] ∧ Fr (Sk sd kd) H H' ∧ StL K H' sd pg ns pre vp vg kd lg ∧ Tm K H' v t ∧ t.size ≤ 1000000 ∧
          (bigK n = false → t.size ≤ 120) ∧ (lg = false → ((S pg pre ns c0).bind fun b => (allS (S pg pre ns) cs).map fun ts => put b (n.us.zip ts)) = some t) ∧ (lg = true → ((S pg pre ns c0).bind fun b => (allS (S pg pre ns) cs).map fun ts => put b (n.us.zip ts)) = none)) → D'.nx σ' H' := hn
        have h0 := hcs c0 (by rw [hc]; exact List.mem_cons_self)
        have hcs' : ∀ c ∈ cs, i < c ∧ c < ns.length := fun c h => hcs c (by rw [hc]; exact List.mem_cons_of_mem _ h)
        rw [hc, List.length_cons] at hlen hcl
        have hul : cs.length = n.us.length := by omega
        refine iteT ⟨_, rfl, _, rfl, _, 2, _, rfl, hw4, rfl, fun y hy => ?_⟩
        rw [hc] at hy
        refine ⟨_, 0, .int (c0 : Int), rfl, hy, atI_zero _ _, fun z0 hz0 => ?_⟩
        obtain rfl := hz0.intE
        refine ⟨sd, c0, pg, ns, pre, vp, vg, kd, false, rfl, R1, W, Wp, hp, h0.2, by omega, fun t lg2 v2 H2 f2 R2 hv2 hz2 i1 i2 => ?_⟩
        have hw42 := Is.fr f2 hw4
        refine ⟨_, rfl, _, 4, _, rfl, hw42, rfl, fun y4 hy4 => ⟨y4, _, rfl, hy4, ?_⟩⟩
        rw [List.length_map]
        refine ⟨(n.us.length : Nat), rfl, by omega, by omega, fun D hD => ?_⟩
        have nsD : sd ≠ D := fun z => by have h := R2.hs; rw [z, hD] at h; exact nomatch h
        have nkD : kd ≠ D := fun z => by obtain ⟨_, _, h, _⟩ := R2.kq; rw [z, hD] at h; exact nomatch h
        have fz : ∀ {H7 : Hp}, Fr (fun b => b = D ∨ Sk sd kd b) H2 H7 → Fr (Sk sd kd) H H7 := fun {H7} f7 => by
          refine (f1.no.trans f2).trans (f7.less fun b hb hn => ?_)
          rcases hb with e | e
          · rw [e]; exact hD
          · exact absurd e hn
        refine lc_it (dwR (K := K) (S := fun b => b = D ∨ Sk sd kd b) (H1 := H2) (lo := 0) (n := n.us.length)) (fun j H' => Fr (fun b => b = D ∨ Sk sd kd b) H2 H' ∧ ∃ (ys : List V) (ts : List T) (lg : Bool), H' D = some (.lst ys) ∧ IsAll K H' ys ((n.us.zip ts).map prD) ∧ ts.length = j ∧ (∀ t ∈ ts, t.size ≤ 120) ∧ StL K H' sd pg ns pre vp vg kd lg ∧ (lg = false → lg2 = false ∧ allS (S pg pre ns) (cs.take j) = some ts) ∧ (lg = true → lg2 = true ∨ allS (S pg pre ns) cs = none))
          ⟨Fr.new0 hD, [], [], lg2, upd_same, by rw [List.zip_nil_right]; exact .nil, rfl, fun t ht => absurd ht List.not_mem_nil, R2.to (Fr.new0 hD), fun z => ⟨z, rfl⟩, fun z => .inl z⟩ (fun j H' _ z => z.1) (fun j x H5 H6 hlt z yy => ?_) fun H5 z => ?_
        · obtain ⟨f5, ys, ts, lg, hD5, hys, htl, htz, R5, e1, e2⟩ := z
          obtain ⟨f6, d, hd, hx⟩ := yy
          rw [List.length_map, List.length_range] at hlt
          rw [List.getElem?_map, List.getElem?_range hlt] at hd
          cases hd
          have hx : Is K H6 x (.int (0 + (j : Int))) := hx
          rw [Int.zero_add] at hx
          obtain rfl := hx.intE
          have f56 := f5.trans f6.no
          have hw46 := Is.fr f56 hw42
          obtain ⟨u, eu⟩ : ∃ u, n.us[j]? = some u := ⟨_, List.getElem?_eq_getElem hlt⟩
          obtain ⟨c, ec⟩ : ∃ c, cs[j]? = some c := ⟨_, List.getElem?_eq_getElem (by omega)⟩
          have hcc := hcs' c (List.mem_of_getElem? ec)
          refine ⟨rfl, yesT ⟨_, rfl, _, 4, _, rfl, hw46, rfl, fun y4 hy4 => ⟨_, rfl, _, j, .int u, rfl, hy4, by rw [atI_nat, List.getElem?_map, eu]; rfl, fun z1 hz1 => ⟨_, rfl, _, rfl, _, 2, _, rfl, hw46, rfl, fun y2 hy2 => ?_⟩⟩⟩⟩
          rw [hc] at hy2
          refine ⟨_, rfl, _, _, rfl, rfl, _, (j : Int) + 1, .int (c : Nat), rfl, hy2, by rw [show ((j : Int) + 1) = ((j + 1 : Nat) : Int) by omega, atI_nat, List.getElem?_map, List.getElem?_cons_succ, ec]; rfl, fun z2 hz2 => ?_⟩
          obtain rfl := hz2.intE
          refine ⟨sd, c, pg, ns, pre, vp, vg, kd, lg, rfl, R5.to f6, W, Wp, hp, hcc.2, by omega, fun t7 lg7 v7 H7 f7 R7 hv7 hz7 i1 i2 => ?_⟩
          refine ⟨_, .cons (Is.fr f7 hz1) (.cons hv7 .nil), le16 (Nat.le_of_ble_eq_true rfl), fun v8 H8 f8 hv8 => ?_⟩
          have f7' : Fr (fun b => b = D ∨ Sk sd kd b) H6 H7 := f7.mono fun b z => .inr z
          have hD8 := f8.kn (f7.k D _ (fun z => z.elim (fun z => nsD z.symm) fun z => nkD z.symm) (f6.kn hD5))
          refine ⟨ys, hD8, lt_line (by rw [hys.len, List.length_map, List.length_zip, htl]; have := Nat.min_le_right n.us.length j; omega), ?_⟩
          have g9 : Fr (fun b => b = D ∨ Sk sd kd b) H8 (upd H8 D (.lst (ys ++ [v8]))) := Fr.refl.mut (.inl rfl) hD8 fun z => z
          refine ⟨((f56.trans f7').trans f8.no).trans g9, _, ts ++ [t7], lg7, upd_same, ?_, by rw [List.length_append, htl]; rfl, fun t ht => ?_, (R7.to f8).fr (Fr.refl.mut (S := At D) rfl hD8 fun z => z) nsD nkD, fun z => ⟨(e1 (i1 z).1).1, allS_snoc (e1 (i1 z).1).2 ec (i1 z).2⟩, fun z => ?_⟩
          · rw [zip_snoc (by rw [htl]; exact eu), List.map_append]
            exact ((((hys.fr f6).fr f7').fr f8).fr g9).append (.cons (Is.fr g9 hv8) .nil)
          · rcases List.mem_append.mp ht with h | h
            · exact htz t h
            · rw [List.mem_singleton.mp h]; exact hz7
          · rcases i2 z with h | h
            · exact e2 h
            · exact .inr (allS_none (List.mem_of_getElem? ec) h)
        · obtain ⟨f5, ys, ts, lg, hD5, hys, htl, htz, R5, e1, e2⟩ := z
          rw [List.length_map, List.length_range] at e1 htl
          rw [← hul, List.take_length] at e1
          have hps : ∀ p ∈ n.us.zip ts, p.2.size ≤ 120 := fun p hp => htz _ (List.of_mem_zip hp).2
          have hpz := put_size (t := t) (ps := n.us.zip ts) (M := 120) (by decide) hps
          refine ⟨_, rfl, _, rfl, D, _, rfl, SqL.of hD5, fun p8 o8 hp8 ho8 => ?_⟩
          have f8 : Fr No H5 (upd H5 p8 (.frz o8 (.tup ys))) := Fr.new0 hp8
          refine ⟨v2, t, .ref p8, n.us.zip ts, rfl, (hv2.fr f5).fr f8, Prt.of hp8 ho8 hys, hz2, by omega, fun p hp => by have := hps p hp; omega, fun w9 H9 f9 hw9 => ?_⟩
          refine hn _ H9 ⟨put t (n.us.zip ts), lg, w9, _, _, _, _, _, _, rfl, fz (f5.trans (f8.trans f9).no), R5.to (f8.trans f9), hw9, by omega, (fun z => by rw [hb] at z; cases z), fun z => ?_, fun z => ?_⟩
          · obtain ⟨h1, h2⟩ := e1 z
            rw [(i1 h1).2, h2]; rfl
          · rcases e2 z with h | h
            · rcases i2 h with h | h
              · cases h
              · rw [h]; rfl
            · rw [h]
              cases S pg pre ns c0 <;> rfl
      | false =>
      have n3 : ¬ n.kind = ("split" : Str) := fun z => by rw [z, beq_self_eq_true] at c3; cases c3
      rw [if_neg n3] at hn
      refine iteF (strT rfl hw4 ?_ hk)
      cases c4 : (n.kind == ("folded" : Str)) with
      | true =>
        rw [if_pos (eq_of_beq c4)] at hn
        have hb : bigK n = true := by
          unfold bigK
          rw [eq_of_beq c4]
          decide +kernel
        exact iteT ⟨_, rfl, _, rfl, sd, w4, i, n, pg, ns, pre, vp, vg, kd, rfl, hw4, en, eq_of_beq c4, R1, W, Wp, hp, by omega, fun t lg v H' f R' hv hz i1 i2 => hn _ H' ⟨t, lg, v, _, _, _, _, _, _, rfl, f1.no.trans f, R', hv, hz, (fun z => by rw [hb] at z; cases z), i1, i2⟩⟩
      | false =>
      have n4 : ¬ n.kind = ("folded" : Str) := fun z => by rw [z, beq_self_eq_true] at c4; cases c4
      rw [if_neg n4] at hn
      exact iteF (hn _ H1 ⟨n.term, false, w5, _, _, _, _, _, _, rfl, f1.no, R1, hw5, by omega, fun _ => by omega, fun _ => rfl, fun z => nomatch z⟩)
    · -- the end
      obtain ⟨t, lg, v, x6, x7, x8, x9, x10, x11, rfl, f1, R1, hv, hz1, hz2, e1, e2⟩ := r
      have hw4' := Is.fr f1 hw4
      have fin : ∀ {lg'' : Bool} (h : lg'' = lg), (bigK n && decide (120 < t.size)) = false → (lg'' = false → S pg pre ns i = some t) ∧ (lg'' = true → S pg pre ns i = none) ∧ t.size ≤ 120 := fun {lg''} h hb => by
        subst h
        rw [S_U W en]
        cases hbk : bigK n with
        | true =>
          rw [hbk, Bool.true_and] at hb
          have hsz : ¬ 120 < t.size := of_decide_eq_false hb
          refine ⟨fun z => ?_, fun z => ?_, by omega⟩
          · rw [if_pos rfl, e1 z]; exact bnd_le (by omega)
          · rw [if_pos rfl, e2 z]; rfl
        | false =>
          exact ⟨fun z => by rw [if_neg Bool.false_ne_true]; exact e1 z, fun z => by rw [if_neg Bool.false_ne_true]; exact e2 z, hz2 hbk⟩
      refine andIf (bigK n && decide (120 < t.size)) (fun H2 => Fr No H' H2) (fun Q' q' => ?_) (fun c H2 f2 => ?_) (fun c H2 f2 => ?_)
      · refine ⟨_, rfl, _, 0, _, rfl, hw4', rfl, fun y hy => ?_⟩
        obtain rfl := hy.strE
        refine ⟨le_line (le16 (Nat.le_of_ble_eq_true rfl)), fun p hp => ⟨p, _, rfl, .inl (SqL.of upd_same), rfl, rfl, _, rfl, ?_⟩⟩
        have f2 := Fr.new0 (S := No) (o := .lst [.str "exposed", .str "split", .str "folded"]) hp
        show if inV (.str n.kind) ((["exposed", "split", "folded"] : List Str).map V.str) = true then _ else _
        rw [inV_strs]
        show if bigK n = true then _ else _
        cases hbk : bigK n with
        | false =>
          rw [hbk] at q'
          exact iteF (q' _ f2)
        | true =>
          rw [hbk, Bool.true_and] at q'
          refine iteT ⟨_, rfl, v, t, rfl, hv.fr f2, hz1, fun H3 f3 => ⟨_, _, rfl, rfl, _, rfl, ?_⟩⟩
          have e : decide ((120 : Int) < ((t.size : Nat) : Int)) = decide (120 < t.size) := by rw [decide_eq_decide]; omega
          show Q' (decide ((120 : Int) < ((t.size : Nat) : Int))) H3
          rw [e]
          exact q' _ (f2.trans f3)
      · obtain ⟨hbk, hsz⟩ := Bool.and_eq_true_iff.mp c
        have hsz := of_decide_eq_true hsz
        have R2 := R1.to f2
        refine ⟨_, rfl, sd, _, rfl, DPut.k (k := .inr "large") R2.hs (lt_line ((fun h : 6 ≤ 6 => (by decide : 5 < 16000000)) (Nat.le_of_ble_eq_true rfl))), ?_⟩
        have g3 : Fr (Sk sd kd) H2 (upd H2 sd (.dK (putK (stD vp vg pre kd lg) (.inr "large") (.bl true)))) := Fr.refl.mut (.inl rfl) R2.hs fun z => z
        have R3 : StL K (upd H2 sd (.dK (putK (stD vp vg pre kd lg) (.inr "large") (.bl true)))) sd pg ns pre vp vg kd true :=
          ⟨upd_same, R2.hp.fr g3, R2.hg.fr g3, (fun z => nomatch z), let ⟨kvs, θ, h1, h2, h3⟩ := R2.kq; ⟨kvs, θ, by rw [upd_ne R2.ne.symm]; exact h1, h2.fr g3, h3⟩, R2.ne⟩
        have hnone : S pg pre ns i = none := by
          rw [S_U W en, hbk, if_pos rfl]
          cases lg with
          | true => rw [e2 rfl]; rfl
          | false => rw [e1 rfl]; exact bnd_gt hsz
        refine ⟨[], .nil, Nat.zero_le _, fun v1 H4 f4 hv1 => ⟨_, .cons (.str _) (.cons hv1 .nil), le16 (Nat.le_of_ble_eq_true rfl), fun v2 H5 f5 hv2 => ?_⟩⟩
        exact q (.lf (.c (nm "Z"))) true v2 H5 (((f1.trans f2.no).trans g3).trans (f4.trans f5).no) (R3.to (f4.trans f5)) hv2 (by show 1 ≤ 120; decide) (fun z => nomatch z) fun _ => .inr hnone
      · obtain ⟨g1, g2, g3⟩ := fin rfl c
        have R2 := R1.to f2
        obtain ⟨kvs2, θ2, hd2, hT2, hK2⟩ := R2.kq
        have hkl2 : kvs2.length < sizeLine := lt_line (by rw [hT2.len]; have := hK2.len; omega)
        refine nextE ⟨_, rfl, sd, .ref kd, rfl, R2.get rfl, _, rfl, _, rfl, _, rfl, kd, _, rfl, DPut.k (k := .inl i) hd2 hkl2, _, rfl, ?_⟩
        have g4 : Fr (Sk sd kd) H2 (upd H2 kd (.dK (putK kvs2 (.inl i) v))) := Fr.refl.mut (.inr rfl) hd2 fun z => z
        have hv2 := hv.fr f2
        refine q t lg v _ ((f1.trans f2.no).trans g4) ⟨by rw [upd_ne R2.ne]; exact R2.hs, R2.hp.fr g4, R2.hg.fr g4, fun z => ?_, ⟨_, _, upd_same, (hT2.fr g4).put (i := (i : Int)) (hv2.fr g4), hK2.put t (by omega)⟩, R2.ne⟩ (hv2.fr g4) g3 (fun z => ⟨rfl, g1 z⟩) fun z => .inr (g2 z)
        obtain ⟨kvs3, θ3, hd3, hT3, hK3, hl3⟩ := R2.kn z
        have e : kvs3 = kvs2 := by rw [hd2] at hd3; cases hd3; rfl
        subst e
        refine ⟨_, _, upd_same, (hT3.fr g4).put (i := (i : Int)) (hv2.fr g4), hK3.put t (by omega), fun j u ej => ?_⟩
        rw [look_set1] at ej
        split at ej
        · rename_i hc
          cases ej
          exact ⟨i, hc, g1 z⟩
        · exact hl3 j u ej
end
end DF

namespace DF
open PySem PySem.Spec PyProof.Rows L2 RZ
/-! ### the function of a node, as the law works it out -/
theorem numP_range : ∀ (us : List Int) (n : Nat), numP n us = (List.range us.length).map fun (j : Nat) => (us.getD j 0, vr ((n + j : Nat) : Int))
  | [], _ => rfl
  | u :: us, n => by
    show (u, vr (n : Nat)) :: numP (n + 1) us = _
    rw [numP_range us (n + 1), List.length_cons, List.range_succ_eq_map, List.map_cons, List.map_map]
    congr 1
    refine List.map_congr_left fun j _ => ?_
    show (us.getD j 0, vr ((n + 1 + j : Nat) : Int)) = ((u :: us).getD (j + 1) 0, vr ((n + (j + 1) : Nat) : Int))
    rw [show n + 1 + j = n + (j + 1) by omega]
    rfl
theorem fm_find {g : Nm} {fn : Fn} : ∀ {pg : Prog}, fnOf pg g = some fn → ∃ rest, pg.filterMap (fun f => if f.nm = g then some (encF f) else none) = encF fn :: rest
  | [], h => by cases h
  | f :: pg, h => by
    unfold fnOf at h
    rw [List.find?_cons] at h
    rw [List.filterMap_cons]
    by_cases c : f.nm = g
    · rw [decide_eq_true c] at h
      cases h
      rw [if_pos c]
      exact ⟨_, rfl⟩
    · rw [decide_eq_false c] at h
      rw [if_neg c]
      exact fm_find (pg := pg) h
section
variable {P : Program} {w : World} {K : PySem.W.Frag} {mg : Str → Option Value} {base : Heap}
def sp_law_function (K : PySem.W.Frag) : Sp := fun vs H Q _ => ∃ (sd : Addr) (i : Nat) (n : Nd) (pg : Prog) (ns : List Nd) (pre : Nat) (vp vg : V) (kd : Addr) (lg : Bool), vs = [.ref sd, .int (i : Nat)] ∧ StL K H sd pg ns pre vp vg kd lg ∧ WfN pg ns ∧ Wf pg ∧ Pfx pg pre ∧ ns[i]? = some n ∧ isFn ns i = true ∧
  ∀ (v : V) (lg' : Bool) (H' : Hp), Fr (Sk sd kd) H H' → StL K H' sd pg ns pre vp vg kd lg' → (lg' = false → lg = false ∧ ∃ fn, gFun pg pre ns n i = some fn ∧ Is K H' v (encF fn)) → (lg' = true → lg = true ∨ gFun pg pre ns n i = none) → Q v H'
theorem sc__law_function : FnScope ["_law_state", "_law_number", "_law_row", "_law_parameters_here", "_law_name", "_law_parts", "_law_k", "_law_wanted", "_law_needed", "_law_function_here", "_law_first", "_law_rules", "_law_rule", "_law_j"] ["_law_state", "_law_number"] (defScope Tx.s__law_function) := C8.fnScope_by (by decide +kernel)
theorem ok_law_function (Y : Hf K mg) : Cl CX0 P w K mg base 205 "_law_function" (sp_law_function K) := by
  refine Y.d__law_function.ok sc__law_function (fun vs H Q E h => ?_) (fun f cdv A outer s H vs Q E hr h => ?_)
  · obtain ⟨sd, i, n, pg, ns, pre, vp, vg, kd, lg, rfl, _⟩ := h; rfl
  have nd := sc__law_function.nd
  refine ⟨_, ((pss_cons (ps_set (i := 2) nd rfl (by first | exact .inl rfl | exact .inr rfl) (pe_ix ix_d (pe_dget (hu1 hr) (pv 0) pe_str fun _ _ => rfl) (pv 1) fun _ _ => rfl))
    (pss_cons (ps_set (i := 3) nd rfl (by first | exact .inl rfl | exact .inr rfl) (kc (ok_law_parameters Y) hr (pa_cons (pe_dget (hu1 hr) (pv 0) pe_str fun _ _ => rfl) (pa_cons (pv 2) pa_nil)) (hk := by omega)))
    (pss_cons (ps_set (i := 4) nd rfl (by first | exact .inl rfl | exact .inr rfl) (pe_op op_add_str (pe_dget (hu1 hr) (pv 0) pe_str fun _ _ => rfl) (k_str Y.z_str (pv 1))))
    (pss_cons (ps_if (pt_cmpR (op_eqD (n := 1) hr) (pe_ix ix_d (pv 2) pe_int fun _ _ => rfl) pe_str rfl)
        (pss_cons (ps_setLc (i := 5) (own := [("_law_k", 6)]) (g := (gName 6)) (tt := tYes) (te := (tTupD K (tCons (tOp (rIxL K) (tVar 3) (tVar 6)) (tCons (tTupD K (tCons (tVar 6) (tCons (tTupD K tNil) tNil))) tNil)))) rfl nd rfl rfl (sw_true rfl rfl rfl (by decide +kernel)) (pi_range1 rfl Y.z_range (pa_cons (k_lenL Y.z_len (pv 3)) pa_nil)) (blkOk_by (own := [("_law_k", 6)]) (N := ["_law_state", "_law_number", "_law_row", "_law_parameters_here", "_law_name", "_law_parts", "_law_k", "_law_wanted", "_law_needed", "_law_function_here", "_law_first", "_law_rules", "_law_rule", "_law_j"]) (sc := defScope Tx.s__law_function) (by decide +kernel)) (fun _ _ _ _ _ => (pg_name (i := 6) nd rfl (by first | exact .inl rfl | exact .inr rfl))) (fun _ _ _ _ _ => pts_nil) (fun _ _ _ _ _ => (pe_tupD (pa_cons (pe_ix ix_list (pv 3) (pv 6) fun _ _ => rfl) (pa_cons (pe_tupD (pa_cons (pv 6) (pa_cons (pe_tupD pa_nil) pa_nil))) pa_nil)))))
        (pss_one (ps_ret (pe_tupD (pa_cons pe_str (pa_cons (pv 4) (pa_cons (k_lenL Y.z_len (pv 3)) (pa_cons (kc (ok_put Y 120) hr (pa_cons (kc (ok_law_stands Y 40) hr (pa_cons (pv 0) (pa_cons (pe_ix ix_d (pe_ix ix_d (pv 2) pe_int fun _ _ => rfl) pe_int fun _ _ => rfl) pa_nil)) (hk := by omega)) (pa_cons (k_tupF Y.z_tuple (pv 5)) pa_nil)) (hk := by omega)) pa_nil)))))))) pss_nil)
    (pss_cons (ps_set (i := 7) nd rfl (by first | exact .inl rfl | exact .inr rfl) (pe_ix ix_d (kc (ok_demand Y) hr (pa_cons (pe_dget (hu1 hr) (pv 0) pe_str fun _ _ => rfl) (pa_cons (pe_ix ix_d (pv 2) pe_int fun _ _ => rfl) pa_nil)) (hk := by omega)) pe_int fun _ _ => rfl))
    (pss_cons (ps_set (i := 8) nd rfl (by first | exact .inl rfl | exact .inr rfl) (pe_ix ix_list (pe_lc (own := [("_law_function_here", 9)]) (g := (gName 9)) (tt := (tTest (tOp (rEqD 1 K) (tOp (rD K) (tVar 9) (tC (.int 1))) (tVar 7)))) (te := (tVar 9)) rfl nd (pi_tup (pe_dget (hu1 hr) (pv 0) pe_str fun _ _ => rfl)) (blkOk_by (own := [("_law_function_here", 9)]) (N := ["_law_state", "_law_number", "_law_row", "_law_parameters_here", "_law_name", "_law_parts", "_law_k", "_law_wanted", "_law_needed", "_law_function_here", "_law_first", "_law_rules", "_law_rule", "_law_j"]) (sc := defScope Tx.s__law_function) (by decide +kernel)) (fun _ _ _ _ _ => (pg_name (i := 9) nd rfl (by first | exact .inl rfl | exact .inr rfl))) (fun _ _ _ _ _ => (pts_one (pt_cmpR (op_eqD (n := 1) hr) (pe_ix ix_d (pv 9) pe_int fun _ _ => rfl) (pv 7) rfl))) (fun _ _ _ _ _ => (pv 9))) pe_int fun _ _ => rfl))
    (pss_cons (ps_set (i := 10) nd rfl (by first | exact .inl rfl | exact .inr rfl) (pe_add (k_max Y.z_max (pv 3)) pe_int))
    (pss_cons (ps_set (i := 11) nd rfl (by first | exact .inl rfl | exact .inr rfl) (pe_lst pa_nil))
    (pss_cons (ps_for PassesOwn.never rfl (pi_range1 rfl Y.z_range (pa_cons (k_lenT Y.z_len (pe_ix ix_d (pv 8) pe_int fun _ _ => rfl)) pa_nil)) (pg_name (i := 6) nd rfl (by first | exact .inl rfl | exact .inr rfl))
        (pss_cons (ps_set (i := 12) nd rfl (by first | exact .inl rfl | exact .inr rfl) (pe_ix ix_d (pe_ix ix_d (pv 8) pe_int fun _ _ => rfl) (pv 6) fun _ _ => rfl))
        (pss_cons (ps_setLc (i := 5) (own := [("_law_j", 13)]) (g := (gName 13)) (tt := tYes) (te := (tTupD K (tCons (tAdd (tVar 10) (tVar 13)) (tCons (tTupD K (tCons (tVar 13) (tCons (tTupD K tNil) tNil))) tNil)))) rfl nd rfl rfl (sw_true rfl rfl rfl (by decide +kernel)) (pi_range1 rfl Y.z_range (pa_cons (pe_ix ix_d (pv 12) pe_int fun _ _ => rfl) pa_nil)) (blkOk_by (own := [("_law_j", 13)]) (N := ["_law_state", "_law_number", "_law_row", "_law_parameters_here", "_law_name", "_law_parts", "_law_k", "_law_wanted", "_law_needed", "_law_function_here", "_law_first", "_law_rules", "_law_rule", "_law_j"]) (sc := defScope Tx.s__law_function) (by decide +kernel)) (fun _ _ _ _ _ => (pg_name (i := 13) nd rfl (by first | exact .inl rfl | exact .inr rfl))) (fun _ _ _ _ _ => pts_nil) (fun _ _ _ _ _ => (pe_tupD (pa_cons (pe_add (pv 10) (pv 13)) (pa_cons (pe_tupD (pa_cons (pv 13) (pa_cons (pe_tupD pa_nil) pa_nil))) pa_nil)))))
        (pss_cons (ps_for PassesOwn.never rfl (pi_range2 rfl Y.z_range (pa_cons pe_int (pa_cons (k_lenL Y.z_len (pv 3)) pa_nil))) (pg_name (i := 13) nd rfl (by first | exact .inl rfl | exact .inr rfl))
            (pss_one (ps_expr (pe_bm PySem.F.plainAttrs_list PySem.F.slot_list_append PySem.F.type_list_append mt_append (pv 5) (pa_cons (pe_tupD (pa_cons (pe_ix ix_list (pv 3) (pv 13) fun _ _ => rfl) (pa_cons (pe_tupD (pa_cons (pe_sub (pe_add (pe_ix ix_d (pv 12) pe_int fun _ _ => rfl) (pv 13)) pe_int) (pa_cons (pe_tupD pa_nil) pa_nil))) pa_nil))) pa_nil)))))
        (pss_one (ps_expr (pe_bm PySem.F.plainAttrs_list PySem.F.slot_list_append PySem.F.type_list_append mt_append (pv 11) (pa_cons (pe_tupD (pa_cons (pe_ix ix_d (pv 12) pe_int fun _ _ => rfl) (pa_cons (pe_ix ix_d (pv 12) pe_int fun _ _ => rfl) (pa_cons (kc (ok_put Y 120) hr (pa_cons (kc (ok_law_stands Y 40) hr (pa_cons (pv 0) (pa_cons (pe_ix ix_d (pe_ix ix_d (pv 2) pe_int fun _ _ => rfl) (pv 6) fun _ _ => rfl) pa_nil)) (hk := by omega)) (pa_cons (k_tupF Y.z_tuple (pv 5)) pa_nil)) (hk := by omega)) pa_nil)))) pa_nil))))))))
    (pss_one (ps_ret (pe_tupD (pa_cons pe_str (pa_cons (pv 4) (pa_cons (k_lenL Y.z_len (pv 3)) (pa_cons (k_tup Y.z_tuple (pv 11)) pa_nil))))))))))))))))), ?_⟩
  obtain ⟨sd, i, n, pg, ns, pre, vp, vg, kd, lg, rfl, R, W, Wp, hp, en, hF, q⟩ := h
  have hnl := W.len
  have hmem := List.mem_of_getElem? en
  have hil := (List.getElem?_eq_some_iff.mp en).1
  have hz := W.sz n hmem
  have hk := kinds_fine _ (W.kd n hmem)
  have hcs : ∀ c ∈ n.ch, i < c ∧ c < ns.length := fun c hc => W.ch i n c en hc
  have hpl := pars_len (pg := pg) n
  refine ⟨_, rfl, sd, vg, rfl, R.get rfl, _, rfl, _, i, _, rfl, R.hg, row_at en, fun w2 hw2 => ?_⟩
  refine ⟨_, rfl, sd, vp, rfl, R.get rfl, _, rfl, vp, w2, pg, ns, n, i, rfl, R.hp, hw2, W, Wp, en, hF, fun H1 p1 f1 hp10 hp1 => ?_⟩
  have R1 := R.to f1
  have hw2 := Is.fr f1 hw2
  obtain ⟨n1, n2⟩ := num_ok (pre := pre) (i := i) hp.lt (by omega)
  refine ⟨_, rfl, sd, _, rfl, R1.get rfl, _, rfl, (i : Int), rfl, n1, _, _, rfl, rfl, n2, ?_⟩
  have hnm : ((pfx pre) ++ (toString (i : Int) : String) : Str) = (rnm pre i).s := (rnm_s hp.lt (show i < 40 by omega)).symm
  refine strT rfl hw2 ?_ hk
  have ne1 : sd ≠ p1 := fun z => by have h := R.hs; rw [z, hp10] at h; exact nomatch h
  have ne2 : kd ≠ p1 := fun z => by obtain ⟨_, _, h, _⟩ := R.kq; rw [z, hp10] at h; exact nomatch h
  have hp1s : ∀ {H7 : Hp}, Fr (Sk sd kd) H1 H7 → H7 p1 = some (.lst ((pars pg n).map V.int)) := fun {H7} f => f.k p1 _ (fun z => z.elim (fun z => ne1 z.symm) fun z => ne2 z.symm) hp1
  have gen : ∀ fn, gFun pg pre ns n i = some fn → gFun pg pre ns n i ≠ none := fun fn e z => by rw [e] at z; cases z
  cases c2 : (n.kind == ("stepped" : Str)) with
  | true =>
    have hg : gFun pg pre ns n i = (S pg pre ns (n.ch.headD 0)).map fun t => Fn.plain (rnm pre i) (pars pg n).length (put t (numP 0 (pars pg n))) := by unfold gFun; rw [if_pos (eq_of_beq c2)]
    have hne := W.ch_ne en (.inl (eq_of_beq c2))
    cases hc : n.ch with
    | nil => exact absurd hc hne
    | cons c cs =>
    have hcc := hcs c (by rw [hc]; exact List.mem_cons_self)
    rw [hc] at hg
    refine iteT ⟨_, rfl, p1, _, rfl, .inl (SqL.of hp1), ?_⟩
    rw [List.length_map]
    refine ⟨((pars pg n).length : Nat), rfl, by omega, by omega, fun D hD => lcD (K := K) (l := List.range (pars pg n).length) (en := fun (j : Nat) => .int (0 + j)) (f := fun (j : Nat) => some (prD ((pars pg n).getD j 0, vr ((0 + j : Nat) : Int)))) (dwR (S := No)) hD (by rw [List.length_range]; omega) (fun j x H7 yes no hj f7 hx yesH noH => ?_) fun H7 ys f7 hD7 hys => ?_⟩
    · have hx : Is K H7 x (.int (0 + (j : Int))) := hx
      rw [Int.zero_add] at hx
      obtain rfl := hx.intE
      have hj := List.mem_range.mp hj
      have ej : (pars pg n)[j]? = some ((pars pg n).getD j 0) := by
        rw [List.getElem?_eq_getElem hj, List.getD_eq_getElem?_getD, List.getElem?_eq_getElem hj]; rfl
      refine ⟨rfl, yesT ⟨_, rfl, _, rfl, p1, _, _, .int ((pars pg n).getD j 0), rfl, rfl, SqL.of (f7.kn hp1), by rw [atI_nat, List.getElem?_map, ej]; rfl, _, rfl, [], .nil, Nat.zero_le _, fun v2 H2 f2 hv2 => ?_⟩⟩
      refine ⟨_, .cons (.int _) (.cons hv2 .nil), le16 (Nat.le_of_ble_eq_true rfl), fun v3 H3 f3 hv3 => ⟨_, .cons (.int _) (.cons hv3 .nil), le16 (Nat.le_of_ble_eq_true rfl), fun v4 H4 f4 hv4 => yesH v4 H4 _ ((f2.trans f3).trans f4) ?_ rfl⟩⟩
      rw [Nat.zero_add]
      exact hv4
    · rw [fm_some, map_two (fun (j : Nat) => ((pars pg n).getD j 0, vr ((0 + j : Nat) : Int))) prD, ← numP_range] at hys
      have R7 := R1.to f7
      have hw7 := Is.fr f7 hw2
      refine ⟨_, rfl, _, rfl, p1, _, rfl, .inl (SqL.of (f7.kn hp1)), ?_⟩
      refine ⟨_, rfl, _, rfl, _, 2, _, rfl, hw7, rfl, fun y hy => ?_⟩
      rw [hc] at hy
      refine ⟨_, 0, .int (c : Int), rfl, hy, atI_zero _ _, fun z0 hz0 => ?_⟩
      obtain rfl := hz0.intE
      refine ⟨sd, c, pg, ns, pre, vp, vg, kd, lg, rfl, R7, W, Wp, hp, hcc.2, by omega, fun t lg' v9 H9 f9 R9 hv9 hz9 e1 e2 => ?_⟩
      have nsD : sd ≠ D := fun z => by have h := R1.hs; rw [z, hD] at h; exact nomatch h
      have nkD : kd ≠ D := fun z => by obtain ⟨_, _, h, _⟩ := R1.kq; rw [z, hD] at h; exact nomatch h
      have hD9 := f9.k D _ (fun z => z.elim (fun z => nsD z.symm) fun z => nkD z.symm) hD7
      refine ⟨_, rfl, D, _, rfl, SqL.of hD9, fun p8 o8 hp8 ho8 => ?_⟩
      have f8 : Fr No H9 (upd H9 p8 (.frz o8 (.tup ys))) := Fr.new0 hp8
      refine ⟨v9, t, .ref p8, numP 0 (pars pg n), rfl, hv9.fr f8, Prt.of hp8 ho8 (hys.fr f9), hz9, by omega, fun p hp => by rw [numP_one p hp]; decide, fun w10 H10 f10 hw10 => ?_⟩
      refine ⟨_, .cons (.str _) (.cons (.str _) (.cons (.int _) (.cons hw10 .nil))), le16 (Nat.le_of_ble_eq_true rfl), fun w11 H11 f11 hw11 => ?_⟩
      have f911 := (f8.trans f10).trans f11
      refine q w11 lg' H11 (((f1.trans f7).no.trans f9).trans f911.no) (R9.to f911) (fun z => ⟨(e1 z).1, Fn.plain (rnm pre i) (pars pg n).length (put t (numP 0 (pars pg n))), ?_, ?_⟩) fun z => ?_
      · rw [hg]
        show (S pg pre ns c).map _ = _
        rw [(e1 z).2]; rfl
      · rw [List.length_map, hnm] at hw11
        exact hw11
      · rcases e2 z with h | h
        · exact .inl h
        · refine .inr ?_
          rw [hg]
          show (S pg pre ns c).map _ = _
          rw [h]; rfl
  | false =>
    have nst : ¬ n.kind = ("stepped" : Str) := fun z => by rw [z, beq_self_eq_true] at c2; cases c2
    have hg : gFun pg pre ns n i = (allS (S pg pre ns) n.ch).map fun ts => Fn.cases (rnm pre i) (pars pg n).length (((rulesN pg n).zip ts).map fun p => mkR (nextU n.term) (pars pg n) p.1 p.2) := by unfold gFun; rw [if_neg nst]
    obtain ⟨ju, g, hd, hcl⟩ := (W.ok n hmem).bran ((isFn_kind en hF).elim id fun z => absurd z nst)
    obtain ⟨hju, y, ar, rs, hfn, _⟩ := dem_nds Wp _ n.term (Nat.le_refl _) ju g hd
    have hrs : rulesOf pg g = rs := by unfold rulesOf; rw [hfn]
    have hrn : rulesN pg n = rs := by unfold rulesN; rw [hd]; exact hrs
    rw [hrs] at hcl
    rw [hrn] at hg
    have hw := Wp.cases y ar rs (fnOf_mem hfn).1
    have hpars : pars pg n = ju :: (unks n.term).filter fun u => decide (u ≠ ju) := by unfold pars; rw [if_neg nst, hd]
    refine iteF (nextE ⟨_, rfl, sd, vp, rfl, R1.get rfl, _, rfl, _, 1, _, rfl, hw2, rfl, fun y1 hy1 => ⟨vp, y1, pg, n.term, rfl, R1.hp, hy1, Wp, W.kn n hmem, by omega, fun w3 H3 f3 hw3 => ?_⟩⟩)
    rw [hd] at hw3
    refine ⟨_, 2, _, rfl, hw3, rfl, fun z hzz => ?_⟩
    obtain rfl := hzz.strE
    have R3 := R1.to f3
    obtain ⟨ap, xp, rfl, tp, ip⟩ := R3.hp.tupE
    refine ⟨_, rfl, sd, .ref ap, rfl, R3.get rfl, ap, rfl, ⟨_, tp.sq⟩, fun D hD => lcD (K := K) (l := pg) (en := encF) (f := fun f => if f.nm = g then some (encF f) else none) (dwT (S := No) tp ip) hD (by have := hp.few; omega) (fun fn x H7 yes no _ f7 hx yesH noH => ?_) fun H7 ys f7 hD7 hys => ?_⟩
    · obtain ⟨a1, a2, a3, e⟩ := encF_nm fn
      refine ⟨rfl, _, rfl, _, 1, .str fn.nm.s, rfl, by rw [e] at hx; exact hx, rfl, fun w hw => ⟨_, rfl, _, _, hw, .str g.s, fine_s _, fine_s _, Nat.zero_le _, _, rfl, ?_⟩⟩
      rw [eqv_strs]
      exact ifET (fun c => ⟨_, rfl, yesH x H7 _ .refl hx (if_pos c)⟩) fun c => noH H7 .refl (if_neg c)
    obtain ⟨rest, hrest⟩ := fm_find hfn
    rw [hrest] at hys
    cases hys with
    | cons hy0 hyr =>
    rename_i w8 ys
    refine ⟨D, _, 0, w8, rfl, rfl, SqL.of hD7, atI_zero _ _, ?_⟩
    have hneed : Is K H7 w8 (.tuple [.str "cases", .str y.s, .int (ar : Nat), .tuple (rs.map encR)]) := hy0
    have f37 := f3.trans f7
    have R7 := R1.to f37
    have hp17 := f37.kn hp1
    have hsub : ∀ j g, dem pg n.term = .nds j g → Hd.u j ∈ n.term.heads := fun j g e => (dem_nds Wp _ n.term (Nat.le_refl _) j g e).1
    refine ⟨_, rfl, p1, pars pg n, rfl, SqL.of hp17, by rw [hpars]; exact Nat.succ_pos _, fun mx hmx hall => ⟨_, _, rfl, rfl, ?_⟩⟩
    have enx : mx + 1 = nextU n.term := by
      unfold nextU
      refine maxL_uniq (List.mem_map.mpr ⟨mx, pars_mem hmx hsub, rfl⟩) fun y hy => ?_
      obtain ⟨u, hu, rfl⟩ := List.mem_map.mp hy
      have : u ∈ pars pg n := by
        rw [hpars]
        by_cases c : u = ju
        · rw [c]; exact List.mem_cons_self
        · exact List.mem_cons_of_mem _ (List.mem_filter.mpr ⟨hu, decide_eq_true c⟩)
      have := hall u this
      omega
    dsimp only
    rw [enx]
    refine ⟨Nat.zero_le _, fun l hl => ?_⟩
    have f8 : Fr No H7 (upd H7 l (.lst [])) := Fr.new0 hl
    have R8 := R7.to f8
    have hl8 : (upd H7 l (.lst [])) l = some (.lst []) := upd_same
    have nsl : sd ≠ l := fun z => by have h := R7.hs; rw [z, hl] at h; exact nomatch h
    have nkl : kd ≠ l := fun z => by obtain ⟨_, _, h, _⟩ := R7.kq; rw [z, hl] at h; exact nomatch h
    have npl : p1 ≠ l := fun z => by rw [z, hl] at hp17; cases hp17
    have hp18 := f8.kn hp17
    have hneed8 := hneed.fr f8
    have hw28 := (Is.fr f37 hw2).fr f8
    have f18 := f37.trans f8
    generalize upd H7 l (.lst []) = H8 at f8 R8 hl8 hp18 hneed8 hw28 f18 ⊢
    refine ⟨_, rfl, _, 3, _, rfl, hneed8, rfl, fun y3 hy3 => ⟨y3, _, rfl, hy3, ?_⟩⟩
    rw [List.length_map]
    have fz : ∀ {H9 : Hp}, Fr (fun b => b = l ∨ Sk sd kd b) H8 H9 → Fr (Sk sd kd) H H9 := fun {H9} f9 => by
      have z : Fr (fun b => b = l ∨ Sk sd kd b) H7 H9 := f8.no.trans f9
      refine (f1.trans f37).no.trans (z.less fun b hb hn => ?_)
      rcases hb with e | e
      · rw [e]; exact hl
      · exact absurd e hn
    refine ⟨(rs.length : Nat), rfl, by omega, by omega, ?_⟩
    refine for_it (dwR (K := K) (S := fun b => b = l ∨ Sk sd kd b) (H1 := H8) (lo := 0) (n := rs.length)) (fun j σ H' => ∃ (x5 x6 x9 x12 x13 : Option V) (zs : List V) (ts : List T) (lg' : Bool), σ = [some (.ref sd), some (.int (i : Nat)), some w2, some (.ref p1), some (.str (pfx pre ++ (toString (i : Int) : String))), x5, x6, some (.str g.s), some w8, x9, some (.int (nextU n.term)), some (.ref l), x12, x13] ∧ Fr (fun b => b = l ∨ Sk sd kd b) H8 H' ∧ H' l = some (.lst zs) ∧ ts.length = j ∧
        IsAll K H' zs (((rs.zip ts).map fun p => mkR (nextU n.term) (pars pg n) p.1 p.2).map encR) ∧ StL K H' sd pg ns pre (.ref ap) vg kd lg' ∧ (lg' = false → lg = false ∧ allS (S pg pre ns) (n.ch.take j) = some ts) ∧ (lg' = true → lg = true ∨ allS (S pg pre ns) n.ch = none))
      ⟨_, _, _, _, _, [], [], lg, rfl, .refl, hl8, rfl, by rw [List.zip_nil_right]; exact .nil, R8, fun z => ⟨z, rfl⟩, fun z => .inl z⟩ (fun j σ H' _ z => let ⟨_, _, _, _, _, _, _, _, _, z, _⟩ := z; z) (fun j x σ H9 H10 hlt z yy => ?_) fun σ H9 z => ?_
    · obtain ⟨x5, x6, x9, x12, x13, zs, ts, lg9, rfl, f9, hl9, htl, hzs, R9, e1, e2⟩ := z
      obtain ⟨f10, d, hdd, hx⟩ := yy
      rw [List.length_map, List.length_range] at hlt
      rw [List.getElem?_map, List.getElem?_range hlt] at hdd
      cases hdd
      have hx : Is K H10 x (.int (0 + (j : Int))) := hx
      rw [Int.zero_add] at hx
      obtain rfl := hx.intE
      obtain ⟨rl, er⟩ : ∃ rl, rs[j]? = some rl := ⟨_, List.getElem?_eq_getElem hlt⟩
      obtain ⟨c, ec⟩ : ∃ c, n.ch[j]? = some c := ⟨_, List.getElem?_eq_getElem (by omega)⟩
      have hcc := hcs c (List.mem_of_getElem? ec)
      have hrl := hw.2.2.2 rl (List.mem_of_getElem? er)
      have f810 := f9.trans f10.no
      have R10 := R9.to f10
      have hl10 := f10.kn hl9
      have hp110 := f810.k p1 _ (fun z => z.elim npl fun z => z.elim (fun z => ne1 z.symm) fun z => ne2 z.symm) hp18
      refine ⟨_, rfl, _, 3, _, rfl, hneed8.fr f810, rfl, fun y4 hy4 => ⟨_, rfl, _, j, encR rl, rfl, hy4, by rw [atI_nat, List.getElem?_map, er]; rfl, fun w12 hw12 => ?_⟩⟩
      have hrr : Is K H10 w12 (.tuple [.str rl.con.s, .int (rl.cnt : Nat), enc rl.body]) := hw12
      refine ⟨_, rfl, _, 1, _, rfl, hrr, rfl, fun z3 hz3 => ?_⟩
      obtain rfl := hz3.intE
      refine ⟨(rl.cnt : Nat), rfl, by omega, by omega, fun D hD => lcD (K := K) (l := List.range rl.cnt) (en := fun (j : Nat) => .int (0 + j)) (f := fun (j : Nat) => some (prD (nextU n.term + j, vr j))) (dwR (S := No)) hD (by rw [List.length_range]; omega) (fun k x H11 yes no _ f11 hx yesH noH => ?_) fun H11 us f11 hD11 hus => ?_⟩
      · obtain rfl := hx.intE
        refine ⟨rfl, yesT ⟨_, rfl, _, rfl, _, _, rfl, rfl, _, rfl, [], .nil, Nat.zero_le _, fun v2 H2 f2 hv2 => ?_⟩⟩
        refine ⟨_, .cons (.int _) (.cons hv2 .nil), le16 (Nat.le_of_ble_eq_true rfl), fun v3 H3 f3 hv3 => ⟨_, .cons (.int _) (.cons hv3 .nil), le16 (Nat.le_of_ble_eq_true rfl), fun v4 H4 f4 hv4 => yesH v4 H4 _ ((f2.trans f3).trans f4) ?_ rfl⟩⟩
        rw [Int.zero_add] at hv4
        exact hv4
      rw [fm_some, map_two (fun (k : Nat) => (nextU n.term + (k : Int), vr k)) prD] at hus
      have hus : IsAll K H11 us ((frsP (nextU n.term) rl.cnt).map prD) := hus
      have hp111 := f11.kn hp110
      refine ⟨_, rfl, p1, _, rfl, .inl (SqL.of hp111), ?_⟩
      rw [List.length_map]
      refine ⟨1, ((pars pg n).length : Nat), rfl, ⟨by decide, by decide, by omega, by omega⟩, ?_⟩
      have hpn : 0 < (pars pg n).length := by rw [hpars]; exact Nat.succ_pos _
      rw [show (((pars pg n).length : Int) - 1).toNat = ((pars pg n).drop 1).length by rw [List.length_drop]; omega]
      have hl11 := f11.kn hl10
      have nDl : D ≠ l := fun z => by rw [z, hl10] at hD; cases hD
      have nDs : D ≠ sd := fun z => by have h := R10.hs; rw [← z, hD] at h; exact nomatch h
      have nDk : D ≠ kd := fun z => by obtain ⟨_, _, h, _⟩ := R10.kq; rw [← z, hD] at h; exact nomatch h
      have nDp : p1 ≠ D := fun z => by rw [z, hD] at hp110; cases hp110
      refine for_it (dwR (K := K) (S := At D) (H1 := H11) (lo := 1) (n := ((pars pg n).drop 1).length)) (fun k σ H' => ∃ (x6 x9 x13 : Option V) (vs : List V), σ = [some (.ref sd), some (.int (i : Nat)), some w2, some (.ref p1), some (.str (pfx pre ++ (toString (i : Int) : String))), some (.ref D), some (.int (j : Nat)), some (.str g.s), some w8, x9, some (.int (nextU n.term)), some (.ref l), some w12, x13] ∧ Fr (At D) H11 H' ∧ H' D = some (.lst vs) ∧ IsAll K H' vs ((frsP (nextU n.term) rl.cnt ++ numP rl.cnt (((pars pg n).drop 1).take k)).map prD))
        ⟨none, _, _, us, rfl, .refl, hD11, by
          show IsAll K H11 us ((frsP (nextU n.term) rl.cnt ++ []).map prD)
          rw [List.append_nil]; exact hus⟩ (fun k σ H' _ z => let ⟨_, _, _, _, _, z, _⟩ := z; z) (fun k x σ H12 H13 hlt2 z yy => ?_) fun σ H12 z => ?_
      · obtain ⟨x6, x9, x13, vs, rfl, f12, hD12, hvs⟩ := z
        obtain ⟨f13, d, hdd, hx⟩ := yy
        rw [List.length_map, List.length_range] at hlt2
        rw [List.getElem?_map, List.getElem?_range hlt2] at hdd
        cases hdd
        have hx : Is K H13 x (.int (1 + (k : Int))) := hx
        rw [show (1 + (k : Int)) = ((k + 1 : Nat) : Int) by omega] at hx
        obtain rfl := hx.intE
        have eu : ((pars pg n).drop 1)[k]? = some (((pars pg n).drop 1)[k]) := List.getElem?_eq_getElem hlt2
        generalize ((pars pg n).drop 1)[k] = u at eu
        have eu2 : (pars pg n)[k + 1]? = some u := by rw [List.getElem?_drop] at eu; rw [Nat.add_comm]; exact eu
        have hD13 := f13.kn hD12
        have hp113 := f13.kn (f12.k p1 _ nDp hp111)
        refine ⟨_, rfl, .inl ⟨rfl, _, SqL.of hD13⟩, _, rfl, _, rfl, p1, _, _, .int u, rfl, rfl, SqL.of hp113, by rw [atI_nat, List.getElem?_map, eu2]; rfl, _, rfl, _, 1, _, rfl, ((hrr.fr f11).fr f12).fr f13, rfl, fun z5 hz5 => ?_⟩
        obtain rfl := hz5.intE
        refine ⟨_, rfl, _, _, rfl, rfl, _, _, rfl, rfl, [], .nil, Nat.zero_le _, fun v2 H2 f2 hv2 => ⟨_, .cons (.int _) (.cons hv2 .nil), le16 (Nat.le_of_ble_eq_true rfl), fun v3 H3 f3 hv3 => ⟨_, .cons (.int _) (.cons hv3 .nil), le16 (Nat.le_of_ble_eq_true rfl), fun v4 H4 f4 hv4 => ?_⟩⟩⟩
        have f24' := (f2.trans f3).trans f4
        have hlv : vs.length < 16000000 := by
          rw [hvs.len, List.length_map, List.length_append]
          unfold frsP numP
          rw [List.length_map, List.length_map, List.length_range, enI_len, List.length_take]
          have := hrl.2.1
          have h2 : ((pars pg n).drop 1).length ≤ (pars pg n).length := by rw [List.length_drop]; omega
          have h3 := Nat.min_le_right k ((pars pg n).drop 1).length
          omega
        refine ⟨D, _, _, rfl, rfl, f24'.kn hD13, lt_line hlv, ?_⟩
        have g13 : Fr (At D) H4 (upd H4 D (.lst (vs ++ [v4]))) := Fr.refl.mut rfl (f24'.kn hD13) fun z => z
        refine ⟨none, _, _, _, rfl, ((f12.trans f13.no).trans f24'.no).trans g13, upd_same, ?_⟩
        rw [take_snoc eu, numP_snoc, ← List.append_assoc, List.map_append]
        refine (((hvs.fr f13).fr f24').fr g13).append (.cons ?_ .nil)
        have hv4 : Is K _ v4 (.tuple [.int u, .tuple [.int ((rl.cnt : Int) + ((k + 1 : Nat) : Int) - 1), .tuple []]]) := Is.fr g13 hv4
        have hlk : (((pars pg n).drop 1).take k).length = k := by rw [List.length_take]; omega
        have ei : ((rl.cnt : Int) + ((k + 1 : Nat) : Int) - 1) = ((rl.cnt + (((pars pg n).drop 1).take k).length : Nat) : Int) := by rw [hlk]; omega
        rw [ei] at hv4
        exact hv4
      · obtain ⟨x6, x9, x13, vs, rfl, f12, hD12, hvs⟩ := z
        rw [List.length_map, List.length_range, List.take_length] at hvs
        have hvs : IsAll K H12 vs ((rlP (nextU n.term) (pars pg n) rl).map prD) := hvs
        have f1012 : Fr No H10 H12 := by
          have z : Fr (At D) H10 H12 := f11.no.trans f12
          exact z.less fun b hb _ => by rw [show b = D from hb]; exact hD
        have R12 := R10.to f1012
        have hl12 := f1012.kn hl10
        have hrr12 := hrr.fr f1012
        refine ⟨_, rfl, .inl ⟨rfl, _, SqL.of hl12⟩, _, rfl, _, 0, _, rfl, hrr12, rfl, fun z3 hz3 => ⟨_, rfl, _, 1, _, rfl, hrr12, rfl, fun z4 hz4 => ?_⟩⟩
        refine ⟨_, rfl, _, rfl, _, 2, _, rfl, (hw28.fr f810).fr f1012, rfl, fun y5 hy5 => ⟨_, rfl, _, j, .int (c : Nat), rfl, hy5, by rw [atI_nat, List.getElem?_map, ec]; rfl, fun z6 hz6 => ?_⟩⟩
        obtain rfl := hz6.intE
        refine ⟨sd, c, pg, ns, pre, .ref ap, vg, kd, lg9, rfl, R12, W, Wp, hp, hcc.2, by omega, fun t lg13 v13 H13 f13 R13 hv13 hz13 i1 i2 => ?_⟩
        have hD13 := f13.k D _ (fun z => z.elim nDs nDk) hD12
        refine ⟨_, rfl, D, _, rfl, SqL.of hD13, fun p14 o14 hp14 ho14 => ?_⟩
        have f14 : Fr No H13 (upd H13 p14 (.frz o14 (.tup vs))) := Fr.new0 hp14
        refine ⟨v13, t, .ref p14, rlP (nextU n.term) (pars pg n) rl, rfl, hv13.fr f14, Prt.of hp14 ho14 (hvs.fr f13), hz13, by omega, fun p hp => by rw [rlP_one p hp]; decide, fun w15 H15 f15 hw15 => ?_⟩
        have f1315 := f14.trans f15
        refine ⟨_, .cons ((Is.fr f13 hz3).fr f1315) (.cons ((Is.fr f13 hz4).fr f1315) (.cons hw15 .nil)), le16 (Nat.le_of_ble_eq_true rfl), fun w16 H16 f16 hw16 => ?_⟩
        have f1316 := f1315.trans f16
        have hl13 := f13.k l _ (fun z => z.elim (fun z => nsl z.symm) fun z => nkl z.symm) hl12
        refine ⟨l, _, _, rfl, rfl, f1316.kn hl13, lt_line ?_, ?_⟩
        · rw [hzs.len, List.length_map, List.length_map, List.length_zip]
          have := hw.2.2.1
          have := Nat.min_le_left rs.length ts.length
          omega
        · have g17 : Fr (fun b => b = l ∨ Sk sd kd b) H16 (upd H16 l (.lst (zs ++ [w16]))) := Fr.refl.mut (.inl rfl) (f1316.kn hl13) fun z => z
          have f13' : Fr (fun b => b = l ∨ Sk sd kd b) H12 H13 := f13.mono fun b z => .inr z
          refine ⟨_, _, _, _, _, _, ts ++ [t], lg13, rfl, (((f810.trans f1012.no).trans f13').trans f1316.no).trans g17, upd_same, by rw [List.length_append, htl]; rfl, ?_, (R13.to f1316).fr (Fr.refl.mut (S := At l) rfl (f1316.kn hl13) fun z => z) nsl nkl, fun z => ⟨(e1 (i1 z).1).1, allS_snoc (e1 (i1 z).1).2 ec (i1 z).2⟩, fun z => ?_⟩
          · rw [zip_snoc (by rw [htl]; exact er), List.map_append, List.map_append]
            exact (((((hzs.fr f10).fr f1012).fr f13').fr f1316).fr g17).append (.cons (Is.fr g17 hw16) .nil)
          · rcases i2 z with h | h
            · exact e2 h
            · exact .inr (allS_none (List.mem_of_getElem? ec) h)
    · obtain ⟨x5, x6, x9, x12, x13, zs, ts, lg9, rfl, f9, hl9, htl, hzs, R9, e1, e2⟩ := z
      rw [List.length_map, List.length_range] at e1 htl
      rw [← hcl, List.take_length] at e1
      have hp19 := f9.k p1 _ (fun z => z.elim npl fun z => z.elim (fun z => ne1 z.symm) fun z => ne2 z.symm) hp18
      refine ⟨_, rfl, _, rfl, p1, _, rfl, .inl (SqL.of hp19), _, rfl, l, zs, _, rfl, hl9, hzs, fun w10 H10 f10 hw10 => ?_⟩
      refine ⟨_, .cons (.str _) (.cons (.str _) (.cons (.int _) (.cons hw10 .nil))), le16 (Nat.le_of_ble_eq_true rfl), fun w11 H11 f11 hw11 => ?_⟩
      have f911 := f10.trans f11
      refine q w11 lg9 H11 (fz (f9.trans f911.no)) (R9.to f911) (fun z => ⟨(e1 z).1, Fn.cases (rnm pre i) (pars pg n).length ((rs.zip ts).map fun p => mkR (nextU n.term) (pars pg n) p.1 p.2), ?_, ?_⟩) fun z => ?_
      · rw [hg, (e1 z).2]; rfl
      · rw [List.length_map, hnm] at hw11
        exact hw11
      · rcases e2 z with h | h
        · exact .inl h
        · refine .inr ?_
          rw [hg, h]; rfl
end
end DF

namespace DF
open PySem PySem.Spec PyProof.Rows L2 RZ
/-! ### programs as data: fine, their depth -/
theorem fine_encR (r : Rule) : fine (encR r) = true := by
  show (fine (.str r.con.s) && (true && (fine (enc r.body) && true))) = true
  rw [fine_s, fine_enc]; rfl
theorem fine_encF (f : Fn) : fine (encF f) = true := by
  cases f with
  | plain x n b =>
    show (fine (.str "plain") && (fine (.str x.s) && (true && (fine (enc b) && true)))) = true
    rw [fine_s, fine_enc, show fine (.str "plain") = true by decide +kernel]; rfl
  | cases x n rs =>
    show (fine (.str "cases") && (fine (.str x.s) && (true && (fineA (rs.map encR) && true)))) = true
    rw [fine_s, fineA_map fine_encR, show fine (.str "cases") = true by decide +kernel]; rfl
theorem fine_encG (pg : Prog) : fine (encG pg) = true := fineA_map fine_encF pg
theorem depthAll_le {N : Nat} : ∀ {ds : List PyData}, (∀ d ∈ ds, d.depth ≤ N) → PyData.depthAll ds ≤ N
  | [], _ => Nat.zero_le _
  | d :: ds, h => Nat.max_le.mpr ⟨h d List.mem_cons_self, depthAll_le fun e he => h e (List.mem_cons_of_mem _ he)⟩
def bodyLe (M : Nat) : Fn → Prop
  | .plain _ _ b => b.size ≤ M
  | .cases _ _ rs => ∀ r ∈ rs, r.body.size ≤ M
theorem depth_encR {M : Nat} {r : Rule} (h : r.body.size ≤ M) : (encR r).depth ≤ 2 * M + 1 := by
  have h1 := depth_enc r.body
  show max 0 (max 0 (max (enc r.body).depth 0)) + 1 ≤ _
  omega
theorem depth_encF {M : Nat} {f : Fn} (h : bodyLe M f) : (encF f).depth ≤ 2 * M + 3 := by
  cases f with
  | plain x n b =>
    have h1 := depth_enc b
    have h : b.size ≤ M := h
    show max 0 (max 0 (max 0 (max (enc b).depth 0))) + 1 ≤ _
    omega
  | cases x n rs =>
    have h1 : PyData.depthAll (rs.map encR) ≤ 2 * M + 1 := depthAll_le fun d hd => by
      obtain ⟨r, hr, rfl⟩ := List.mem_map.mp hd
      exact depth_encR (h r hr)
    show max 0 (max 0 (max 0 (max (PyData.depthAll (rs.map encR) + 1) 0))) + 1 ≤ _
    omega
theorem depth_encG {M : Nat} {pg : Prog} (h : ∀ f ∈ pg, bodyLe M f) : (encG pg).depth ≤ 2 * M + 4 := by
  have h1 : PyData.depthAll (pg.map encF) ≤ 2 * M + 3 := depthAll_le fun d hd => by
    obtain ⟨f, hf, rfl⟩ := List.mem_map.mp hd
    exact depth_encF (h f hf)
  show PyData.depthAll (pg.map encF) + 1 ≤ _
  omega
theorem gFun_le {pg : Prog} {pre : Nat} {ns : List Nd} {n : Nd} {i : Nat} {fn : Fn} (W : WfN pg ns) (h : gFun pg pre ns n i = some fn) : bodyLe 120 fn := by
  have one : ∀ {t : T} {ps : List (Int × T)}, t.size ≤ 120 → (∀ p ∈ ps, p.2.size = 1) → (put t ps).size ≤ 120 := fun {t ps} h1 h2 => by
    have := put_size (t := t) (ps := ps) (M := 1) (Nat.le_refl _) fun p hp => by rw [h2 p hp]; exact Nat.le_refl _
    omega
  unfold gFun at h
  split at h
  · cases e : S pg pre ns (n.ch.headD 0) with
    | none => rw [e] at h; cases h
    | some t =>
      rw [e] at h
      cases h
      exact one (S_le W e) numP_one
  · cases e : allS (S pg pre ns) n.ch with
    | none => rw [e] at h; cases h
    | some ts =>
      rw [e] at h
      cases h
      intro r hr
      obtain ⟨p, hp, rfl⟩ := List.mem_map.mp hr
      exact one (allS_le W e _ (List.of_mem_zip hp).2) rlP_one
theorem resF_le {pg : Prog} {pre : Nat} {ns : List Nd} {j : Nat} {fs : List Fn} (W : WfN pg ns) (h : resF pg pre ns j = some fs) : ∀ f ∈ fs, bodyLe 120 f := fun f hf => by
  obtain ⟨h1, h2⟩ := allS_some h
  obtain ⟨k, ek⟩ := List.mem_iff_getElem?.mp hf
  have hk := (List.getElem?_eq_some_iff.mp ek).1
  obtain ⟨t, e1, e2⟩ := h2 k _ (List.getElem?_eq_getElem (show k < (fnodes ns j).length by omega))
  rw [ek] at e2
  cases e2
  unfold gFunI at e1
  split at e1
  · cases e1
  · exact gFun_le W e1
theorem wf_le {pg : Prog} (W : Wf pg) : ∀ f ∈ pg, bodyLe 120 f := fun f hf => by
  cases f with
  | plain x n b => have := (W.plain x n b hf).2.1; show b.size ≤ 120; omega
  | cases x n rs => exact fun r hr => by have := ((W.cases x n rs hf).2.2.2 r hr).2.2.2; omega
section
variable {X : Cx} {k j : Nat} {x : Str} {sp : Sp} {p pos : Pos} {e : Expr} {es : List Expr} {t : TA} {W : WX}
/-- f(..) in a try, f may raise: what is wished then is told of the slots as they stand -/
theorem kcSD (c : Cl (L2.CX X.prog X.w) X.prog X.w X.K X.mg X.base k x sp) (hr : Room j X.A) (tk : Takes X W) (ha : PA X (e :: es) t) (hk : k ≤ j := by decide) (hg : Gl X x := by rfl)
    (hdb : (x == ("__debug__" : Str)) = false := by decide) (he : starEach (e :: es) X.env = (false, eval e X.env) :: starEach es X.env := by rfl) (hpl : (backTo pos (starEach es X.env)).any (·.1) = false := by rfl) :
    PE X (.Call (.Name x p) (e :: es) [] pos) (tCallSD sp [] (WE W) t) := by
  obtain ⟨f, fd, ps, F, hm, kp, b⟩ := c.ex
  exact pe_callSD F (hr.mono hk) hg hm kp b .nil (passAt tk) ha hdb he hpl
end
section
variable {P : Program} {w : World} {K : PySem.W.Frag} {mg : Str → Option Value} {base : Heap}
def sp_law (K : PySem.W.Frag) : Sp := fun vs H Q _ => ∃ (a : Addr) (ns : List Int), vs = [.ref a] ∧ SqL K H a (ns.map V.int) ∧ ∀ H', Q (.bl true) H'
theorem sc_law : FnScope ["_law_script", "_law_tape_here", "_law_program_here", "_law_session", "_law_graph", "_law_state", "_law_functions", "_law_number", "_law_start", "_law_actual"] ["_law_script"] (defScope Tx.s_law) := C8.fnScope_by (by decide +kernel)
def tbLaw (K : PySem.W.Frag) (W : WX) : TS := tAsg (tCallSD (sp_residual K) [] (WE W) (tCons (tVar 2) (tCons (tVar 4) tNil))) (gName 9)
/-- a def that may raise, with what the head tells of it -/
theorem Dg.okF {P : Program} {w : World} {K : PySem.W.Frag} {mg : Str → Option Value} {base : Heap} {k : Nat} {x : Str} {sp : Sp} {nm : Str} {st : Stmt} {N ps : List Str} (D : Dg K mg x nm st ps) (S : FnScope N ps (defScope st)) (len : ∀ vs H Q E, sp vs H Q E → vs.length = ps.length)
    (hbody : ∀ (f : Addr) (cdv : Value) (A : Around) (outer : List Env) (s : Shared) (H : Hp) (vs : List V) (Q : VK) (E : XK), Room k (A.deeper (envOfC nm (defScope st) s.heap.objs.size f cdv)) → sp vs H Q E →
      ∃ t, PSs (cxOf (L2.CX P w) P w K mg base N nm (defScope st) f cdv A outer s H E) (defBody st) t ∧ t { nx := fun _ H' => Q .non H', rt := Q } (start N vs) H) :
    ∃ (f : Addr) (fd : FuncData), FunD K nm nm (defArgs st) (defBody st) (defScope st) [] [] f fd ∧ FnOk P w K mg base (L2.CX P w) (k + 1) f fd ps sp ∧ mg x = some (.ref f) := by
  obtain ⟨f, fd, F, hm, b⟩ := D.ex
  exact ⟨f, fd, F, F.ok S len fun cdv A outer s H vs Q E hr h => hbody f cdv A outer s H vs Q E hr h, hm⟩
theorem ok_law (Y : Hf K mg) (Z : Mkr P w K mg base) (Zx : Rfx K) : ∃ (f : Addr) (fd : FuncData), FunD K "law" "law" (defArgs Tx.s_law) (defBody Tx.s_law) (defScope Tx.s_law) [] [] f fd ∧ FnOk P w K mg base (L2.CX P w) 229 f fd ["_law_script"] (sp_law K) ∧ mg "law" = some (.ref f) := by
  refine Y.d_law.okF sc_law (fun vs H Q E h => ?_) (fun f cdv A outer s H vs Q E hr h => ?_)
  · obtain ⟨a, ns, rfl, _⟩ := h; rfl
  have nd := sc_law.nd
  refine ⟨_, ((pss_cons (ps_set (i := 1) nd rfl (by first | exact .inl rfl | exact .inr rfl) (kc (ok_law_tape Y) hr (pa_cons (pv 0) pa_nil) (hk := by omega)))
    (pss_cons (ps_set (i := 2) nd rfl (by first | exact .inl rfl | exact .inr rfl) (kc (ok_law_program Y) hr (pa_cons (pv 1) pa_nil) (hk := by omega)))
    (pss_cons (ps_if (pt_cmp (pc_eqI (kc (ok_law_next Y) hr (pa_cons (pv 1) (pa_cons pe_int pa_nil)) (hk := by omega)) pe_int))
        (pss_one (ps_set (i := 2) nd rfl (by first | exact .inl rfl | exact .inr rfl) (pe_op op_catD (pv 2) (pe_tupD (pa_cons (pe_tupD (pa_cons pe_str (pa_cons (pe_ix ix_list (pe_lst (pa_cons pe_str (pa_cons pe_str (pa_cons pe_str (pa_cons pe_str pa_nil))))) (kc (ok_law_next Y) hr (pa_cons (pv 1) (pa_cons pe_int pa_nil)) (hk := by omega)) fun _ _ => rfl) (pa_cons pe_int (pa_cons (pe_tupD (pa_cons pe_int (pa_cons (pe_tupD pa_nil) pa_nil))) pa_nil))))) pa_nil))))) pss_nil)
    (pss_cons (ps_set (i := 3) nd rfl (by first | exact .inl rfl | exact .inr rfl) (kcX (E := E) (ok_law_closed Y Z Zx) hr (passes_call (takes_of rfl rfl rfl rfl) fun _ _ _ _ h => h) (pa_cons (pv 1) (pa_cons (pv 2) (pa_cons (kc (ok_law_term Y 3) hr (pa_cons (pv 1) (pa_cons (kc0 (ok_law_heads Y) hr (hk := by omega)) (pa_cons pe_int (pa_cons pe_int pa_nil)))) (hk := by omega)) (pa_cons (kc (ok_law_next Y) hr (pa_cons (pv 1) (pa_cons pe_int pa_nil)) (hk := by omega)) pa_nil)))) (hk := by omega)))
    (pss_cons (ps_set (i := 4) nd rfl (by first | exact .inl rfl | exact .inr rfl) (kmeX0 (E := E) (ok_graph Y Z) hr (passes_call (takes_of rfl rfl rfl rfl) fun _ _ _ _ h => h) (pv 3) (hk := by omega)))
    (pss_cons (ps_set (i := 5) nd rfl (by first | exact .inl rfl | exact .inr rfl) pe_dnewK)
    (pss_cons (ps_dput (hu1 hr) (pv 5) pe_str (pv 2) rfl)
    (pss_cons (ps_dput (hu1 hr) (pv 5) pe_str (pv 4) rfl)
    (pss_cons (ps_dput (hu1 hr) (pv 5) pe_str (kc (ok_law_prefix Y) hr (pa_cons (pv 2) pa_nil) (hk := by omega)) rfl)
    (pss_cons (ps_dput (hu1 hr) (pv 5) pe_str pe_dnewK rfl)
    (pss_cons (ps_dput (hu1 hr) (pv 5) pe_str pe_bl rfl)
    (pss_cons (ps_setLc (i := 6) (own := [("_law_number", 7)]) (g := (gName 7)) (tt := (tB (tCall (sp_law_owner K) [] E0 (tCons (tVar 4) (tCons (tVar 7) tNil))))) (te := (tCall (sp_law_function K) [] E0 (tCons (tVar 5) (tCons (tVar 7) tNil)))) rfl nd rfl rfl (sw_true rfl rfl rfl (by decide +kernel)) (pi_range1 rfl Y.z_range (pa_cons (k_lenT Y.z_len (pv 4)) pa_nil)) (blkOk_by (own := [("_law_number", 7)]) (N := ["_law_script", "_law_tape_here", "_law_program_here", "_law_session", "_law_graph", "_law_state", "_law_functions", "_law_number", "_law_start", "_law_actual"]) (sc := defScope Tx.s_law) (by decide +kernel)) (fun _ _ _ _ _ => (pg_name (i := 7) nd rfl (by first | exact .inl rfl | exact .inr rfl))) (fun _ _ _ _ _ => (pts_one (pt_val (kc (ok_law_owner Y) hr (pa_cons (pv 4) (pa_cons (pv 7) pa_nil)) (hk := by omega))))) (fun _ _ _ _ _ => (kc (ok_law_function Y) hr (pa_cons (pv 5) (pa_cons (pv 7) pa_nil)) (hk := by omega))))
    (pss_cons (ps_set (i := 8) nd rfl (by first | exact .inl rfl | exact .inr rfl) (kc (ok_law_stands Y 40) hr (pa_cons (pv 5) (pa_cons pe_int pa_nil)) (hk := by omega)))
    (pss_cons (ps_try_only (tb := (tbLaw K)) (ts := (fun _ _ _ => tRet (tDGet (tVar 5) (tC (.str "large"))))) rfl rfl ⟨rfl, by decide, .inl Y.m_TooLarge⟩ (takes_of rfl rfl rfl rfl) (fun W pn xe tkW po =>
        (pss_one (ps_set (i := 9) nd rfl (by first | exact .inl rfl | exact .inr rfl) (kcSD (ok_residual Y) hr tkW (pa_cons (pv 2) (pa_cons (pv 4) pa_nil)) (hk := by omega))))) (fun a oe cls d pn hz hv =>
        (pss_one (ps_ret (pe_dget (have z := hu1 hr; z) (pv 5) pe_str fun _ _ => rfl)))))
    (pss_one (ps_ret (pe_and (pe_not (pe_dget (hu1 hr) (pv 5) pe_str fun _ _ => rfl)) (pe_one (pe_cmpR (op_eqD (n := 1000) hr) (pv 9) (pe_tupD (pa_cons (pe_op op_catD (pv 2) (k_tup Y.z_tuple (pv 6))) (pa_cons (pv 8) pa_nil))) rfl)))))))))))))))))))), ?_⟩
  obtain ⟨a, ns0, rfl, ha, q⟩ := h
  refine ⟨_, rfl, a, ns0, rfl, ha, fun H1 tp nl f1 T1 => ?_⟩
  refine ⟨_, rfl, tp, nl, rfl, T1, fun t1 t2 t3 v2 H2 f2 T2 hv2 o1 o2 o3 => ?_⟩
  dsimp only [gName]
  refine seqTailIf (σ0 := [some (.ref a), some (.ref tp), some v2, none, none, none, none, none, none, none]) rfl (R := fun σ' H' => ∃ (v : V) (pg : Prog), σ' = [some (.ref a), some (.ref tp), some v, none, none, none, none, none, none, none] ∧ Tap H' tp nl ∧ Is K H' v (encG pg) ∧ PgOk pg) (fun D' hn => ?_) (fun σ' H' r => ?_)
  · refine ⟨_, rfl, tp, nl, 3, rfl, T2, by decide, fun c H3 hc f3 T3 => ⟨_, _, rfl, rfl, _, rfl, ifET (fun c0 => ?_) (fun c0 => hn _ H3 ⟨v2, _, rfl, T3, Is.fr f3 hv2, pgOk0 o1 o2 o3⟩)⟩⟩
    have hv3 := Is.fr f3 hv2
    refine ⟨_, rfl, le_line (le16 (Nat.le_of_ble_eq_true rfl)), fun l hl => ?_⟩
    have f4 : Fr No H3 (upd H3 l (.lst (exN.map V.str))) := Fr.new0 hl
    have hl4 : (upd H3 l (.lst (exN.map V.str))) l = some (.lst (exN.map V.str)) := upd_same
    have ntl : tp ≠ l := by
      obtain ⟨_, _, _, h, _⟩ := T3.ex
      exact ne_of_none h hl
    refine ⟨_, rfl, tp, nl, 4, rfl, T3.kn f4, by decide, fun i H5 hi f5 T5 => ?_⟩
    obtain ⟨x, ex⟩ : ∃ x, exN[i]? = some x := ⟨_, List.getElem?_eq_getElem hi⟩
    have hx := List.mem_of_getElem? ex
    refine ⟨l, exN.map V.str, (i : Nat), .str x, rfl, rfl, SqL.of (f5.k l _ (fun z => ntl z.symm) hl4), by rw [atI_nat, List.getElem?_map, ex]; rfl, [], .nil, Nat.zero_le _, fun v6 H6 f6 hv6 => ?_⟩
    refine ⟨_, .cons (.int _) (.cons hv6 .nil), le16 (Nat.le_of_ble_eq_true rfl), fun v7 H7 f7 hv7 => ⟨_, .cons (.str _) (.cons (.str _) (.cons (.int _) (.cons hv7 .nil))), le16 (Nat.le_of_ble_eq_true rfl), fun v8 H8 f8 hv8 => ⟨_, .cons hv8 .nil, le16 (Nat.le_of_ble_eq_true rfl), fun v9 H9 f9 hv9 => ?_⟩⟩⟩
    have f59 := ((f6.trans f7).trans f8).trans f9
    refine ⟨(progD t1 t2 t3).map encF, _, ((hv3.fr f4).fr f5).fr f59, hv9, le16 (Nat.le_of_ble_eq_true rfl), fun w10 H10 f10 hw10 => hn _ H10 ⟨w10, progD t1 t2 t3 ++ [Fn.plain ⟨x, ex_good x hx⟩ 1 (vr 0)], rfl, T5.kn (f59.trans f10), ?_, pgOk1 o1 o2 o3 hx⟩⟩
    show Is K H10 w10 (.tuple ((progD t1 t2 t3 ++ [Fn.plain ⟨x, ex_good x hx⟩ 1 (vr 0)]).map encF))
    rw [List.map_append]
    exact hw10
  obtain ⟨v, pg, rfl, T3, hv, ok⟩ := r
  obtain ⟨pre, hp⟩ := ok.pfx
  have Wp := ok.wf
  refine ⟨_, rfl, _, rfl, _, rfl, rfl, fun H4 hl xs f4 hl0 hhl hxs => ?_⟩
  have hne : hl ≠ tp := fun z => by obtain ⟨_, _, _, h, _⟩ := T3.ex; rw [z, h] at hl0; cases hl0
  refine ⟨tp, nl, hl, xs, 3, 2, rfl, T3.kn f4, hhl, hxs, hne, by decide, fun t v5 H5 f5 T5 hv5 okt hzt => ?_⟩
  refine ⟨_, rfl, tp, nl, 25, rfl, T5, by decide, fun m H6 hm f6 T6 => ?_⟩
  have hzt : t.size ≤ 13 := hzt
  have hv6 := ((hv.fr f4).fr f5).fr f6
  refine ⟨tp, nl, v, v5, pg, t, m, rfl, T6, hv6, hv5.fr f6, Wp, ok.kn 3 t okt, by omega, by omega, fun s H7 ns f7 S7 W ho => ?_⟩
  have hv7 := hv6.fr f7
  obtain ⟨dx, _, _, _, _, _, R7⟩ := id S7
  refine ⟨_, rfl, s, dx, _, rfl, R7.hs, rfl, s, TP tp nl, pg, ns, rfl, S7, W, ho, fun w8 H8 f8 hw8 => ?_⟩
  have hv8 := hv7.fr f8
  refine fun sd hsd => ?_
  have lt6 : ∀ {m : Nat}, m ≤ 1000 → m < sizeLine := fun h => lt_line (by omega)
  have a9 : Fr (At sd) H8 (upd H8 sd (.dK [])) := Fr.new0 hsd
  have b9 : (upd H8 sd (.dK [])) sd = some (.dK []) := upd_same
  generalize upd H8 sd (.dK []) = H9 at a9 b9 ⊢
  refine ⟨_, rfl, _, rfl, sd, _, rfl, DPut.k (k := .inr "program") b9 (lt6 (Nat.le_of_ble_eq_true rfl)), ?_⟩
  have a10 : Fr (At sd) H9 (upd H9 sd (.dK (putK [] (.inr "program") v))) := Fr.refl.mut rfl b9 fun z => z
  have b10 : (upd H9 sd (.dK (putK [] (.inr "program") v))) sd = some (.dK [(.inr "program", v)]) := upd_same
  generalize upd H9 sd (.dK (putK [] (.inr "program") v)) = H10 at a10 b10 ⊢
  refine ⟨_, rfl, _, rfl, sd, _, rfl, DPut.k (k := .inr "graph") b10 (lt6 (Nat.le_of_ble_eq_true rfl)), ?_⟩
  have a11 : Fr (At sd) H10 (upd H10 sd (.dK (putK [(.inr "program", v)] (.inr "graph") w8))) := Fr.refl.mut rfl b10 fun z => z
  have b11 : (upd H10 sd (.dK (putK [(.inr "program", v)] (.inr "graph") w8))) sd = some (.dK [(.inr "program", v), (.inr "graph", w8)]) := upd_same
  generalize upd H10 sd (.dK (putK [(.inr "program", v)] (.inr "graph") w8)) = H11 at a11 b11 ⊢
  have a811 := (a9.trans a10).trans a11
  refine ⟨_, rfl, v, pg, pre, rfl, hv8.fr a811, hp, fun H12 f12 => ?_⟩
  have b12 := f12.kn b11
  refine ⟨_, rfl, sd, _, rfl, DPut.k (k := .inr "prefix") b12 (lt6 (Nat.le_of_ble_eq_true rfl)), ?_⟩
  have a13 : Fr (At sd) H12 (upd H12 sd (.dK (putK [(.inr "program", v), (.inr "graph", w8)] (.inr "prefix") (.str (pfx pre))))) := Fr.refl.mut rfl b12 fun z => z
  have b13 : (upd H12 sd (.dK (putK [(.inr "program", v), (.inr "graph", w8)] (.inr "prefix") (.str (pfx pre))))) sd = some (.dK [(.inr "program", v), (.inr "graph", w8), (.inr "prefix", .str (pfx pre))]) := upd_same
  generalize upd H12 sd (.dK (putK [(.inr "program", v), (.inr "graph", w8)] (.inr "prefix") (.str (pfx pre)))) = H13 at a13 b13 ⊢
  refine fun kd hkd => ?_
  have nsk : sd ≠ kd := ne_of_none b13 hkd
  have a14 : Fr No H13 (upd H13 kd (.dK [])) := Fr.new0 hkd
  have b14 := a14.kn b13
  have k14 : (upd H13 kd (.dK [])) kd = some (.dK []) := upd_same
  generalize upd H13 kd (.dK []) = H14 at a14 b14 k14 ⊢
  refine ⟨_, rfl, sd, _, rfl, DPut.k (k := .inr "known") b14 (lt6 (Nat.le_of_ble_eq_true rfl)), ?_⟩
  have a15 : Fr (At sd) H14 (upd H14 sd (.dK (putK [(.inr "program", v), (.inr "graph", w8), (.inr "prefix", .str (pfx pre))] (.inr "known") (.ref kd)))) := Fr.refl.mut rfl b14 fun z => z
  have b15 : (upd H14 sd (.dK (putK [(.inr "program", v), (.inr "graph", w8), (.inr "prefix", .str (pfx pre))] (.inr "known") (.ref kd)))) sd = some (.dK [(.inr "program", v), (.inr "graph", w8), (.inr "prefix", .str (pfx pre)), (.inr "known", .ref kd)]) := upd_same
  generalize upd H14 sd (.dK (putK [(.inr "program", v), (.inr "graph", w8), (.inr "prefix", .str (pfx pre))] (.inr "known") (.ref kd))) = H15 at a15 b15 ⊢
  refine ⟨_, rfl, sd, _, rfl, DPut.k (k := .inr "large") b15 (lt6 (Nat.le_of_ble_eq_true rfl)), ?_⟩
  have a16 : Fr (At sd) H15 (upd H15 sd (.dK (putK [(.inr "program", v), (.inr "graph", w8), (.inr "prefix", .str (pfx pre)), (.inr "known", .ref kd)] (.inr "large") (.bl false)))) := Fr.refl.mut rfl b15 fun z => z
  have b16 : (upd H15 sd (.dK (putK [(.inr "program", v), (.inr "graph", w8), (.inr "prefix", .str (pfx pre)), (.inr "known", .ref kd)] (.inr "large") (.bl false)))) sd = some (.dK (stD v w8 pre kd false)) := upd_same
  generalize upd H15 sd (.dK (putK [(.inr "program", v), (.inr "graph", w8), (.inr "prefix", .str (pfx pre)), (.inr "known", .ref kd)] (.inr "large") (.bl false))) = H16 at a16 b16 ⊢
  have a1416 := a15.trans a16
  have k16 := a1416.k kd _ (fun z => nsk (show kd = sd from z).symm) k14
  have a816 : Fr (At sd) H8 H16 := (((a811.trans f12.no).trans a13).trans a14.no).trans a1416
  have R16 : StL K H16 sd pg ns pre v w8 kd false := ⟨b16, hv8.fr a816, hw8.fr a816, fun _ => Know.start k16, ⟨[], [], k16, .nil, Keys.nil⟩, nsk⟩
  have hnl := W.len
  refine ⟨_, rfl, w8, _, rfl, R16.hg, ?_⟩
  rw [List.length_map]
  refine ⟨(ns.length : Nat), rfl, by omega, by omega, fun D hD => ?_⟩
  have nsD : sd ≠ D := fun z => by have h := R16.hs; rw [z, hD] at h; exact nomatch h
  have nkD : kd ≠ D := fun z => by obtain ⟨_, _, h, _⟩ := R16.kq; rw [z, hD] at h; exact nomatch h
  refine lc_it (dwR (K := K) (S := fun b => b = D ∨ Sk sd kd b) (H1 := H16) (lo := 0) (n := ns.length)) (fun j H' => Fr (fun b => b = D ∨ Sk sd kd b) H16 H' ∧ ∃ (ys : List V) (lg : Bool), H' D = some (.lst ys) ∧ ys.length ≤ j ∧ StL K H' sd pg ns pre v w8 kd lg ∧ (lg = false → ∃ fs, resF pg pre ns j = some fs ∧ IsAll K H' ys (fs.map encF)) ∧ (lg = true → resF pg pre ns ns.length = none))
    ⟨Fr.new0 hD, [], false, upd_same, Nat.le_refl _, R16.to (Fr.new0 hD), fun _ => ⟨[], rfl, .nil⟩, fun z => nomatch z⟩ (fun j H' _ z => z.1) (fun j x H5 H6 hlt z yy => ?_) fun H17 z => ?_
  · obtain ⟨f5, ys, lg, hD5, hyl, R5, e1, e2⟩ := z
    obtain ⟨f6, d, hd, hx⟩ := yy
    rw [List.length_map, List.length_range] at hlt
    rw [List.getElem?_map, List.getElem?_range hlt] at hd
    cases hd
    have hx : Is K H6 x (.int (0 + (j : Int))) := hx
    rw [Int.zero_add] at hx
    obtain rfl := hx.intE
    have R6 := R5.to f6
    refine ⟨rfl, _, rfl, _, rfl, w8, j, pg, ns, rfl, R6.hg, W, hlt, fun H7 f7 => ⟨_, rfl, ?_⟩⟩
    have f67 := f6.trans f7
    have hD7 := f67.kn hD5
    have R7 := R5.to f67
    cases hF : isFn ns j with
    | false =>
      refine iteF ⟨f5.trans f67.no, ys, lg, hD7, by omega, R7, fun z => ?_, e2⟩
      obtain ⟨fs, h1, h2⟩ := e1 z
      exact ⟨fs, by unfold resF; rw [fnodes_no hF]; exact h1, h2.fr f67⟩
    | true =>
      obtain ⟨n, en⟩ : ∃ n, ns[j]? = some n := ⟨_, List.getElem?_eq_getElem hlt⟩
      have eg : gFunI pg pre ns j = gFun pg pre ns n j := by unfold gFunI; rw [en]
      refine iteT ⟨_, rfl, _, rfl, sd, j, n, pg, ns, pre, v, w8, kd, lg, rfl, R7, W, Wp, hp, en, hF, fun v8 lg8 H8 f8 R8 i1 i2 => ?_⟩
      have f8' : Fr (fun b => b = D ∨ Sk sd kd b) H7 H8 := f8.mono fun b z => .inr z
      have hD8 := f8.k D _ (fun z => z.elim (fun z => nsD z.symm) fun z => nkD z.symm) hD7
      refine ⟨ys, hD8, lt_line (by omega), ?_⟩
      have g9 : Fr (fun b => b = D ∨ Sk sd kd b) H8 (upd H8 D (.lst (ys ++ [v8]))) := Fr.refl.mut (.inl rfl) hD8 fun z => z
      refine ⟨((f5.trans f67.no).trans f8').trans g9, _, lg8, upd_same, by rw [List.length_append]; show ys.length + 1 ≤ j + 1; omega, R8.fr (Fr.refl.mut (S := At D) rfl hD8 fun z => z) nsD nkD, fun z => ?_, fun z => ?_⟩
      · obtain ⟨h0, fn, h1, h2⟩ := i1 z
        obtain ⟨fs, h3, h4⟩ := e1 h0
        refine ⟨fs ++ [fn], ?_, ?_⟩
        · unfold resF
          rw [fnodes_yes hF]
          exact allS_app h3 (eg.trans h1)
        · rw [List.map_append]
          exact (((h4.fr f67).fr f8').fr g9).append (.cons (Is.fr g9 h2) .nil)
      · rcases i2 z with h | h
        · exact e2 h
        · unfold resF
          exact allS_none (fnodes_mem hlt hF) (eg.trans h)
  obtain ⟨f17, ys, lg, hD17, hyl, R17, e1, e2⟩ := z
  rw [List.length_map, List.length_range] at e1
  refine ⟨_, rfl, sd, 0, pg, ns, pre, v, w8, kd, lg, rfl, R17, W, Wp, hp, W.ne, by omega, fun t0 lg2 v18 H18 f18 R18 hv18 hz18 i1 i2 => ?_⟩
  have hD18 := f18.k D _ (fun z => z.elim (fun z => nsD z.symm) fun z => nkD z.symm) hD17
  refine ⟨_, rfl, _, rfl, v, w8, pg, ns, pre, rfl, R18.hp, R18.hg, W, Wp, hp, ok.few, fun fs t' hfs hS0 w19 H19 f19 hw19 => ?_, fun hno H19 f19 => ?_⟩
  · have R19 := R18.to f19
    have hlg : lg2 = false := by
      cases hl : lg2 with
      | false => rfl
      | true =>
        rcases i2 hl with h | h
        · rw [e2 h] at hfs; cases hfs
        · rw [h] at hS0; cases hS0
    subst hlg
    obtain ⟨h1, h2⟩ := i1 rfl
    obtain ⟨fs', h3, h4⟩ := e1 h1
    rw [hfs] at h3
    cases h3
    rw [h2] at hS0
    cases hS0
    refine ⟨_, rfl, sd, .bl false, rfl, R19.get rfl, _, rfl, _, rfl, ?_⟩
    have hys19 := (h4.fr f18).fr f19
    refine iteT ⟨_, rfl, _, rfl, _, rfl, D, ys, _, rfl, f19.kn hD18, hys19, fun w20 H20 f20 hw20 => ?_⟩
    have hfl := (resF_two ok.few hfs).1
    have hpl := ok.few.len
    refine ⟨pg.map encF, fs.map encF, R19.hp.fr f20, hw20, by rw [List.length_map, List.length_map]; omega, fun w21 H21 f21 hw21 => ?_⟩
    rw [← List.map_append] at hw21
    refine ⟨_, rfl, _, .cons hw21 (.cons ((hv18.fr f19).fr (f20.trans f21)) .nil), le16 (Nat.le_of_ble_eq_true rfl), fun w22 H22 f22 hw22 => ?_⟩
    have hfine : fine (.tuple [encG (pg ++ fs), enc t0]) = true := by
      show (fine (encG (pg ++ fs)) && (fine (enc t0) && true)) = true
      rw [fine_encG, fine_enc]; rfl
    have hdep : (PyData.tuple [encG (pg ++ fs), enc t0]).depth ≤ 300 := by
      have d1 : (encG (pg ++ fs)).depth ≤ 2 * 120 + 4 := depth_encG fun f hf => (List.mem_append.mp hf).elim (wf_le Wp f) (resF_le W hfs f)
      have d2 := depth_enc t0
      show max (encG (pg ++ fs)).depth (max (enc t0).depth 0) + 1 ≤ 300
      omega
    refine ⟨.tuple [encG (pg ++ fs), enc t0], .tuple [encG (pg ++ fs), enc t0], hw19.fr ((f20.trans f21).trans f22), hw22, hfine, hfine, by rw [Nat.min_self]; omega, ?_⟩
    rw [SeqAt.eqv_refl _ (fine_lay hfine)]
    exact q _
  · refine ⟨true, Y.e_TooLarge, fun _ a ha => ?_, fun h => nomatch h⟩
    have R19 := R18.to f19
    have hlg : lg2 = true := by
      cases hl : lg2 with
      | true => rfl
      | false =>
        obtain ⟨h1, h2⟩ := i1 hl
        obtain ⟨fs', h3, h4⟩ := e1 h1
        rcases hno with h | h
        · rw [h] at h3; cases h3
        · rw [h] at h2; cases h2
    subst hlg
    exact ⟨_, rfl, sd, .bl true, rfl, R19.get rfl, q _⟩
end
end DF

/-! Refused's own __init__: what the head's Bool says -/
namespace DF
open PySem PySem.Spec PyProof.Rows L2
theorem clsB_ok {K : PySem.W.Frag} {C : Addr} (q : Hx.clsB K C = true) : ∃ nm qn N bs bm sn sub ab col dd k0 k1 k2 k3 k5,
    K.lookup C = some (excClassObj nm qn C N bs bm true sn sub ab col dd k0 k1 k2 k3 k5 "ValueError.__new__") ∧ PySem.HandSPX.refsVE bm = true := by
  unfold Hx.clsB at q
  split at q
  · rename_i dd cd sl ho
    split at q
    · rename_i C' bm k0 k1 k2 k3 n k5 hm hs
      simp only [Bool.and_eq_true, beq_iff_eq, Bool.not_eq_true'] at q
      obtain ⟨rfl, rfl, hdel, hdct, ht⟩ := q
      obtain ⟨nm, bs, mro, ns, qn, hd, sn, sub, ab, col, del⟩ := cd
      dsimp only at hm hdel hdct
      subst hm hdel hdct
      have hsl : sl = #[k0, k1, k2, k3, some (.builtin "ValueError.__new__"), k5] := by
        obtain ⟨l⟩ := sl
        simp only at hs
        rw [hs]
      subst hsl
      exact ⟨nm, qn, ns, bs, bm, sn, sub, ab, col, dd, k0, k1, k2, k3, k5, ho, ht⟩
    · cases q
  · cases q
theorem fileB_ok {K : PySem.W.Frag} {cd : Value} (q : Hx.fileB K cd = true) : ∃ c oc od vs osl tf, cd = .ref c ∧ K.lookup c = some ⟨oc, od, .fields vs, osl⟩ ∧ vs[2]? = some (.str Hx.fileS tf) := by
  unfold Hx.fileB at q
  split at q
  · rename_i c
    split at q
    · rename_i oc od vs osl ho
      split at q
      · rename_i z t hz
        have e := of_decide_eq_true q
        subst e
        exact ⟨c, oc, od, vs, osl, t, rfl, ho, hz⟩
      · cases q
    · cases q
  · cases q
theorem cellB_ok {K : PySem.W.Frag} (q : Hx.cellB K = true) : ∃ cl cld csl, K.lookup (Hx.cell K) = some ⟨cl, cld, .cell (some (.ref (Hx.vC K))), csl⟩ := by
  unfold Hx.cellB at q
  split at q
  · rename_i oc od D osl ho
    have e := of_decide_eq_true q
    subst e
    exact ⟨oc, od, osl, ho⟩
  · cases q
theorem defB_ok {K : PySem.W.Frag} (q : Hx.defB K = true) (e : Hx.fnR K = Hx.valR) : ∃ oc od osl kV doc pm an cdv ct,
    K.lookup (Hx.vI K) = some ⟨oc, od, .func (PySem.W.ksFn "__init__" "Refused.__init__" (defArgs Hx.s_ini) (defBody Hx.s_ini) (defScope Hx.s_ini) .none kV doc pm an cdv ct (Hx.cell K)), osl⟩ ∧ PySem.W.codeIn K cdv "Refused.__init__" = true ∧ Hx.fileB K cdv = true := by
  have hcell : ∀ fd oc od osl, K.lookup (Hx.vI K) = some ⟨oc, od, .func fd, osl⟩ → Hx.cell K = match fd.closure with | [(_, c)] => c | _ => 0 := fun fd oc od osl h => by
    unfold Hx.cell
    rw [h] <;> rfl
  unfold Hx.defB at q
  unfold Hx.fnR Hx.valR at e
  cases lk : K.lookup (Hx.vI K) with
  | none =>
    rw [lk] at q
    cases q
  | some o =>
    obtain ⟨oc, od, dt, osl⟩ := o
    rw [lk] at q e
    cases dt with
    | func fd =>
      have hc := hcell _ _ _ _ lk
      obtain ⟨n1, n2, n3, n4, n5, n6, n7, n8, n9, n10, n11, n12, n13, n14, n15⟩ := fd
      have e2 : (some (n1, n2, n3, n4, n5, n6, n7.map (·.1), n15) : Hx.FnR) = Hx.valR := e
      unfold Hx.valR at e2
      obtain ⟨q3, q4⟩ := He.ba (a := PySem.W.codeIn K n13 "Refused.__init__") q
      obtain ⟨q6, q5⟩ := He.ba (a := Hx.fileB K n13) q4
      have e8 : n8 = .none := by
        cases n8 with
        | none => rfl
        | _ => cases q5
      simp only [Option.some.injEq, Prod.mk.injEq] at e2
      obtain ⟨h1, h2, h3, h4, h5, h6, h7, h8⟩ := e2
      subst h1 h2 h3 h4 h5 h6 h8 e8
      match n7, h7, hc with
      | [(x, c)], h7, hc =>
        have hx : x = ("__class__" : Str) := by simpa using h7
        subst hx
        have hc2 : Hx.cell K = c := hc
        rw [hc2]
        exact ⟨oc, od, osl, n9, n10, n11, n12, n13, n14, rfl, q3, q6⟩
      | [], h7, _ => simp at h7
      | _ :: _ :: _, h7, _ => simp at h7
    | _ => cases q
theorem oexC_of {K : PySem.W.Frag} (c : Hx.Says K) : OexC K (Hx.vC K) where
  cls := clsB_ok (c.at 0)
  sa := of_decide_eq_true (c.at 1)
  exC := of_decide_eq_true (c.at 2)
  tyC := of_decide_eq_true (c.at 3)
  kC := c.at 4
end DF

/-! Refused's own __init__, walked: the zero-argument super in an exception -/
namespace DF
open PySem PySem.Spec PyProof.Rows L2
abbrev eIni (K : PySem.W.Frag) (cdv : Value) (L : Addr) : Env := PySem.W.ksEnv "Refused.__init__" (defScope Hx.s_ini) L (Hx.vI K) cdv (Hx.cell K)
/-- the context of the body -/
def cxI (CX : CXT) (P : Program) (w : World) (K : PySem.W.Frag) (mg : Str → Option Value) (base : Heap) (cd : Value) (A : Around) (outer : List Env) (s : Shared) (H : Hp) (E : XK) : Cx where
  prog := P
  w := w
  K := K
  mg := mg
  base := base
  A := A.deeper (eIni K cd s.heap.objs.size)
  N := ["self", "reason"]
  s_0 := s
  H_0 := H
  env := eIni K cd s.heap.objs.size
  outer := outer
  stack := eIni K cd s.heap.objs.size :: outer
  ex := []
  calm := true
  fn := fun _ => false
  pn := []
  xe := fun _ _ => False
theorem iniScope : (defScope Hx.s_ini).kind = .function ∧ (defScope Hx.s_ini).isCoroutine = false ∧ (defScope Hx.s_ini).isGenerator = false := ⟨rfl, rfl, rfl⟩
theorem iniNames : ∀ y k, (defScope Hx.s_ini).names.lookup y = some k → (k = .cell ∨ k = .free) → y = ("__class__" : Str) := by
  intro y k h hk
  have hm := PySem.mem_of_lookup h
  have : ∀ z ∈ (defScope Hx.s_ini).names, (z.2 = .cell ∨ z.2 = .free) → z.1 = ("__class__" : Str) := by decide +kernel
  exact this _ hm hk
section
variable {CX : CXT} {P : Program} {w : World} {K : PySem.W.Frag} {mg : Str → Option Value} {base : Heap} {A : Around} {outer : List Env} {s : Shared} {H : Hp} {E : XK} {cd : Value} {a : Addr} {v : V} {u : Value}
theorem cells_lookup {x : Str} {c cc : Addr} (h : ([(("__class__" : Str), cc)] : List (Str × Addr)).lookup x = some c) : x = ("__class__" : Str) ∧ c = cc := by
  unfold List.lookup at h
  cases q : (x == ("__class__" : Str)) with
  | true =>
    rw [q] at h
    exact ⟨eq_of_beq q, (Option.some.inj h).symm⟩
  | false =>
    rw [q] at h
    cases h
/-- the state at the body's entry -/
theorem inv_ini (hd : A.handled = none) (e0 : Env0 P w K mg base A outer s H) (rv : RelV v u) (hc : ∃ x, base.IsCell (Hx.cell K) x) {h1 : Heap} {t' : Nat}
    (hns : h1.Ns s.heap.objs.size (fun y => ([(("self" : Str), Value.ref a), (("reason" : Str), u)]).reverse.lookup y)) (hk : ∀ b o, s.heap.get? b = some o → h1.get? b = some o) :
    Inv (cxI CX P w K mg base cd A outer s H E) [] [some (.ref a), some v] H { s with heap := h1, toks := t' } := by
  have noA : ∀ b : Addr, b ∉ (cxI CX P w K mg base cd A outer s H E).ex := fun b z => absurd (show b ∈ ([] : List Addr) from z) (by simp)
  obtain ⟨cv, hc⟩ := hc
  have hcs : s.heap.IsCell (Hx.cell K) cv := hc.keeps fun b o e => (e0.bs b o e).1
  have hcl : ∀ {x : Str} {c : Addr}, (cxI CX P w K mg base cd A outer s H E).env.cells.lookup x = some c → x = ("__class__" : Str) ∧ c = Hx.cell K := fun h => cells_lookup h
  have hcH : H (Hx.cell K) = none := by
    obtain ⟨o, ho, _⟩ := hc
    exact (e0.bs _ _ ho).2
  refine ⟨⟨e0.mod, iniScope.1, rfl, rfl, Nat.le_refl _, fun y z c h1 h2 => ?_, fun y hy => ?_, fun y c h _ => (by cases h), fun _ => hd, Around.frames_deeper e0.frames, .inr ⟨rfl, rfl⟩, fun b z => absurd z (noA b), e0.bs, e0.bsz, fun b _ _ => noA b, fun b z => absurd z (noA b), e0.funs, e0.frf⟩,
    rfl, e0.bare, Un.kept hk, ⟨_, hns, fun i y v' h1 h2 h3 => ?_⟩, fun y c h => ?_, e0.hok.fresh (Nat.le_refl _), fun y c h => ?_, fun p hp => absurd (show p ∈ ([] : List (Addr × Obj)) from hp) (by simp), e0.hok.kept hk, rfl⟩
  · exact (hcl h1).1.trans (hcl h2).1.symm
  · have hy : (defScope Hx.s_ini).names.lookup y = some .cell ∨ (defScope Hx.s_ini).names.lookup y = some .free := hy
    have e : y = ("__class__" : Str) := by
      rcases hy with hy | hy
      · exact iniNames y _ hy (.inl rfl)
      · exact iniNames y _ hy (.inr rfl)
    subst e
    exact ⟨Hx.cell K, rfl⟩
  · match i, h1, h2 with
    | 0, h1, h2 =>
      have e1 : ("self" : Str) = y := Option.some.inj h1
      have e2 : V.ref a = v' := Option.some.inj (Option.some.inj h2)
      subst e1 e2
      exact ⟨.ref a, rfl, .inl ⟨rfl, rfl⟩⟩
    | 1, h1, h2 =>
      have e1 : ("reason" : Str) = y := Option.some.inj h1
      have e2 : v = v' := Option.some.inj (Option.some.inj h2)
      subst e1 e2
      exact ⟨u, rv, .inl ⟨rfl, rfl⟩⟩
    | n + 2, h1, _ => cases h1
  · obtain ⟨rfl, rfl⟩ := hcl h
    exact ⟨cv, hcs.keeps hk⟩
  · obtain ⟨rfl, rfl⟩ := hcl h
    exact hcH
end
section
variable {X : Cx} {pins : List (Addr × Obj)} {σ : St} {H : Hp} {s : Shared} {a C u : Addr} {A : Around} {E : Value → Shared → Prop}
/-- the state with a larger heap -/
theorem Inv.grow {h' : Heap} {t' : Nat} (I : Inv X pins σ H s) (k : ∀ b o, s.heap.get? b = some o → h'.get? b = some o) : Inv X pins σ H { s with heap := h', toks := t' } := I.un (Un.kept k) (I.hok.kept k)
/-- ValueError's own __init__, bound, called -/
theorem mwcall {us : List Value} {Q : Value → Shared → Prop} (T : OexC X.K C) (I : Inv X pins σ H s) (e : H a = some (exo a C none)) (hu : s.heap.get? u = some (PySem.W.kxs_mw "ValueError.__init__" a)) (hl : us.length ≤ sizeLine) (h : ∀ s', Inv X pins σ H s' → Q .none s') :
    wpAny (model X.prog X.w) A (call (.ref u) us) Q E s := by
  obtain ⟨nm, q, N, bs, bm, sn, sub, ab, col, dd, k0, k1, k2, k3, k5, hC, hbm⟩ := T.cls
  obtain ⟨t1, ho⟩ := exo_at I.hok e
  obtain ⟨hp, g, d, t, os⟩ := s
  have FB := F.excBase_ValueError
  refine wpAny_call (codeAny_of_tree ?_)
  show wpAny _ A.in1 (callAny (.ref u) ⟨us, []⟩) _ _ _
  simp only [callAny]
  refine wpAny_bind (wpAny_load hu ?_)
  simp only [PySem.W.kxs_mw, show (Value.type "method-wrapper" == Value.type "method" || Value.type "method-wrapper" == Value.type "builtin_function_or_method" || Value.type "method-wrapper" == Value.type "method-wrapper") = true by decide, if_true]
  refine PySem.W.KFB.if_so (by decide) ?_
  refine wpAny_bind (PySem.W.check_bound_init FB.toExcCallFacts (I.kIn _ _ hC) ho rfl ?_)
  refine wpAny_bind (wpAny_pure (wpAny_pure ?_))
  refine ⟨plainId_quiet FB.init.plain _, codeAny_builtin FB.initEntry ?_⟩
  refine PySem.W.exc_init_tree (cls := .ref C) (t0 := t1) (dv := none) (c2 := .none) (c3 := .none) (b4 := .bool false) ho hl (fun h' k hx ht => ?_)
  have J := I.write (t' := t) (x := a) (e := a) (o := exo a C none) (by rw [e]; exact True.intro) (.inl rfl) k ⟨_, hx⟩ (exo_ok hx)
  have eu : upd H a (exo a C none) = H := by
    funext b
    by_cases hb : b = a
    · rw [hb, upd_same, e]
    · rw [upd_ne hb]
  rw [eu] at J
  exact h _ J
end
end DF

/-! Refused's own __init__, walked (the end) -/
namespace DF
open PySem PySem.Spec PyProof.Rows L2
def spI (K : PySem.W.Frag) : Sp := fun vs H Q _ => ∃ a v, vs = [.ref a, v] ∧ H a = some (exo a (Hx.vC K) none) ∧ ∀ dx, H dx = none → dx ≠ a → Q .non (upd (upd H dx (exd dx [("reason", v)])) a (exo a (Hx.vC K) (some dx)))
theorem boot_super : bootBuiltins "super" = some (.type "super") := by first | boot_by_name | rfl | kernel_rfl
theorem iniCell : ∀ x ∈ (defScope Hx.s_ini).names, x.2 ≠ .cell := by decide +kernel
theorem ok_ini {CX : CXT} {P : Program} {w : World} {K : PySem.W.Frag} {mg : Str → Option Value} {base : Heap} (c : Hx.Says K) (hno : PySem.W.findIn K (.ref (Hx.vC K)) "reason" = some none) (hz : mg "super" = none)
    (hfile : ((P.main.file : Str) == Hx.fileS) = true) (htop : (P.main.scope.names.lookup ("super" : Str)).isSome = false) :
    ∃ fd : FuncData, FnOk P w K mg base CX 1 (Hx.vI K) fd ["self", "reason"] (spI K) ∧ L2.Binds K fd ["self", "reason"] [] := by
  obtain ⟨oc, od, osl, kV, doc, pm, an, cdv, ct, lk, hcd, hfl⟩ := defB_ok (c.at 7) c.fn
  obtain ⟨cda, ocd, odd, vs, osd, tf, rfl, hcode, hvs⟩ := fileB_ok hfl
  obtain ⟨cl, cld, csl, hcl⟩ := cellB_ok (c.at 8)
  have T := oexC_of c
  refine ⟨PySem.W.ksFn "__init__" "Refused.__init__" (defArgs Hx.s_ini) (defBody Hx.s_ini) (defScope Hx.s_ini) .none kV doc pm an (.ref cda) ct (Hx.cell K), ⟨fun vs H Q E h => ?_, fun A outer s H args us vs' Q E hr e0 hb r hsp => ?_⟩, ?_⟩
  · obtain ⟨a, v, rfl, _⟩ := h; rfl
  rotate_left
  · exact fun s us X hl => BindsTo.of_eq (match us, hl with | [_, _], _ => rfl)
  obtain ⟨a, v, rfl, ea, hq⟩ := hsp
  cases r with
  | @cons _ u0 _ ur ra r2 =>
  cases r2 with
  | @cons _ u _ ur2 rv r3 =>
  cases r3
  obtain rfl : u0 = Value.ref a := ra
  have KX : K.In s.heap := e0.mod.kin.keeps fun b o e => (e0.bs b o e).1
  have lim : s.heap.NoLimit := e0.mod.nolimit.keeps fun b o e => (e0.bs b o e).1
  refine ks_codeAny_call_defAt (body := defBody Hx.s_ini) (binds := [(("self" : Str), Value.ref a), (("reason" : Str), u)]) hr.depth (KX _ _ lk) rfl lim (PySem.W.codeRec_of KX hcd) rfl hb iniCell (by
    intro x hx
    rcases List.mem_cons.mp hx with rfl | hx
    · rfl
    · obtain rfl := List.mem_singleton.mp hx
      rfl) (fun h1 hns hk => ?_) rfl rfl rfl
  have I : Inv (cxI CX P w K mg base (.ref cda) A outer s H E) [] [some (.ref a), some v] H { s with heap := h1, toks := s.toks + 2 } := inv_ini hr.hd e0 rv ⟨_, _, e0.mod.kin _ _ hcl, rfl⟩ hns hk
  refine ks_wpAt_execs_cons (env := eIni K (.ref cda) s.heap.objs.size) ?_
  refine ks_wpAt_Expr_any ?_
  refine ks_wpAt_MethodCall (pl := _) ?_
  have KX1 : K.In h1 := I.kIn
  obtain ⟨mb, hmb, hb2⟩ := e0.mod.blt
  refine ks_wpAt_super_base (env := eIni K (.ref cda) s.heap.objs.size) (f := Hx.vI K) (cc := cda) rfl rfl (by decide) rfl (KX1 _ _ lk) rfl rfl rfl (KX1 _ _ hcode) rfl hvs hfile htop ?_
  refine PySem.W.ks_loadName_global rfl rfl (Calls.loadGlobal_builtin (env := eIni K (.ref cda) s.heap.objs.size) (e0.mod.glob.keeps I.bk) hz (hmb.keeps I.bk) ((hb2 "super" (by decide)).trans boot_super) ⟨rfl, ?_⟩)
  refine wpAny_loadName_free rfl rfl rfl ⟨_, KX1 _ _ hcl, rfl⟩ ?_
  refine wpAny_loadName_local rfl rfl hns rfl ?_
  obtain ⟨nm, q, N, bs, bm, sn, sub, ab, col, dd, k0, k1, k2, k3, k5, hC, hbm⟩ := T.cls
  obtain ⟨t1, ho⟩ := exo_at I.hok ea
  refine ks_wpAny_isType_cls (KX1 _ _ hC) rfl ⟨rfl, ?_⟩
  refine ks_wpAny_call_super (KX1 _ _ hC) rfl ho rfl (fun c e => by cases e) (PySem.W.looks_mroIn KX1 (of_decide_eq_true (c.at 12))) (fun h2 e2 g2 => ?_)
  have I2 := Inv.grow (t' := s.toks + 2) I g2
  have KX2 : K.In h2 := I2.kIn
  obtain ⟨cdd, hcls⟩ : ∃ cdd, PySem.W.clsIn K (Hx.vC K) = some cdd := by
    unfold PySem.W.clsIn
    rw [hC]
    exact ⟨_, rfl⟩
  have hm : PySem.W.alongIn K "__init__" ((cdd.mro.dropWhile (· != .ref (Hx.vC K))).drop 1) = some (some (.builtin "ValueError.__init__")) := by
    have h := of_decide_eq_true (c.at 9)
    unfold PySem.W.ks_superIn at h
    rw [hcls] at h
    exact h
  have IA : PySem.W.InstAt h2 a ({ cls := .ref (Hx.vC K), dict := none, data := .fields #[.ref t1, .none, .none, .none, .bool false, .none] } : Obj) (Hx.vC K) none := ⟨g2 _ _ ho, rfl, rfl, trivial⟩
  refine PySem.W.kxs_getMethod PySem.W.kxs_ValueError e2 (PySem.W.looks_opaque KX2 (of_decide_eq_true (c.at 11))) (l₀ := cdd.mro) (fun A Q E s k q => wpAny_bind ((PySem.W.looks_clsIn KX2 hcls) A _ E s k (wpAny_pure q))) rfl KX2 hm
    (IA.type.andThen (PySem.W.looks_subIn KX2 (of_decide_eq_true (c.at 10)))) (PySem.W.ks_ne KX2 IA hcls) (by decide) ?_
  have I3 := Inv.grow (t' := s.toks + 2 + 1) I2 (h' := h2.push (PySem.W.kxs_mw "ValueError.__init__" a)) (fun b o e => Heap.get?_push_of_some _ e)
  have hu : (h2.push (PySem.W.kxs_mw "ValueError.__init__" a)).get? h2.objs.size = some (PySem.W.kxs_mw "ValueError.__init__" a) := Heap.get?_push_at rfl rfl
  have hne : h2.objs.size ≠ s.heap.objs.size := Nat.ne_of_gt I2.lt
  have hbn : base.get? h2.objs.size = none := by
    cases z : base.get? h2.objs.size with
    | none => rfl
    | some o => exact absurd (Heap.lt_size (I2.bk _ _ z)) (Nat.lt_irrefl _)
  refine PySem.W.kxs_callWith1 (h₀ := base) (L := s.heap.objs.size) (news := [(h2.objs.size, PySem.W.kxs_mw "ValueError.__init__" a)]) (fun p hp => by
    obtain rfl := List.mem_singleton.mp hp
    exact ⟨hu, hne, hbn⟩) (List.mem_singleton.mpr rfl) ?_
  have I3p := I3.pins_of (pins' := [(h2.objs.size, PySem.W.kxs_mw "ValueError.__init__" a)]) (fun p hp => by
    obtain rfl := List.mem_singleton.mp hp
    exact ⟨hu, I2.hok.fresh (Nat.le_refl _), hne, I2.nofs (Nat.le_refl _), fun v e => by cases e⟩)
  refine wpAny_mono ((pa_cons pe_str pa_nil : PA (cxI CX P w K mg base (.ref cda) A outer s H E) _ (tCons (tC (.str "the call is refused")) tNil)).run _ _ _ _ H (fun vs H1 => H1 = H ∧ ∃ z, vs = [z]) I3p ⟨rfl, _, rfl⟩) (fun us s4 ⟨vs4, H1, I4, r4, e4, z, ez⟩ => ?_) fun _ _ z => False.elim z
  subst e4 ez
  have hu4 := (I4.pin _ (List.mem_append_right _ (List.mem_singleton.mpr rfl))).1
  refine ⟨hu4, mwcall T I4 ea hu4 ?_ fun s5 I5 => ?_⟩
  · cases r4 with
    | @cons _ _ _ _ _ r5 =>
      cases r5
      exact (by decide : 1 ≤ sizeLine)
  refine wpAt_of_wpAny ?_
  have ht : PSs (cxI CX P w K mg base (.ref cda) A outer s H1 E) ((defBody Hx.s_ini).drop 1) (tOst K "reason" (tVar 0) (tVar 1)) := pss_one (ps_ost (pv 0) (pv 1))
  refine wpAny_mono (ht.run _ _ _ H1 { nx := fun _ H' => Q .non H', rt := Q } I5 ⟨v, rfl, .ref a, rfl, a, Hx.vC K, rfl, T, hno, .inl ⟨ea, fun dx n ne => hq dx n ne⟩⟩) (fun fl s' hs => ?_) fun _ _ z => False.elim z
  cases fl with
  | ret u =>
    obtain ⟨v', σ', H', J, rv', q'⟩ := hs
    exact ⟨v', H', J.os, J.bare, J.base, J.hok, rv', q'⟩
  | next =>
    obtain ⟨σ', H', J, q'⟩ := hs
    exact ⟨.non, H', J.os, J.bare, J.base, J.hok, rfl, q'⟩
  | brk =>
    obtain ⟨_, _, _, q'⟩ := hs
    exact False.elim q'
  | cont =>
    obtain ⟨_, _, _, q'⟩ := hs
    exact False.elim q'
end DF

/-! Refused(..) made; what the statements' walk asks of the head -/
namespace DF
open PySem PySem.Spec PyProof.Rows L2
/-- a reading, weakened -/
def tM (te : TE) : TE := fun σ H Q => ∃ R : VK, te σ H R ∧ ∀ v H1, R v H1 → Q v H1
theorem pe_tM {X : Cx} {e : Expr} {te : TE} (h : PE X e te) : PE X e (tM te) := ⟨fun pins s σ H Q I ⟨R, hR, hq⟩ => thn (h.run pins s σ H R I hR) fun u s1 ⟨v, H1, I1, r1, q1⟩ => ⟨v, H1, I1, r1, hq v H1 q1⟩⟩
theorem fr_made {H1 : Hp} {a C dx : Addr} {fs : List (Str × V)} {o1 o2 : HO} (ha : H1 a = none) (hd : H1 dx = none) : Fr No H1 (upd (del (upd (upd (upd H1 a o1) dx o2) a (exo a C (some dx))) a) dx (.xd fs)) := by
  have key : ∀ b o, H1 b = some o → upd (del (upd (upd (upd H1 a o1) dx o2) a (exo a C (some dx))) a) dx (.xd fs) b = some o := fun b o e => by
    have na : b ≠ a := fun z => by rw [z, ha] at e; cases e
    have nd : b ≠ dx := fun z => by rw [z, hd] at e; cases e
    rw [upd_ne nd, del_ne na, upd_ne na, upd_ne nd, upd_ne na]
    exact e
  exact ⟨fun b o _ e => key b o e, fun b u _ e => key b u e⟩
theorem mkr_of {P : Program} {w : World} {K : PySem.W.Frag} {mg : Str → Option Value} {base : Heap} (Y : Hf K mg) (c : Hx.Says K) (hfile : ((P.main.file : Str) == Hx.fileS) = true) (htop : (P.main.scope.names.lookup ("super" : Str)).isSome = false) : Mkr P w K mg base where
  mkr := by
    intro X e te p1 pos h1 h2 h3 h4 h5 hcalm hr hg he hs
    subst h1 h2 h3 h4 h5
    obtain ⟨fd, F, B⟩ := ok_ini (CX := CX0) (P := X.prog) (w := X.w) (base := X.base) c Y.n_Refused_reason Y.z_super hfile htop
    intro pins s σ H Q I h
    refine pmk_oex (CX := CX0) (C := Hx.vC X.K) (fI := Hx.vI X.K) (ds := []) (dvs := []) (oexC_of c) (of_decide_eq_true (c.at 5)) (of_decide_eq_true (c.at 6)) F (hr.mono (by omega)) B .nil pass0 hg Y.m_Refused (pa_cons (pe_tM he) pa_nil hs) (by decide) hs rfl pins s σ H Q I ?_
    refine ⟨_, h, fun v H1 hR => ⟨show 1 ≤ 1000 by decide, fun a ha => ⟨a, v, rfl, upd_same, fun dx hdx hne => ?_⟩⟩⟩
    have hd1 : H1 dx = none := by
      rw [upd_ne hne] at hdx
      exact hdx
    refine ⟨rfl, dx, [("reason", v)], upd_same, ?_, hd1, hR dx _ (fr_made ha hd1) upd_same⟩
    rw [upd_ne hne, upd_same]
  drvn := by
    obtain ⟨h, X, G⟩ := Y.ex
    refine ⟨He.ga K "DRIVEN", He.glo_ok X G (c.at 14), fun H => ?_⟩
    have q : Tp K H (He.ga K "DRIVEN") [.str "stepped", .str "branched"] := by
      rcases He.tupB_ok (c.at 15) (fun _ => none) with z | z
      · rcases z with z | ⟨_, z⟩ <;> cases z
      · exact .inr (.inr z)
    exact .tup q (.cons (.str _) (.cons (.str _) .nil))
theorem rfx_of {K : PySem.W.Frag} {mg : Str → Option Value} (Y : Hf K mg) (c : Hx.Says K) : Rfx K := ⟨xfB_ok (c.at 13), Y.n_Refused_reason⟩
end DF

namespace DF
open PySem PySem.Spec PyProof.Rows L2
/-- what a law's call may let out, whatever the world -/
def CXs (P : Program) : CXT := fun outer H s E e s' => ∃ w : World, L2.CX P w outer H s E e s'
theorem fnok_s {P : Program} {w : World} {K : PySem.W.Frag} {mg : Str → Option Value} {base : Heap} {k : Nat} {f : Addr} {fd : FuncData} {ps : List Str} {sp : Sp} (F : FnOk P w K mg base (L2.CX P w) k f fd ps sp) : FnOk P w K mg base (CXs P) k f fd ps sp :=
  ⟨F.len, fun A outer s H args us vs Q E hr e0 hb r h => codeAny_mono (F.run A outer s H args us vs Q E hr e0 hb r h) fun r s' q => by
    cases r with
    | error e => exact ⟨w, q⟩
    | ok fl => cases fl <;> exact q⟩
abbrev Pg : Program := (PySem.Challenge.rw_drivefold_k42_whole_what_residual_is).prog
theorem pg_file : ((Pg.main.file : Str) == Hx.fileS) = true := by kernel_rfl
theorem pg_top : (Pg.main.scope.names.lookup ("super" : Str)).isSome = false := by kernel_rfl
theorem the_end {w : World} {K : PySem.W.Frag} {h : Heap} {mg : Str → Option Value} {fa : Addr} (X : K.In h) (G : h.Ns mainGlobals mg) (hfa : mg ("law" : Str) = some (.ref fa)) (c : Hx.Says K) :
    ∃ fd : FuncData, (∀ (s : Shared) (v : Value), BindsTo s fd ⟨[v], []⟩ [("_law_script", v)]) ∧ ∀ base : Heap, K.In base → base.Ns mainGlobals mg → FnOk Pg w K mg base (CXs Pg) 229 fa fd ["_law_script"] (sp_law K) := by
  have Y : Hf K mg := ⟨⟨h, X, G⟩, c.t⟩
  obtain ⟨f0, fd, F, _, hm0⟩ := ok_law (P := Pg) (w := w) (base := h) Y (mkr_of Y c pg_file pg_top) (rfx_of Y c)
  have e0 : f0 = fa := by
    have e := hm0.symm.trans hfa
    cases e
    rfl
  subst e0
  have b := FunD.bindsA (ps := ["_law_script"]) F fun _ _ _ _ _ _ us hl => match us, hl with | [_], _ => rfl
  refine ⟨fd, fun s v => b s [v] rfl, fun base _ _ => ?_⟩
  obtain ⟨f1, fd1, F1, O1, hm1⟩ := ok_law (P := Pg) (w := w) (base := base) Y (mkr_of Y c pg_file pg_top) (rfx_of Y c)
  have e1 : f1 = f0 := by
    have e := hm1.symm.trans hm0
    cases e
    rfl
  subst e1
  obtain ⟨oc, od, dV, kV, doc, pm, an, cdv, ct, osl, e2, lk, _⟩ := F.ex
  obtain ⟨oc1, od1, dV1, kV1, doc1, pm1, an1, cdv1, ct1, osl1, e3, lk1, _⟩ := F1.ex
  have e4 : fd = fd1 := by
    have e := lk.symm.trans lk1
    injection e with e
    injection e with _ _ e _
    injection e
  rw [e4]
  exact fnok_s O1
end DF
open PySem PySem.W PySem.Calls PyProof.Rows
theorem PySem.Challenge.cw_drivefold_k42_whole_what_residual_is_holds : PySem.Challenge.rw_drivefold_k42_whole_what_residual_is.Holds := by
  w_on; o_law
  refine HandSHeadRun.head_any (r := Hx.R) (q := view Hx.R.prog [72]) (H := Hx.hk) (ob := Hx.ob) (M := 5000) (loose := Tx.nm) (d := HandSHeadRun.topDef Hx.R.prog 72) (kwd := []) Hx.ob_eq
    (by kernel_rfl) (fun s => by kernel_rfl) Hx.run (by kernel_rfl) (by kernel_rfl) (by kernel_rfl) (by rfl) (by first | assumption | decide +kernel) (by decide +kernel) ⟨rfl, rfl, rfl, rfl, rfl, by decide +kernel⟩ ?hw ?hc
  case hw => w_witness2
  case hc =>
    refine L2.walk_ofE (l := PySem.Challenge.rw_drivefold_k42_whole_what_residual_is) (n := 63) (k := 229) (x := "_law_script") (CX := DF.CXs DF.Pg) rfl (by decide) (by kernel_rfl) ⟨rfl, by decide, by decide⟩ ?F (fun _ _ _ _ ⟨w, a, B, H', cls, d, z⟩ => z.2.2.2.2.2.2.2)
    intro w mg fa h Y G hmg0
    obtain ⟨K, KX, c⟩ := Y
    have hmg : mg ("law" : PySem.Str) = some (.ref fa) := by
      have e : (HandSHeadRun.topDef Hx.R.prog 72).name = ("law" : PySem.Str) := by kernel_rfl
      rw [← e]
      exact hmg0
    obtain ⟨fd, hb, hF⟩ := DF.the_end (w := w) KX G hmg c
    exact ⟨K, fd, DF.sp_law K, KX, hb, fun H a ns hl _ hS => ⟨a, ns, rfl, hS, fun _ => rfl⟩, hF⟩

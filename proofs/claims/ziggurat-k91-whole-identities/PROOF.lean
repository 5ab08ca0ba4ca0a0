import PyProof.Rows.All
import Wide.All
import OpenK.AllK
import Wide.FinOn
import HandS.ForMost
import PySem.Challenge.RW_ziggurat_k91_whole_identities
import KE.KStateDown
import HandS.Defaults
import HandS.More
import HandS.Head0
import HandS.Head1
import HandS.Head2
import HandS.HeadEnd
import HandS.HeadHook1
import HandS.HeadHook2
import HandS.HeadHook3
import HandS.HeadHook4
import HandS.IsInst
import HandS.TupAny
import HandS.Style
import HandS.DictTup
import HandS.Walk
import HandS.Iter
import KE.GoesEnum
import KE.GoesMore
import HandS.Flow
import HandS.Text
import HandS.TupLe
/-! ## Ztext -/
set_option Elab.async false
set_option maxRecDepth 100000
namespace Zg
open PySem L2
def top (i : Nat) : Stmt := PySem.Challenge.pw_ziggurat_k91_whole_identities.main.body.getD i (.Pass ⟨0, 0, 0, 0⟩)
abbrev s_parts_of : Stmt := top 2
abbrev s_shown : Stmt := top 4
abbrev s_Setting_init : Stmt := inClass (top 5) 0
abbrev s_Setting_with_name : Stmt := inClass (top 5) 1
abbrev s_Tower_init : Stmt := inClass (top 6) 0
abbrev s_Tower_run : Stmt := inClass (top 6) 1
abbrev s_Tower_go : Stmt := inClass (top 6) 2
abbrev s_Tower_go_built_in : Stmt := inClass (top 6) 3
abbrev s_Tower_step : Stmt := inClass (top 6) 4
abbrev s_Tower_stick : Stmt := inClass (top 6) 5
abbrev s_Tower_begin : Stmt := inClass (top 6) 6
abbrev s_Tower_change_or_ask : Stmt := inClass (top 6) 7
abbrev s_Tower_resume : Stmt := inClass (top 6) 8
abbrev s_Tower_put_back : Stmt := inClass (top 6) 9
abbrev s_Tower_bind_let : Stmt := inClass (top 6) 10
abbrev s_Tower_gathered : Stmt := inClass (top 6) 11
abbrev s_Tower_decide : Stmt := inClass (top 6) 12
abbrev s_Tower_operate : Stmt := inClass (top 6) 13
abbrev s_Tower_enter : Stmt := inClass (top 6) 14
abbrev s_run : Stmt := top 7
abbrev s_Numbering_init : Stmt := inClass (top 15) 0
abbrev s_Numbering_expression : Stmt := inClass (top 15) 1
abbrev s_Collapser_init : Stmt := inClass (top 17) 0
abbrev s_Collapser_fresh : Stmt := inClass (top 17) 1
abbrev s_Collapser_node : Stmt := inClass (top 17) 2
abbrev s_Collapser_expression : Stmt := inClass (top 17) 3
abbrev s_Collapser_parts : Stmt := inClass (top 17) 6
abbrev s_Collapser_usual : Stmt := inClass (top 17) 7
abbrev s_with_name : Stmt := top 21
abbrev s_collapse : Stmt := top 22
abbrev s_is_integer : Stmt := top 25
abbrev s_Node_init : Stmt := inClass (top 27) 0
abbrev s_inner_of : Stmt := top 28
abbrev s_nodes_of : Stmt := top 29
abbrev s_inner_plain : Stmt := top 37
abbrev s_is_plain : Stmt := top 38
abbrev s_Scope_init : Stmt := inClass (top 39) 0
abbrev s_found_in : Stmt := top 40
abbrev s_Place_init : Stmt := inClass (top 41) 0
abbrev s_Place_at : Stmt := inClass (top 41) 1
abbrev s_Place_bound : Stmt := inClass (top 41) 2
abbrev s_Judge_init : Stmt := inClass (top 42) 0
abbrev s_Judge_number : Stmt := inClass (top 42) 1
abbrev s_Judge_run : Stmt := inClass (top 42) 3
abbrev s_Judge_due : Stmt := inClass (top 42) 4
abbrev s_Judge_rules_for : Stmt := inClass (top 42) 5
abbrev s_Judge_fits : Stmt := inClass (top 42) 6
abbrev s_Judge_plainly : Stmt := inClass (top 42) 9
abbrev s_Judge_bound : Stmt := inClass (top 42) 10
abbrev s_is_collapse : Stmt := top 43
abbrev s_inner : Stmt := top 45
abbrev s_plain_size : Stmt := top 46
abbrev s_law_start : Stmt := top 48
abbrev s_law_fill : Stmt := top 49
abbrev s_law_take : Stmt := top 50
abbrev s_law_kinds : Stmt := top 51
abbrev s_law_parts : Stmt := top 52
abbrev s_law_names : Stmt := top 53
abbrev s_law_free : Stmt := top 54
abbrev s_law_integer : Stmt := top 55
abbrev s_law_leaf : Stmt := top 56
abbrev s_law_inner : Stmt := top 62
abbrev s_law_depth : Stmt := top 63
abbrev s_law_size : Stmt := top 64
abbrev s_law_with : Stmt := top 66
abbrev s_law_noted : Stmt := top 67
abbrev s_law_new : Stmt := top 68
abbrev s_law_made : Stmt := top 71
abbrev s_law_plain : Stmt := top 72
abbrev s_law_collapsed : Stmt := top 73
abbrev s_law_identity : Stmt := top 74
abbrev s_law_level : Stmt := top 75
abbrev s_law_plainly : Stmt := top 76
abbrev s_law : Stmt := top 77
end Zg
/-! ## Zhead -/
set_option Elab.async false
set_option linter.all false
set_option maxRecDepth 100000
set_option maxHeartbeats 0
namespace Zg
open PySem PySem.Spec PyProof.Rows L2
def d_parts_of : He.DefD := ⟨("parts_of_tower", none), "parts_of", "parts_of", defArgs s_parts_of, defBody s_parts_of, defScope s_parts_of, [], []⟩
def d_shown : He.DefD := ⟨("shown", none), "shown", "shown", defArgs s_shown, defBody s_shown, defScope s_shown, [], []⟩
def d_Setting_init : He.DefD := ⟨("Setting", some "__init__"), "__init__", "Setting.__init__", defArgs s_Setting_init, defBody s_Setting_init, defScope s_Setting_init, [], []⟩
def d_Setting_with_name : He.DefD := ⟨("Setting", some "with_name"), "with_name", "Setting.with_name", defArgs s_Setting_with_name, defBody s_Setting_with_name, defScope s_Setting_with_name, [], []⟩
def d_Tower_init : He.DefD := ⟨("Tower", some "__init__"), "__init__", "Tower.__init__", defArgs s_Tower_init, defBody s_Tower_init, defScope s_Tower_init, [], []⟩
def d_Tower_run : He.DefD := ⟨("Tower", some "run"), "run", "Tower.run", defArgs s_Tower_run, defBody s_Tower_run, defScope s_Tower_run, [], []⟩
def d_Tower_go : He.DefD := ⟨("Tower", some "go"), "go", "Tower.go", defArgs s_Tower_go, defBody s_Tower_go, defScope s_Tower_go, [], []⟩
def d_Tower_go_built_in : He.DefD := ⟨("Tower", some "go_built_in"), "go_built_in", "Tower.go_built_in", defArgs s_Tower_go_built_in, defBody s_Tower_go_built_in, defScope s_Tower_go_built_in, [], []⟩
def d_Tower_step : He.DefD := ⟨("Tower", some "step"), "step", "Tower.step", defArgs s_Tower_step, defBody s_Tower_step, defScope s_Tower_step, [], []⟩
def d_Tower_stick : He.DefD := ⟨("Tower", some "stick"), "stick", "Tower.stick", defArgs s_Tower_stick, defBody s_Tower_stick, defScope s_Tower_stick, [], []⟩
def d_Tower_begin : He.DefD := ⟨("Tower", some "begin"), "begin", "Tower.begin", defArgs s_Tower_begin, defBody s_Tower_begin, defScope s_Tower_begin, [], []⟩
def d_Tower_change_or_ask : He.DefD := ⟨("Tower", some "change_or_ask"), "change_or_ask", "Tower.change_or_ask", defArgs s_Tower_change_or_ask, defBody s_Tower_change_or_ask, defScope s_Tower_change_or_ask, [], []⟩
def d_Tower_resume : He.DefD := ⟨("Tower", some "resume"), "resume", "Tower.resume", defArgs s_Tower_resume, defBody s_Tower_resume, defScope s_Tower_resume, [], []⟩
def d_Tower_put_back : He.DefD := ⟨("Tower", some "put_back"), "put_back", "Tower.put_back", defArgs s_Tower_put_back, defBody s_Tower_put_back, defScope s_Tower_put_back, [], []⟩
def d_Tower_bind_let : He.DefD := ⟨("Tower", some "bind_let"), "bind_let", "Tower.bind_let", defArgs s_Tower_bind_let, defBody s_Tower_bind_let, defScope s_Tower_bind_let, [], []⟩
def d_Tower_gathered : He.DefD := ⟨("Tower", some "gathered"), "gathered", "Tower.gathered", defArgs s_Tower_gathered, defBody s_Tower_gathered, defScope s_Tower_gathered, [], []⟩
def d_Tower_decide : He.DefD := ⟨("Tower", some "decide"), "decide", "Tower.decide", defArgs s_Tower_decide, defBody s_Tower_decide, defScope s_Tower_decide, [], []⟩
def d_Tower_operate : He.DefD := ⟨("Tower", some "operate"), "operate", "Tower.operate", defArgs s_Tower_operate, defBody s_Tower_operate, defScope s_Tower_operate, [], []⟩
def d_Tower_enter : He.DefD := ⟨("Tower", some "enter"), "enter", "Tower.enter", defArgs s_Tower_enter, defBody s_Tower_enter, defScope s_Tower_enter, [], []⟩
def d_run : He.DefD := ⟨("run", none), "run", "run", defArgs s_run, defBody s_run, defScope s_run, [], []⟩
def d_Numbering_init : He.DefD := ⟨("Numbering", some "__init__"), "__init__", "Numbering.__init__", defArgs s_Numbering_init, defBody s_Numbering_init, defScope s_Numbering_init, [], []⟩
def d_Numbering_expression : He.DefD := ⟨("Numbering", some "expression"), "expression", "Numbering.expression", defArgs s_Numbering_expression, defBody s_Numbering_expression, defScope s_Numbering_expression, [], []⟩
def d_Collapser_init : He.DefD := ⟨("Collapser", some "__init__"), "__init__", "Collapser.__init__", defArgs s_Collapser_init, defBody s_Collapser_init, defScope s_Collapser_init, [], []⟩
def d_Collapser_fresh : He.DefD := ⟨("Collapser", some "fresh"), "fresh", "Collapser.fresh", defArgs s_Collapser_fresh, defBody s_Collapser_fresh, defScope s_Collapser_fresh, [], []⟩
def d_Collapser_node : He.DefD := ⟨("Collapser", some "node"), "node", "Collapser.node", defArgs s_Collapser_node, defBody s_Collapser_node, defScope s_Collapser_node, [], []⟩
def d_Collapser_expression : He.DefD := ⟨("Collapser", some "expression"), "expression", "Collapser.expression", defArgs s_Collapser_expression, defBody s_Collapser_expression, defScope s_Collapser_expression, [], []⟩
def d_Collapser_parts : He.DefD := ⟨("Collapser", some "parts"), "parts", "Collapser.parts", defArgs s_Collapser_parts, defBody s_Collapser_parts, defScope s_Collapser_parts, [], []⟩
def d_Collapser_usual : He.DefD := ⟨("Collapser", some "usual"), "usual", "Collapser.usual", defArgs s_Collapser_usual, defBody s_Collapser_usual, defScope s_Collapser_usual, [], []⟩
def d_with_name : He.DefD := ⟨("with_name", none), "with_name", "with_name", defArgs s_with_name, defBody s_with_name, defScope s_with_name, [], []⟩
def d_collapse : He.DefD := ⟨("collapse", none), "collapse", "collapse", defArgs s_collapse, defBody s_collapse, defScope s_collapse, [], []⟩
def d_is_integer : He.DefD := ⟨("is_integer", none), "is_integer", "is_integer", defArgs s_is_integer, defBody s_is_integer, defScope s_is_integer, [], []⟩
def d_Node_init : He.DefD := ⟨("Node", some "__init__"), "__init__", "Node.__init__", defArgs s_Node_init, defBody s_Node_init, defScope s_Node_init, [], []⟩
def d_inner_of : He.DefD := ⟨("inner_of", none), "inner_of", "inner_of", defArgs s_inner_of, defBody s_inner_of, defScope s_inner_of, [], []⟩
def d_nodes_of : He.DefD := ⟨("nodes_of", none), "nodes_of", "nodes_of", defArgs s_nodes_of, defBody s_nodes_of, defScope s_nodes_of, [], []⟩
def d_inner_plain : He.DefD := ⟨("inner_plain", none), "inner_plain", "inner_plain", defArgs s_inner_plain, defBody s_inner_plain, defScope s_inner_plain, [], []⟩
def d_is_plain : He.DefD := ⟨("is_plain", none), "is_plain", "is_plain", defArgs s_is_plain, defBody s_is_plain, defScope s_is_plain, [], []⟩
def d_Scope_init : He.DefD := ⟨("Scope", some "__init__"), "__init__", "Scope.__init__", defArgs s_Scope_init, defBody s_Scope_init, defScope s_Scope_init, [], []⟩
def d_found_in : He.DefD := ⟨("found_in", none), "found_in", "found_in", defArgs s_found_in, defBody s_found_in, defScope s_found_in, [], []⟩
def d_Place_init : He.DefD := ⟨("Place", some "__init__"), "__init__", "Place.__init__", defArgs s_Place_init, defBody s_Place_init, defScope s_Place_init, [], []⟩
def d_Place_at : He.DefD := ⟨("Place", some "at"), "at", "Place.at", defArgs s_Place_at, defBody s_Place_at, defScope s_Place_at, [], []⟩
def d_Place_bound : He.DefD := ⟨("Place", some "bound"), "bound", "Place.bound", defArgs s_Place_bound, defBody s_Place_bound, defScope s_Place_bound, [], []⟩
def d_Judge_init : He.DefD := ⟨("Judge", some "__init__"), "__init__", "Judge.__init__", defArgs s_Judge_init, defBody s_Judge_init, defScope s_Judge_init, [], []⟩
def d_Judge_number : He.DefD := ⟨("Judge", some "number"), "number", "Judge.number", defArgs s_Judge_number, defBody s_Judge_number, defScope s_Judge_number, [], []⟩
def d_Judge_run : He.DefD := ⟨("Judge", some "run"), "run", "Judge.run", defArgs s_Judge_run, defBody s_Judge_run, defScope s_Judge_run, [], []⟩
def d_Judge_due : He.DefD := ⟨("Judge", some "due"), "due", "Judge.due", defArgs s_Judge_due, defBody s_Judge_due, defScope s_Judge_due, [], []⟩
def d_Judge_rules_for : He.DefD := ⟨("Judge", some "rules_for"), "rules_for", "Judge.rules_for", defArgs s_Judge_rules_for, defBody s_Judge_rules_for, defScope s_Judge_rules_for, [], []⟩
def d_Judge_fits : He.DefD := ⟨("Judge", some "fits"), "fits", "Judge.fits", defArgs s_Judge_fits, defBody s_Judge_fits, defScope s_Judge_fits, [], []⟩
def d_Judge_plainly : He.DefD := ⟨("Judge", some "plainly"), "plainly", "Judge.plainly", defArgs s_Judge_plainly, defBody s_Judge_plainly, defScope s_Judge_plainly, [], []⟩
def d_Judge_bound : He.DefD := ⟨("Judge", some "bound"), "bound", "Judge.bound", defArgs s_Judge_bound, defBody s_Judge_bound, defScope s_Judge_bound, [], []⟩
def d_is_collapse : He.DefD := ⟨("is_collapse", none), "is_collapse", "is_collapse", defArgs s_is_collapse, defBody s_is_collapse, defScope s_is_collapse, [], []⟩
def d_inner : He.DefD := ⟨("inner", none), "inner", "inner", defArgs s_inner, defBody s_inner, defScope s_inner, [], []⟩
def d_plain_size : He.DefD := ⟨("plain_size", none), "plain_size", "plain_size", defArgs s_plain_size, defBody s_plain_size, defScope s_plain_size, [], []⟩
def d_law_start : He.DefD := ⟨("_law_start", none), "_law_start", "_law_start", defArgs s_law_start, defBody s_law_start, defScope s_law_start, [], []⟩
def d_law_fill : He.DefD := ⟨("_law_fill", none), "_law_fill", "_law_fill", defArgs s_law_fill, defBody s_law_fill, defScope s_law_fill, [], []⟩
def d_law_take : He.DefD := ⟨("_law_take", none), "_law_take", "_law_take", defArgs s_law_take, defBody s_law_take, defScope s_law_take, [], []⟩
def d_law_kinds : He.DefD := ⟨("_law_kinds", none), "_law_kinds", "_law_kinds", defArgs s_law_kinds, defBody s_law_kinds, defScope s_law_kinds, [], []⟩
def d_law_parts : He.DefD := ⟨("_law_parts", none), "_law_parts", "_law_parts", defArgs s_law_parts, defBody s_law_parts, defScope s_law_parts, [], []⟩
def d_law_names : He.DefD := ⟨("_law_names", none), "_law_names", "_law_names", defArgs s_law_names, defBody s_law_names, defScope s_law_names, [], []⟩
def d_law_free : He.DefD := ⟨("_law_free", none), "_law_free", "_law_free", defArgs s_law_free, defBody s_law_free, defScope s_law_free, [], []⟩
def d_law_integer : He.DefD := ⟨("_law_integer", none), "_law_integer", "_law_integer", defArgs s_law_integer, defBody s_law_integer, defScope s_law_integer, [], []⟩
def d_law_leaf : He.DefD := ⟨("_law_leaf", none), "_law_leaf", "_law_leaf", defArgs s_law_leaf, defBody s_law_leaf, defScope s_law_leaf, [], []⟩
def d_law_inner : He.DefD := ⟨("_law_inner", none), "_law_inner", "_law_inner", defArgs s_law_inner, defBody s_law_inner, defScope s_law_inner, [], []⟩
def d_law_depth : He.DefD := ⟨("_law_depth", none), "_law_depth", "_law_depth", defArgs s_law_depth, defBody s_law_depth, defScope s_law_depth, [], []⟩
def d_law_size : He.DefD := ⟨("_law_size", none), "_law_size", "_law_size", defArgs s_law_size, defBody s_law_size, defScope s_law_size, [], []⟩
def d_law_with : He.DefD := ⟨("_law_with", none), "_law_with", "_law_with", defArgs s_law_with, defBody s_law_with, defScope s_law_with, [], []⟩
def d_law_noted : He.DefD := ⟨("_law_noted", none), "_law_noted", "_law_noted", defArgs s_law_noted, defBody s_law_noted, defScope s_law_noted, [], []⟩
def d_law_new : He.DefD := ⟨("_law_new", none), "_law_new", "_law_new", defArgs s_law_new, defBody s_law_new, defScope s_law_new, [], []⟩
def d_law_made : He.DefD := ⟨("_law_made", none), "_law_made", "_law_made", defArgs s_law_made, defBody s_law_made, defScope s_law_made, [], []⟩
def d_law_plain : He.DefD := ⟨("_law_plain", none), "_law_plain", "_law_plain", defArgs s_law_plain, defBody s_law_plain, defScope s_law_plain, [], []⟩
def d_law_collapsed : He.DefD := ⟨("_law_collapsed", none), "_law_collapsed", "_law_collapsed", defArgs s_law_collapsed, defBody s_law_collapsed, defScope s_law_collapsed, [], []⟩
def d_law_identity : He.DefD := ⟨("_law_identity", none), "_law_identity", "_law_identity", defArgs s_law_identity, defBody s_law_identity, defScope s_law_identity, [], []⟩
def d_law_level : He.DefD := ⟨("_law_level", none), "_law_level", "_law_level", defArgs s_law_level, defBody s_law_level, defScope s_law_level, [], []⟩
def d_law_plainly : He.DefD := ⟨("_law_plainly", none), "_law_plainly", "_law_plainly", defArgs s_law_plainly, defBody s_law_plainly, defScope s_law_plainly, [], []⟩
def d_law : He.DefD := ⟨("law", none), "law", "law", defArgs s_law, defBody s_law, defScope s_law, [], []⟩
def fn0 : List He.DefD := [d_parts_of, d_shown, d_Setting_init, d_Setting_with_name, d_Tower_init, d_Tower_run, d_Tower_go, d_Tower_go_built_in, d_Tower_step, d_Tower_stick, d_Tower_begin, d_Tower_change_or_ask, d_Tower_resume, d_Tower_put_back, d_Tower_bind_let, d_Tower_gathered, d_Tower_decide, d_Tower_operate, d_Tower_enter, d_run]
def fn1 : List He.DefD := [d_Numbering_init, d_Numbering_expression, d_Collapser_init, d_Collapser_fresh, d_Collapser_node, d_Collapser_expression, d_Collapser_parts, d_Collapser_usual, d_with_name, d_collapse, d_is_integer, d_Node_init, d_inner_of, d_nodes_of, d_inner_plain, d_is_plain, d_Scope_init, d_found_in, d_Place_init, d_Place_at]
def fn2 : List He.DefD := [d_Place_bound, d_Judge_init, d_Judge_number, d_Judge_run, d_Judge_due, d_Judge_rules_for, d_Judge_fits, d_Judge_plainly, d_Judge_bound, d_is_collapse, d_inner, d_plain_size, d_law_start, d_law_fill, d_law_take, d_law_kinds, d_law_parts, d_law_names, d_law_free, d_law_integer]
def fn3 : List He.DefD := [d_law_leaf, d_law_inner, d_law_depth, d_law_size, d_law_with, d_law_noted, d_law_new, d_law_made, d_law_plain, d_law_collapsed, d_law_identity, d_law_level, d_law_plainly, d_law]
def fn : List He.DefD := fn0 ++ fn1 ++ fn2 ++ fn3
def fa0 : List He.Fa := [.glo "parts_of_tower", .glo "shown", .glo "run", .glo "with_name", .glo "collapse", .glo "is_integer", .glo "inner_of", .glo "nodes_of", .glo "inner_plain", .glo "is_plain", .glo "found_in", .glo "is_collapse", .glo "inner", .glo "plain_size", .glo "_law_start", .glo "_law_fill", .glo "_law_take", .glo "_law_kinds", .glo "_law_parts", .glo "_law_names"]
def fa1 : List He.Fa := [.glo "_law_free", .glo "_law_integer", .glo "_law_leaf", .glo "_law_inner", .glo "_law_depth", .glo "_law_size", .glo "_law_with", .glo "_law_noted", .glo "_law_new", .glo "_law_made", .glo "_law_plain", .glo "_law_collapsed", .glo "_law_identity", .glo "_law_level", .glo "_law_plainly", .glo "law", .glo "Setting", .glo "Tower", .glo "Numbering", .glo "Collapser"]
def fa2 : List He.Fa := [.glo "Node", .glo "Scope", .glo "Place", .glo "Judge", .free "int", .free "len", .free "range", .free "isinstance", .free "tuple", .free "str", .free "any", .free "max", .free "sum", .free "dict", .free "enumerate", .free "bool", .free "sorted", .free "list", .int "MOST_NODES" 20000, .cls "Setting"]
def fa3 : List He.Fa := [.mkr "Setting", .noat "Setting" "level", .noat "Setting" "names", .noat "Setting" "about", .cls "Tower", .mkr "Tower", .noat "Tower" "e", .noat "Tower" "setting", .noat "Tower" "built_in", .noat "Tower" "fuel", .noat "Tower" "rules", .noat "Tower" "waiting", .noat "Tower" "outputs", .noat "Tower" "end", .cls "Numbering", .mkr "Numbering", .noat "Numbering" "many", .noat "Numbering" "rules", .cls "Collapser", .mkr "Collapser"]
def fa4 : List He.Fa := [.noat "Collapser" "rules", .noat "Collapser" "many", .noat "Collapser" "nodes", .cls "Node", .mkr "Node", .noat "Node" "kind", .noat "Node" "e", .noat "Node" "level", .noat "Node" "inner", .noat "Node" "number", .noat "Node" "mark", .cls "Scope", .mkr "Scope", .noat "Scope" "name", .noat "Scope" "what", .noat "Scope" "around", .cls "Place", .mkr "Place", .noat "Place" "node", .noat "Place" "names"]
def fa5 : List He.Fa := [.noat "Place" "about", .cls "Judge", .mkr "Judge", .noat "Judge" "left", .noat "Judge" "seen", .noat "Judge" "many", .noat "Judge" "known", .noat "Judge" "changes", .meth "Setting" "__init__", .meth "Setting" "with_name", .meth "Tower" "__init__", .meth "Tower" "run", .meth "Tower" "go", .meth "Tower" "go_built_in", .meth "Tower" "step", .meth "Tower" "stick", .meth "Tower" "begin", .meth "Tower" "change_or_ask", .meth "Tower" "resume", .meth "Tower" "put_back"]
def fa6 : List He.Fa := [.meth "Tower" "bind_let", .meth "Tower" "gathered", .meth "Tower" "decide", .meth "Tower" "operate", .meth "Tower" "enter", .meth "Numbering" "__init__", .meth "Numbering" "expression", .meth "Collapser" "__init__", .meth "Collapser" "fresh", .meth "Collapser" "node", .meth "Collapser" "expression", .meth "Collapser" "parts", .meth "Collapser" "usual", .meth "Node" "__init__", .meth "Scope" "__init__", .meth "Place" "__init__", .meth "Place" "at", .meth "Place" "bound", .meth "Judge" "__init__", .meth "Judge" "number"]
def fa7 : List He.Fa := [.meth "Judge" "run", .meth "Judge" "due", .meth "Judge" "rules_for", .meth "Judge" "fits", .meth "Judge" "plainly", .meth "Judge" "bound", .glo "SHAPES", .glo "PARTS", .glo "CHANGEABLE", .glo "KINDS_collapsing", .glo "KINDS_forms"]
def fa : List He.Fa := fa0 ++ fa1 ++ fa2 ++ fa3 ++ fa4 ++ fa5 ++ fa6 ++ fa7
def loose0 : List PySem.Str := ["CHANGEABLE", "parts_of", "parts_of_tower", "shown", "Setting", "Tower", "run", "ZigguratError", "LimitError", "KINDS_collapsing", "PARTS", "MOST_NODES", "Numbering", "About", "Collapser", "number_of", "switch_of", "switch_of_collapsing", "with_name", "collapse"]
def loose1 : List PySem.Str := ["KINDS_forms", "is_integer", "Node", "inner_of", "nodes_of", "parts_of_nodes", "switch_of_nodes", "SHAPES", "are_branches", "inner_plain", "is_plain", "Scope", "found_in", "Place", "Judge", "is_collapse", "inner", "plain_size", "_law_start", "_law_fill"]
def loose2 : List PySem.Str := ["_law_take", "_law_kinds", "_law_parts", "_law_names", "_law_free", "_law_integer", "_law_leaf", "_law_rule", "_law_ask", "_law_binding", "_law_change", "_law_expression", "_law_inner", "_law_depth", "_law_size", "_law_program", "_law_with", "_law_noted", "_law_new", "_law_used"]
def loose3 : List PySem.Str := ["_law_switched", "_law_made", "_law_plain", "_law_collapsed", "_law_identity", "_law_level", "_law_plainly"]
def loose : List PySem.Str := loose0 ++ loose1 ++ loose2 ++ loose3
/-- the module's name x is a dict with these texts by text keys -/
def shapesB (K : PySem.W.Frag) : Bool := He.valsB K (He.ga K "SHAPES") [("num", .str "i"), ("name", .str "n"), ("fn", .str "lne"), ("call", .str "lee"), ("sum", .str "lee"), ("less", .str "lee"), ("if", .str "leee"), ("let", .str "nee"), ("say", .str "le"), ("delay", .str "nee"), ("force", .str "n"), ("tick", .str "e"), ("switch", .str "lbe"), ("set", .str "lie"), ("put", .str "li")]
/-- a dict's value that is a tuple of ints, by its key -/
def dvA (K : PySem.W.Frag) (x k : Str) : Addr := match PySem.W.nsIn K (He.ga K x) k with
  | some (some (.ref a)) => a
  | _ => 0
def tupAt (K : PySem.W.Frag) (a : Addr) (vs : List He.Dv) : Bool := match K.lookup a with
  | some ⟨.type c, _, .seq its _, _⟩ => decide (c = "tuple") && (decide (its.size ≤ sizeLine) && He.relAll (vs.map (He.Dv.v K)) its.toList)
  | _ => false
def partsL : List (Str × List Int) := [("num", []), ("name", []), ("fn", []), ("call", [1, 2]), ("sum", [1, 2]), ("less", [1, 2]), ("if", [1, 2, 3]), ("let", [2]), ("say", [1])]
def partsB (K : PySem.W.Frag) : Bool := partsL.all fun q => He.eqO (PySem.W.nsIn K (He.ga K "PARTS") q.1) (some (some (.ref (dvA K "PARTS" q.1)))) && tupAt K (dvA K "PARTS" q.1) (q.2.map He.Dv.int)
def kindsL : List Str := ["num", "name", "fn", "call", "sum", "less", "if", "let", "say"]
def kindsB (K : PySem.W.Frag) : Bool := He.tupB K "CHANGEABLE" (kindsL.map He.Dv.str) && (He.tupB K "KINDS_collapsing" (kindsL.map He.Dv.str) && He.tupB K "KINDS_forms" (kindsL.map He.Dv.str))
def ex (K : PySem.W.Frag) : Bool := shapesB K && (partsB K && kindsB K)
def ts : List He.Tab := [(fun K => He.ga K "SHAPES", ["num", "name", "fn", "call", "sum", "less", "if", "let", "say", "delay", "force", "tick", "switch", "set", "put"]), (fun K => He.ga K "PARTS", ["num", "name", "fn", "call", "sum", "less", "if", "let", "say"])]
abbrev R : PySem.W.OpenRow := PySem.W.OpenLaw.row PySem.Challenge.rw_ziggurat_k91_whole_identities
/-! ### the part of the heap that is looked at: the module's names, what classes, defs and dicts among them name, the methods, their code -/
def nxt (o : Obj) : List Addr := match o.data with
  | .func fd => He.refV fd.code
  | .cls cd => [cd.ns]
  | .dict es _ => es.toList.flatMap fun e => He.refV e.val
  | _ => []
def hop (g : Addr → Option Obj) (as : List Addr) : List Addr := as.flatMap fun a => match g a with
  | some o => nxt o
  | none => []
def forced {β : Type} : List Addr → List Addr → (List Addr → β) → β
  | [], acc, k => k acc
  | a :: r, acc, k => HandSHeadRun.frNat a fun a => forced r (acc ++ [a]) k
theorem forced_eq {β : Type} (k : List Addr → β) : ∀ (l acc : List Addr), forced l acc k = k (acc ++ l)
  | [], acc => by
    rw [List.append_nil]
    rfl
  | a :: r, acc => by
    unfold forced
    rw [HandSHeadRun.frNat_eq, forced_eq k r, List.append_assoc]
    rfl
def go3 {β : Type} (g : Addr → Option Obj) (k : List Addr → β) : β :=
  forced (hop g [mainGlobals]) [] fun l1 => forced (hop g l1) [] fun l2 => forced (hop g l2) [] fun l3 => forced (hop g l3) [] fun l4 => k (mainGlobals :: (l1 ++ (l2 ++ (l3 ++ l4))))
def als (g : Addr → Option Obj) : List Addr :=
  let l1 := hop g [mainGlobals]
  let l2 := hop g l1
  let l3 := hop g l2
  mainGlobals :: (l1 ++ (l2 ++ (l3 ++ hop g l3)))
theorem go3_eq {β : Type} (g : Addr → Option Obj) (k : List Addr → β) : go3 g k = k (als g) := by
  unfold go3
  simp only [forced_eq, List.nil_append]
  rfl
abbrev AlZ : Type := He.AlT × Bool
def obsZ (g : Addr → Option Obj) : AlZ := go3 g fun l => (He.obsT fa fn ts (He.frG g l), ex (He.frG g l))
def hk : PySem.W.Hook where
  α := AlZ
  obs := fun s => obsZ s.heap.get?
  val := fun w => (He.valT fn ts w, true)
  says := fun w h => ∃ K : PySem.W.Frag, K.In h ∧ He.SaysT fa fn ts w K ∧ ex K = true
  of := fun w s e => by
    unfold obsZ at e
    rw [go3_eq] at e
    exact ⟨_, He.frG_in, congrArg (fun z : AlZ => z.1) e, congrArg (fun z : AlZ => z.2) e⟩
  keeps := fun _ _ _ ⟨K, hK, c⟩ k => ⟨K, PySem.W.Frag.In.keeps hK k, c⟩
def ob (s : PySem.W.SharedT) : AlZ := obsZ (HandSHeadRun.getT s)
theorem ob_eq (s : PySem.W.SharedT) : ob s = hk.obs s.abs := by
  have e : HandSHeadRun.getT s = s.abs.heap.get? := funext (HandSHeadRun.getT_eq s)
  show obsZ (HandSHeadRun.getT s) = obsZ s.abs.heap.get?
  rw [e]
theorem run0 (w : World) : HandSHeadRun.RunEq R (PySem.W.view R.prog [77]) hk ob 10000 loose (w.withFollow "special-get-raises" false) := by
  intro os
  kernel_rfl
theorem run1 (w : World) : HandSHeadRun.RunEq R (PySem.W.view R.prog [77]) hk ob 10000 loose (w.withFollow "special-get-raises" true) := by
  intro os
  kernel_rfl
theorem run (w : World) : HandSHeadRun.RunEq R (PySem.W.view R.prog [77]) hk ob 10000 loose w :=
  PySem.W.byRow2 "special-get-raises" (P := fun w => HandSHeadRun.RunEq R (PySem.W.view R.prog [77]) hk ob 10000 loose w) run0 run1 w
end Zg
/-! ## Zfi0 -/
set_option Elab.async false
set_option linter.all false
set_option maxRecDepth 100000
set_option maxHeartbeats 0
namespace Zg
open PySem PySem.W PySem.Calls PyProof.Rows HandSHeadRun
/-- the statement, where the law's own call is walked -/
theorem hd_holds (hc : WalkO (view R.prog [77]) loose (XL (view R.prog [77]) []) hk.says R.toRowW (topDef R.prog 77) [] fun f vs => PySem.call f vs) : PySem.Challenge.rw_ziggurat_k91_whole_identities.Holds := by
  w_on; o_law
  refine HandSHeadRun.head_any (r := R) (q := view R.prog [77]) (H := hk) (ob := ob) (M := 10000) (loose := loose) (d := topDef R.prog 77) (kwd := []) ob_eq
    (by kernel_rfl) (fun s => by kernel_rfl) Zg.run (by kernel_rfl) (by kernel_rfl) (by kernel_rfl) (by rfl) (by first | assumption | decide +kernel) (by decide +kernel) ⟨rfl, rfl, rfl, rfl, rfl, by decide +kernel⟩ ?hw hc
  case hw => w_witness2
theorem law_name : (topDef R.prog 77).name = ("law" : PySem.Str) := by kernel_rfl
theorem law_dfl : (topDef R.prog 77).params.defaults = [] := by kernel_rfl
end Zg
/-! ## Zbase -/
set_option Elab.async false
set_option linter.all false
set_option maxRecDepth 100000
set_option maxHeartbeats 4000000
namespace Zg
open PySem PySem.Spec L2
/-! ### what stays fixed in the heap: tuples, dicts with text keys, instances of three classes once they are whole -/
def im3 (k : Str) : Bool := decide (k = "level") || (decide (k = "node") || decide (k = "name"))
def imO : HO → Bool
  | .tup _ => true
  | .dK _ => true
  | .ins _ _ [(k, _), _, _] => im3 k
  | _ => false
def Fix (H H' : Hp) : Prop := ∀ a o, H a = some o → imO o = true → H' a = some o
def But (p : Addr) (H H' : Hp) : Prop := ∀ b u, H b = some u → b ≠ p → H' b = some u
theorem Fix.refl (H : Hp) : Fix H H := fun _ _ h _ => h
theorem Fix.trans {H H1 H2 : Hp} (a : Fix H H1) (b : Fix H1 H2) : Fix H H2 := fun p o h i => b p o (a p o h i) i
theorem Fix.of_same {H H' : Hp} (s : Same H H') : Fix H H' := fun a o h _ => s a o h
theorem But.refl (p : Addr) (H : Hp) : But p H H := fun _ _ h _ => h
theorem But.trans {p : Addr} {H H1 H2 : Hp} (a : But p H H1) (b : But p H1 H2) : But p H H2 := fun q u h n => b q u (a q u h n) n
theorem But.of_same {p : Addr} {H H' : Hp} (s : Same H H') : But p H H' := fun a o h _ => s a o h
theorem But.fix {p : Addr} {H H' : Hp} {o : HO} (b : But p H H') (hp : H p = some o) (hi : imO o = false) : Fix H H' := fun a u h i => b a u h fun e => by
  rw [e, hp] at h
  cases h
  rw [hi] at i
  cases i
/-- a new object o at p -/
structure Al (H H' : Hp) (p : Addr) (o : HO) : Prop where
  nw : H p = none
  at_ : H' p = some o
  sm : Same H H'
/-- the object at p is o now -/
structure Wr (H H' : Hp) (p : Addr) (o : HO) : Prop where
  at_ : H' p = some o
  bt : But p H H'
  fx : Fix H H'
/-- a call that may change the object at p, and lays new ones -/
structure Mu (p : Addr) (H H' : Hp) : Prop where
  bt : But p H H'
  fx : Fix H H'
theorem Al.mk0 {H : Hp} {p : Addr} {o : HO} (h : H p = none) : Al H (upd H p o) p o := ⟨h, upd_same, fun b u q => by rw [upd_ne (ne_of_none q h)]; exact q⟩
theorem Al.fx {H H' : Hp} {p : Addr} {o : HO} (a : Al H H' p o) : Fix H H' := Fix.of_same a.sm
theorem Wr.mk0 {H : Hp} {p : Addr} {o u : HO} (h : H p = some u) (hi : imO u = false) : Wr H (upd H p o) p o :=
  have b : But p H (upd H p o) := fun b u q n => by rw [upd_ne n]; exact q
  ⟨upd_same, b, b.fix h hi⟩
theorem Mu.refl (p : Addr) (H : Hp) : Mu p H H := ⟨But.refl p H, Fix.refl H⟩
theorem Mu.trans {p : Addr} {H H1 H2 : Hp} (a : Mu p H H1) (b : Mu p H1 H2) : Mu p H H2 := ⟨a.bt.trans b.bt, a.fx.trans b.fx⟩
theorem Mu.of_al {p q : Addr} {o : HO} {H H' : Hp} (a : Al H H' q o) : Mu p H H' := ⟨But.of_same a.sm, a.fx⟩
theorem Mu.of_same {p : Addr} {H H' : Hp} (a : Same H H') : Mu p H H' := ⟨But.of_same a, Fix.of_same a⟩
theorem Mu.of_wr {p : Addr} {o : HO} {H H' : Hp} (a : Wr H H' p o) : Mu p H H' := ⟨a.bt, a.fx⟩
/-- kinds of objects, to tell addresses apart -/
def knd : HO → Nat
  | .lst _ => 0
  | .tup _ => 1
  | .dK _ => 2
  | .dT _ => 3
  | .ins _ _ fs => 10 + fs.length
  | _ => 4
theorem ne_k {H : Hp} {a b : Addr} {o u : HO} (h : H a = some o) (h' : H b = some u) (d : Nat.beq (knd o) (knd u) = false) : a ≠ b := by
  intro e
  rw [e, h'] at h
  have e2 : u = o := Option.some.inj h
  rw [e2, Nat.beq_refl] at d
  cases d
theorem lk_al {H H' : Hp} {p b : Addr} {o u : HO} (a : Al H H' p o) (h : H b = some u) : H' b = some u := a.sm _ _ h
theorem lk_same {H H' : Hp} {b : Addr} {u : HO} (a : Same H H') (h : H b = some u) : H' b = some u := a _ _ h
theorem lk_wr {H H' : Hp} {p b : Addr} {o u : HO} (a : Wr H H' p o) (h : H b = some u) (n : b ≠ p) : H' b = some u := a.bt _ _ h n
theorem lk_wrk {H H' : Hp} {p b : Addr} {o u w : HO} (a : Wr H H' p o) (h : H b = some u) (hp : H p = some w) (d : Nat.beq (knd u) (knd w) = false) : H' b = some u := a.bt _ _ h (ne_k h hp d)
theorem lk_mu {H H' : Hp} {p b : Addr} {u : HO} (a : Mu p H H') (h : H b = some u) (n : b ≠ p) : H' b = some u := a.bt _ _ h n
theorem lk_muk {H H' : Hp} {p b : Addr} {u w : HO} (a : Mu p H H') (h : H b = some u) (hp : H p = some w) (d : Nat.beq (knd u) (knd w) = false) : H' b = some u := a.bt _ _ h (ne_k h hp d)
theorem lk_muf {H H' : Hp} {p b : Addr} {u : HO} (a : Mu p H H') (h : H b = some u) (i : imO u = true) : H' b = some u := a.fx _ _ h i
theorem lk_fix {H H' : Hp} {b : Addr} {u : HO} (a : Fix H H') (h : H b = some u) (i : imO u = true) : H' b = some u := a _ _ h i
theorem fr_al {H H' : Hp} {p b : Addr} {o : HO} (a : Al H H' p o) (h : H' b = none) : H b = none := a.sm.free h
/-! ### expressions -/
inductive E where
  | num (n : Int) | name (x : Str) | fn (x : Str) (b : E) | call (f a : E) | sum (a b : E) | less (a b : E) | iff (c a b : E) | lett (x : Str) (a b : E) | say (a : E)
  | rule (k : Str) (r b : E) | keep (k : Str) (r : E) | part (i : Nat) | withh (a : E) | usual | do1 (a : E) | do2 (a b : E)
inductive EAt (H : Hp) : V → E → Prop where
  | num {p n} : H p = some (.tup [.str "num", .int n]) → EAt H (.ref p) (.num n)
  | name {p x} : H p = some (.tup [.str "name", .str x]) → EAt H (.ref p) (.name x)
  | fn {p x vb b} : H p = some (.tup [.str "fn", .str x, vb]) → EAt H vb b → EAt H (.ref p) (.fn x b)
  | call {p va a vb b} : H p = some (.tup [.str "call", va, vb]) → EAt H va a → EAt H vb b → EAt H (.ref p) (.call a b)
  | sum {p va a vb b} : H p = some (.tup [.str "sum", va, vb]) → EAt H va a → EAt H vb b → EAt H (.ref p) (.sum a b)
  | less {p va a vb b} : H p = some (.tup [.str "less", va, vb]) → EAt H va a → EAt H vb b → EAt H (.ref p) (.less a b)
  | iff {p vc c va a vb b} : H p = some (.tup [.str "if", vc, va, vb]) → EAt H vc c → EAt H va a → EAt H vb b → EAt H (.ref p) (.iff c a b)
  | lett {p x va a vb b} : H p = some (.tup [.str "let", .str x, va, vb]) → EAt H va a → EAt H vb b → EAt H (.ref p) (.lett x a b)
  | say {p va a} : H p = some (.tup [.str "say", va]) → EAt H va a → EAt H (.ref p) (.say a)
  | rule {p k vr r vb b} : H p = some (.tup [.str "rule", .str k, vr, vb]) → EAt H vr r → EAt H vb b → EAt H (.ref p) (.rule k r b)
  | keep {p k vr r} : H p = some (.tup [.str "keep", .str k, vr]) → EAt H vr r → EAt H (.ref p) (.keep k r)
  | part {p i} : H p = some (.tup [.str "part", .int (i : Nat)]) → EAt H (.ref p) (.part i)
  | withh {p va a} : H p = some (.tup [.str "with", va]) → EAt H va a → EAt H (.ref p) (.withh a)
  | usual {p} : H p = some (.tup [.str "usual"]) → EAt H (.ref p) .usual
  | do1 {p q va a} : H p = some (.tup [.str "do", .ref q]) → H q = some (.tup [va]) → EAt H va a → EAt H (.ref p) (.do1 a)
  | do2 {p q va a vb b} : H p = some (.tup [.str "do", .ref q]) → H q = some (.tup [va, vb]) → EAt H va a → EAt H vb b → EAt H (.ref p) (.do2 a b)
theorem EAt.fix {H H' : Hp} (f : Fix H H') {v : V} {e : E} (h : EAt H v e) : EAt H' v e := by
  induction h with
  | num h => exact .num (f _ _ h rfl)
  | name h => exact .name (f _ _ h rfl)
  | fn h _ i1 => exact .fn (f _ _ h rfl) i1
  | call h _ _ i1 i2 => exact .call (f _ _ h rfl) i1 i2
  | sum h _ _ i1 i2 => exact .sum (f _ _ h rfl) i1 i2
  | less h _ _ i1 i2 => exact .less (f _ _ h rfl) i1 i2
  | iff h _ _ _ i1 i2 i3 => exact .iff (f _ _ h rfl) i1 i2 i3
  | lett h _ _ i1 i2 => exact .lett (f _ _ h rfl) i1 i2
  | say h _ i1 => exact .say (f _ _ h rfl) i1
  | rule h _ _ i1 i2 => exact .rule (f _ _ h rfl) i1 i2
  | keep h _ i1 => exact .keep (f _ _ h rfl) i1
  | part h => exact .part (f _ _ h rfl)
  | withh h _ i1 => exact .withh (f _ _ h rfl) i1
  | usual h => exact .usual (f _ _ h rfl)
  | do1 h h2 _ i1 => exact .do1 (f _ _ h rfl) (f _ _ h2 rfl) i1
  | do2 h h2 _ _ i1 i2 => exact .do2 (f _ _ h rfl) (f _ _ h2 rfl) i1 i2
/-! ### environments: a dict of names -/
structure EnvR {α : Type} (R : V → α → Prop) (kvs : List (Key × V)) (ρ : List (Str × α)) : Prop where
  len : kvs.length ≤ ρ.length
  at_ : ∀ x a, ρ.lookup x = some a → ∃ v, valV kvs (.inr x) = some v ∧ R v a
theorem EnvR.nil {α : Type} {R : V → α → Prop} : EnvR R [] [] := ⟨Nat.le_refl _, fun x a h => by cases h⟩
theorem putK_len {κ : Type} [DecidableEq κ] (kvs : List (κ × V)) (k : κ) (v : V) : (putK kvs k v).length ≤ kvs.length + 1 := by
  unfold putK
  split
  · rw [List.length_map]
    exact Nat.le_succ _
  · rw [List.length_append]
    exact Nat.le_refl _
theorem lookup_cons' {α : Type} (x y : Str) (a : α) (r : List (Str × α)) : ((y, a) :: r).lookup x = if x = y then some a else r.lookup x := by
  rw [List.lookup_cons]
  by_cases h : x = y
  · rw [if_pos h, h]
    simp
  · rw [if_neg h]
    have e : (x == y) = false := by simpa using h
    rw [e]
theorem EnvR.put {α : Type} {R : V → α → Prop} {kvs : List (Key × V)} {ρ : List (Str × α)} (h : EnvR R kvs ρ) (x : Str) {v : V} {a : α} (r : R v a) : EnvR R (putK kvs (.inr x) v) ((x, a) :: ρ) := by
  refine ⟨Nat.le_trans (putK_len _ _ _) (Nat.succ_le_succ h.len), fun y b e => ?_⟩
  rw [lookup_cons'] at e
  rw [valV_put]
  by_cases q : y = x
  · rw [if_pos q] at e
    cases e
    rw [if_pos (by rw [q])]
    exact ⟨v, rfl, r⟩
  · rw [if_neg q] at e
    rw [if_neg (fun z => q (Sum.inr.inj z))]
    exact h.at_ y b e
theorem EnvR.imp {α : Type} {R R' : V → α → Prop} {kvs : List (Key × V)} {ρ : List (Str × α)} (h : EnvR R kvs ρ) (i : ∀ v a, R v a → R' v a) : EnvR R' kvs ρ :=
  ⟨h.len, fun x a e => let ⟨v, e1, r⟩ := h.at_ x a e; ⟨v, e1, i v a r⟩⟩
/-- the dict at v holds the names ρ -/
def EnvAt {α : Type} (R : V → α → Prop) (H : Hp) (v : V) (ρ : List (Str × α)) : Prop := ∃ d kvs, v = .ref d ∧ H d = some (.dK kvs) ∧ EnvR R kvs ρ
theorem EnvAt.fix {α : Type} {R R' : V → α → Prop} {H H' : Hp} {v : V} {ρ : List (Str × α)} (h : EnvAt R H v ρ) (f : Fix H H') (i : ∀ v a, R v a → R' v a) : EnvAt R' H' v ρ :=
  let ⟨d, kvs, e, hd, r⟩ := h
  ⟨d, kvs, e, f _ _ hd rfl, r.imp i⟩
theorem EnvAt.fix0 {α : Type} {R : V → α → Prop} {H H' : Hp} (f : Fix H H') {v : V} {ρ : List (Str × α)} (h : EnvAt R H v ρ) : EnvAt R H' v ρ := h.fix f fun _ _ r => r
/-! ### steps -/
section
variable {K : PySem.W.Frag} {σ : St} {H : Hp} {Q : VK} {D : Ends} {i j : Nat} {v x y z : V} {ta tb tc te tv td ty : TE} {t u : TS} {c d : TT} {A B : Prop} {a b p : Addr} {xs ys : List V}
theorem s_var (h : σ[i]? = some (some v)) (q : Q v H) : tVar i σ H Q := ⟨v, h, q⟩
theorem s_c (q : Q v H) : tC v σ H Q := q
theorem s_op {r : R2} (q : ta σ H fun x H1 => tb σ H1 fun y H2 => r x y H2 Q) : tOp r ta tb σ H Q := q
theorem s_un {r : V → Hp → VK → Prop} (q : ta σ H fun x H1 => r x H1 Q) : tUn r ta σ H Q := q
theorem s_eq (h : scal x y = true) (q : Q (.bl (decide (x = y))) H) : rEq x y H Q := ⟨h, q⟩
theorem s_ne (h : scal x y = true) (q : Q (.bl (!decide (x = y))) H) : rNe x y H Q := ⟨h, q⟩
theorem s_i0 {g : Int → Int → V} {n m : Int} (q : Q (g n m) H) : rI0 g (.int n) (.int m) H Q := ⟨n, m, rfl, rfl, q⟩
theorem s_i {C : Int → Int → Prop} {g : Int → Int → V} {n m : Int} (h : C n m) (q : Q (g n m) H) : rI C g (.int n) (.int m) H Q := ⟨n, m, rfl, rfl, h, q⟩
theorem s_fld {C dx : Addr} {fs : List (Str × V)} {f : Str} (h : ta σ H fun x H1 => ∃ a C dx fs v, x = .ref a ∧ H1 a = some (.ins C dx fs) ∧ Cls K C ∧ NoAttr K C f ∧ fs.lookup f = some v ∧ Q v H1) : tFld K ta f σ H Q := h
def kFld (K : PySem.W.Frag) (f : Str) (x : V) (H : Hp) (Q : VK) : Prop := ∃ a C dx fs v, x = .ref a ∧ H a = some (.ins C dx fs) ∧ Cls K C ∧ NoAttr K C f ∧ fs.lookup f = some v ∧ Q v H
theorem s_tfld {f : Str} (q : ta σ H fun x H1 => kFld K f x H1 Q) : tFld K ta f σ H Q := q
theorem s_kfld {C dx : Addr} {fs : List (Str × V)} {f : Str} (h : H a = some (.ins C dx fs)) (hc : Cls K C) (hn : NoAttr K C f) (hl : fs.lookup f = some v) (q : Q v H) : kFld K f (.ref a) H Q := ⟨a, C, dx, fs, v, rfl, h, hc, hn, hl, q⟩
def kTup (Q : VK) (xs : List V) (H : Hp) : Prop := xs.length ≤ sizeLine ∧ ∀ p, H p = none → Q (.ref p) (upd H p (.tup xs))
def kLst (Q : VK) (xs : List V) (H : Hp) : Prop := xs.length ≤ sizeLine ∧ ∀ p, H p = none → Q (.ref p) (upd H p (.lst xs))
theorem s_ttup {s : TA} (q : s σ H (kTup Q)) : tTup s σ H Q := q
theorem s_tlst {s : TA} (q : s σ H (kLst Q)) : tLst s σ H Q := q
theorem s_ktup (h : xs.length ≤ 64) (q : ∀ p H', Al H H' p (.tup xs) → Q (.ref p) H') : kTup Q xs H := ⟨Nat.le_trans h (by decide), fun p hp => q p _ (Al.mk0 hp)⟩
theorem s_klst (h : xs.length ≤ 64) (q : ∀ p H', Al H H' p (.lst xs) → Q (.ref p) H') : kLst Q xs H := ⟨Nat.le_trans h (by decide), fun p hp => q p _ (Al.mk0 hp)⟩
theorem s_nil {R : List V → Hp → Prop} (q : R [] H) : tNil σ H R := q
theorem s_cons {s : TA} {R : List V → Hp → Prop} (q : ta σ H fun x H1 => s σ H1 fun xs H2 => R (x :: xs) H2) : tCons ta s σ H R := q
theorem s_dnK (q : ∀ p H', Al H H' p (.dK []) → Q (.ref p) H') : tDNewK σ H Q := fun p hp => q p _ (Al.mk0 hp)
theorem s_dnT (q : ∀ p H', Al H H' p (.dT []) → Q (.ref p) H') : tDNewT σ H Q := fun p hp => q p _ (Al.mk0 hp)
theorem s_call {sp : Sp} {X : XK} {s : TA} (q : s σ H fun vs H1 => sp (vs ++ []) H1 Q X) : tCall sp [] X s σ H Q := q
def kMeth (C : Addr) (m : Str) (sp : Sp) (X : XK) (σ : St) (s : TA) (x : V) (H : Hp) (Q : VK) : Prop := ∃ a dx fs, x = .ref a ∧ H a = some (.ins C dx fs) ∧ fs.lookup m = none ∧ s σ H fun vs H2 => sp (x :: (vs ++ [])) H2 Q X
theorem s_meth {C : Addr} {m : Str} {sp : Sp} {X : XK} {s : TA} (q : ta σ H fun x H1 => kMeth C m sp X σ s x H1 Q) : tMeth C m sp [] X ta s σ H Q := q
theorem s_kmeth {C dx : Addr} {m : Str} {sp : Sp} {X : XK} {s : TA} {fs : List (Str × V)} (h : H a = some (.ins C dx fs)) (hl : fs.lookup m = none) (q : s σ H fun vs H2 => sp (.ref a :: (vs ++ [])) H2 Q X) : kMeth C m sp X σ s (.ref a) H Q := ⟨a, dx, fs, rfl, h, hl, q⟩
def kMake (C : Addr) (sp : Sp) (X : XK) (Q : VK) (vs : List V) (H : Hp) : Prop := ∀ x dx, H x = none → H dx = none → dx ≠ x → sp (.ref x :: (vs ++ [])) (upd (upd H dx (.own x)) x (.ins C dx [])) (fun v H2 => v = .non ∧ Q (.ref x) H2) X
theorem s_make {C : Addr} {sp : Sp} {X : XK} {s : TA} (q : s σ H (kMake C sp X Q)) : tMake C sp [] X s σ H Q := q
/-- behind C(..): the new instance -/
theorem s_kmake {C : Addr} {sp : Sp} {X : XK} {vs : List V} {fs : Addr → List (Str × V)} (P : V → Hp → Prop)
    (hs : ∀ x dx H0 (R : VK), H0 x = some (.ins C dx []) → Fix H H0 → (∀ H', H' x = some (.ins C dx (fs x)) → But x H0 H' → R .non H') → sp (.ref x :: (vs ++ [])) H0 R X) (q : ∀ x dx H', Al H H' x (.ins C dx (fs x)) → Q (.ref x) H') : kMake C sp X Q vs H := fun x dx hx hd ne =>
  hs x dx _ _ upd_same (fun b o e _ => by rw [upd_ne (ne_of_none e hx), upd_ne (ne_of_none e hd)]; exact e) fun H' e k => ⟨rfl, q x dx H' ⟨hx, e, Same.made hx hd fun b o e1 n => k b o e1 n⟩⟩
theorem s_seq (q : t { D with nx := u D } σ H) : tSeq t u D σ H := q
theorem s_asg (q : te σ H fun x H1 => D.nx (σ.set i (some x)) H1) : tAsg te (gName i) D σ H := q
theorem s_drop (q : te σ H fun _ H1 => D.nx σ H1) : tDrop te D σ H := q
theorem s_ret (q : te σ H D.rt) : tRet te D σ H := q
theorem s_retN (q : D.rt .non H) : tRetN D σ H := q
theorem s_next (q : D.nx σ H) : tNext D σ H := q
theorem s_ifs (q : c σ H fun b H1 => if b = true then t D σ H1 else u D σ H1) : tIfS c t u D σ H := q
theorem s_ifx (q : c σ H fun b H1 => if b = true then ta σ H1 Q else tb σ H1 Q) : tIf c ta tb σ H Q := q
def kB (Q : Bool → Hp → Prop) (x : V) (H : Hp) : Prop := ∃ k, x = .bl k ∧ Q k H
theorem s_test {R : Bool → Hp → Prop} (q : te σ H (kB R)) : tTest te σ H R := q
theorem s_tb {R : Bool → Hp → Prop} (q : te σ H (kB R)) : tB te σ H R := q
theorem s_kb {R : Bool → Hp → Prop} {k : Bool} (q : R k H) : kB R (.bl k) H := ⟨k, rfl, q⟩
theorem s_and {R : Bool → Hp → Prop} (q : c σ H fun b H1 => if b = true then d σ H1 R else R false H1) : tAnd c d σ H R := q
theorem s_or {R : Bool → Hp → Prop} (q : c σ H fun b H1 => if b = true then R true H1 else d σ H1 R) : tOr c d σ H R := q
theorem s_not {R : Bool → Hp → Prop} (q : c σ H fun b H1 => R (!b) H1) : tNot c σ H R := q
theorem s_andV (q : ta σ H fun x H1 => ∃ c, x = .bl c ∧ if c = true then tb σ H1 Q else Q (.bl false) H1) : tAndV ta tb σ H Q := q
theorem s_orV (q : ta σ H fun x H1 => ∃ c, x = .bl c ∧ if c = true then Q (.bl true) H1 else tb σ H1 Q) : tOrV ta tb σ H Q := q
theorem i_t {k : Bool} (h : k = true) (q : A) : if k = true then A else B := by rw [if_pos h]; exact q
theorem i_f {k : Bool} (h : k = false) (q : B) : if k = true then A else B := by rw [if_neg (by rw [h]; exact Bool.false_ne_true)]; exact q
theorem s_ixT {n : Int} (h : SqT K H p xs) (ha : atI xs n = some v) (q : Q v H) : rIxT K (.ref p) (.int n) H Q := ⟨p, xs, n, v, rfl, rfl, h, ha, q⟩
theorem s_ixL {n : Int} (h : SqL K H p xs) (ha : atI xs n = some v) (q : Q v H) : rIxL K (.ref p) (.int n) H Q := ⟨p, xs, n, v, rfl, rfl, h, ha, q⟩
theorem s_cb {r : List V → Hp → VK → Prop} {s : TA} (q : s σ H fun vs H1 => r vs H1 Q) : tCB r s σ H Q := q
def kBM (K : PySem.W.Frag) (T : String) (r : V → List V → Hp → VK → Prop) (σ : St) (s : TA) (x : V) (H : Hp) (Q : VK) : Prop := tyV K T x H ∧ s σ H fun xs H2 => r x xs H2 Q
theorem s_bm {T : String} {r : V → List V → Hp → VK → Prop} {s : TA} (q : ta σ H fun x H1 => kBM K T r σ s x H1 Q) : tBM K T r ta s σ H Q := q
theorem s_bm0 {T : String} {r : V → List V → Hp → VK → Prop} (q : ta σ H fun x H1 => tyV K T x H1 ∧ r x [] H1 Q) : tBM0 K T r ta σ H Q := q
theorem tyV_lst (h : H p = some (.lst xs)) : tyV K "list" (.ref p) H := .inl ⟨rfl, _, SqL.of h⟩
theorem s_kbmL {r : V → List V → Hp → VK → Prop} {s : TA} (h : H p = some (.lst xs)) (q : s σ H fun ys H2 => r (.ref p) ys H2 Q) : kBM K "list" r σ s (.ref p) H Q := ⟨tyV_lst h, q⟩
theorem s_append (h : H p = some (.lst xs)) (hl : xs.length < sizeLine) (q : ∀ H', Wr H H' p (.lst (xs ++ [y])) → Q .non H') : rAppend (.ref p) [y] H Q := ⟨p, xs, y, rfl, rfl, h, hl, q _ (Wr.mk0 h rfl)⟩
theorem s_setL {n : Int} {k : Nat} {R : Hp → Prop} (h : H p = some (.lst xs)) (hi : ixN xs.length n = some k) (q : ∀ H', Wr H H' p (.lst (xs.set k v)) → R H') : rSetL (.ref p) (.int n) v H R := ⟨p, xs, n, k, rfl, rfl, h, hi, q _ (Wr.mk0 h rfl)⟩
theorem s_asgS {to ti : TE} {s : TSet} (q : te σ H fun v H1 => to σ H1 fun o H2 => ti σ H2 fun i H3 => s o i v H3 fun H4 => D.nx σ H4) : tAsg te (gSub to ti s) D σ H := q
/-! an attribute stored -/
def kSFld (K : PySem.W.Frag) (f : Str) (D : Ends) (σ : St) (y x : V) (H : Hp) : Prop := ∃ a C dx fs, x = .ref a ∧ H a = some (.ins C dx fs) ∧ Cls K C ∧ NoAttr K C f ∧ fs.length < 1000 ∧ D.nx σ (upd H a (.ins C dx (putF f y fs)))
theorem s_sfld {f : Str} (q : tv σ H fun y H1 => ta σ H1 fun x H2 => kSFld K f D σ y x H2) : sFld K ta tv f D σ H := q
theorem s_ksfld {C dx : Addr} {fs fs' : List (Str × V)} {f : Str} (h : H a = some (.ins C dx fs)) (hc : Cls K C) (hn : NoAttr K C f) (hi : imO (.ins C dx fs) = false) (hl : Nat.ble (fs.length + 1) 1000 = true) (hf : putF f y fs = fs') (q : ∀ H', Wr H H' a (.ins C dx fs') → D.nx σ H') : kSFld K f D σ y (.ref a) H :=
  ⟨a, C, dx, fs, rfl, h, hc, hn, Nat.le_of_ble_eq_true hl, by rw [hf]; exact q _ (Wr.mk0 h hi)⟩
theorem pf_nil {f : Str} : putF f y [] = [(f, y)] := rfl
theorem pf_eq {f : Str} {r : List (Str × V)} : putF f y ((f, x) :: r) = (f, y) :: r := by
  show (if f = f then _ else _) = _
  rw [if_pos rfl]
theorem pf_ne {f g : Str} {r r' : List (Str × V)} (h : ¬ g = f) (e : putF f y r = r') : putF f y ((g, x) :: r) = (g, x) :: r' := by
  show (if g = f then _ else _) = _
  rw [if_neg h, e]
theorem lk_eq {f : Str} {r : List (Str × V)} : ((f, x) :: r).lookup f = some x := by rw [lookup_cons', if_pos rfl]
theorem lk_ne {f g : Str} {r : List (Str × V)} {o : Option V} (h : ¬ f = g) (e : r.lookup f = o) : ((g, x) :: r).lookup f = o := by rw [lookup_cons', if_neg h, e]
theorem lk_nil {f : Str} : ([] : List (Str × V)).lookup f = none := rfl
theorem im_3 {C dx : Addr} {k l m : Str} {x y z : V} (h : im3 k = false) : imO (.ins C dx [(k, x), (l, y), (m, z)]) = false := h
/-! augmented -/
def kAug (K : PySem.W.Frag) (f : Str) (rd : V → V → Hp → VK → Prop) (tv : TE) (D : Ends) (σ : St) (x : V) (H : Hp) : Prop := ∃ a C dx fs v, x = .ref a ∧ H a = some (.ins C dx fs) ∧ Cls K C ∧ NoAttr K C f ∧ fs.lookup f = some v ∧
  tv σ H fun y H2 => rd v y H2 fun z H3 => ∃ dx' fs', H3 a = some (.ins C dx' fs') ∧ fs'.length < 1000 ∧ D.nx σ (upd H3 a (.ins C dx' (putF f z fs')))
theorem s_aug {f : Str} {rd : V → V → Hp → VK → Prop} (q : ta σ H fun x H1 => kAug K f rd tv D σ x H1) : sFldAug K ta tv rd f D σ H := q
theorem s_kaugI {C dx : Addr} {fs fs' : List (Str × V)} {f : Str} {n m : Int} {rd : V → V → Hp → VK → Prop} {g : Int → Int → Int} (h : H a = some (.ins C dx fs)) (hc : Cls K C) (hn : NoAttr K C f) (hk : fs.lookup f = some (.int n)) (hi : imO (.ins C dx fs) = false) (hl : Nat.ble (fs.length + 1) 1000 = true)
    (hr : ∀ (R : VK), R (.int (g n m)) H → rd (.int n) (.int m) H R) (hf : putF f (.int (g n m)) fs = fs') (q : ∀ H', Wr H H' a (.ins C dx fs') → D.nx σ H') : kAug K f rd (tC (.int m)) D σ (.ref a) H :=
  ⟨a, C, dx, fs, .int n, rfl, h, hc, hn, hk, hr _ ⟨dx, fs, h, Nat.le_of_ble_eq_true hl, by rw [hf]; exact q _ (Wr.mk0 h hi)⟩⟩
theorem r_add {n m : Int} : ∀ (R : VK), R (.int (n + m)) H → rAdd (.int n) (.int m) H R := fun _ q => ⟨n, m, rfl, rfl, q⟩
theorem r_sub {n m : Int} : ∀ (R : VK), R (.int (n - m)) H → rSub (.int n) (.int m) H R := fun _ q => ⟨n, m, rfl, rfl, q⟩
/-! built-ins -/
def rIntI : List V → Hp → VK → Prop := fun xs H Q => (∃ i, xs = [.int i] ∧ Q (.int i) H) ∨ ∃ k, xs = [.bl k] ∧ Q (.int (if k then 1 else 0)) H
theorem s_intI {n : Int} (q : Q (.int n) H) : rIntI [.int n] H Q := .inl ⟨n, rfl, q⟩
theorem s_intB {k : Bool} (q : Q (.int (if k then 1 else 0)) H) : rIntI [.bl k] H Q := .inr ⟨k, rfl, q⟩
def rLenS (K : PySem.W.Frag) : List V → Hp → VK → Prop := fun xs H Q => ∃ p ys, xs = [.ref p] ∧ (SqL K H p ys ∨ SqT K H p ys) ∧ Q (.int ys.length) H
theorem s_lenL (h : SqL K H p xs) (q : Q (.int xs.length) H) : rLenS K [.ref p] H Q := ⟨p, xs, rfl, .inl h, q⟩
theorem s_lenT (h : SqT K H p xs) (q : Q (.int xs.length) H) : rLenS K [.ref p] H Q := ⟨p, xs, rfl, .inr h, q⟩
def rIsN1 : R2 := fun x y H Q => y = .non ∧ Q (.bl (decide (x = .non))) H
def rNotN1 : R2 := fun x y H Q => y = .non ∧ Q (.bl (!decide (x = .non))) H
theorem s_isN (q : Q (.bl (decide (x = .non))) H) : rIsN1 x .non H Q := ⟨rfl, q⟩
theorem s_notN (q : Q (.bl (!decide (x = .non))) H) : rNotN1 x .non H Q := ⟨rfl, q⟩
def rDictD : List V → Hp → VK → Prop := fun xs H Q => ∃ (a : Addr) (kvs : List (Key × V)), xs = [.ref a] ∧ Rd H a (.dK kvs) ∧ ∀ p, H p = none → Q (.ref p) (upd H p (.dK kvs))
theorem s_dictD {kvs : List (Key × V)} (h : H a = some (.dK kvs)) (q : ∀ p H', Al H H' p (.dK kvs) → Q (.ref p) H') : rDictD [.ref a] H Q := ⟨a, kvs, rfl, Rd.of h, fun p hp => q p _ (Al.mk0 hp)⟩
def rTupOf (K : PySem.W.Frag) : List V → Hp → VK → Prop := fun xs H Q => ∃ p ys, xs = [.ref p] ∧ ((SqL K H p ys ∧ ∀ l, H l = none → Q (.ref l) (upd H l (.tup ys))) ∨ (SqT K H p ys ∧ Q (.ref p) H))
theorem s_tupOf (h : SqL K H p xs) (q : ∀ l H', Al H H' l (.tup xs) → Q (.ref l) H') : rTupOf K [.ref p] H Q := ⟨p, xs, rfl, .inl ⟨h, fun l hl => q l _ (Al.mk0 hl)⟩⟩
def rIsI (K : PySem.W.Frag) : List V → Hp → VK → Prop := rIsi K
theorem s_isInt {n : Int} (q : Q (.bl true) H) : rIsI K [.int n, .ty "int"] H Q := ⟨_, _, _, _, true, rfl, .ty "int", .base (.int n), kit_ty (by decide +kernel), q⟩
theorem s_isIntB {n : Int} (q : Q (.bl false) H) : rIsI K [.int n, .ty "bool"] H Q := ⟨_, _, _, _, false, rfl, .ty "bool", .base (.int n), kit_ty (by decide +kernel), q⟩
theorem s_isIntT {n : Int} (q : Q (.bl false) H) : rIsI K [.int n, .ty "tuple"] H Q := ⟨_, _, _, _, false, rfl, .ty "tuple", .base (.int n), kit_ty (by decide +kernel), q⟩
theorem s_isStr {n : Str} (q : Q (.bl true) H) : rIsI K [.str n, .ty "str"] H Q := ⟨_, _, _, _, true, rfl, .ty "str", .base (.str n), kit_ty (by decide +kernel), q⟩
theorem s_isStrT {n : Str} (q : Q (.bl false) H) : rIsI K [.str n, .ty "tuple"] H Q := ⟨_, _, _, _, false, rfl, .ty "tuple", .base (.str n), kit_ty (by decide +kernel), q⟩
theorem s_isTup (h : H p = some (.tup xs)) (q : Q (.bl true) H) : rIsI K [.ref p, .ty "tuple"] H Q := ⟨_, _, _, _, true, rfl, .ty "tuple", .base (.tup h), kit_ty (by decide +kernel), q⟩
theorem s_isTupI (h : H p = some (.tup xs)) (q : Q (.bl false) H) : rIsI K [.ref p, .ty "int"] H Q := ⟨_, _, _, _, false, rfl, .ty "int", .base (.tup h), kit_ty (by decide +kernel), q⟩
theorem s_inT {g : Bool} (h : H p = some (.tup xs)) (h1 : flatV x = true) (h2 : xs.all flatV = true) (q : Q (.bl (if g then !inV x xs else inV x xs)) H) : rIn K g x (.ref p) H Q := ⟨p, xs, rfl, .inr (SqT.of h), h1, h2, q⟩
theorem s_inL {g : Bool} (h : H p = some (.lst xs)) (h1 : flatV x = true) (h2 : xs.all flatV = true) (q : Q (.bl (if g then !inV x xs else inV x xs)) H) : rIn K g x (.ref p) H Q := ⟨p, xs, rfl, .inl (SqL.of h), h1, h2, q⟩
theorem s_inK {g : Bool} (h : ∀ H : Hp, SqT K H p xs) (h1 : flatV x = true) (h2 : xs.all flatV = true) (q : Q (.bl (if g then !inV x xs else inV x xs)) H) : rIn K g x (.ref p) H Q := ⟨p, xs, rfl, .inr (h H), h1, h2, q⟩
theorem s_sl {r : V → Option Int → Option Int → Hp → VK → Prop} {tl th : TO} (q : te σ H fun x H1 => tl σ H1 fun l H2 => th σ H2 fun u H3 => r x l u H3 Q) : tSl r te tl th σ H Q := q
theorem s_noPart {R : Option Int → Hp → Prop} (q : R none H) : tNoPart σ H R := q
def kPart (R : Option Int → Hp → Prop) (x : V) (H : Hp) : Prop := ∃ i, x = .int i ∧ R (some i) H
theorem s_part {R : Option Int → Hp → Prop} (q : te σ H (kPart R)) : tPart te σ H R := q
theorem s_kpart {R : Option Int → Hp → Prop} {n : Int} (q : R (some n) H) : kPart R (.int n) H := ⟨n, rfl, q⟩
theorem s_slT {lo hi : Option Int} (h : SqT K H p xs) (hn : ¬ (HT.sIx xs.length 0 lo = 0 ∧ HT.sIx xs.length xs.length hi = xs.length)) (q : ∀ l H', Al H H' l (.tup (cutV xs lo hi)) → Q (.ref l) H') : rSlT K (.ref p) lo hi H Q := ⟨p, xs, rfl, h, hn, fun l hl => q l _ (Al.mk0 hl)⟩
theorem s_slL {lo hi : Option Int} (h : SqL K H p xs) (q : ∀ l H', Al H H' l (.lst (cutV xs lo hi)) → Q (.ref l) H') : rSlL K (.ref p) lo hi H Q := ⟨p, xs, rfl, h, fun l hl => q l _ (Al.mk0 hl)⟩
theorem s_cat (h : H a = some (.lst xs)) (h2 : H b = some (.lst ys)) (hl : xs.length + ys.length ≤ sizeLine) (q : ∀ l H', Al H H' l (.lst (xs ++ ys)) → Q (.ref l) H') : rCat (.ref a) (.ref b) H Q := ⟨a, b, xs, ys, rfl, rfl, h, h2, hl, fun l hl => q l _ (Al.mk0 hl)⟩
def rAddStr : R2 := fun x y H Q => ∃ i j, x = .str i ∧ y = .str j ∧ i.length + j.length ≤ sizeLine ∧ Q (.str (i ++ j)) H
theorem s_addStr {n m : Str} (h : n.length + m.length ≤ sizeLine) (q : Q (.str (n ++ m)) H) : rAddStr (.str n) (.str m) H Q := ⟨n, m, rfl, rfl, h, q⟩
theorem s_pop (h : H p = some (.lst xs)) (hy : xs[xs.length - 1]? = some y) (q : ∀ H', Wr H H' p (.lst xs.dropLast) → Q y H') : rPop (.ref p) [] H Q := ⟨p, xs, y, rfl, rfl, h, hy, q _ (Wr.mk0 h rfl)⟩
theorem s_bm0L {r : V → List V → Hp → VK → Prop} (h : H p = some (.lst xs)) (q : r (.ref p) [] H Q) : tyV K "list" (.ref p) H ∧ r (.ref p) [] H Q := ⟨tyV_lst h, q⟩
def tTruth (K : PySem.W.Frag) (ta : TE) : TT := fun σ H Q => ta σ H fun x H' => ∃ k, TruV K x H' k ∧ Q k H'
def kTru (K : PySem.W.Frag) (R : Bool → Hp → Prop) (x : V) (H : Hp) : Prop := ∃ k, TruV K x H k ∧ R k H
theorem s_tru {R : Bool → Hp → Prop} (q : te σ H (kTru K R)) : tTruth K te σ H R := q
theorem s_truL {R : Bool → Hp → Prop} (h : H p = some (.lst xs)) (q : R (!xs.isEmpty) H) : kTru K R (.ref p) H := ⟨_, .inl ⟨xs, SqL.of h, rfl⟩, q⟩
theorem s_truT {R : Bool → Hp → Prop} (h : H p = some (.tup xs)) (q : R (!xs.isEmpty) H) : kTru K R (.ref p) H := ⟨_, .inr (.inl ⟨xs, SqT.of h, rfl⟩), q⟩
theorem s_truN {R : Bool → Hp → Prop} (q : R false H) : kTru K R .non H := ⟨_, rfl, q⟩
theorem s_u {g : Int → V} {n : Int} (q : Q (g n) H) : rU g (.int n) H Q := ⟨n, rfl, q⟩
/-! loops -/
def kIL (K : PySem.W.Frag) (R : It → Hp → Prop) (x : V) (H : Hp) : Prop := ∃ a, x = .ref a ∧ (∃ xs, SqL K H a xs) ∧ R (Itl K a) H
def kIT (K : PySem.W.Frag) (R : It → Hp → Prop) (x : V) (H : Hp) : Prop := ∃ a, x = .ref a ∧ (∃ xs, SqT K H a xs) ∧ R (Itt K a) H
theorem s_iL {R : It → Hp → Prop} (q : te σ H (kIL K R)) : iList K te σ H R := q
theorem s_iT {R : It → Hp → Prop} (q : te σ H (kIT K R)) : iTup K te σ H R := q
theorem s_kiL {R : It → Hp → Prop} (h : SqL K H p xs) (q : R (Itl K p) H) : kIL K R (.ref p) H := ⟨p, rfl, ⟨xs, h⟩, q⟩
theorem s_kiT {R : It → Hp → Prop} (h : SqT K H p xs) (q : R (Itt K p) H) : kIT K R (.ref p) H := ⟨p, rfl, ⟨xs, h⟩, q⟩
def kFor (g : TG) (tb : TS) (D : Ends) (σ : St) (J : It) (H1 : Hp) : Prop := ∃ W : Nat → Nat → St → Hp → Prop, (∃ m, W 0 m σ H1) ∧ ∀ i m σ H, W i m σ H →
  (J.stop i H ∧ D.nx σ H) ∨ (J.go i H ∧ ∃ N : St → Hp → Prop, (∀ σ' H', N σ' H' → ∃ m', m' < m ∧ W (i + 1) m' σ' H') ∧ ∀ x H', J.yld i H x H' → g x σ H' fun σ2 H2 => tb { D with nx := N, ct := N, bk := D.nx } σ2 H2)
theorem s_for {wi : TI} {g : TG} {tb : TS} (q : wi σ H fun J H1 => kFor g tb D σ J H1) : tFor wi g tb D σ H := q
theorem s_forL {g : TG} {tb : TS} (Pv : Nat → St → Hp → Prop) (h0 : Pv 0 σ H) (hl : ∀ i σ H, i ≤ xs.length → Pv i σ H → SqL K H p xs)
    (hs : ∀ i x σ H, xs[i]? = some x → Pv i σ H → g x σ H fun σ2 H2 => tb { D with nx := Pv (i + 1), ct := Pv (i + 1), bk := D.nx } σ2 H2) (hd : ∀ σ H, Pv xs.length σ H → D.nx σ H) : kFor g tb D σ (Itl K p) H := for_list Pv h0 hl hs hd
theorem s_forT {g : TG} {tb : TS} (Pv : Nat → St → Hp → Prop) (h0 : Pv 0 σ H) (hl : ∀ i σ H, i ≤ xs.length → Pv i σ H → SqT K H p xs)
    (hs : ∀ i x σ H, xs[i]? = some x → Pv i σ H → g x σ H fun σ2 H2 => tb { D with nx := Pv (i + 1), ct := Pv (i + 1), bk := D.nx } σ2 H2) (hd : ∀ σ H, Pv xs.length σ H → D.nx σ H) : kFor g tb D σ (Itt K p) H := for_tup Pv h0 hl hs hd
theorem s_forR {g : TG} {tb : TS} {lo : Int} {n : Nat} (Pv : Nat → St → Hp → Prop) (h0 : Pv 0 σ H)
    (hs : ∀ i σ H, i < n → Pv i σ H → g (.int (lo + i)) σ H fun σ2 H2 => tb { D with nx := Pv (i + 1), ct := Pv (i + 1), bk := D.nx } σ2 H2) (hd : ∀ σ H, Pv n σ H → D.nx σ H) : kFor g tb D σ (Itr lo n) H := for_range Pv h0 hs hd
theorem s_gName {R : St → Hp → Prop} (q : R (σ.set i (some v)) H) : gName i v σ H R := q
def kLc (g : TG) (tt : TT) (te : TE) (vs : List Nat) (σ : St) (Q : VK) (J : It) (H1 : Hp) : Prop := ∀ D, H1 D = none → ∃ W : Nat → Nat → Hp → Prop, (∃ m, W 0 m (upd H1 D (.lst []))) ∧ ∀ i m H, W i m H →
  (J.stop i H ∧ Q (.ref D) H) ∨ (J.go i H ∧ ∃ Nx : Hp → Prop, (∀ H', Nx H' → ∃ m', m' < m ∧ W (i + 1) m' H') ∧ ∀ x H', J.yld i H x H' → g x (wipe σ vs) H' fun σ2 H2 => wipe σ2 vs = wipe σ vs ∧ tt σ2 H2 fun b H3 =>
    if b = true then te σ2 H3 fun y H4 => ∃ acc, H4 D = some (.lst acc) ∧ acc.length < sizeLine ∧ Nx (upd H4 D (.lst (acc ++ [y]))) else Nx H3)
theorem s_lc {wi : TI} {g : TG} {tt : TT} {vs : List Nat} (q : wi σ H fun J H1 => kLc g tt te vs σ Q J H1) : tLc wi g tt te vs σ H Q := q
def kApp (D : Addr) (N : Hp → Prop) (y : V) (H : Hp) : Prop := ∃ acc, H D = some (.lst acc) ∧ acc.length < sizeLine ∧ N (upd H D (.lst (acc ++ [y])))
theorem s_kapp {N : Hp → Prop} (h : H p = some (.lst xs)) (l : xs.length < sizeLine) (q : ∀ H', Wr H H' p (.lst (xs ++ [y])) → N H') : kApp p N y H := ⟨xs, h, l, q _ (Wr.mk0 h rfl)⟩
def kLcT (tt : TT) (te : TE) (vs : List Nat) (σ : St) (D : Addr) (N : Hp → Prop) (σ2 : St) (H2 : Hp) : Prop := wipe σ2 vs = wipe σ vs ∧ tt σ2 H2 fun b H3 => if b = true then te σ2 H3 (kApp D N) else N H3
theorem s_klct {tt : TT} {vs : List Nat} {N : Hp → Prop} {σ2 : St} (h : wipe σ2 vs = wipe σ vs) (q : tt σ2 H fun b H3 => if b = true then te σ2 H3 (kApp p N) else N H3) : kLcT tt te vs σ p N σ2 H := ⟨h, q⟩
theorem s_yes {R : Bool → Hp → Prop} (q : R true H) : tYes σ H R := q
theorem s_klcL {g : TG} {tt : TT} {vs : List Nat} (Pv : Addr → Nat → Hp → Prop) (h0 : ∀ D H', Al H H' D (.lst []) → Pv D 0 H') (hl : ∀ D i H, i ≤ xs.length → Pv D i H → SqL K H p xs)
    (hs : ∀ D i x H, xs[i]? = some x → Pv D i H → g x (wipe σ vs) H (kLcT tt te vs σ D (Pv D (i + 1)))) (hd : ∀ D H, Pv D xs.length H → Q (.ref D) H) : kLc g tt te vs σ Q (Itl K p) H := fun D hD =>
  lc_list (H1 := H) (D := D) (Pv D) (h0 D _ (Al.mk0 hD)) (hl D) (fun i x H hx hp => hs D i x H hx hp) (hd D)
theorem s_klcT {g : TG} {tt : TT} {vs : List Nat} (Pv : Addr → Nat → Hp → Prop) (h0 : ∀ D H', Al H H' D (.lst []) → Pv D 0 H') (hl : ∀ D i H, i ≤ xs.length → Pv D i H → SqT K H p xs)
    (hs : ∀ D i x H, xs[i]? = some x → Pv D i H → g x (wipe σ vs) H (kLcT tt te vs σ D (Pv D (i + 1)))) (hd : ∀ D H, Pv D xs.length H → Q (.ref D) H) : kLc g tt te vs σ Q (Itt K p) H := fun D hD =>
  lc_tup (H1 := H) (D := D) (Pv D) (h0 D _ (Al.mk0 hD)) (hl D) (fun i x H hx hp => hs D i x H hx hp) (hd D)
/-! loops over written tuples, turn by turn -/
def WFt (K : PySem.W.Frag) (p : Addr) (xs : List V) (g : TG) (tb : TS) (D : Ends) : List V → St → Hp → Prop
  | [], σ, H => D.nx σ H
  | x :: r, σ, H => g x σ H fun σ2 H2 => tb { D with nx := fun σ' H' => SqT K H' p xs ∧ WFt K p xs g tb D r σ' H', ct := fun σ' H' => SqT K H' p xs ∧ WFt K p xs g tb D r σ' H', bk := D.nx } σ2 H2
theorem s_wfn {g : TG} {tb : TS} (q : D.nx σ H) : WFt K p xs g tb D [] σ H := q
theorem s_wfc {g : TG} {tb : TS} {r : List V} (q : g x σ H fun σ2 H2 => tb { D with nx := fun σ' H' => SqT K H' p xs ∧ WFt K p xs g tb D r σ' H', ct := fun σ' H' => SqT K H' p xs ∧ WFt K p xs g tb D r σ' H', bk := D.nx } σ2 H2) : WFt K p xs g tb D (x :: r) σ H := q
theorem s_forTu {g : TG} {tb : TS} (h : SqT K H p xs) (q : WFt K p xs g tb D xs σ H) : kFor g tb D σ (Itt K p) H := by
  refine for_tup (fun i σ H => SqT K H p xs ∧ WFt K p xs g tb D (xs.drop i) σ H) ⟨h, by rw [List.drop_zero]; exact q⟩ (fun _ _ _ _ a => a.1) (fun i x σ H hx a => ?_) (fun σ H a => ?_)
  · obtain ⟨hi, e⟩ := List.getElem?_eq_some_iff.mp hx
    have q2 := a.2
    rw [List.drop_eq_getElem_cons hi, e] at q2
    exact q2
  · have q2 := a.2
    rw [List.drop_length] at q2
    exact q2
theorem s_wfa {g : TG} {tb : TS} {r : List V} (h : SqT K H p xs) (q : WFt K p xs g tb D r σ H) : SqT K H p xs ∧ WFt K p xs g tb D r σ H := ⟨h, q⟩
/-- the same for a comprehension -/
def WCt (K : PySem.W.Frag) (p : Addr) (xs : List V) (g : TG) (tt : TT) (te : TE) (vs : List Nat) (σ : St) (Q : VK) (D : Addr) : List V → Hp → Prop
  | [], H => Q (.ref D) H
  | x :: r, H => g x (wipe σ vs) H (kLcT tt te vs σ D fun H' => SqT K H' p xs ∧ WCt K p xs g tt te vs σ Q D r H')
theorem s_wcn {g : TG} {tt : TT} {vs : List Nat} {D : Addr} (q : Q (.ref D) H) : WCt K p xs g tt te vs σ Q D [] H := q
theorem s_wcc {g : TG} {tt : TT} {vs : List Nat} {D : Addr} {r : List V} (q : g x (wipe σ vs) H (kLcT tt te vs σ D fun H' => SqT K H' p xs ∧ WCt K p xs g tt te vs σ Q D r H')) : WCt K p xs g tt te vs σ Q D (x :: r) H := q
theorem s_wca {g : TG} {tt : TT} {vs : List Nat} {D : Addr} {r : List V} (h : SqT K H p xs) (q : WCt K p xs g tt te vs σ Q D r H) : SqT K H p xs ∧ WCt K p xs g tt te vs σ Q D r H := ⟨h, q⟩
theorem s_klcTu {g : TG} {tt : TT} {vs : List Nat} (h : SqT K H p xs) (q : ∀ D H', Al H H' D (.lst []) → WCt K p xs g tt te vs σ Q D xs H') : kLc g tt te vs σ Q (Itt K p) H := by
  intro D hD
  have al : Al H (upd H D (.lst [])) D (.lst []) := Al.mk0 hD
  refine lc_tup (H1 := H) (D := D) (fun i H => SqT K H p xs ∧ WCt K p xs g tt te vs σ Q D (xs.drop i) H) ⟨?_, by rw [List.drop_zero]; exact q D _ al⟩ (fun _ _ _ a => a.1) (fun i x H hx a => ?_) (fun H a => ?_)
  · rcases h with (h | ⟨o, h⟩) | h
    · exact .inl (.inl (al.sm _ _ h))
    · exact .inl (.inr ⟨o, al.sm _ _ h⟩)
    · exact .inr h
  · obtain ⟨hi, e⟩ := List.getElem?_eq_some_iff.mp hx
    have q2 := a.2
    rw [List.drop_eq_getElem_cons hi, e] at q2
    exact q2
  · have q2 := a.2
    rw [List.drop_length] at q2
    exact q2
/-! a new dict, filled at once -/
def kDPut (D : Ends) (σ : St) (v x y : V) (H : Hp) : Prop := ∃ a H4, x = .ref a ∧ DPut H a y v H4 ∧ D.nx σ H4
theorem s_sdput (q : tv σ H fun v H1 => td σ H1 fun x H2 => ty σ H2 fun y H3 => kDPut D σ v x y H3) : sDPut td ty tv D σ H := q
theorem s_kdputA {H0 : Hp} {kvs : List (Key × V)} {z : Str} (al : Al H0 H a (.dK kvs)) (l : kvs.length < sizeLine) (q : ∀ H', Al H0 H' a (.dK (putK kvs (.inr z) v)) → D.nx σ H') : kDPut D σ v (.ref a) (.str z) H :=
  ⟨a, _, rfl, DPut.k (k := Sum.inr z) al.at_ l, q _ ⟨al.nw, upd_same, fun b u e => by rw [upd_ne (ne_of_none e al.nw)]; exact al.sm _ _ e⟩⟩
/-! names of a dict -/
def kDGet (Q : VK) (x y : V) (H : Hp) : Prop := ∃ a v, x = .ref a ∧ DGet H a y (some v) ∧ Q v H
theorem s_tdget (q : td σ H fun x H1 => ty σ H1 fun y H2 => kDGet Q x y H2) : tDGet td ty σ H Q := q
theorem s_kdgetK {kvs : List (Key × V)} {z : Str} (h : H a = some (.dK kvs)) (e : valV kvs (.inr z) = some v) (q : Q v H) : kDGet Q (.ref a) (.str z) H := ⟨a, v, rfl, by rw [← e]; exact DGet.k (k := Sum.inr z) h, q⟩
def rIntS : List V → Hp → VK → Prop := fun xs H Q => ∃ i, xs = [.int i] ∧ i.natAbs.log2 < 1920 ∧ Q (.str (toString i)) H
theorem s_intS {n : Int} (h : n.natAbs.log2 < 1920) (q : Q (.str (toString n)) H) : rIntS [.int n] H Q := ⟨n, rfl, h, q⟩
theorem six1 (n : Nat) (d : Nat) : HT.sIx (n + 1) d (some 1) = 1 := by
  have e := HT.sIx_nat (n + 1) d 1
  rw [show ((1 : Nat) : Int) = 1 from rfl] at e
  rw [e]
  omega
theorem cut1 (x : V) (r : List V) : cutV (x :: r) (some 1) none = r := by
  unfold cutV
  rw [List.length_cons, six1, HT.sIx_none, List.drop_succ_cons, List.drop_zero, Nat.add_sub_cancel]
  exact List.take_length
theorem s_slT1 {r : List V} (h : SqT K H p (x :: r)) (q : ∀ l H', Al H H' l (.tup r) → Q (.ref l) H') : rSlT K (.ref p) (some 1) none H Q :=
  s_slT h (fun ⟨e, _⟩ => by rw [List.length_cons, six1] at e; cases e) fun l H' a => q l H' (by rw [cut1] at a; exact a)
theorem EAt.tup {v : V} {e : E} (h : EAt H v e) : ∃ p xs, v = .ref p ∧ H p = some (.tup xs) := by
  cases h <;> exact ⟨_, _, rfl, by assumption⟩
theorem s_isE {e : E} (h : EAt H v e) (q : Q (.bl true) H) : rIsI K [v, .ty "tuple"] H Q := by
  obtain ⟨p, xs, rfl, hp⟩ := h.tup
  exact s_isTup hp q
theorem at0 {r : List V} : atI (x :: r) 0 = some x := by
  have e := atI_nat (xs := x :: r) (j := 0) (v := x) rfl
  exact e
end
section
variable {X : Cx}
theorem call_intI : CallR X (.type "int") rIntI := call_int1
theorem call_lenS : CallR X (.builtin "len") (rLenS X.K) := call_len_seq
theorem op_isN1 : OpR X (compareOp .Is) rIsN1 := op_isN
theorem op_notN1 : OpR X (compareOp .IsNot) rNotN1 := op_notN
theorem call_strI : CallR X (.type "str") rIntS := call_str_int
theorem call_dictD1 : CallR X (.type "dict") rDictD := call_dictD
theorem call_tupleOf1 : CallR X (.type "tuple") (rTupOf X.K) := call_tuple_of
theorem call_isI : CallR X (.builtin "isinstance") (rIsI X.K) := call_isi
theorem pt_truth1 {a : Expr} {ta : TE} (ha : PE X a ta) (he : ∀ whole, isTrue a X.env whole = (do let v ← whole; standAt a.pos; holding [v] (truthy v))) : PT X a (tTruth X.K ta) := pt_truth ha he
theorem op_addStr : OpR X (binaryOp .Add) rAddStr := op_add_str
end
end Zg
/-! ## Zdefs -/
set_option Elab.async false
set_option linter.all false
set_option maxRecDepth 100000
set_option maxHeartbeats 4000000
namespace Zg
open PySem PySem.Spec PyProof.Rows L2
/-! ### facts of the top -/
def clsN0 : List Str := ["Setting", "Tower", "Numbering", "Collapser", "Node", "Scope", "Place", "Judge"]
def clsN : List Str := clsN0
def attN0 : List (Str × Str) := [("Setting", "level"), ("Setting", "names"), ("Setting", "about"), ("Tower", "e"), ("Tower", "setting"), ("Tower", "built_in"), ("Tower", "fuel"), ("Tower", "rules"), ("Tower", "waiting"), ("Tower", "outputs"), ("Tower", "end"), ("Numbering", "many"), ("Numbering", "rules"), ("Collapser", "rules"), ("Collapser", "many"), ("Collapser", "nodes")]
def attN1 : List (Str × Str) := [("Node", "kind"), ("Node", "e"), ("Node", "level"), ("Node", "inner"), ("Node", "number"), ("Node", "mark"), ("Scope", "name"), ("Scope", "what"), ("Scope", "around"), ("Place", "node"), ("Place", "names"), ("Place", "about"), ("Judge", "left"), ("Judge", "seen"), ("Judge", "many"), ("Judge", "known")]
def attN2 : List (Str × Str) := [("Judge", "changes")]
def attN : List (Str × Str) := attN0 ++ attN1 ++ attN2
def metN0 : List (Str × Str) := [("Setting", "__init__"), ("Setting", "with_name"), ("Tower", "__init__"), ("Tower", "run"), ("Tower", "go"), ("Tower", "go_built_in"), ("Tower", "step"), ("Tower", "stick"), ("Tower", "begin"), ("Tower", "change_or_ask"), ("Tower", "resume"), ("Tower", "put_back"), ("Tower", "bind_let"), ("Tower", "gathered"), ("Tower", "decide"), ("Tower", "operate")]
def metN1 : List (Str × Str) := [("Tower", "enter"), ("Numbering", "__init__"), ("Numbering", "expression"), ("Collapser", "__init__"), ("Collapser", "fresh"), ("Collapser", "node"), ("Collapser", "expression"), ("Collapser", "parts"), ("Collapser", "usual"), ("Node", "__init__"), ("Scope", "__init__"), ("Place", "__init__"), ("Place", "at"), ("Place", "bound"), ("Judge", "__init__"), ("Judge", "number")]
def metN2 : List (Str × Str) := [("Judge", "run"), ("Judge", "due"), ("Judge", "rules_for"), ("Judge", "fits"), ("Judge", "plainly"), ("Judge", "bound")]
def metN : List (Str × Str) := metN0 ++ metN1 ++ metN2
def gloN0 : List Str := ["parts_of_tower", "shown", "run", "with_name", "collapse", "is_integer", "inner_of", "nodes_of", "inner_plain", "is_plain", "found_in", "is_collapse", "inner", "plain_size", "_law_start", "_law_fill"]
def gloN1 : List Str := ["_law_take", "_law_kinds", "_law_parts", "_law_names", "_law_free", "_law_integer", "_law_leaf", "_law_inner", "_law_depth", "_law_size", "_law_with", "_law_noted", "_law_new", "_law_made", "_law_plain", "_law_collapsed"]
def gloN2 : List Str := ["_law_identity", "_law_level", "_law_plainly", "law", "Setting", "Tower", "Numbering", "Collapser", "Node", "Scope", "Place", "Judge"]
def gloN : List Str := gloN0 ++ gloN1 ++ gloN2
def freN0 : List Str := ["int", "len", "range", "isinstance", "tuple", "str", "any", "max", "sum", "dict", "enumerate", "bool", "sorted", "list"]
def freN : List Str := freN0
class Tx (w : outParam World) (K : PySem.W.Frag) (mg : outParam (Str → Option Value)) : Prop where
  cls : ∀ n, n ∈ clsN → Cls K (He.ga K n)
  mkr : ∀ n, n ∈ clsN → Mk K (He.ga K n) (He.ma K (He.ga K n) "__init__")
  na : ∀ n f, (n, f) ∈ attN → NoAttr K (He.ga K n) f
  me : ∀ n m, (n, m) ∈ metN → Meth K (He.ga K n) m (He.ma K (He.ga K n) m)
  gl : ∀ x, x ∈ gloN → mg x = some (.ref (He.ga K x))
  fr : ∀ x, x ∈ freN → mg x = none
  most : ∃ t, mg "MOST_NODES" = some (.int 20000 t)
  ex : ex K = true
  tabS : mg "SHAPES" = some (.ref (He.ga K "SHAPES")) ∧ ∃ es n, KDict K w (He.ga K "SHAPES") es n
  tabP : mg "PARTS" = some (.ref (He.ga K "PARTS")) ∧ ∃ es n, KDict K w (He.ga K "PARTS") es n
  chg : mg "CHANGEABLE" = some (.ref (He.ga K "CHANGEABLE"))
  kc : mg "KINDS_collapsing" = some (.ref (He.ga K "KINDS_collapsing"))
  kf : mg "KINDS_forms" = some (.ref (He.ga K "KINDS_forms"))
section
variable {w : World} {K : PySem.W.Frag} {mg : Str → Option Value}
theorem CF.cls [T : Tx w K mg] {n : Str} (h : n ∈ clsN) : Cls K (He.ga K n) := T.cls n h
theorem CF.mk [T : Tx w K mg] {n : Str} (h : n ∈ clsN) : Mk K (He.ga K n) (He.ma K (He.ga K n) "__init__") := T.mkr n h
theorem CF.na [T : Tx w K mg] {n f : Str} (h : (n, f) ∈ attN) : NoAttr K (He.ga K n) f := T.na n f h
theorem CF.me [T : Tx w K mg] {n m : Str} (h : (n, m) ∈ metN) : Meth K (He.ga K n) m (He.ma K (He.ga K n) m) := T.me n m h
end
/-! ### a def as it stands behind the top; what it promises -/
def Dd (K : PySem.W.Frag) (d : He.DefD) : Prop := ∃ fd, FunD K d.name d.qual d.params d.body d.scope [] [] (He.fAd K d.at_) fd
structure Ok (P : Program) (w : World) (K : PySem.W.Frag) (mg : Str → Option Value) (base : Heap) (k : Nat) (d : He.DefD) (ps : List Str) (sp : Sp) : Prop where
  ex : ∃ fd, FnOk P w K mg base CX0 k (He.fAd K d.at_) fd ps sp ∧ Binds K fd ps []
  kp : PySem.W.keepIn K (.ref (He.fAd K d.at_)) = true
theorem Ok.mono {P : Program} {w : World} {K : PySem.W.Frag} {mg : Str → Option Value} {base : Heap} {j k : Nat} {d : He.DefD} {ps : List Str} {sp : Sp} (h : Ok P w K mg base j d ps sp) (l : j ≤ k) : Ok P w K mg base k d ps sp :=
  ⟨let ⟨fd, F, b⟩ := h.ex; ⟨fd, F.mono l, b⟩, h.kp⟩
theorem Ok.imp {P : Program} {w : World} {K : PySem.W.Frag} {mg : Str → Option Value} {base : Heap} {k : Nat} {d : He.DefD} {ps : List Str} {sp sp' : Sp} (h : Ok P w K mg base k d ps sp) (l : ∀ vs H Q E, sp' vs H Q E → sp vs H Q E) : Ok P w K mg base k d ps sp' :=
  ⟨let ⟨fd, F, b⟩ := h.ex; ⟨fd, F.imp l, b⟩, h.kp⟩
theorem ok_mk {P : Program} {w : World} {K : PySem.W.Frag} {mg : Str → Option Value} {base : Heap} {k : Nat} {d : He.DefD} {N ps : List Str} {sp : Sp} (h : Dd K d) (S : FnScope N ps d.scope)
    (bnd : ∀ (kV doc pm : Value) (an : Option Addr) (cdv ct : Value) (us : List Value), us.length = ps.length → bindArgs (PySem.W.fnOf d.name d.qual d.params d.body d.scope .none kV doc pm an cdv ct) ⟨us, []⟩ = pure (ps.zip us))
    (len : ∀ vs H Q E, sp vs H Q E → vs.length = ps.length)
    (hbody : ∀ (cdv : Value) (A : Around) (outer : List Env) (s : Shared) (H : Hp) (vs : List V) (Q : VK) (E : XK), Room k (A.deeper (envOfC d.qual d.scope s.heap.objs.size (He.fAd K d.at_) cdv)) → sp vs H Q E →
      ∃ t, PSs (cxOf CX0 P w K mg base N d.qual d.scope (He.fAd K d.at_) cdv A outer s H E).nox d.body t ∧ t { nx := fun _ H' => Q .non H', rt := Q } (start N vs) H) : Ok P w K mg base (k + 1) d ps sp := by
  obtain ⟨fd, F⟩ := h
  refine ⟨⟨fd, F.ok S len fun cdv A outer s H vs Q E hr hsp => ?_, F.bindsN bnd⟩, F.kp⟩
  obtain ⟨t, ht, hq⟩ := hbody cdv A outer s H vs Q E hr hsp
  exact ⟨t, PSs.nox ht, hq⟩
/-! ### scopes, bindings -/
theorem sc_parts_of : FnScope ["e"] ["e"] (defScope s_parts_of) := ⟨rfl, rfl, rfl, by decide +kernel, rfl, by decide +kernel, by decide +kernel⟩
theorem bd_parts_of (kV doc pm : Value) (an : Option Addr) (cdv ct : Value) (us : List Value) (hl : us.length = (["e"] : List Str).length) : bindArgs (PySem.W.fnOf d_parts_of.name d_parts_of.qual d_parts_of.params d_parts_of.body d_parts_of.scope .none kV doc pm an cdv ct) ⟨us, []⟩ = pure ((["e"] : List Str).zip us) := match us, hl with | [_], _ => rfl
theorem sc_shown : FnScope ["value"] ["value"] (defScope s_shown) := ⟨rfl, rfl, rfl, by decide +kernel, rfl, by decide +kernel, by decide +kernel⟩
theorem bd_shown (kV doc pm : Value) (an : Option Addr) (cdv ct : Value) (us : List Value) (hl : us.length = (["value"] : List Str).length) : bindArgs (PySem.W.fnOf d_shown.name d_shown.qual d_shown.params d_shown.body d_shown.scope .none kV doc pm an cdv ct) ⟨us, []⟩ = pure ((["value"] : List Str).zip us) := match us, hl with | [_], _ => rfl
theorem sc_Setting_init : FnScope ["self", "level", "names", "about"] ["self", "level", "names", "about"] (defScope s_Setting_init) := ⟨rfl, rfl, rfl, by decide +kernel, rfl, by decide +kernel, by decide +kernel⟩
theorem bd_Setting_init (kV doc pm : Value) (an : Option Addr) (cdv ct : Value) (us : List Value) (hl : us.length = (["self", "level", "names", "about"] : List Str).length) : bindArgs (PySem.W.fnOf d_Setting_init.name d_Setting_init.qual d_Setting_init.params d_Setting_init.body d_Setting_init.scope .none kV doc pm an cdv ct) ⟨us, []⟩ = pure ((["self", "level", "names", "about"] : List Str).zip us) := match us, hl with | [_, _, _, _], _ => rfl
theorem sc_Setting_with_name : FnScope ["self", "x", "value", "names"] ["self", "x", "value"] (defScope s_Setting_with_name) := ⟨rfl, rfl, rfl, by decide +kernel, rfl, by decide +kernel, by decide +kernel⟩
theorem bd_Setting_with_name (kV doc pm : Value) (an : Option Addr) (cdv ct : Value) (us : List Value) (hl : us.length = (["self", "x", "value"] : List Str).length) : bindArgs (PySem.W.fnOf d_Setting_with_name.name d_Setting_with_name.qual d_Setting_with_name.params d_Setting_with_name.body d_Setting_with_name.scope .none kV doc pm an cdv ct) ⟨us, []⟩ = pure ((["self", "x", "value"] : List Str).zip us) := match us, hl with | [_, _, _], _ => rfl
theorem sc_Tower_init : FnScope ["self", "program", "fuel"] ["self", "program", "fuel"] (defScope s_Tower_init) := ⟨rfl, rfl, rfl, by decide +kernel, rfl, by decide +kernel, by decide +kernel⟩
theorem bd_Tower_init (kV doc pm : Value) (an : Option Addr) (cdv ct : Value) (us : List Value) (hl : us.length = (["self", "program", "fuel"] : List Str).length) : bindArgs (PySem.W.fnOf d_Tower_init.name d_Tower_init.qual d_Tower_init.params d_Tower_init.body d_Tower_init.scope .none kV doc pm an cdv ct) ⟨us, []⟩ = pure ((["self", "program", "fuel"] : List Str).zip us) := match us, hl with | [_, _, _], _ => rfl
theorem sc_Tower_run : FnScope ["self", "value"] ["self"] (defScope s_Tower_run) := ⟨rfl, rfl, rfl, by decide +kernel, rfl, by decide +kernel, by decide +kernel⟩
theorem bd_Tower_run (kV doc pm : Value) (an : Option Addr) (cdv ct : Value) (us : List Value) (hl : us.length = (["self"] : List Str).length) : bindArgs (PySem.W.fnOf d_Tower_run.name d_Tower_run.qual d_Tower_run.params d_Tower_run.body d_Tower_run.scope .none kV doc pm an cdv ct) ⟨us, []⟩ = pure ((["self"] : List Str).zip us) := match us, hl with | [_], _ => rfl
theorem sc_Tower_go : FnScope ["self", "e", "setting"] ["self", "e", "setting"] (defScope s_Tower_go) := ⟨rfl, rfl, rfl, by decide +kernel, rfl, by decide +kernel, by decide +kernel⟩
theorem bd_Tower_go (kV doc pm : Value) (an : Option Addr) (cdv ct : Value) (us : List Value) (hl : us.length = (["self", "e", "setting"] : List Str).length) : bindArgs (PySem.W.fnOf d_Tower_go.name d_Tower_go.qual d_Tower_go.params d_Tower_go.body d_Tower_go.scope .none kV doc pm an cdv ct) ⟨us, []⟩ = pure ((["self", "e", "setting"] : List Str).zip us) := match us, hl with | [_, _, _], _ => rfl
theorem sc_Tower_go_built_in : FnScope ["self", "e", "setting"] ["self", "e", "setting"] (defScope s_Tower_go_built_in) := ⟨rfl, rfl, rfl, by decide +kernel, rfl, by decide +kernel, by decide +kernel⟩
theorem bd_Tower_go_built_in (kV doc pm : Value) (an : Option Addr) (cdv ct : Value) (us : List Value) (hl : us.length = (["self", "e", "setting"] : List Str).length) : bindArgs (PySem.W.fnOf d_Tower_go_built_in.name d_Tower_go_built_in.qual d_Tower_go_built_in.params d_Tower_go_built_in.body d_Tower_go_built_in.scope .none kV doc pm an cdv ct) ⟨us, []⟩ = pure ((["self", "e", "setting"] : List Str).zip us) := match us, hl with | [_, _, _], _ => rfl
theorem sc_Tower_step : FnScope ["self"] ["self"] (defScope s_Tower_step) := ⟨rfl, rfl, rfl, by decide +kernel, rfl, by decide +kernel, by decide +kernel⟩
theorem bd_Tower_step (kV doc pm : Value) (an : Option Addr) (cdv ct : Value) (us : List Value) (hl : us.length = (["self"] : List Str).length) : bindArgs (PySem.W.fnOf d_Tower_step.name d_Tower_step.qual d_Tower_step.params d_Tower_step.body d_Tower_step.scope .none kV doc pm an cdv ct) ⟨us, []⟩ = pure ((["self"] : List Str).zip us) := match us, hl with | [_], _ => rfl
theorem sc_Tower_stick : FnScope ["self", "level"] ["self", "level"] (defScope s_Tower_stick) := ⟨rfl, rfl, rfl, by decide +kernel, rfl, by decide +kernel, by decide +kernel⟩
theorem bd_Tower_stick (kV doc pm : Value) (an : Option Addr) (cdv ct : Value) (us : List Value) (hl : us.length = (["self", "level"] : List Str).length) : bindArgs (PySem.W.fnOf d_Tower_stick.name d_Tower_stick.qual d_Tower_stick.params d_Tower_stick.body d_Tower_stick.scope .none kV doc pm an cdv ct) ⟨us, []⟩ = pure ((["self", "level"] : List Str).zip us) := match us, hl with | [_, _], _ => rfl
theorem sc_Tower_begin : FnScope ["self", "e", "setting", "rule"] ["self"] (defScope s_Tower_begin) := ⟨rfl, rfl, rfl, by decide +kernel, rfl, by decide +kernel, by decide +kernel⟩
theorem bd_Tower_begin (kV doc pm : Value) (an : Option Addr) (cdv ct : Value) (us : List Value) (hl : us.length = (["self"] : List Str).length) : bindArgs (PySem.W.fnOf d_Tower_begin.name d_Tower_begin.qual d_Tower_begin.params d_Tower_begin.body d_Tower_begin.scope .none kV doc pm an cdv ct) ⟨us, []⟩ = pure ((["self"] : List Str).zip us) := match us, hl with | [_], _ => rfl
theorem sc_Tower_change_or_ask : FnScope ["self", "e", "setting", "kind", "place", "other", "below"] ["self", "e", "setting"] (defScope s_Tower_change_or_ask) := ⟨rfl, rfl, rfl, by decide +kernel, rfl, by decide +kernel, by decide +kernel⟩
theorem bd_Tower_change_or_ask (kV doc pm : Value) (an : Option Addr) (cdv ct : Value) (us : List Value) (hl : us.length = (["self", "e", "setting"] : List Str).length) : bindArgs (PySem.W.fnOf d_Tower_change_or_ask.name d_Tower_change_or_ask.qual d_Tower_change_or_ask.params d_Tower_change_or_ask.body d_Tower_change_or_ask.scope .none kV doc pm an cdv ct) ⟨us, []⟩ = pure ((["self", "e", "setting"] : List Str).zip us) := match us, hl with | [_, _, _], _ => rfl
theorem sc_Tower_resume : FnScope ["self", "value", "frame", "kind", "e", "setting"] ["self", "value"] (defScope s_Tower_resume) := ⟨rfl, rfl, rfl, by decide +kernel, rfl, by decide +kernel, by decide +kernel⟩
theorem bd_Tower_resume (kV doc pm : Value) (an : Option Addr) (cdv ct : Value) (us : List Value) (hl : us.length = (["self", "value"] : List Str).length) : bindArgs (PySem.W.fnOf d_Tower_resume.name d_Tower_resume.qual d_Tower_resume.params d_Tower_resume.body d_Tower_resume.scope .none kV doc pm an cdv ct) ⟨us, []⟩ = pure ((["self", "value"] : List Str).zip us) := match us, hl with | [_, _], _ => rfl
theorem sc_Tower_put_back : FnScope ["self", "place", "rule"] ["self", "place", "rule"] (defScope s_Tower_put_back) := ⟨rfl, rfl, rfl, by decide +kernel, rfl, by decide +kernel, by decide +kernel⟩
theorem bd_Tower_put_back (kV doc pm : Value) (an : Option Addr) (cdv ct : Value) (us : List Value) (hl : us.length = (["self", "place", "rule"] : List Str).length) : bindArgs (PySem.W.fnOf d_Tower_put_back.name d_Tower_put_back.qual d_Tower_put_back.params d_Tower_put_back.body d_Tower_put_back.scope .none kV doc pm an cdv ct) ⟨us, []⟩ = pure ((["self", "place", "rule"] : List Str).zip us) := match us, hl with | [_, _, _], _ => rfl
theorem sc_Tower_bind_let : FnScope ["self", "about", "value", "other", "below"] ["self", "about", "value"] (defScope s_Tower_bind_let) := ⟨rfl, rfl, rfl, by decide +kernel, rfl, by decide +kernel, by decide +kernel⟩
theorem bd_Tower_bind_let (kV doc pm : Value) (an : Option Addr) (cdv ct : Value) (us : List Value) (hl : us.length = (["self", "about", "value"] : List Str).length) : bindArgs (PySem.W.fnOf d_Tower_bind_let.name d_Tower_bind_let.qual d_Tower_bind_let.params d_Tower_bind_let.body d_Tower_bind_let.scope .none kV doc pm an cdv ct) ⟨us, []⟩ = pure ((["self", "about", "value"] : List Str).zip us) := match us, hl with | [_, _, _], _ => rfl
theorem sc_Tower_gathered : FnScope ["self", "e", "setting", "values", "other", "below"] ["self", "e", "setting", "values"] (defScope s_Tower_gathered) := ⟨rfl, rfl, rfl, by decide +kernel, rfl, by decide +kernel, by decide +kernel⟩
theorem bd_Tower_gathered (kV doc pm : Value) (an : Option Addr) (cdv ct : Value) (us : List Value) (hl : us.length = (["self", "e", "setting", "values"] : List Str).length) : bindArgs (PySem.W.fnOf d_Tower_gathered.name d_Tower_gathered.qual d_Tower_gathered.params d_Tower_gathered.body d_Tower_gathered.scope .none kV doc pm an cdv ct) ⟨us, []⟩ = pure ((["self", "e", "setting", "values"] : List Str).zip us) := match us, hl with | [_, _, _, _], _ => rfl
theorem sc_Tower_decide : FnScope ["self", "e", "setting", "value"] ["self", "e", "setting", "value"] (defScope s_Tower_decide) := ⟨rfl, rfl, rfl, by decide +kernel, rfl, by decide +kernel, by decide +kernel⟩
theorem bd_Tower_decide (kV doc pm : Value) (an : Option Addr) (cdv ct : Value) (us : List Value) (hl : us.length = (["self", "e", "setting", "value"] : List Str).length) : bindArgs (PySem.W.fnOf d_Tower_decide.name d_Tower_decide.qual d_Tower_decide.params d_Tower_decide.body d_Tower_decide.scope .none kV doc pm an cdv ct) ⟨us, []⟩ = pure ((["self", "e", "setting", "value"] : List Str).zip us) := match us, hl with | [_, _, _, _], _ => rfl
theorem sc_Tower_operate : FnScope ["self", "kind", "level", "values", "first", "second"] ["self", "kind", "level", "values"] (defScope s_Tower_operate) := ⟨rfl, rfl, rfl, by decide +kernel, rfl, by decide +kernel, by decide +kernel⟩
theorem bd_Tower_operate (kV doc pm : Value) (an : Option Addr) (cdv ct : Value) (us : List Value) (hl : us.length = (["self", "kind", "level", "values"] : List Str).length) : bindArgs (PySem.W.fnOf d_Tower_operate.name d_Tower_operate.qual d_Tower_operate.params d_Tower_operate.body d_Tower_operate.scope .none kV doc pm an cdv ct) ⟨us, []⟩ = pure ((["self", "kind", "level", "values"] : List Str).zip us) := match us, hl with | [_, _, _, _], _ => rfl
theorem sc_Tower_enter : FnScope ["self", "level", "function", "argument"] ["self", "level", "function", "argument"] (defScope s_Tower_enter) := ⟨rfl, rfl, rfl, by decide +kernel, rfl, by decide +kernel, by decide +kernel⟩
theorem bd_Tower_enter (kV doc pm : Value) (an : Option Addr) (cdv ct : Value) (us : List Value) (hl : us.length = (["self", "level", "function", "argument"] : List Str).length) : bindArgs (PySem.W.fnOf d_Tower_enter.name d_Tower_enter.qual d_Tower_enter.params d_Tower_enter.body d_Tower_enter.scope .none kV doc pm an cdv ct) ⟨us, []⟩ = pure ((["self", "level", "function", "argument"] : List Str).zip us) := match us, hl with | [_, _, _, _], _ => rfl
theorem sc_run : FnScope ["program", "fuel", "tower"] ["program", "fuel"] (defScope s_run) := ⟨rfl, rfl, rfl, by decide +kernel, rfl, by decide +kernel, by decide +kernel⟩
theorem bd_run (kV doc pm : Value) (an : Option Addr) (cdv ct : Value) (us : List Value) (hl : us.length = (["program", "fuel"] : List Str).length) : bindArgs (PySem.W.fnOf d_run.name d_run.qual d_run.params d_run.body d_run.scope .none kV doc pm an cdv ct) ⟨us, []⟩ = pure ((["program", "fuel"] : List Str).zip us) := match us, hl with | [_, _], _ => rfl
theorem sc_Numbering_init : FnScope ["self"] ["self"] (defScope s_Numbering_init) := ⟨rfl, rfl, rfl, by decide +kernel, rfl, by decide +kernel, by decide +kernel⟩
theorem bd_Numbering_init (kV doc pm : Value) (an : Option Addr) (cdv ct : Value) (us : List Value) (hl : us.length = (["self"] : List Str).length) : bindArgs (PySem.W.fnOf d_Numbering_init.name d_Numbering_init.qual d_Numbering_init.params d_Numbering_init.body d_Numbering_init.scope .none kV doc pm an cdv ct) ⟨us, []⟩ = pure ((["self"] : List Str).zip us) := match us, hl with | [_], _ => rfl
theorem sc_Numbering_expression : FnScope ["self", "e", "level", "kind", "number", "rule", "one"] ["self", "e", "level"] (defScope s_Numbering_expression) := ⟨rfl, rfl, rfl, by decide +kernel, rfl, by decide +kernel, by decide +kernel⟩
theorem bd_Numbering_expression (kV doc pm : Value) (an : Option Addr) (cdv ct : Value) (us : List Value) (hl : us.length = (["self", "e", "level"] : List Str).length) : bindArgs (PySem.W.fnOf d_Numbering_expression.name d_Numbering_expression.qual d_Numbering_expression.params d_Numbering_expression.body d_Numbering_expression.scope .none kV doc pm an cdv ct) ⟨us, []⟩ = pure ((["self", "e", "level"] : List Str).zip us) := match us, hl with | [_, _, _], _ => rfl
theorem sc_Collapser_init : FnScope ["self", "rules"] ["self", "rules"] (defScope s_Collapser_init) := ⟨rfl, rfl, rfl, by decide +kernel, rfl, by decide +kernel, by decide +kernel⟩
theorem bd_Collapser_init (kV doc pm : Value) (an : Option Addr) (cdv ct : Value) (us : List Value) (hl : us.length = (["self", "rules"] : List Str).length) : bindArgs (PySem.W.fnOf d_Collapser_init.name d_Collapser_init.qual d_Collapser_init.params d_Collapser_init.body d_Collapser_init.scope .none kV doc pm an cdv ct) ⟨us, []⟩ = pure ((["self", "rules"] : List Str).zip us) := match us, hl with | [_, _], _ => rfl
theorem sc_Collapser_fresh : FnScope ["self", "mark"] ["self", "mark"] (defScope s_Collapser_fresh) := ⟨rfl, rfl, rfl, by decide +kernel, rfl, by decide +kernel, by decide +kernel⟩
theorem bd_Collapser_fresh (kV doc pm : Value) (an : Option Addr) (cdv ct : Value) (us : List Value) (hl : us.length = (["self", "mark"] : List Str).length) : bindArgs (PySem.W.fnOf d_Collapser_fresh.name d_Collapser_fresh.qual d_Collapser_fresh.params d_Collapser_fresh.body d_Collapser_fresh.scope .none kV doc pm an cdv ct) ⟨us, []⟩ = pure ((["self", "mark"] : List Str).zip us) := match us, hl with | [_, _], _ => rfl
theorem sc_Collapser_node : FnScope ["self", "plain"] ["self", "plain"] (defScope s_Collapser_node) := ⟨rfl, rfl, rfl, by decide +kernel, rfl, by decide +kernel, by decide +kernel⟩
theorem bd_Collapser_node (kV doc pm : Value) (an : Option Addr) (cdv ct : Value) (us : List Value) (hl : us.length = (["self", "plain"] : List Str).length) : bindArgs (PySem.W.fnOf d_Collapser_node.name d_Collapser_node.qual d_Collapser_node.params d_Collapser_node.body d_Collapser_node.scope .none kV doc pm an cdv ct) ⟨us, []⟩ = pure ((["self", "plain"] : List Str).zip us) := match us, hl with | [_, _], _ => rfl
theorem sc_Collapser_expression : FnScope ["self", "e", "level", "names", "about", "kind", "own", "delays", "index", "place", "branches", "number", "rule", "last", "found", "name", "delayed"] ["self", "e", "level", "names", "about"] (defScope s_Collapser_expression) := ⟨rfl, rfl, rfl, by decide +kernel, rfl, by decide +kernel, by decide +kernel⟩
theorem bd_Collapser_expression (kV doc pm : Value) (an : Option Addr) (cdv ct : Value) (us : List Value) (hl : us.length = (["self", "e", "level", "names", "about"] : List Str).length) : bindArgs (PySem.W.fnOf d_Collapser_expression.name d_Collapser_expression.qual d_Collapser_expression.params d_Collapser_expression.body d_Collapser_expression.scope .none kV doc pm an cdv ct) ⟨us, []⟩ = pure ((["self", "e", "level", "names", "about"] : List Str).zip us) := match us, hl with | [_, _, _, _, _], _ => rfl
theorem sc_Collapser_parts : FnScope ["self", "e", "level", "names", "about", "delayed", "found", "index", "place"] ["self", "e", "level", "names", "about", "delayed"] (defScope s_Collapser_parts) := ⟨rfl, rfl, rfl, by decide +kernel, rfl, by decide +kernel, by decide +kernel⟩
theorem bd_Collapser_parts (kV doc pm : Value) (an : Option Addr) (cdv ct : Value) (us : List Value) (hl : us.length = (["self", "e", "level", "names", "about", "delayed"] : List Str).length) : bindArgs (PySem.W.fnOf d_Collapser_parts.name d_Collapser_parts.qual d_Collapser_parts.params d_Collapser_parts.body d_Collapser_parts.scope .none kV doc pm an cdv ct) ⟨us, []⟩ = pure ((["self", "e", "level", "names", "about", "delayed"] : List Str).zip us) := match us, hl with | [_, _, _, _, _, _], _ => rfl
theorem sc_Collapser_usual : FnScope ["self", "e", "level", "names", "about", "delayed", "kind", "x", "body", "first"] ["self", "e", "level", "names", "about", "delayed"] (defScope s_Collapser_usual) := ⟨rfl, rfl, rfl, by decide +kernel, rfl, by decide +kernel, by decide +kernel⟩
theorem bd_Collapser_usual (kV doc pm : Value) (an : Option Addr) (cdv ct : Value) (us : List Value) (hl : us.length = (["self", "e", "level", "names", "about", "delayed"] : List Str).length) : bindArgs (PySem.W.fnOf d_Collapser_usual.name d_Collapser_usual.qual d_Collapser_usual.params d_Collapser_usual.body d_Collapser_usual.scope .none kV doc pm an cdv ct) ⟨us, []⟩ = pure ((["self", "e", "level", "names", "about", "delayed"] : List Str).zip us) := match us, hl with | [_, _, _, _, _, _], _ => rfl
theorem sc_with_name : FnScope ["names", "x", "other", "found"] ["names", "x", "other"] (defScope s_with_name) := ⟨rfl, rfl, rfl, by decide +kernel, rfl, by decide +kernel, by decide +kernel⟩
theorem bd_with_name (kV doc pm : Value) (an : Option Addr) (cdv ct : Value) (us : List Value) (hl : us.length = (["names", "x", "other"] : List Str).length) : bindArgs (PySem.W.fnOf d_with_name.name d_with_name.qual d_with_name.params d_with_name.body d_with_name.scope .none kV doc pm an cdv ct) ⟨us, []⟩ = pure ((["names", "x", "other"] : List Str).zip us) := match us, hl with | [_, _, _], _ => rfl
theorem sc_collapse : FnScope ["program", "numbering", "numbered"] ["program"] (defScope s_collapse) := ⟨rfl, rfl, rfl, by decide +kernel, rfl, by decide +kernel, by decide +kernel⟩
theorem bd_collapse (kV doc pm : Value) (an : Option Addr) (cdv ct : Value) (us : List Value) (hl : us.length = (["program"] : List Str).length) : bindArgs (PySem.W.fnOf d_collapse.name d_collapse.qual d_collapse.params d_collapse.body d_collapse.scope .none kV doc pm an cdv ct) ⟨us, []⟩ = pure ((["program"] : List Str).zip us) := match us, hl with | [_], _ => rfl
theorem sc_is_integer : FnScope ["value"] ["value"] (defScope s_is_integer) := ⟨rfl, rfl, rfl, by decide +kernel, rfl, by decide +kernel, by decide +kernel⟩
theorem bd_is_integer (kV doc pm : Value) (an : Option Addr) (cdv ct : Value) (us : List Value) (hl : us.length = (["value"] : List Str).length) : bindArgs (PySem.W.fnOf d_is_integer.name d_is_integer.qual d_is_integer.params d_is_integer.body d_is_integer.scope .none kV doc pm an cdv ct) ⟨us, []⟩ = pure ((["value"] : List Str).zip us) := match us, hl with | [_], _ => rfl
theorem sc_Node_init : FnScope ["self", "e", "level"] ["self", "e", "level"] (defScope s_Node_init) := ⟨rfl, rfl, rfl, by decide +kernel, rfl, by decide +kernel, by decide +kernel⟩
theorem bd_Node_init (kV doc pm : Value) (an : Option Addr) (cdv ct : Value) (us : List Value) (hl : us.length = (["self", "e", "level"] : List Str).length) : bindArgs (PySem.W.fnOf d_Node_init.name d_Node_init.qual d_Node_init.params d_Node_init.body d_Node_init.scope .none kV doc pm an cdv ct) ⟨us, []⟩ = pure ((["self", "e", "level"] : List Str).zip us) := match us, hl with | [_, _, _], _ => rfl
theorem sc_inner_of : FnScope ["e", "level", "kind", "part"] ["e", "level"] (defScope s_inner_of) := ⟨rfl, rfl, rfl, by decide +kernel, rfl, by decide +kernel, by decide +kernel⟩
theorem bd_inner_of (kV doc pm : Value) (an : Option Addr) (cdv ct : Value) (us : List Value) (hl : us.length = (["e", "level"] : List Str).length) : bindArgs (PySem.W.fnOf d_inner_of.name d_inner_of.qual d_inner_of.params d_inner_of.body d_inner_of.scope .none kV doc pm an cdv ct) ⟨us, []⟩ = pure ((["e", "level"] : List Str).zip us) := match us, hl with | [_, _], _ => rfl
theorem sc_nodes_of : FnScope ["program", "root", "changes", "count", "marks", "left", "node", "place", "e", "level"] ["program"] (defScope s_nodes_of) := ⟨rfl, rfl, rfl, by decide +kernel, rfl, by decide +kernel, by decide +kernel⟩
theorem bd_nodes_of (kV doc pm : Value) (an : Option Addr) (cdv ct : Value) (us : List Value) (hl : us.length = (["program"] : List Str).length) : bindArgs (PySem.W.fnOf d_nodes_of.name d_nodes_of.qual d_nodes_of.params d_nodes_of.body d_nodes_of.scope .none kV doc pm an cdv ct) ⟨us, []⟩ = pure ((["program"] : List Str).zip us) := match us, hl with | [_], _ => rfl
theorem sc_inner_plain : FnScope ["q", "shape", "found", "k", "sign", "value", "branch"] ["q"] (defScope s_inner_plain) := ⟨rfl, rfl, rfl, by decide +kernel, rfl, by decide +kernel, by decide +kernel⟩
theorem bd_inner_plain (kV doc pm : Value) (an : Option Addr) (cdv ct : Value) (us : List Value) (hl : us.length = (["q"] : List Str).length) : bindArgs (PySem.W.fnOf d_inner_plain.name d_inner_plain.qual d_inner_plain.params d_inner_plain.body d_inner_plain.scope .none kV doc pm an cdv ct) ⟨us, []⟩ = pure ((["q"] : List Str).zip us) := match us, hl with | [_], _ => rfl
theorem sc_is_plain : FnScope ["plain", "left", "found"] ["plain"] (defScope s_is_plain) := ⟨rfl, rfl, rfl, by decide +kernel, rfl, by decide +kernel, by decide +kernel⟩
theorem bd_is_plain (kV doc pm : Value) (an : Option Addr) (cdv ct : Value) (us : List Value) (hl : us.length = (["plain"] : List Str).length) : bindArgs (PySem.W.fnOf d_is_plain.name d_is_plain.qual d_is_plain.params d_is_plain.body d_is_plain.scope .none kV doc pm an cdv ct) ⟨us, []⟩ = pure ((["plain"] : List Str).zip us) := match us, hl with | [_], _ => rfl
theorem sc_Scope_init : FnScope ["self", "name", "what", "around"] ["self", "name", "what", "around"] (defScope s_Scope_init) := ⟨rfl, rfl, rfl, by decide +kernel, rfl, by decide +kernel, by decide +kernel⟩
theorem bd_Scope_init (kV doc pm : Value) (an : Option Addr) (cdv ct : Value) (us : List Value) (hl : us.length = (["self", "name", "what", "around"] : List Str).length) : bindArgs (PySem.W.fnOf d_Scope_init.name d_Scope_init.qual d_Scope_init.params d_Scope_init.body d_Scope_init.scope .none kV doc pm an cdv ct) ⟨us, []⟩ = pure ((["self", "name", "what", "around"] : List Str).zip us) := match us, hl with | [_, _, _, _], _ => rfl
theorem sc_found_in : FnScope ["scope", "name"] ["scope", "name"] (defScope s_found_in) := ⟨rfl, rfl, rfl, by decide +kernel, rfl, by decide +kernel, by decide +kernel⟩
theorem bd_found_in (kV doc pm : Value) (an : Option Addr) (cdv ct : Value) (us : List Value) (hl : us.length = (["scope", "name"] : List Str).length) : bindArgs (PySem.W.fnOf d_found_in.name d_found_in.qual d_found_in.params d_found_in.body d_found_in.scope .none kV doc pm an cdv ct) ⟨us, []⟩ = pure ((["scope", "name"] : List Str).zip us) := match us, hl with | [_, _], _ => rfl
theorem sc_Place_init : FnScope ["self", "node", "names", "about"] ["self", "node", "names", "about"] (defScope s_Place_init) := ⟨rfl, rfl, rfl, by decide +kernel, rfl, by decide +kernel, by decide +kernel⟩
theorem bd_Place_init (kV doc pm : Value) (an : Option Addr) (cdv ct : Value) (us : List Value) (hl : us.length = (["self", "node", "names", "about"] : List Str).length) : bindArgs (PySem.W.fnOf d_Place_init.name d_Place_init.qual d_Place_init.params d_Place_init.body d_Place_init.scope .none kV doc pm an cdv ct) ⟨us, []⟩ = pure ((["self", "node", "names", "about"] : List Str).zip us) := match us, hl with | [_, _, _, _], _ => rfl
theorem sc_Place_at : FnScope ["self", "node"] ["self", "node"] (defScope s_Place_at) := ⟨rfl, rfl, rfl, by decide +kernel, rfl, by decide +kernel, by decide +kernel⟩
theorem bd_Place_at (kV doc pm : Value) (an : Option Addr) (cdv ct : Value) (us : List Value) (hl : us.length = (["self", "node"] : List Str).length) : bindArgs (PySem.W.fnOf d_Place_at.name d_Place_at.qual d_Place_at.params d_Place_at.body d_Place_at.scope .none kV doc pm an cdv ct) ⟨us, []⟩ = pure ((["self", "node"] : List Str).zip us) := match us, hl with | [_, _], _ => rfl
theorem sc_Place_bound : FnScope ["self", "node", "x", "number", "names"] ["self", "node", "x", "number"] (defScope s_Place_bound) := ⟨rfl, rfl, rfl, by decide +kernel, rfl, by decide +kernel, by decide +kernel⟩
theorem bd_Place_bound (kV doc pm : Value) (an : Option Addr) (cdv ct : Value) (us : List Value) (hl : us.length = (["self", "node", "x", "number"] : List Str).length) : bindArgs (PySem.W.fnOf d_Place_bound.name d_Place_bound.qual d_Place_bound.params d_Place_bound.body d_Place_bound.scope .none kV doc pm an cdv ct) ⟨us, []⟩ = pure ((["self", "node", "x", "number"] : List Str).zip us) := match us, hl with | [_, _, _, _], _ => rfl
theorem sc_Judge_init : FnScope ["self", "program", "plain", "root"] ["self", "program", "plain"] (defScope s_Judge_init) := ⟨rfl, rfl, rfl, by decide +kernel, rfl, by decide +kernel, by decide +kernel⟩
theorem bd_Judge_init (kV doc pm : Value) (an : Option Addr) (cdv ct : Value) (us : List Value) (hl : us.length = (["self", "program", "plain"] : List Str).length) : bindArgs (PySem.W.fnOf d_Judge_init.name d_Judge_init.qual d_Judge_init.params d_Judge_init.body d_Judge_init.scope .none kV doc pm an cdv ct) ⟨us, []⟩ = pure ((["self", "program", "plain"] : List Str).zip us) := match us, hl with | [_, _, _], _ => rfl
theorem sc_Judge_number : FnScope ["self"] ["self"] (defScope s_Judge_number) := ⟨rfl, rfl, rfl, by decide +kernel, rfl, by decide +kernel, by decide +kernel⟩
theorem bd_Judge_number (kV doc pm : Value) (an : Option Addr) (cdv ct : Value) (us : List Value) (hl : us.length = (["self"] : List Str).length) : bindArgs (PySem.W.fnOf d_Judge_number.name d_Judge_number.qual d_Judge_number.params d_Judge_number.body d_Judge_number.scope .none kV doc pm an cdv ct) ⟨us, []⟩ = pure ((["self"] : List Str).zip us) := match us, hl with | [_], _ => rfl
theorem sc_Judge_run : FnScope ["self"] ["self"] (defScope s_Judge_run) := ⟨rfl, rfl, rfl, by decide +kernel, rfl, by decide +kernel, by decide +kernel⟩
theorem bd_Judge_run (kV doc pm : Value) (an : Option Addr) (cdv ct : Value) (us : List Value) (hl : us.length = (["self"] : List Str).length) : bindArgs (PySem.W.fnOf d_Judge_run.name d_Judge_run.qual d_Judge_run.params d_Judge_run.body d_Judge_run.scope .none kV doc pm an cdv ct) ⟨us, []⟩ = pure ((["self"] : List Str).zip us) := match us, hl with | [_], _ => rfl
theorem sc_Judge_due : FnScope ["self", "q", "place", "built_in", "names", "delays"] ["self", "q", "place", "built_in", "names", "delays"] (defScope s_Judge_due) := ⟨rfl, rfl, rfl, by decide +kernel, rfl, by decide +kernel, by decide +kernel⟩
theorem bd_Judge_due (kV doc pm : Value) (an : Option Addr) (cdv ct : Value) (us : List Value) (hl : us.length = (["self", "q", "place", "built_in", "names", "delays"] : List Str).length) : bindArgs (PySem.W.fnOf d_Judge_due.name d_Judge_due.qual d_Judge_due.params d_Judge_due.body d_Judge_due.scope .none kV doc pm an cdv ct) ⟨us, []⟩ = pure ((["self", "q", "place", "built_in", "names", "delays"] : List Str).zip us) := match us, hl with | [_, _, _, _, _, _], _ => rfl
theorem sc_Judge_rules_for : FnScope ["self", "node"] ["self", "node"] (defScope s_Judge_rules_for) := ⟨rfl, rfl, rfl, by decide +kernel, rfl, by decide +kernel, by decide +kernel⟩
theorem bd_Judge_rules_for (kV doc pm : Value) (an : Option Addr) (cdv ct : Value) (us : List Value) (hl : us.length = (["self", "node"] : List Str).length) : bindArgs (PySem.W.fnOf d_Judge_rules_for.name d_Judge_rules_for.qual d_Judge_rules_for.params d_Judge_rules_for.body d_Judge_rules_for.scope .none kV doc pm an cdv ct) ⟨us, []⟩ = pure ((["self", "node"] : List Str).zip us) := match us, hl with | [_, _], _ => rfl
theorem sc_Judge_fits : FnScope ["self", "pair", "q", "place", "built_in", "names", "delays", "rules"] ["self", "pair"] (defScope s_Judge_fits) := ⟨rfl, rfl, rfl, by decide +kernel, rfl, by decide +kernel, by decide +kernel⟩
theorem bd_Judge_fits (kV doc pm : Value) (an : Option Addr) (cdv ct : Value) (us : List Value) (hl : us.length = (["self", "pair"] : List Str).length) : bindArgs (PySem.W.fnOf d_Judge_fits.name d_Judge_fits.qual d_Judge_fits.params d_Judge_fits.body d_Judge_fits.scope .none kV doc pm an cdv ct) ⟨us, []⟩ = pure ((["self", "pair"] : List Str).zip us) := match us, hl with | [_, _], _ => rfl
theorem sc_Judge_plainly : FnScope ["self", "q", "place", "names", "delays", "node", "kind", "scope", "k", "part"] ["self", "q", "place", "names", "delays"] (defScope s_Judge_plainly) := ⟨rfl, rfl, rfl, by decide +kernel, rfl, by decide +kernel, by decide +kernel⟩
theorem bd_Judge_plainly (kV doc pm : Value) (an : Option Addr) (cdv ct : Value) (us : List Value) (hl : us.length = (["self", "q", "place", "names", "delays"] : List Str).length) : bindArgs (PySem.W.fnOf d_Judge_plainly.name d_Judge_plainly.qual d_Judge_plainly.params d_Judge_plainly.body d_Judge_plainly.scope .none kV doc pm an cdv ct) ⟨us, []⟩ = pure ((["self", "q", "place", "names", "delays"] : List Str).zip us) := match us, hl with | [_, _, _, _, _], _ => rfl
theorem sc_Judge_bound : FnScope ["self", "y", "q", "place", "node", "names", "delays", "number"] ["self", "y", "q", "place", "node", "names", "delays"] (defScope s_Judge_bound) := ⟨rfl, rfl, rfl, by decide +kernel, rfl, by decide +kernel, by decide +kernel⟩
theorem bd_Judge_bound (kV doc pm : Value) (an : Option Addr) (cdv ct : Value) (us : List Value) (hl : us.length = (["self", "y", "q", "place", "node", "names", "delays"] : List Str).length) : bindArgs (PySem.W.fnOf d_Judge_bound.name d_Judge_bound.qual d_Judge_bound.params d_Judge_bound.body d_Judge_bound.scope .none kV doc pm an cdv ct) ⟨us, []⟩ = pure ((["self", "y", "q", "place", "node", "names", "delays"] : List Str).zip us) := match us, hl with | [_, _, _, _, _, _, _], _ => rfl
theorem sc_is_collapse : FnScope ["program", "plain"] ["program", "plain"] (defScope s_is_collapse) := ⟨rfl, rfl, rfl, by decide +kernel, rfl, by decide +kernel, by decide +kernel⟩
theorem bd_is_collapse (kV doc pm : Value) (an : Option Addr) (cdv ct : Value) (us : List Value) (hl : us.length = (["program", "plain"] : List Str).length) : bindArgs (PySem.W.fnOf d_is_collapse.name d_is_collapse.qual d_is_collapse.params d_is_collapse.body d_is_collapse.scope .none kV doc pm an cdv ct) ⟨us, []⟩ = pure ((["program", "plain"] : List Str).zip us) := match us, hl with | [_, _], _ => rfl
theorem sc_inner : FnScope ["e", "kind", "_", "branch"] ["e"] (defScope s_inner) := ⟨rfl, rfl, rfl, by decide +kernel, rfl, by decide +kernel, by decide +kernel⟩
theorem bd_inner (kV doc pm : Value) (an : Option Addr) (cdv ct : Value) (us : List Value) (hl : us.length = (["e"] : List Str).length) : bindArgs (PySem.W.fnOf d_inner.name d_inner.qual d_inner.params d_inner.body d_inner.scope .none kV doc pm an cdv ct) ⟨us, []⟩ = pure ((["e"] : List Str).zip us) := match us, hl with | [_], _ => rfl
theorem sc_plain_size : FnScope ["plain", "count", "left", "one"] ["plain"] (defScope s_plain_size) := ⟨rfl, rfl, rfl, by decide +kernel, rfl, by decide +kernel, by decide +kernel⟩
theorem bd_plain_size (kV doc pm : Value) (an : Option Addr) (cdv ct : Value) (us : List Value) (hl : us.length = (["plain"] : List Str).length) : bindArgs (PySem.W.fnOf d_plain_size.name d_plain_size.qual d_plain_size.params d_plain_size.body d_plain_size.scope .none kV doc pm an cdv ct) ⟨us, []⟩ = pure ((["plain"] : List Str).zip us) := match us, hl with | [_], _ => rfl
theorem sc_law_start : FnScope ["_law_script", "_law_cell"] ["_law_script"] (defScope s_law_start) := ⟨rfl, rfl, rfl, by decide +kernel, rfl, by decide +kernel, by decide +kernel⟩
theorem bd_law_start (kV doc pm : Value) (an : Option Addr) (cdv ct : Value) (us : List Value) (hl : us.length = (["_law_script"] : List Str).length) : bindArgs (PySem.W.fnOf d_law_start.name d_law_start.qual d_law_start.params d_law_start.body d_law_start.scope .none kV doc pm an cdv ct) ⟨us, []⟩ = pure ((["_law_script"] : List Str).zip us) := match us, hl with | [_], _ => rfl
theorem sc_law_fill : FnScope ["_law_c", "_law_number"] ["_law_c"] (defScope s_law_fill) := ⟨rfl, rfl, rfl, by decide +kernel, rfl, by decide +kernel, by decide +kernel⟩
theorem bd_law_fill (kV doc pm : Value) (an : Option Addr) (cdv ct : Value) (us : List Value) (hl : us.length = (["_law_c"] : List Str).length) : bindArgs (PySem.W.fnOf d_law_fill.name d_law_fill.qual d_law_fill.params d_law_fill.body d_law_fill.scope .none kV doc pm an cdv ct) ⟨us, []⟩ = pure ((["_law_c"] : List Str).zip us) := match us, hl with | [_], _ => rfl
theorem sc_law_take : FnScope ["_law_c", "_law_many", "_law_digit"] ["_law_c", "_law_many"] (defScope s_law_take) := ⟨rfl, rfl, rfl, by decide +kernel, rfl, by decide +kernel, by decide +kernel⟩
theorem bd_law_take (kV doc pm : Value) (an : Option Addr) (cdv ct : Value) (us : List Value) (hl : us.length = (["_law_c", "_law_many"] : List Str).length) : bindArgs (PySem.W.fnOf d_law_take.name d_law_take.qual d_law_take.params d_law_take.body d_law_take.scope .none kV doc pm an cdv ct) ⟨us, []⟩ = pure ((["_law_c", "_law_many"] : List Str).zip us) := match us, hl with | [_, _], _ => rfl
theorem sc_law_kinds : FnScope [] [] (defScope s_law_kinds) := ⟨rfl, rfl, rfl, by decide +kernel, rfl, by decide +kernel, by decide +kernel⟩
theorem bd_law_kinds (kV doc pm : Value) (an : Option Addr) (cdv ct : Value) (us : List Value) (hl : us.length = ([] : List Str).length) : bindArgs (PySem.W.fnOf d_law_kinds.name d_law_kinds.qual d_law_kinds.params d_law_kinds.body d_law_kinds.scope .none kV doc pm an cdv ct) ⟨us, []⟩ = pure (([] : List Str).zip us) := match us, hl with | [], _ => rfl
theorem sc_law_parts : FnScope ["_law_kind"] ["_law_kind"] (defScope s_law_parts) := ⟨rfl, rfl, rfl, by decide +kernel, rfl, by decide +kernel, by decide +kernel⟩
theorem bd_law_parts (kV doc pm : Value) (an : Option Addr) (cdv ct : Value) (us : List Value) (hl : us.length = (["_law_kind"] : List Str).length) : bindArgs (PySem.W.fnOf d_law_parts.name d_law_parts.qual d_law_parts.params d_law_parts.body d_law_parts.scope .none kV doc pm an cdv ct) ⟨us, []⟩ = pure ((["_law_kind"] : List Str).zip us) := match us, hl with | [_], _ => rfl
theorem sc_law_names : FnScope ["_law_c", "_law_signs", "_law_stem", "_law_k", "_law_start_here", "_law_step", "_law_found", "_law_name"] ["_law_c"] (defScope s_law_names) := ⟨rfl, rfl, rfl, by decide +kernel, rfl, by decide +kernel, by decide +kernel⟩
theorem bd_law_names (kV doc pm : Value) (an : Option Addr) (cdv ct : Value) (us : List Value) (hl : us.length = (["_law_c"] : List Str).length) : bindArgs (PySem.W.fnOf d_law_names.name d_law_names.qual d_law_names.params d_law_names.body d_law_names.scope .none kV doc pm an cdv ct) ⟨us, []⟩ = pure ((["_law_c"] : List Str).zip us) := match us, hl with | [_], _ => rfl
theorem sc_law_free : FnScope ["_law_name"] ["_law_name"] (defScope s_law_free) := ⟨rfl, rfl, rfl, by decide +kernel, rfl, by decide +kernel, by decide +kernel⟩
theorem bd_law_free (kV doc pm : Value) (an : Option Addr) (cdv ct : Value) (us : List Value) (hl : us.length = (["_law_name"] : List Str).length) : bindArgs (PySem.W.fnOf d_law_free.name d_law_free.qual d_law_free.params d_law_free.body d_law_free.scope .none kV doc pm an cdv ct) ⟨us, []⟩ = pure ((["_law_name"] : List Str).zip us) := match us, hl with | [_], _ => rfl
theorem sc_law_integer : FnScope ["_law_c"] ["_law_c"] (defScope s_law_integer) := ⟨rfl, rfl, rfl, by decide +kernel, rfl, by decide +kernel, by decide +kernel⟩
theorem bd_law_integer (kV doc pm : Value) (an : Option Addr) (cdv ct : Value) (us : List Value) (hl : us.length = (["_law_c"] : List Str).length) : bindArgs (PySem.W.fnOf d_law_integer.name d_law_integer.qual d_law_integer.params d_law_integer.body d_law_integer.scope .none kV doc pm an cdv ct) ⟨us, []⟩ = pure ((["_law_c"] : List Str).zip us) := match us, hl with | [_], _ => rfl
theorem sc_law_leaf : FnScope ["_law_c", "_law_names_here", "_law_about", "_law_k"] ["_law_c", "_law_names_here", "_law_about"] (defScope s_law_leaf) := ⟨rfl, rfl, rfl, by decide +kernel, rfl, by decide +kernel, by decide +kernel⟩
theorem bd_law_leaf (kV doc pm : Value) (an : Option Addr) (cdv ct : Value) (us : List Value) (hl : us.length = (["_law_c", "_law_names_here", "_law_about"] : List Str).length) : bindArgs (PySem.W.fnOf d_law_leaf.name d_law_leaf.qual d_law_leaf.params d_law_leaf.body d_law_leaf.scope .none kV doc pm an cdv ct) ⟨us, []⟩ = pure ((["_law_c", "_law_names_here", "_law_about"] : List Str).zip us) := match us, hl with | [_, _, _], _ => rfl
theorem sc_law_inner : FnScope ["_law_e", "_law_part"] ["_law_e"] (defScope s_law_inner) := ⟨rfl, rfl, rfl, by decide +kernel, rfl, by decide +kernel, by decide +kernel⟩
theorem bd_law_inner (kV doc pm : Value) (an : Option Addr) (cdv ct : Value) (us : List Value) (hl : us.length = (["_law_e"] : List Str).length) : bindArgs (PySem.W.fnOf d_law_inner.name d_law_inner.qual d_law_inner.params d_law_inner.body d_law_inner.scope .none kV doc pm an cdv ct) ⟨us, []⟩ = pure ((["_law_e"] : List Str).zip us) := match us, hl with | [_], _ => rfl
theorem sc_law_depth : FnScope ["_law_e", "_law_part"] ["_law_e"] (defScope s_law_depth) := ⟨rfl, rfl, rfl, by decide +kernel, rfl, by decide +kernel, by decide +kernel⟩
theorem bd_law_depth (kV doc pm : Value) (an : Option Addr) (cdv ct : Value) (us : List Value) (hl : us.length = (["_law_e"] : List Str).length) : bindArgs (PySem.W.fnOf d_law_depth.name d_law_depth.qual d_law_depth.params d_law_depth.body d_law_depth.scope .none kV doc pm an cdv ct) ⟨us, []⟩ = pure ((["_law_e"] : List Str).zip us) := match us, hl with | [_], _ => rfl
theorem sc_law_size : FnScope ["_law_e", "_law_part"] ["_law_e"] (defScope s_law_size) := ⟨rfl, rfl, rfl, by decide +kernel, rfl, by decide +kernel, by decide +kernel⟩
theorem bd_law_size (kV doc pm : Value) (an : Option Addr) (cdv ct : Value) (us : List Value) (hl : us.length = (["_law_e"] : List Str).length) : bindArgs (PySem.W.fnOf d_law_size.name d_law_size.qual d_law_size.params d_law_size.body d_law_size.scope .none kV doc pm an cdv ct) ⟨us, []⟩ = pure ((["_law_e"] : List Str).zip us) := match us, hl with | [_], _ => rfl
theorem sc_law_with : FnScope ["_law_env", "_law_x", "_law_value", "_law_made_here"] ["_law_env", "_law_x", "_law_value"] (defScope s_law_with) := ⟨rfl, rfl, rfl, by decide +kernel, rfl, by decide +kernel, by decide +kernel⟩
theorem bd_law_with (kV doc pm : Value) (an : Option Addr) (cdv ct : Value) (us : List Value) (hl : us.length = (["_law_env", "_law_x", "_law_value"] : List Str).length) : bindArgs (PySem.W.fnOf d_law_with.name d_law_with.qual d_law_with.params d_law_with.body d_law_with.scope .none kV doc pm an cdv ct) ⟨us, []⟩ = pure ((["_law_env", "_law_x", "_law_value"] : List Str).zip us) := match us, hl with | [_, _, _], _ => rfl
theorem sc_law_noted : FnScope ["_law_e", "_law_k", "_law_rules", "_law_number", "_law_rule_here", "_law_part", "_law_parts_here"] ["_law_e", "_law_k", "_law_rules"] (defScope s_law_noted) := ⟨rfl, rfl, rfl, by decide +kernel, rfl, by decide +kernel, by decide +kernel⟩
theorem bd_law_noted (kV doc pm : Value) (an : Option Addr) (cdv ct : Value) (us : List Value) (hl : us.length = (["_law_e", "_law_k", "_law_rules"] : List Str).length) : bindArgs (PySem.W.fnOf d_law_noted.name d_law_noted.qual d_law_noted.params d_law_noted.body d_law_noted.scope .none kV doc pm an cdv ct) ⟨us, []⟩ = pure ((["_law_e", "_law_k", "_law_rules"] : List Str).zip us) := match us, hl with | [_, _, _], _ => rfl
theorem sc_law_new : FnScope ["_law_box"] ["_law_box"] (defScope s_law_new) := ⟨rfl, rfl, rfl, by decide +kernel, rfl, by decide +kernel, by decide +kernel⟩
theorem bd_law_new (kV doc pm : Value) (an : Option Addr) (cdv ct : Value) (us : List Value) (hl : us.length = (["_law_box"] : List Str).length) : bindArgs (PySem.W.fnOf d_law_new.name d_law_new.qual d_law_new.params d_law_new.body d_law_new.scope .none kV doc pm an cdv ct) ⟨us, []⟩ = pure ((["_law_box"] : List Str).zip us) := match us, hl with | [_], _ => rfl
theorem sc_law_made : FnScope ["_law_e", "_law_k", "_law_env", "_law_about", "_law_rules", "_law_box", "_law_one", "_law_names_here", "_law_outer", "_law_table", "_law_told", "_law_y", "_law_a", "_law_own", "_law_plain_here", "_law_j", "_law_part", "_law_row"] ["_law_e", "_law_k", "_law_env", "_law_about", "_law_rules", "_law_box"] (defScope s_law_made) := ⟨rfl, rfl, rfl, by decide +kernel, rfl, by decide +kernel, by decide +kernel⟩
theorem bd_law_made (kV doc pm : Value) (an : Option Addr) (cdv ct : Value) (us : List Value) (hl : us.length = (["_law_e", "_law_k", "_law_env", "_law_about", "_law_rules", "_law_box"] : List Str).length) : bindArgs (PySem.W.fnOf d_law_made.name d_law_made.qual d_law_made.params d_law_made.body d_law_made.scope .none kV doc pm an cdv ct) ⟨us, []⟩ = pure ((["_law_e", "_law_k", "_law_env", "_law_about", "_law_rules", "_law_box"] : List Str).zip us) := match us, hl with | [_, _, _, _, _, _], _ => rfl
theorem sc_law_plain : FnScope ["_law_e", "_law_k", "_law_env", "_law_about", "_law_rules", "_law_box", "_law_y", "_law_a", "_law_found", "_law_part"] ["_law_e", "_law_k", "_law_env", "_law_about", "_law_rules", "_law_box"] (defScope s_law_plain) := ⟨rfl, rfl, rfl, by decide +kernel, rfl, by decide +kernel, by decide +kernel⟩
theorem bd_law_plain (kV doc pm : Value) (an : Option Addr) (cdv ct : Value) (us : List Value) (hl : us.length = (["_law_e", "_law_k", "_law_env", "_law_about", "_law_rules", "_law_box"] : List Str).length) : bindArgs (PySem.W.fnOf d_law_plain.name d_law_plain.qual d_law_plain.params d_law_plain.body d_law_plain.scope .none kV doc pm an cdv ct) ⟨us, []⟩ = pure ((["_law_e", "_law_k", "_law_env", "_law_about", "_law_rules", "_law_box"] : List Str).zip us) := match us, hl with | [_, _, _, _, _, _], _ => rfl
theorem sc_law_collapsed : FnScope ["_law_c", "_law_program_here", "_law_most", "_law_delayed", "_law_rules", "_law_noted_here", "_law_box", "_law_plain_here"] ["_law_c", "_law_program_here", "_law_most", "_law_delayed"] (defScope s_law_collapsed) := ⟨rfl, rfl, rfl, by decide +kernel, rfl, by decide +kernel, by decide +kernel⟩
theorem bd_law_collapsed (kV doc pm : Value) (an : Option Addr) (cdv ct : Value) (us : List Value) (hl : us.length = (["_law_c", "_law_program_here", "_law_most", "_law_delayed"] : List Str).length) : bindArgs (PySem.W.fnOf d_law_collapsed.name d_law_collapsed.qual d_law_collapsed.params d_law_collapsed.body d_law_collapsed.scope .none kV doc pm an cdv ct) ⟨us, []⟩ = pure ((["_law_c", "_law_program_here", "_law_most", "_law_delayed"] : List Str).zip us) := match us, hl with | [_, _, _, _], _ => rfl
theorem sc_law_identity : FnScope ["_law_c", "_law_kind", "_law_k"] ["_law_c", "_law_kind"] (defScope s_law_identity) := ⟨rfl, rfl, rfl, by decide +kernel, rfl, by decide +kernel, by decide +kernel⟩
theorem bd_law_identity (kV doc pm : Value) (an : Option Addr) (cdv ct : Value) (us : List Value) (hl : us.length = (["_law_c", "_law_kind"] : List Str).length) : bindArgs (PySem.W.fnOf d_law_identity.name d_law_identity.qual d_law_identity.params d_law_identity.body d_law_identity.scope .none kV doc pm an cdv ct) ⟨us, []⟩ = pure ((["_law_c", "_law_kind"] : List Str).zip us) := match us, hl with | [_, _], _ => rfl
theorem sc_law_level : FnScope ["_law_outputs", "_law_one"] ["_law_outputs"] (defScope s_law_level) := ⟨rfl, rfl, rfl, by decide +kernel, rfl, by decide +kernel, by decide +kernel⟩
theorem bd_law_level (kV doc pm : Value) (an : Option Addr) (cdv ct : Value) (us : List Value) (hl : us.length = (["_law_outputs"] : List Str).length) : bindArgs (PySem.W.fnOf d_law_level.name d_law_level.qual d_law_level.params d_law_level.body d_law_level.scope .none kV doc pm an cdv ct) ⟨us, []⟩ = pure ((["_law_outputs"] : List Str).zip us) := match us, hl with | [_], _ => rfl
theorem sc_law_plainly : FnScope ["_law_c", "_law_names_here", "_law_depth_here", "_law_k", "_law_x", "_law_a", "_law_b"] ["_law_c", "_law_names_here", "_law_depth_here"] (defScope s_law_plainly) := ⟨rfl, rfl, rfl, by decide +kernel, rfl, by decide +kernel, by decide +kernel⟩
theorem bd_law_plainly (kV doc pm : Value) (an : Option Addr) (cdv ct : Value) (us : List Value) (hl : us.length = (["_law_c", "_law_names_here", "_law_depth_here"] : List Str).length) : bindArgs (PySem.W.fnOf d_law_plainly.name d_law_plainly.qual d_law_plainly.params d_law_plainly.body d_law_plainly.scope .none kV doc pm an cdv ct) ⟨us, []⟩ = pure ((["_law_c", "_law_names_here", "_law_depth_here"] : List Str).zip us) := match us, hl with | [_, _, _], _ => rfl
theorem sc_law : FnScope ["_law_script", "_law_c", "_law_program_here", "_law_own", "_law_plain_here", "_law_due", "_law_other", "_law_k", "_law_kind", "_law_rule_here", "_law_told"] ["_law_script"] (defScope s_law) := ⟨rfl, rfl, rfl, by decide +kernel, rfl, by decide +kernel, by decide +kernel⟩
theorem bd_law (kV doc pm : Value) (an : Option Addr) (cdv ct : Value) (us : List Value) (hl : us.length = (["_law_script"] : List Str).length) : bindArgs (PySem.W.fnOf d_law.name d_law.qual d_law.params d_law.body d_law.scope .none kV doc pm an cdv ct) ⟨us, []⟩ = pure ((["_law_script"] : List Str).zip us) := match us, hl with | [_], _ => rfl
end Zg
/-! ## Zenum -/
set_option Elab.async false
set_option linter.all false
set_option maxRecDepth 100000
set_option maxHeartbeats 4000000
namespace Zg
open PySem PySem.Spec PyProof.Rows L2
open PySem.AutoSeq1 (wpAny_loadPart')
/-! ### enumerate(tuple), enumerate(text): the library's rules for a list, for these two -/
theorem meets_enumB1 {v : Value} {o : Obj} {H : Heap → Prop} (B : Begins v o H) :
    Meets (Builtin.«enumerate.__new__» ⟨[.type "enumerate", v], []⟩) (fun _ R s => H s.heap ∧
      R (.ok (.ret (.ref (s.heap.push o).objs.size))) { s with heap := (s.heap.push o).push { cls := .type "enumerate", data := .fields #[.none, .bool false, .ref s.heap.objs.size, rawInt 0, .none, .none] } }) :=
  .of_wp fun prog w A R s h => by
    obtain ⟨hp, g, d, tk, os⟩ := s; obtain ⟨h1, h⟩ := h
    have hsub := sub_enumerate
    have q1 : ∀ {A' : Around} {E : Value → Shared → Prop} {Q : Value → Shared → Prop}, Q (.ref hp.objs.size) ⟨hp.push o, g, d, tk, os⟩ → wpAny (model prog w) A' (pyIter v) Q E ⟨hp, g, d, tk, os⟩ :=
      fun q => B.iter prog w _ _ ⟨hp, g, d, tk, os⟩ _ h1 q
    wp_walk using q1
    refine wpAny_stack_any fun st => wpAny_pure ?_
    split
    · rename_i c _ _ _ _ _
      cases (c == Value.type "enumerate")
      · wp_walk using q1
        exact ⟨_, rfl, h⟩
      · wp_walk using q1
        exact ⟨_, rfl, h⟩
    · wp_walk using q1
      exact ⟨_, rfl, h⟩
theorem call_enumB1 {prog : Program} {w : World} {A : Around} {E : Value → Shared → Prop} {s : Shared} {v : Value} {o : Obj} {H : Heap → Prop} {Q : Value → Shared → Prop} (B : Begins v o H) (h1 : H s.heap)
    (h : ∀ h', IsEnum h' (s.heap.objs.size + 1) s.heap.objs.size 0 .none → h'.get? s.heap.objs.size = some o → h'.objs.size = s.heap.objs.size + 2 →
      (∀ b o, s.heap.get? b = some o → h'.get? b = some o) → Q (.ref (s.heap.objs.size + 1)) { s with heap := h' }) :
    wpAny (model prog w) A (call (.type "enumerate") [v]) Q E s := by
  refine callType_new F.called_enumerate (by decide) (F.typeCall_enumerate_1 _) (F.newCall_enumerate_1 _) (fun obj => F.args_object_init_2 obj _) F.entry_enumerate_new
    (meets_enumB1 B) ⟨h1, ?_⟩
  have hz : (s.heap.push o).objs.size = s.heap.objs.size + 1 := Heap.size_push ..
  show _ ∧ _
  rw [hz]
  have he : IsEnum ((s.heap.push o).push { cls := .type "enumerate", data := .fields #[.none, .bool false, .ref s.heap.objs.size, rawInt 0, .none, .none] }) (s.heap.objs.size + 1) s.heap.objs.size 0 .none := by
    have := Heap.get?_push_size (s.heap.push o) (o := { cls := .type "enumerate", data := .fields #[.none, .bool false, .ref s.heap.objs.size, rawInt 0, .none, .none] }) rfl
    rw [hz] at this; exact this
  refine ⟨⟨_, he, rfl⟩, h _ he (Heap.get?_push_of_some _ (Heap.get?_push_size _ B.free)) (by rw [Heap.size_push, hz]) fun b o x => Heap.get?_push_of_some _ (Heap.get?_push_of_some _ x)⟩
/-- the tuple at a, its items in new pairs -/
def IteT (K : PySem.W.Frag) (a : Addr) : It :=
  ⟨fun i H => ∃ (xs : List V) (x : V), SqT K H a xs ∧ xs[i]? = some x, fun i H v H' => ∃ T x, v = .ref T ∧ H T = none ∧ H' = upd H T (.tup [.int (i : Nat), x]) ∧ ∀ xs, SqT K H a xs → xs[i]? = some x, fun i H => ∃ xs : List V, SqT K H a xs ∧ xs.length = i⟩
/-- the text x, its signs in new pairs -/
def IteS (x : Str) : It :=
  ⟨fun i _ => i < x.cps.size, fun i H v H' => ∃ T c, v = .ref T ∧ H T = none ∧ H' = upd H T (.tup [.int (i : Nat), .str ⟨#[c]⟩]) ∧ x.cps[i]? = some c, fun i _ => x.cps.size = i⟩
/-- the turns of an enumerate, from what its inner iterator draws -/
theorem turn_enumD {P : Program} {w : World} {K : PySem.W.Frag} {elts : List Expr} {kk : Nat} {tpos : Pos} {J : It} (e it : Addr) (tn : Nat → Heap → Prop)
    (live : ∀ i h, tn i h → ∃ o, h.get? it = some o ∧ ∀ v, o.data ≠ .cell v) (keep : ∀ i h h', tn i h → (∀ o, h.get? it = some o → h'.get? it = some o) → tn i h') (hne : e ≠ it)
    (go : ∀ (X : Cx), X.prog = P → X.w = w → X.K = K → ∀ (i : Nat) (pins : List (Addr × Obj)) (s : Shared) (σ : L2.St) (H : Hp), Inv X pins σ H s → X.A.handled = none → tn i s.heap → J.go i H → H e = none →
      ∃ (fp : List Addr) (n : Nat) (Pv : Nat → Value → Prop) (S : Nat → Heap → Prop), Draws P w X.A.in1 it fp n Pv S ∧ S i s.heap ∧ i < n ∧ e ∉ fp ∧ (∀ h', S (i + 1) h' → tn (i + 1) h') ∧
        ∀ x, Pv i x → ∃ v : V, RelV v x ∧ ∀ T, H T = none → J.yld i H (.ref T) (upd H T (.tup [.int (i : Nat), v])))
    (done : ∀ (X : Cx), X.prog = P → X.w = w → X.K = K → ∀ (i : Nat) (pins : List (Addr × Obj)) (s : Shared) (σ : L2.St) (H : Hp), Inv X pins σ H s → X.A.handled = none → tn i s.heap → J.stop i H →
      ∃ (fp : List Addr) (n : Nat) (Pv : Nat → Value → Prop) (S : Nat → Heap → Prop), Draws P w X.A.in1 it fp n Pv S ∧ S n s.heap) :
    Turn P w K (.Tuple elts kk tpos) J [e, it] e (fun i h => (∃ old, IsEnum h e it ((i : Nat) : Int) old) ∧ tn i h) where
  mem := by simp
  obj := fun i h st b hb => by
    obtain ⟨⟨old, he⟩, ht⟩ := st
    have e' : b = e ∨ b = it := by simpa using hb
    rcases e' with z | z
    · rw [z]; exact ⟨_, he, fun v q => nomatch q⟩
    · rw [z]; exact live i h ht
  keep := fun i h h' st k => let ⟨⟨old, he⟩, ht⟩ := st; ⟨⟨old, k e (by simp) _ he⟩, keep i h h' ht fun o q => k it (by simp) o q⟩
  item := by
    intro X hP hw hK hc i pins s σ H E I hf st hg
    obtain ⟨⟨old, he⟩, ht⟩ := st
    obtain ⟨fp, n, Pv, St, D, hst, hin, hef, hnx, hy⟩ := go X hP hw hK i pins s σ H I (I.ok.hd hc) ht hg (hf e (by simp)).1
    have hel : e < s.heap.objs.size := Heap.lt_size he
    have hil : it < s.heap.objs.size := by
      obtain ⟨o, q, _⟩ := live i _ ht
      exact Heap.lt_size q
    refine wpAny_pyNext_enum_itemD D he hst hin hne hef fun x h' tk hPx ho hit' hT hsz hk => ?_
    obtain ⟨v, rv, yl⟩ := hy x hPx
    refine ⟨_, rfl, wpAny_letOwnedTupleGo_enum (s := { s with heap := h', toks := tk + 1 }) ho fun h'' he' sb => ?_⟩
    have hT2 : h''.get? s.heap.objs.size = some { cls := .type "tuple", data := .seq #[.int i tk, x] } := (sb.2 _ (Nat.ne_of_gt hel)).trans hT
    have new : ObjOk X.prog X.w (upd H s.heap.objs.size (.tup [.int (i : Nat), v])) h'' s.heap.objs.size (.tup [.int (i : Nat), v]) :=
      ⟨by show 2 ≤ sizeLine; decide, [.int i tk, x], .cons ⟨_, rfl⟩ (.cons rv .nil), ⟨_, hT2, rfl, _, rfl⟩⟩
    have I1 : Inv X pins σ (upd H s.heap.objs.size (.tup [.int (i : Nat), v])) { s with heap := h'', toks := tk + 1 } :=
      I.turnedNew (ch := [e, it]) (fun b ob hb q => (sb.2 b (fun z => hb (by simp [z]))).trans (hk b ob (fun z => hb (by simp [z])) (fun z => hb (by simp [z])) q)) hf (Nat.le_refl _) new
    refine ⟨.ref s.heap.objs.size, _, I1, rfl, yl _ (I.hok.fresh (Nat.le_refl _)), ⟨⟨x, ?_⟩, keep _ _ _ (hnx _ hit') fun o q => (sb.2 it (Ne.symm hne)).trans q⟩, fun b hb => ?_⟩
    · have e1 : ((i + 1 : Nat) : Int) = (i : Int) + 1 := by omega
      rw [e1]; exact he'
    · have hb' : b < s.heap.objs.size := by
        have e' : b = e ∨ b = it := by simpa using hb
        rcases e' with z | z
        · rw [z]; exact hel
        · rw [z]; exact hil
      rw [upd_ne (Nat.ne_of_lt hb')]
      exact (hf b hb).1
  done := by
    intro X hP hw hK hc i pins s σ H E I hf st hg
    obtain ⟨⟨old, he⟩, ht⟩ := st
    obtain ⟨fp, n, Pv, St, D, hst⟩ := done X hP hw hK i pins s σ H I (I.ok.hd hc) ht hg
    obtain ⟨f0, f1, f2, f3, f4, f5⟩ := hf it (by simp)
    exact wpAny_pyNext_enum_endD D he hst fun h' eb => ⟨rfl, I.turned (t' := s.toks) (fun b o hb q => eb b o hb q) f0 f1 f3 f4 f5⟩
  self := fun A i s Q E st h => let ⟨⟨_, he⟩, _⟩ := st; wpAny_pyIter_enum he h
theorem turn_enumT {P : Program} {w : World} {K : PySem.W.Frag} {elts : List Expr} {kk : Nat} {tpos : Pos} (a e it : Addr) (hae : a ≠ e) (hai : a ≠ it) (hei : e ≠ it) :
    Turn P w K (.Tuple elts kk tpos) (IteT K a) [e, it] e (fun i h => (∃ old, IsEnum h e it ((i : Nat) : Int) old) ∧ h.IsTupleIter it a i) := by
  refine turn_enumD e it (fun i h => h.IsTupleIter it a i) (fun i h st => ?_) (fun i h h' st k => st.at fun o q => k o q) hei ?_ ?_
  · obtain ⟨o, q, c, d⟩ := st
    exact ⟨o, q, fun v z => by rw [d] at z; cases z⟩
  · intro Y hP hw hK i pins s σ H I hh st hg he0
    subst hP hw hK
    obtain ⟨xs, x, hq, hx⟩ := hg
    obtain ⟨its, rv, p, hz⟩ := I.tuple hq
    obtain ⟨u, hu, ru⟩ := rv.get hx
    refine ⟨[it, a], its.toArray.size, _, _, Draws.tuple (A := Y.A.in1) hh _ a hai its.toArray, ⟨st, p⟩, ?_, ?_, fun h' z => z.1, fun y hy => ⟨x, ?_, fun T hT => ⟨T, x, rfl, hT, rfl, fun ys hys => by rw [I.tuple_inj hys hq]; exact hx⟩⟩⟩
    · rw [List.size_toArray]
      exact (List.getElem?_eq_some_iff.mp hu).1
    · simp only [List.mem_cons, List.not_mem_nil, or_false, not_or]
      exact ⟨hei, Ne.symm hae⟩
    · have e1 : its[i]? = some y := by simpa using hy
      rw [hu] at e1
      cases e1
      exact ru
  · intro Y hP hw hK i pins s σ H I hh st hg
    subst hP hw hK
    obtain ⟨xs, hq, hx⟩ := hg
    obtain ⟨its, rv, p, hz⟩ := I.tuple hq
    have hl := rv.length
    refine ⟨[it, a], its.toArray.size, _, _, Draws.tuple (A := Y.A.in1) hh _ a hai its.toArray, ?_, p⟩
    have e1 : its.toArray.size = i := by simp; omega
    rw [e1]
    exact st
theorem turn_enumS {P : Program} {w : World} {K : PySem.W.Frag} {elts : List Expr} {kk : Nat} {tpos : Pos} (x : Str) (t : Tok) (e it : Addr) (hei : e ≠ it) :
    Turn P w K (.Tuple elts kk tpos) (IteS x) [e, it] e (fun i h => (∃ old, IsEnum h e it ((i : Nat) : Int) old) ∧ h.IsStrIter it (strIterType x) x t i) := by
  refine turn_enumD e it (fun i h => h.IsStrIter it (strIterType x) x t i) (fun i h st => ?_) (fun i h h' st k => ?_) hei ?_ ?_
  · obtain ⟨o, q, c, d⟩ := st
    exact ⟨o, q, fun v z => by rw [d] at z; cases z⟩
  · obtain ⟨o, q, r⟩ := st
    exact ⟨o, k o q, r⟩
  · intro Y hP hw hK i pins s σ H I hh st hg he0
    subst hP hw hK
    refine ⟨[it], x.cps.size, _, _, Draws.text (A := Y.A.in1) hh _ x t, st, hg, ?_, fun h' z => z, fun y hy => ?_⟩
    · simp only [List.mem_cons, List.not_mem_nil, or_false]
      exact hei
    · obtain ⟨c, u, hc, hy⟩ := hy
      refine ⟨.str ⟨#[c]⟩, ⟨u, hy⟩, fun T hT => ⟨T, c, rfl, hT, rfl, hc⟩⟩
  · intro Y hP hw hK i pins s σ H I hh st hg
    subst hP hw hK
    have hg2 : x.cps.size = i := hg
    refine ⟨[it], x.cps.size, _, _, Draws.text (A := Y.A.in1) hh _ x t, ?_⟩
    rw [hg2]
    exact st
def iEnumT (K : PySem.W.Frag) (ta : TA) : TI := fun σ H R => ta σ H fun vs H1 => ∃ a xs, vs = [.ref a] ∧ SqT K H1 a xs ∧ R (IteT K a) H1
def iEnumS (ta : TA) : TI := fun σ H R => ta σ H fun vs H1 => ∃ x, vs = [.str x] ∧ R (IteS x) H1
theorem pi_enumT {X : Cx} {e : Expr} {ta : TA} {p pos tpos : Pos} {elts : List Expr} {kk : Nat} (hg : Gl X "enumerate") (hm : X.mg "enumerate" = none) (ha : PA X [e] ta) (hs : starEach [e] X.env = [(false, eval e X.env)] := by rfl) :
    PI X (.Tuple elts kk tpos) (.Call (.Name "enumerate" p) [e] [] pos) (iEnumT X.K ta) := by
  refine ⟨fun pins s σ H R I h => ?_⟩
  refine Call_ (ld_blt I hg hm boot_enumerate (PyProof.Rows.callWith_type1 (thn (ha.run pos pins s σ H _ I h) fun us s1 ⟨vs, H1, I1, r1, q1⟩ => ?_) hs rfl))
  obtain ⟨a, xs, ex, hq, q⟩ := q1
  subst ex
  cases r1 with
  | cons r rr =>
    cases rr
    cases r
    obtain ⟨its, rv, p', hz⟩ := I1.tuple hq
    have hal : a < s1.heap.objs.size := by
      obtain ⟨o, q, _⟩ := p'
      exact Heap.lt_size q
    refine call_enumB1 (begins_tuple a its.toArray) p' fun h' he hit hsz hk => wpAny_pyIter_enum he ?_
    have I2 : Inv X pins σ H1 { s1 with heap := h' } := I1.kept (t' := s1.toks) hk
    refine ⟨s1.heap.objs.size + 1, [s1.heap.objs.size + 1, s1.heap.objs.size], _, _, H1, rfl, I2,
      turn_enumT a (s1.heap.objs.size + 1) s1.heap.objs.size (Nat.ne_of_lt (Nat.lt_succ_of_lt hal)) (Nat.ne_of_lt hal) (Nat.succ_ne_self _), ⟨⟨.none, he⟩, ⟨_, hit, rfl, rfl⟩⟩, fun b hb => ?_, q⟩
    have e' : b = s1.heap.objs.size + 1 ∨ b = s1.heap.objs.size := by simpa using hb
    have hle : s1.heap.objs.size ≤ b := by
      rcases e' with z | z
      · rw [z]; exact Nat.le_add_right _ _
      · rw [z]; exact Nat.le_refl _
    exact I1.fpOk hle (I1.hok.fresh hle)
theorem pi_enumS {X : Cx} {e : Expr} {ta : TA} {p pos tpos : Pos} {elts : List Expr} {kk : Nat} (hg : Gl X "enumerate") (hm : X.mg "enumerate" = none) (ha : PA X [e] ta) (hs : starEach [e] X.env = [(false, eval e X.env)] := by rfl) :
    PI X (.Tuple elts kk tpos) (.Call (.Name "enumerate" p) [e] [] pos) (iEnumS ta) := by
  refine ⟨fun pins s σ H R I h => ?_⟩
  refine Call_ (ld_blt I hg hm boot_enumerate (PyProof.Rows.callWith_type1 (thn (ha.run pos pins s σ H _ I h) fun us s1 ⟨vs, H1, I1, r1, q1⟩ => ?_) hs rfl))
  obtain ⟨x, ex, q⟩ := q1
  subst ex
  cases r1 with
  | cons r rr =>
    cases rr
    obtain ⟨t, rfl⟩ := r
    refine call_enumB1 (begins_text x t) trivial fun h' he hit hsz hk => wpAny_pyIter_enum he ?_
    have I2 : Inv X pins σ H1 { s1 with heap := h' } := I1.kept (t' := s1.toks) hk
    refine ⟨s1.heap.objs.size + 1, [s1.heap.objs.size + 1, s1.heap.objs.size], _, _, H1, rfl, I2,
      turn_enumS x t (s1.heap.objs.size + 1) s1.heap.objs.size (Nat.succ_ne_self _), ⟨⟨.none, he⟩, ⟨_, hit, rfl, rfl⟩⟩, fun b hb => ?_, q⟩
    have e' : b = s1.heap.objs.size + 1 ∨ b = s1.heap.objs.size := by simpa using hb
    have hle : s1.heap.objs.size ≤ b := by
      rcases e' with z | z
      · rw [z]; exact Nat.le_add_right _ _
      · rw [z]; exact Nat.le_refl _
    exact I1.fpOk hle (I1.hok.fresh hle)
end Zg
/-! ## Ztop -/
set_option Elab.async false
set_option linter.all false
set_option maxRecDepth 100000
set_option maxHeartbeats 4000000
namespace Zg
open PySem PySem.Spec PyProof.Rows L2
/-! ### the tables of the top -/
def shapesL : List (Str × Str) := [("num", "i"), ("name", "n"), ("fn", "lne"), ("call", "lee"), ("sum", "lee"), ("less", "lee"), ("if", "leee"), ("let", "nee"), ("say", "le"), ("delay", "nee"), ("force", "n"), ("tick", "e"), ("switch", "lbe"), ("set", "lie"), ("put", "li")]
def partsW : List (Str × List V) := [("num", []), ("name", []), ("fn", []), ("call", [.int 1, .int 2]), ("sum", [.int 1, .int 2]), ("less", [.int 1, .int 2]), ("if", [.int 1, .int 2, .int 3]), ("let", [.int 2]), ("say", [.int 1])]
theorem partsW_eq : partsW = partsL.map fun q => (q.1, q.2.map V.int) := rfl
def kindsW : List V := kindsL.map V.str
section
variable {w : World} {K : PySem.W.Frag} {mg : Str → Option Value}
theorem lookup_mem {α β : Type} [DecidableEq α] {k : α} {v : β} : ∀ {l : List (α × β)}, l.lookup k = some v → (k, v) ∈ l
  | [], h => by cases h
  | (a, b) :: r, h => by
    rw [List.lookup_cons] at h
    cases e : k == a with
    | true =>
      rw [e] at h
      cases h
      rw [eq_of_beq e]
      exact List.mem_cons_self
    | false =>
      rw [e] at h
      exact List.mem_cons_of_mem _ (lookup_mem h)
theorem shp_at (h : ex K = true) {k s : Str} (hk : shapesL.lookup k = some s) : ∃ u, PySem.W.nsIn K (He.ga K "SHAPES") k = some (some u) ∧ RelV (.str s) u := by
  have h1 : shapesB K = true := (He.ba h).1
  exact He.valsB_ok (q := (k, He.Dv.str s)) h1 (List.mem_map.mpr ⟨(k, s), lookup_mem hk, rfl⟩ : (k, He.Dv.str s) ∈ shapesL.map fun q => (q.1, He.Dv.str q.2))
theorem tupAt_ok {a : Addr} {vs : List He.Dv} (h : tupAt K a vs = true) (H : Hp) : SqT K H a (vs.map (He.Dv.v K)) := by
  unfold tupAt at h
  cases e : K.lookup a with
  | none =>
    rw [e] at h
    cases h
  | some o =>
    obtain ⟨oc, od, dt, osl⟩ := o
    rw [e] at h
    cases oc with
    | type c =>
      cases dt with
      | seq its n =>
        have h1 : (decide (c = "tuple") && (decide (its.size ≤ sizeLine) && He.relAll (vs.map (He.Dv.v K)) its.toList)) = true := h
        obtain ⟨h2, h3⟩ := He.ba h1
        obtain ⟨h4, h5⟩ := He.ba h3
        exact .inr ⟨_, its, n, e, congrArg Value.type (of_decide_eq_true h2), rfl, of_decide_eq_true h4, He.relAll_ok h5⟩
      | _ => cases h
    | _ => cases dt <;> cases h
theorem prt_at (h : ex K = true) {k : Str} {l : List V} (hk : partsW.lookup k = some l) : ∃ p, PySem.W.nsIn K (He.ga K "PARTS") k = some (some (.ref p)) ∧ ∀ H, SqT K H p l := by
  have h1 : partsB K = true := (He.ba (He.ba h).2).1
  have hm := lookup_mem hk
  rw [partsW_eq] at hm
  obtain ⟨q, hq, e⟩ := List.mem_map.mp hm
  cases e
  have h2 := List.all_eq_true.mp h1 _ hq
  obtain ⟨h3, h4⟩ := He.ba h2
  refine ⟨_, He.eqO_ok h3, fun H => ?_⟩
  have h5 := tupAt_ok h4 H
  rw [List.map_map] at h5
  exact h5
theorem knd_at (h : ex K = true) : (∀ H, SqT K H (He.ga K "CHANGEABLE") kindsW) ∧ (∀ H, SqT K H (He.ga K "KINDS_collapsing") kindsW) ∧ ∀ H, SqT K H (He.ga K "KINDS_forms") kindsW := by
  obtain ⟨h1, h2⟩ := He.ba (He.ba (He.ba h).2).2
  obtain ⟨h3, h4⟩ := He.ba h2
  exact ⟨He.tupB_ok h1, He.tupB_ok h3, He.tupB_ok h4⟩
end
/-! ### d[k], k not in d, for a table of the top -/
def rKGet (K : PySem.W.Frag) (d : Addr) : R2 := fun x y H Q => ∃ (z : Str) (u0 : Value) (v0 : V), x = .ref d ∧ y = .str z ∧ PySem.W.nsIn K d z = some (some u0) ∧ RelV v0 u0 ∧ Q v0 H
def rKNot (K : PySem.W.Frag) (d : Addr) : R2 := fun x y H Q => ∃ (z : Str) (r : Option Value), x = .str z ∧ y = .ref d ∧ PySem.W.nsIn K d z = some r ∧ Q (.bl (!r.isSome)) H
theorem op_knot {X : Cx} {d : Addr} {es : Array DictEntry} {n : Nat} (D : KDict X.K X.w d es n) : OpR X (compareOp .NotIn) (rKNot X.K d) := op_notIn_kd D
theorem pe_dgetK {X : Cx} {d : Addr} {es : Array DictEntry} {n : Nat} {o i : Expr} {pos : Pos} {td ty : TE} (D : KDict X.K X.w d es n) (ho : PE X o td) (hi : PE X i ty) (hs : NoSl i) : PE X (.Subscript o i pos) (tOp (rKGet X.K d) td ty) := by
  refine ⟨fun pins s σ H Q I h => ?_⟩
  refine subD_of PySem.F.slot_dict_getitem.lookup hs (thn (ho.run pins s σ H _ I h) fun u s1 ⟨x, H1, I1, rx, q1⟩ => thn (hi.run pins s1 σ H1 _ I1 q1) fun iv s2 ⟨y, H2, I2, ry, q2⟩ => ?_)
  have hx : x = .ref d := by
    obtain ⟨_, _, _, e, _⟩ := q2
    exact e
  have hu : u = Value.ref d := by
    rw [hx] at rx
    exact rx
  rw [hu] at rx ⊢
  exact ⟨kd_type D I2, op_item_kd D pins s2 σ H2 x y _ iv Q I2 rx ry q2⟩
section
variable {w : World} {K : PySem.W.Frag} {mg : Str → Option Value} {H : Hp} {Q : VK} {a p : Addr}
theorem s_kgetS [T : Tx w K mg] {z t : Str} (h : shapesL.lookup z = some t) (q : Q (.str t) H) : rKGet K (He.ga K "SHAPES") (.ref (He.ga K "SHAPES")) (.str z) H Q := by
  obtain ⟨u, hu, r⟩ := shp_at T.ex h
  exact ⟨z, u, _, rfl, rfl, hu, r, q⟩
theorem s_knotS [T : Tx w K mg] {z t : Str} (h : shapesL.lookup z = some t) (q : Q (.bl false) H) : rKNot K (He.ga K "SHAPES") (.str z) (.ref (He.ga K "SHAPES")) H Q := by
  obtain ⟨u, hu, r⟩ := shp_at T.ex h
  exact ⟨z, _, rfl, rfl, hu, q⟩
theorem s_kgetP [T : Tx w K mg] {z : Str} {l : List V} (h : partsW.lookup z = some l) (q : ∀ p, (∀ H, SqT K H p l) → Q (.ref p) H) : rKGet K (He.ga K "PARTS") (.ref (He.ga K "PARTS")) (.str z) H Q := by
  obtain ⟨p, hp, r⟩ := prt_at T.ex h
  exact ⟨z, .ref p, .ref p, rfl, rfl, hp, rfl, q p r⟩
end
/-! ### loops over enumerate(..), turn by turn -/
theorem walk_enumT {K : PySem.W.Frag} {a : Addr} {xs : List V} : Walk (IteT K a) xs.length (fun H => SqT K H a xs) (YPair (fun i => some (.int (i : Nat))) (fun i => xs[i]?)) := by
  refine ⟨fun i _ hi q => ⟨xs, xs[i], q, by simp [hi]⟩, fun _ q => ⟨xs, q, rfl⟩, fun i H v H' _ q y => ?_⟩
  obtain ⟨T, x, h1, h2, h3, h4⟩ := y
  exact ⟨T, .int (i : Nat), x, h1, h2, h3, rfl, h4 xs q⟩
def signsV (x : Str) : List V := x.cps.toList.map fun c => .str ⟨#[c]⟩
theorem walk_enumS {x : Str} : Walk (IteS x) (signsV x).length (fun _ => True) (YPair (fun i => some (.int (i : Nat))) (fun i => (signsV x)[i]?)) := by
  have e : (signsV x).length = x.cps.size := by simp [signsV]
  refine ⟨fun i _ hi q => by rw [e] at hi; exact hi, fun _ q => e.symm, fun i H v H' _ q y => ?_⟩
  obtain ⟨T, c, h1, h2, h3, h4⟩ := y
  exact ⟨T, .int (i : Nat), .str ⟨#[c]⟩, h1, h2, h3, rfl, by simp [signsV, h4]⟩
section
variable {K : PySem.W.Frag} {σ : L2.St} {H : Hp} {D : Ends} {J : It} {G : Hp → Prop} {xs : List V} {x : V} {p : Addr} {i : Nat} {te : TE} {b : Str}
def WFe (G : Hp → Prop) (g : TG) (tb : TS) (D : Ends) : Nat → List V → L2.St → Hp → Prop
  | _, [], σ, H => D.nx σ H
  | i, x :: r, σ, H => ∀ T H', Al H H' T (.tup [.int (i : Nat), x]) → g (.ref T) σ H' fun σ2 H2 => tb { D with nx := fun σ' H' => G H' ∧ WFe G g tb D (i + 1) r σ' H', ct := fun σ' H' => G H' ∧ WFe G g tb D (i + 1) r σ' H', bk := D.nx } σ2 H2
theorem s_wen {g : TG} {tb : TS} (q : D.nx σ H) : WFe G g tb D i [] σ H := q
theorem s_wec {g : TG} {tb : TS} {r : List V} (q : ∀ T H', Al H H' T (.tup [.int (i : Nat), x]) → g (.ref T) σ H' fun σ2 H2 => tb { D with nx := fun σ' H' => G H' ∧ WFe G g tb D (i + 1) r σ' H', ct := fun σ' H' => G H' ∧ WFe G g tb D (i + 1) r σ' H', bk := D.nx } σ2 H2) : WFe G g tb D i (x :: r) σ H := q
theorem s_wea {g : TG} {tb : TS} {r : List V} (h : G H) (q : WFe G g tb D i r σ H) : G H ∧ WFe G g tb D i r σ H := ⟨h, q⟩
theorem s_weaT {g : TG} {tb : TS} {ys : List V} {r : List V} (h : SqT K H p ys) (q : WFe (fun H => SqT K H p ys) g tb D i r σ H) : SqT K H p ys ∧ WFe (fun H => SqT K H p ys) g tb D i r σ H := ⟨h, q⟩
theorem s_weaL {g : TG} {tb : TS} {ys : List V} {r : List V} (h : SqL K H p ys) (q : WFe (fun H => SqL K H p ys) g tb D i r σ H) : SqL K H p ys ∧ WFe (fun H => SqL K H p ys) g tb D i r σ H := ⟨h, q⟩
theorem s_weaS {g : TG} {tb : TS} {r : List V} (q : WFe (fun _ => True) g tb D i r σ H) : True ∧ WFe (fun _ => True) g tb D i r σ H := ⟨trivial, q⟩
theorem s_forE {g : TG} {tb : TS} (w : Walk J xs.length G (YPair (fun i => some (.int (i : Nat))) (fun i => xs[i]?))) (h : G H) (q : WFe G g tb D 0 xs σ H) : kFor g tb D σ J H := by
  refine for_it w (fun i σ H => G H ∧ WFe G g tb D i (xs.drop i) σ H) ⟨h, by rw [List.drop_zero]; exact q⟩ (fun _ _ _ _ a => a.1) (fun i v σ H H' hi a y => ?_) (fun σ H a => ?_)
  · have q2 := a.2
    obtain ⟨T, x1, x2, rfl, hT, rfl, e1, e2⟩ := y
    cases e1
    have e3 : xs[i] = x2 := by
      have := List.getElem?_eq_some_iff.mp e2
      exact this.2
    rw [List.drop_eq_getElem_cons hi, e3] at q2
    exact q2 T _ (Al.mk0 hT)
  · have q2 := a.2
    rw [List.drop_length] at q2
    exact q2
theorem s_forET {g : TG} {tb : TS} (h : SqT K H p xs) (q : WFe (fun H => SqT K H p xs) g tb D 0 xs σ H) : kFor g tb D σ (IteT K p) H := s_forE walk_enumT h q
theorem s_forEL {g : TG} {tb : TS} (h : SqL K H p xs) (q : WFe (fun H => SqL K H p xs) g tb D 0 xs σ H) : kFor g tb D σ (Ite K p) H := s_forE walk_enum h q
theorem s_forES {g : TG} {tb : TS} (q : WFe (fun _ => True) g tb D 0 (signsV b) σ H) : kFor g tb D σ (IteS b) H := s_forE walk_enumS trivial q
def shapeW : List (Str × List V) := [("i", [.str "i"]), ("n", [.str "n"]), ("lne", [.str "l", .str "n", .str "e"]), ("lee", [.str "l", .str "e", .str "e"]), ("leee", [.str "l", .str "e", .str "e", .str "e"]), ("nee", [.str "n", .str "e", .str "e"]), ("le", [.str "l", .str "e"])]
theorem shapeW_ok : shapeW.all (fun q => decide ((signsV q.1) = q.2)) = true := by decide +kernel
theorem s_forEW {g : TG} {tb : TS} {xs : List V} (h : shapeW.lookup b = some xs) (q : WFe (fun _ => True) g tb D 0 xs σ H) : kFor g tb D σ (IteS b) H := by
  have e : signsV b = xs := of_decide_eq_true (List.all_eq_true.mp shapeW_ok _ (lookup_mem h))
  rw [← e] at q
  exact s_forES q
def kEnT (K : PySem.W.Frag) (R : It → Hp → Prop) (vs : List V) (H : Hp) : Prop := ∃ a xs, vs = [.ref a] ∧ SqT K H a xs ∧ R (IteT K a) H
def kEnL (K : PySem.W.Frag) (R : It → Hp → Prop) (vs : List V) (H : Hp) : Prop := ∃ a xs, vs = [.ref a] ∧ SqL K H a xs ∧ R (Ite K a) H
def kEnS (R : It → Hp → Prop) (vs : List V) (H : Hp) : Prop := ∃ x, vs = [.str x] ∧ R (IteS x) H
theorem s_ienT {ta : TA} {R : It → Hp → Prop} (q : ta σ H (kEnT K R)) : iEnumT K ta σ H R := q
theorem s_ienL {ta : TA} {R : It → Hp → Prop} (q : ta σ H (kEnL K R)) : iEnum K ta σ H R := q
theorem s_ienS {ta : TA} {R : It → Hp → Prop} (q : ta σ H (kEnS R)) : iEnumS ta σ H R := q
theorem s_kenT {R : It → Hp → Prop} (h : SqT K H p xs) (q : R (IteT K p) H) : kEnT K R [.ref p] H := ⟨p, xs, rfl, h, q⟩
theorem s_kenL {R : It → Hp → Prop} (h : SqL K H p xs) (q : R (Ite K p) H) : kEnL K R [.ref p] H := ⟨p, xs, rfl, h, q⟩
theorem s_kenS {R : It → Hp → Prop} (q : R (IteS b) H) : kEnS R [.str b] H := ⟨b, rfl, q⟩
/-! targets that are tuples -/
theorem s_gtup {n : Nat} {t : TGs} {R : L2.St → Hp → Prop} (h : SqT K H p xs) (l : xs.length = n) (q : t xs σ H R) : gTup K n t (.ref p) σ H R := ⟨p, xs, rfl, h, l, q⟩
theorem s_gcons {t : TG} {u : TGs} {r : List V} {R : L2.St → Hp → Prop} (q : t x σ H fun σ' H' => u r σ' H' R) : gCons t u (x :: r) σ H R := ⟨x, r, rfl, q⟩
theorem s_gnil {R : L2.St → Hp → Prop} (q : R σ H) : gNil [] σ H R := ⟨rfl, q⟩
/-! dicts by tuples; get -/
def kDIn (g : Bool) (Q : VK) (y x : V) (H : Hp) : Prop := ∃ a o, x = .ref a ∧ DGet H a y o ∧ Q (.bl (if g then !o.isSome else o.isSome)) H
theorem s_tdin {td ty : TE} {Q : VK} (q : ty σ H fun y H1 => td σ H1 fun x H2 => kDIn false Q y x H2) : tDIn ty td σ H Q := q
theorem s_tdnotin {td ty : TE} {Q : VK} (q : ty σ H fun y H1 => td σ H1 fun x H2 => kDIn true Q y x H2) : tDNotIn ty td σ H Q := q
theorem s_kdinK {g : Bool} {Q : VK} {k : Key} {kvs : List (Key × V)} (h : H p = some (.dK kvs)) (q : Q (.bl (if g then !(valV kvs k).isSome else (valV kvs k).isSome)) H) : kDIn g Q (kV k) (.ref p) H := ⟨p, _, rfl, DGet.k h, q⟩
theorem s_kdinI {g : Bool} {Q : VK} {k : Int} {kvs : List (Key × V)} (h : H p = some (.dK kvs)) (q : Q (.bl (if g then !(valV kvs (.inl k)).isSome else (valV kvs (.inl k)).isSome)) H) : kDIn g Q (.int k) (.ref p) H := ⟨p, _, rfl, DGet.k (k := Sum.inl k) h, q⟩
theorem s_kdinT {g : Bool} {Q : VK} {ks : List Key} {t : Addr} {kvs : List (List Key × V)} (h : H p = some (.dT kvs)) (ht : H t = some (.tup (ks.map kV))) (q : Q (.bl (if g then !(valV kvs ks).isSome else (valV kvs ks).isSome)) H) : kDIn g Q (.ref t) (.ref p) H := ⟨p, _, rfl, DGet.t h ht, q⟩
theorem sq_all {K : PySem.W.Frag} (h : ∀ H : Hp, SqT K H p xs) : SqT K H p xs := h H
theorem s_catA {K : PySem.W.Frag} {Q : VK} {a c : Addr} {y : V} {r r' : List V} (h : SqT K H a (x :: r)) (h2 : SqT K H c (y :: r')) (hl : (x :: r).length + (y :: r').length ≤ sizeLine) (q : ∀ l H', Al H H' l (.tup (x :: r ++ y :: r')) → Q (.ref l) H') : rCatA K (.ref a) (.ref c) H Q :=
  ⟨a, c, _, _, rfl, rfl, h, h2, hl, (fun e => nomatch e), (fun _ e => nomatch e), fun _ _ p hp => q p _ (Al.mk0 hp)⟩
/-! dicts by pairs of an int and a text -/
theorem s_kdinP {g : Bool} {Q : VK} {n : Int} {z : Str} {t : Addr} {kvs : List (List Key × V)} (h : H p = some (.dT kvs)) (ht : H t = some (.tup [.int n, .str z])) (q : Q (.bl (if g then !(valV kvs [.inl n, .inr z]).isSome else (valV kvs [.inl n, .inr z]).isSome)) H) : kDIn g Q (.ref t) (.ref p) H :=
  s_kdinT (ks := [.inl n, .inr z]) h ht q
def kGet1 (ty : TE) (σ : L2.St) (Q : VK) (x : V) (H : Hp) : Prop := ∃ a, x = .ref a ∧ IsD H a ∧ ty σ H fun y H2 => ∃ o, DGet H2 a y o ∧ Q (o.getD .non) H2
def kGet2 (ty tx : TE) (σ : L2.St) (Q : VK) (x : V) (H : Hp) : Prop := ∃ a, x = .ref a ∧ IsD H a ∧ ty σ H fun y H2 => tx σ H2 fun z H3 => ∃ o, DGet H3 a y o ∧ Q (o.getD z) H3
def kGo (Q : VK) (a : Addr) (z y : V) (H : Hp) : Prop := ∃ o, DGet H a y o ∧ Q (o.getD z) H
theorem s_tdget1 {td ty : TE} {Q : VK} (q : td σ H (kGet1 ty σ Q)) : tDGet1 td ty σ H Q := q
theorem s_tdget2 {td ty tx : TE} {Q : VK} (q : td σ H (kGet2 ty tx σ Q)) : tDGet2 td ty tx σ H Q := q
theorem s_kget1T {ty : TE} {Q : VK} {kvs : List (List Key × V)} (h : H p = some (.dT kvs)) (q : ty σ H fun y H2 => kGo Q p .non y H2) : kGet1 ty σ Q (.ref p) H := ⟨p, rfl, (.inr ⟨_, .inl h⟩), q⟩
theorem s_kget2T {ty tx : TE} {Q : VK} {kvs : List (List Key × V)} (h : H p = some (.dT kvs)) (q : ty σ H fun y H2 => tx σ H2 fun z H3 => kGo Q p z y H3) : kGet2 ty tx σ Q (.ref p) H := ⟨p, rfl, (.inr ⟨_, .inl h⟩), q⟩
theorem s_kgoP {Q : VK} {n : Int} {z : Str} {t : Addr} {y : V} {kvs : List (List Key × V)} (h : H p = some (.dT kvs)) (ht : H t = some (.tup [.int n, .str z])) (q : Q ((valV kvs [.inl n, .inr z]).getD y) H) : kGo Q p y (.ref t) H := ⟨_, DGet.t (k := [.inl n, .inr z]) h ht, q⟩
theorem s_kdputP {D : Ends} {v : V} {n : Int} {z : Str} {t : Addr} {kvs : List (List Key × V)} (h : H p = some (.dT kvs)) (ht : H t = some (.tup [.int n, .str z])) (l : kvs.length < sizeLine) (q : ∀ H', Wr H H' p (.dT (putK kvs [.inl n, .inr z] v)) → D.nx σ H') : kDPut D σ v (.ref p) (.ref t) H :=
  ⟨p, _, rfl, DPut.t (k := [.inl n, .inr z]) h ht l, q _ (Wr.mk0 h rfl)⟩
/-! stacks; while -/
theorem s_popS {Q : VK} {ys : List V} {y : V} (h : H p = some (.lst (ys ++ [y]))) (q : ∀ H', Wr H H' p (.lst ys) → Q y H') : rPop (.ref p) [] H Q :=
  ⟨p, ys ++ [y], y, rfl, rfl, h, by simp, by rw [List.dropLast_concat]; exact q _ (Wr.mk0 h rfl)⟩
theorem s_ext {Q : VK} {ys zs : List V} {c : Addr} (h : H p = some (.lst ys)) (h2 : H c = some (.lst zs)) (l : ys.length + zs.length ≤ sizeLine) (q : ∀ H', Wr H H' p (.lst (ys ++ zs)) → Q .non H') : rExtend (.ref p) [.ref c] H Q :=
  ⟨p, c, ys, zs, rfl, rfl, h, h2, l, q _ (Wr.mk0 h rfl)⟩
def rLenZ : List V → Hp → VK → Prop := fun xs H Q => ∃ z, xs = [.str z] ∧ z.length ≤ sizeLine ∧ Q (.int z.length) H
theorem call_lenZ {X : Cx} : CallR X (.builtin "len") rLenZ := call_len_str
theorem s_lenZ {Q : VK} {z : Str} (h : z.length ≤ sizeLine) (q : Q (.int z.length) H) : rLenZ [.str z] H Q := ⟨z, rfl, h, q⟩
def kAndV (tb : TE) (σ : L2.St) (Q : VK) (x : V) (H : Hp) : Prop := ∃ c, x = .bl c ∧ if c = true then tb σ H Q else Q (.bl false) H
def kOrV (tb : TE) (σ : L2.St) (Q : VK) (x : V) (H : Hp) : Prop := ∃ c, x = .bl c ∧ if c = true then Q (.bl true) H else tb σ H Q
def kNotV (Q : VK) (x : V) (H : Hp) : Prop := ∃ c, x = .bl c ∧ Q (.bl (!c)) H
theorem s_tandV {ta tb : TE} {Q : VK} (q : ta σ H (kAndV tb σ Q)) : tAndV ta tb σ H Q := q
theorem s_torV {ta tb : TE} {Q : VK} (q : ta σ H (kOrV tb σ Q)) : tOrV ta tb σ H Q := q
theorem s_tnotV {ta : TE} {Q : VK} (q : ta σ H (kNotV Q)) : tNotV ta σ H Q := q
theorem s_kandV {tb : TE} {Q : VK} {c : Bool} (q : if c = true then tb σ H Q else Q (.bl false) H) : kAndV tb σ Q (.bl c) H := ⟨c, rfl, q⟩
theorem s_korV {tb : TE} {Q : VK} {c : Bool} (q : if c = true then Q (.bl true) H else tb σ H Q) : kOrV tb σ Q (.bl c) H := ⟨c, rfl, q⟩
theorem s_knotV {Q : VK} {c : Bool} (q : Q (.bl (!c)) H) : kNotV Q (.bl c) H := ⟨c, rfl, q⟩
theorem s_taug {ti : TIp} (h : σ[i]? = some (some x)) (q : te σ H fun y H1 => ti x y H1 fun z H2 => D.nx (σ.set i (some z)) H2) : tAug i te ti D σ H := ⟨x, h, q⟩
theorem s_ipI {f : Int → Int → Int} {Q : VK} {n m : Int} (q : Q (.int (f n m)) H) : ipI f (.int n) (.int m) H Q := ⟨n, m, rfl, rfl, q⟩
def kRevL (K : PySem.W.Frag) (Q : VK) (x : V) (H : Hp) : Prop := ∃ a xs, x = .ref a ∧ SqL K H a xs ∧ ∀ p, H p = none → Q (.ref p) (upd H p (.lst xs.reverse))
theorem s_trevL {K : PySem.W.Frag} {Q : VK} (q : te σ H (kRevL K Q)) : tRevL K te σ H Q := q
theorem s_krevL {K : PySem.W.Frag} {Q : VK} {ys : List V} (h : H p = some (.lst ys)) (q : ∀ l H', Al H H' l (.lst ys.reverse) → Q (.ref l) H') : kRevL K Q (.ref p) H := ⟨p, ys, rfl, SqL.of h, fun l hl => q l _ (Al.mk0 hl)⟩
theorem fr_same {H' : Hp} {b : Addr} (a : Same H H') (h : H' b = none) : H b = none := a.free h
theorem fr_wr {H' : Hp} {b q : Addr} {o : HO} (a : Wr H H' q o) (h : H' b = none) : H b = none := by
  cases e : H b with
  | none => rfl
  | some u =>
    by_cases z : b = q
    · rw [z, a.at_] at h
      cases h
    · rw [a.bt _ _ e z] at h
      cases h
/-! an attribute as a target; not of a value -/
def kGFld (K : PySem.W.Frag) (f : Str) (v : V) (σ : L2.St) (R : L2.St → Hp → Prop) (x : V) (H : Hp) : Prop := ∃ a C dx fs, x = .ref a ∧ H a = some (.ins C dx fs) ∧ Cls K C ∧ NoAttr K C f ∧ fs.length < 1000 ∧ R σ (upd H a (.ins C dx (putF f v fs)))
def gFld (K : PySem.W.Frag) (ta : TE) (f : Str) : TG := fun v σ H R => ta σ H (kGFld K f v σ R)
theorem pg_fld {X : Cx} {o : Expr} {f : Str} {pos : Pos} {ta : TE} (ha : PE X o ta) : PG X (.Attribute o f pos) (gFld X.K ta f) := by
  refine ⟨fun pins s σ H v u Q I r h => ?_⟩
  rw [assign_Attribute]
  refine wpAny_bind (wpAny_holding (thn (ha.run pins s σ H _ I h) fun ov s1 ⟨x, H1, I1, rx, a, C, dx, fs, ex, ea, c, n, l, q⟩ => ?_))
  subst ex
  obtain rfl : ov = Value.ref a := rx
  refine wpAny_bind (wpAny_standAt (wpAny_bind (wpAny_holding (setattr_ok I1 ea c n l r fun s2 I2 => ?_))))
  exact wpAny_release ⟨σ, _, I2, q⟩
theorem s_gfld {K : PySem.W.Frag} {ta : TE} {f : Str} {v : V} {R : L2.St → Hp → Prop} (q : ta σ H (kGFld K f v σ R)) : gFld K ta f v σ H R := q
theorem s_kgfld {K : PySem.W.Frag} {C dx : Addr} {fs fs' : List (Str × V)} {f : Str} {v : V} {R : L2.St → Hp → Prop} (h : H p = some (.ins C dx fs)) (hc : Cls K C) (hn : NoAttr K C f) (hi : imO (.ins C dx fs) = false) (hl : Nat.ble (fs.length + 1) 1000 = true) (hf : putF f v fs = fs') (q : ∀ H', Wr H H' p (.ins C dx fs') → R σ H') : kGFld K f v σ R (.ref p) H :=
  ⟨p, C, dx, fs, rfl, h, hc, hn, Nat.le_of_ble_eq_true hl, by rw [hf]; exact q _ (Wr.mk0 h hi)⟩
theorem s_tnotT {K : PySem.W.Frag} {ta : TE} {Q : VK} (q : ta σ H (kTru K fun k H => Q (.bl (!k)) H)) : tNotT K ta σ H Q := q
/-! comprehensions over known lists, turn by turn -/
def WCl (K : PySem.W.Frag) (p : Addr) (xs : List V) (g : TG) (tt : TT) (te : TE) (vs : List Nat) (σ : L2.St) (Q : VK) (D : Addr) : List V → Hp → Prop
  | [], H => Q (.ref D) H
  | x :: r, H => g x (wipe σ vs) H (kLcT tt te vs σ D fun H' => SqL K H' p xs ∧ WCl K p xs g tt te vs σ Q D r H')
section
variable {K : PySem.W.Frag} {Q : VK}
theorem s_wln {g : TG} {tt : TT} {vs : List Nat} {D : Addr} (q : Q (.ref D) H) : WCl K p xs g tt te vs σ Q D [] H := q
theorem s_wlc {g : TG} {tt : TT} {vs : List Nat} {D : Addr} {r : List V} (q : g x (wipe σ vs) H (kLcT tt te vs σ D fun H' => SqL K H' p xs ∧ WCl K p xs g tt te vs σ Q D r H')) : WCl K p xs g tt te vs σ Q D (x :: r) H := q
theorem s_wla {g : TG} {tt : TT} {vs : List Nat} {D : Addr} {r : List V} (h : SqL K H p xs) (q : WCl K p xs g tt te vs σ Q D r H) : SqL K H p xs ∧ WCl K p xs g tt te vs σ Q D r H := ⟨h, q⟩
theorem s_klcLu {g : TG} {tt : TT} {vs : List Nat} (h : H p = some (.lst xs)) (q : ∀ D H', Al H H' D (.lst []) → WCl K p xs g tt te vs σ Q D xs H') : kLc g tt te vs σ Q (Itl K p) H := by
  intro D hD
  have al : Al H (upd H D (.lst [])) D (.lst []) := Al.mk0 hD
  refine lc_list (H1 := H) (D := D) (fun i H => SqL K H p xs ∧ WCl K p xs g tt te vs σ Q D (xs.drop i) H) ⟨SqL.of (al.sm _ _ h), by rw [List.drop_zero]; exact q D _ al⟩ (fun _ _ _ a => a.1) (fun i x H hx a => ?_) (fun H a => ?_)
  · obtain ⟨hi, e⟩ := List.getElem?_eq_some_iff.mp hx
    have q2 := a.2
    rw [List.drop_eq_getElem_cons hi, e] at q2
    exact q2
  · have q2 := a.2
    rw [List.drop_length] at q2
    exact q2
end
theorem s_asgG {g : TG} (q : te σ H fun x H1 => g x σ H1 D.nx) : tAsg te g D σ H := q
/-- a turn of a while -/
def kTurn (W : Nat → L2.St → Hp → Prop) (tb : TS) (D : Ends) (m : Nat) (σ : L2.St) (H1 : Hp) : Prop := ∃ N : L2.St → Hp → Prop, (∀ σ' H', N σ' H' → ∃ m', m' < m ∧ W m' σ' H') ∧ tb { D with nx := N, ct := N, bk := D.nx } σ H1
theorem s_while {c : TT} {tb : TS} (W : Nat → L2.St → Hp → Prop) (m0 : Nat) (h0 : W m0 σ H)
    (hs : ∀ m σ H, W m σ H → c σ H fun b H1 => if b = true then kTurn W tb D m σ H1 else D.nx σ H1) : tWhile c tb D σ H := ⟨W, ⟨m0, h0⟩, hs⟩
theorem s_kturn {W : Nat → L2.St → Hp → Prop} {tb : TS} {m : Nat} (q : tb { D with nx := fun σ' H' => ∃ m', m' < m ∧ W m' σ' H', ct := fun σ' H' => ∃ m', m' < m ∧ W m' σ' H', bk := D.nx } σ H) : kTurn W tb D m σ H := ⟨_, fun _ _ z => z, q⟩
end
end Zg
/-! ## Zlaw1 -/
set_option Elab.async false
set_option linter.all false
set_option maxRecDepth 100000
set_option maxHeartbeats 4000000
namespace Zg
open PySem PySem.Spec PyProof.Rows L2
/-- the law's drawing state: a list at c; bud its budget, vn its names -/
def CS (H : Hp) (c : Addr) (bud : Int) (vn : V) : Prop := ∃ (s : Addr) (ns : List Int) (a b d : Int), H c = some (.lst [.ref s, .int a, .int b, .int d, .int bud, vn]) ∧ H s = some (.lst (ns.map V.int)) ∧ 0 ≤ a ∧ s ≠ c
theorem CS.sm {H H' : Hp} (s : Same H H') {c : Addr} {bud : Int} {vn : V} (h : CS H c bud vn) : CS H' c bud vn :=
  let ⟨x, ns, a, b, d, hc, hs, ha, hsc⟩ := h
  ⟨x, ns, a, b, d, s _ _ hc, s _ _ hs, ha, hsc⟩
theorem CS.has {H : Hp} {c : Addr} {bud : Int} {vn : V} (h : CS H c bud vn) : ∃ xs, H c = some (.lst xs) :=
  let ⟨_, _, _, _, _, hc, _⟩ := h
  ⟨_, hc⟩
/-- a new object is another one than the state -/
theorem CS.ne {H H' : Hp} {c p : Addr} {bud : Int} {vn : V} {o : HO} (h : CS H c bud vn) (a : Al H H' p o) : p ≠ c :=
  let ⟨_, hc⟩ := h.has
  (ne_of_none hc a.nw).symm
def spFill : Sp := fun vs H Q _ => ∃ (c : Addr) (bud : Int) (vn : V), vs = [.ref c] ∧ CS H c bud vn ∧ ∀ r H', CS H' c bud vn → Mu c H H' → Q (.int r) H'
def spTake : Sp := fun vs H Q _ => ∃ (c : Addr) (bud : Int) (vn : V) (m : Int), vs = [.ref c, .int m] ∧ CS H c bud vn ∧ 0 < m ∧ m < 1073741824 ∧ ∀ r H', 0 ≤ r → r < m → CS H' c bud vn → Mu c H H' → Q (.int r) H'
local macro_rules | `(tactic| w_dflts lk) => `(tactic| first | (exact Wr.at_ (by assumption)) | done)
local macro_rules | `(tactic| w_dflts lk) => `(tactic| first | (exact Al.at_ (by assumption)) | done)
local macro_rules | `(tactic| w_dflts lk) => `(tactic| first | (assumption) | done)
local macro_rules | `(tactic| w_dflts lk) => `(tactic| first | (((with_reducible refine' lk_fix (by with_reducible assumption) ?a ?b); (case b => exact rfl); (case a => w_dflts lk))) | done)
local macro_rules | `(tactic| w_dflts lk) => `(tactic| first | (((with_reducible refine' lk_wrk (by with_reducible assumption) ?a ?b ?c); (case a => w_dflts lk); (case b => w_dflts lk); (case c => exact rfl))) | done)
local macro_rules | `(tactic| w_dflts lk) => `(tactic| first | (((with_reducible refine' lk_wr (by with_reducible assumption) ?a ?b); (case b => kspl_open ne); (case a => w_dflts lk))) | done)
local macro_rules | `(tactic| w_dflts lk) => `(tactic| first | (((with_reducible refine' lk_muk (by with_reducible assumption) ?a ?b ?c); (case a => w_dflts lk); (case b => w_dflts lk); (case c => exact rfl))) | done)
local macro_rules | `(tactic| w_dflts lk) => `(tactic| first | (((with_reducible refine' lk_mu (by with_reducible assumption) ?a ?b); (case b => kspl_open ne); (case a => w_dflts lk))) | done)
local macro_rules | `(tactic| w_dflts lk) => `(tactic| first | (((with_reducible refine' lk_muf (by with_reducible assumption) ?a ?b); (case b => exact rfl); (case a => w_dflts lk))) | done)
local macro_rules | `(tactic| w_dflts lk) => `(tactic| first | (((with_reducible refine' lk_same (by with_reducible assumption) ?a); (case a => w_dflts lk))) | done)
local macro_rules | `(tactic| w_dflts lk) => `(tactic| first | (((with_reducible refine' lk_al (by with_reducible assumption) ?a); (case a => w_dflts lk))) | done)
local macro_rules | `(tactic| w_dflts lk) => `(tactic| first | (((with_reducible refine' Wr.at_ ?a); (case a => with_reducible assumption))) | done)
local macro_rules | `(tactic| w_dflts lk) => `(tactic| first | (((with_reducible refine' Al.at_ ?a); (case a => with_reducible assumption))) | done)
local macro_rules | `(tactic| w_dflts lk) => `(tactic| first | (with_reducible assumption) | done)
local macro_rules | `(tactic| kspl_open ne) => `(tactic| first | (assumption) | done)
local macro_rules | `(tactic| kspl_open ne) => `(tactic| first | ((apply Ne.symm; refine' ne_of_none ?a (Al.nw (by with_reducible assumption)); (case a => w_dflts lk))) | done)
local macro_rules | `(tactic| kspl_open ne) => `(tactic| first | ((refine' ne_of_none ?a (Al.nw (by with_reducible assumption)); (case a => w_dflts lk))) | done)
local macro_rules | `(tactic| kspl_open ne) => `(tactic| first | ((apply Ne.symm; assumption)) | done)
local macro_rules | `(tactic| kspl_open ne) => `(tactic| first | (with_reducible assumption) | done)
local macro_rules | `(tactic| kspl_open fx) => `(tactic| first | (assumption) | done)
local macro_rules | `(tactic| kspl_open fx) => `(tactic| first | ((refine' Fix.trans ?a (by with_reducible assumption); (case a => kspl_open fx))) | done)
local macro_rules | `(tactic| kspl_open fx) => `(tactic| first | ((refine' Fix.trans ?a (Fix.of_same (by with_reducible assumption)); (case a => kspl_open fx))) | done)
local macro_rules | `(tactic| kspl_open fx) => `(tactic| first | ((refine' Fix.trans ?a (Mu.fx (by with_reducible assumption)); (case a => kspl_open fx))) | done)
local macro_rules | `(tactic| kspl_open fx) => `(tactic| first | ((refine' Fix.trans ?a (Wr.fx (by with_reducible assumption)); (case a => kspl_open fx))) | done)
local macro_rules | `(tactic| kspl_open fx) => `(tactic| first | ((refine' Fix.trans ?a (Al.fx (by with_reducible assumption)); (case a => kspl_open fx))) | done)
local macro_rules | `(tactic| kspl_open fx) => `(tactic| first | (with_reducible assumption) | done)
local macro_rules | `(tactic| kspl_open fx) => `(tactic| first | ((with_reducible exact Fix.refl _)) | done)
local macro_rules | `(tactic| kspl_open sm) => `(tactic| first | (assumption) | done)
local macro_rules | `(tactic| kspl_open sm) => `(tactic| first | ((intro _ _ _; w_dflts lk)) | done)
local macro_rules | `(tactic| kspl_open sm) => `(tactic| first | ((refine' Same.trans ?a (by with_reducible assumption); (case a => kspl_open sm))) | done)
local macro_rules | `(tactic| kspl_open sm) => `(tactic| first | ((refine' Same.trans ?a (Al.sm (by with_reducible assumption)); (case a => kspl_open sm))) | done)
local macro_rules | `(tactic| kspl_open sm) => `(tactic| first | (with_reducible assumption) | done)
local macro_rules | `(tactic| kspl_open sm) => `(tactic| first | ((with_reducible exact Same.refl _)) | done)
local macro_rules | `(tactic| kspl_open mu) => `(tactic| first | (assumption) | done)
local macro_rules | `(tactic| kspl_open mu) => `(tactic| first | ((refine' Mu.mk ?a ?b; (case a => intro _ _ _ _; w_dflts lk); (case b => kspl_open fx))) | done)
local macro_rules | `(tactic| kspl_open mu) => `(tactic| first | ((refine' Mu.trans ?a (by with_reducible assumption); (case a => kspl_open mu))) | done)
local macro_rules | `(tactic| kspl_open mu) => `(tactic| first | ((refine' Mu.trans ?a (Mu.of_same (by with_reducible assumption)); (case a => kspl_open mu))) | done)
local macro_rules | `(tactic| kspl_open mu) => `(tactic| first | ((refine' Mu.trans ?a (Mu.of_wr (by with_reducible assumption)); (case a => kspl_open mu))) | done)
local macro_rules | `(tactic| kspl_open mu) => `(tactic| first | ((refine' Mu.trans ?a (Mu.of_al (by with_reducible assumption)); (case a => kspl_open mu))) | done)
local macro_rules | `(tactic| kspl_open mu) => `(tactic| first | (with_reducible assumption) | done)
local macro_rules | `(tactic| kspl_open mu) => `(tactic| first | ((with_reducible exact Mu.refl _ _)) | done)
local macro_rules | `(tactic| fail "e") => `(tactic| first | (assumption) | done)
local macro_rules | `(tactic| fail "e") => `(tactic| first | ((refine' EAt.fix (by with_reducible assumption) ?a; (case a => fail "e"))) | done)
local macro_rules | `(tactic| fail "e") => `(tactic| first | ((refine' EAt.fix (Fix.of_same (by with_reducible assumption)) ?a; (case a => fail "e"))) | done)
local macro_rules | `(tactic| fail "e") => `(tactic| first | ((refine' EAt.fix (Mu.fx (by with_reducible assumption)) ?a; (case a => fail "e"))) | done)
local macro_rules | `(tactic| fail "e") => `(tactic| first | ((refine' EAt.fix (Wr.fx (by with_reducible assumption)) ?a; (case a => fail "e"))) | done)
local macro_rules | `(tactic| fail "e") => `(tactic| first | ((refine' EAt.fix (Al.fx (by with_reducible assumption)) ?a; (case a => fail "e"))) | done)
local macro_rules | `(tactic| fail "e") => `(tactic| first | (((with_reducible refine' EAt.do2 ?a ?b ?c ?d); (case a => w_dflts lk); (case b => w_dflts lk); (case c => fail "e"); (case d => fail "e"))) | done)
local macro_rules | `(tactic| fail "e") => `(tactic| first | (((with_reducible refine' EAt.do1 ?a ?b ?c); (case a => w_dflts lk); (case b => w_dflts lk); (case c => fail "e"))) | done)
local macro_rules | `(tactic| fail "e") => `(tactic| first | (((with_reducible refine' EAt.withh ?a ?b); (case a => w_dflts lk); (case b => fail "e"))) | done)
local macro_rules | `(tactic| fail "e") => `(tactic| first | (((with_reducible refine' EAt.keep ?a ?b); (case a => w_dflts lk); (case b => fail "e"))) | done)
local macro_rules | `(tactic| fail "e") => `(tactic| first | (((with_reducible refine' EAt.rule ?a ?b ?c); (case a => w_dflts lk); (case b => fail "e"); (case c => fail "e"))) | done)
local macro_rules | `(tactic| fail "e") => `(tactic| first | (((with_reducible refine' EAt.iff ?a ?b ?c ?d); (case a => w_dflts lk); (case b => fail "e"); (case c => fail "e"); (case d => fail "e"))) | done)
local macro_rules | `(tactic| fail "e") => `(tactic| first | (((with_reducible refine' EAt.lett ?a ?b ?c); (case a => w_dflts lk); (case b => fail "e"); (case c => fail "e"))) | done)
local macro_rules | `(tactic| fail "e") => `(tactic| first | (((with_reducible refine' EAt.less ?a ?b ?c); (case a => w_dflts lk); (case b => fail "e"); (case c => fail "e"))) | done)
local macro_rules | `(tactic| fail "e") => `(tactic| first | (((with_reducible refine' EAt.sum ?a ?b ?c); (case a => w_dflts lk); (case b => fail "e"); (case c => fail "e"))) | done)
local macro_rules | `(tactic| fail "e") => `(tactic| first | (((with_reducible refine' EAt.call ?a ?b ?c); (case a => w_dflts lk); (case b => fail "e"); (case c => fail "e"))) | done)
local macro_rules | `(tactic| fail "e") => `(tactic| first | (((with_reducible refine' EAt.say ?a ?b); (case a => w_dflts lk); (case b => fail "e"))) | done)
local macro_rules | `(tactic| fail "e") => `(tactic| first | (((with_reducible refine' EAt.fn ?a ?b); (case a => w_dflts lk); (case b => fail "e"))) | done)
local macro_rules | `(tactic| fail "e") => `(tactic| first | (((with_reducible refine' EAt.part ?a); (case a => w_dflts lk))) | done)
local macro_rules | `(tactic| fail "e") => `(tactic| first | (((with_reducible refine' EAt.usual ?a); (case a => w_dflts lk))) | done)
local macro_rules | `(tactic| fail "e") => `(tactic| first | (((with_reducible refine' EAt.name ?a); (case a => w_dflts lk))) | done)
local macro_rules | `(tactic| fail "e") => `(tactic| first | (((with_reducible refine' EAt.num ?a); (case a => w_dflts lk))) | done)
local macro_rules | `(tactic| fail "e") => `(tactic| first | (with_reducible assumption) | done)
local macro_rules | `(tactic| fail "fl") => `(tactic| first
  | (with_reducible exact lk_eq)
  | (with_reducible exact lk_nil)
  | ((with_reducible refine' lk_ne ?a ?b); (case a => decide +kernel); (case b => fail "fl")))
local macro_rules | `(tactic| fail "pf") => `(tactic| first
  | (with_reducible exact pf_eq)
  | (with_reducible exact pf_nil)
  | ((with_reducible refine' pf_ne ?a ?b); (case a => decide +kernel); (case b => fail "pf")))
local macro_rules | `(tactic| fail "im") => `(tactic| first | ((with_reducible refine' im_3 ?a); (case a => decide +kernel)) | exact rfl)
local macro_rules | `(tactic| fail "sq") => `(tactic| first | assumption | (refine' SqT.of ?a; (case a => w_dflts lk)) | (refine' SqL.of ?a; (case a => w_dflts lk)))
local macro_rules | `(tactic| fail "dk") => `(tactic| first | decide +kernel | exact rfl)
local macro_rules | `(tactic| fail "g") => `(tactic| repeat fail "g1")
local macro_rules | `(tactic| fail "b") => `(tactic| try dsimp only [cxOf, Cx.nox, Cx.wish])
local macro_rules | `(tactic| fail "un") => `(tactic| first
  | ((with_reducible refine' s_forTu ?a ?b); (case a => fail "sq"))
  | ((with_reducible refine' s_klcTu ?a ?b); (case a => fail "sq"); intro _ _ _))
local macro_rules | `(tactic| fail "ar") => `(tactic| first | exact Or.inr ⟨by decide, by decide⟩ | exact ⟨by decide, by decide⟩ | exact ⟨by decide, by decide, by decide⟩ | omega | (show (0 : Int) < _; omega) | exact Or.inl ⟨by omega, by omega⟩ | exact ⟨by omega, by omega⟩)
local macro_rules | `(tactic| fail "slc") => `(tactic| first | assumption | (intro h; exact absurd h.1 (by decide)))
local macro_rules | `(tactic| fail "len") => `(tactic| first | assumption | omega | exact Nat.le_of_ble_eq_true rfl)
local macro_rules | `(tactic| kspl_open cs) => `(tactic| first
  | with_reducible assumption
  | (refine' CS.sm (Al.sm (by with_reducible assumption)) ?a; (case a => kspl_open cs))
  | (refine' CS.sm (by with_reducible assumption) ?a; (case a => kspl_open cs))
  | assumption)
local macro_rules | `(tactic| kspl_open env) => `(tactic| first | (assumption) | done)
local macro_rules | `(tactic| kspl_open env) => `(tactic| first | ((refine' EnvAt.fix0 (by with_reducible assumption) ?a; (case a => kspl_open env))) | done)
local macro_rules | `(tactic| kspl_open env) => `(tactic| first | ((refine' EnvAt.fix0 (Fix.of_same (by with_reducible assumption)) ?a; (case a => kspl_open env))) | done)
local macro_rules | `(tactic| kspl_open env) => `(tactic| first | ((refine' EnvAt.fix0 (Mu.fx (by with_reducible assumption)) ?a; (case a => kspl_open env))) | done)
local macro_rules | `(tactic| kspl_open env) => `(tactic| first | ((refine' EnvAt.fix0 (Wr.fx (by with_reducible assumption)) ?a; (case a => kspl_open env))) | done)
local macro_rules | `(tactic| kspl_open env) => `(tactic| first | ((refine' EnvAt.fix0 (Al.fx (by with_reducible assumption)) ?a; (case a => kspl_open env))) | done)
local macro_rules | `(tactic| kspl_open env) => `(tactic| first | (with_reducible assumption) | done)
local macro_rules | `(tactic| fail "sqA") => `(tactic| first | fail "sq" | (refine' sq_all ?a; (case a => assumption)))
local macro_rules | `(tactic| fail "un") => `(tactic| first | (((with_reducible refine' s_forEW ?a ?b); (case a => exact rfl))) | done)
local macro_rules | `(tactic| fail "un") => `(tactic| first | (((with_reducible refine' s_forEL ?a ?b); (case a => fail "sq"))) | done)
local macro_rules | `(tactic| fail "un") => `(tactic| first | (((with_reducible refine' s_forET ?a ?b); (case a => fail "sqA"))) | done)
local macro_rules | `(tactic| fail "un") => `(tactic| first | (((with_reducible refine' s_klcLu ?a ?b); (case a => w_dflts lk); intro _ _ _)) | done)
local macro_rules | `(tactic| fail "un") => `(tactic| first | (((with_reducible refine' s_klcTu ?a ?b); (case a => fail "sqA"); intro _ _ _)) | done)
local macro_rules | `(tactic| fail "un") => `(tactic| first | (((with_reducible refine' s_forTu ?a ?b); (case a => fail "sqA"))) | done)
local macro_rules | `(tactic| kspl_open nw) => `(tactic| first | ((refine' fr_wr (by assumption) ?a; (case a => kspl_open nw))) | done)
local macro_rules | `(tactic| kspl_open nw) => `(tactic| first | ((refine' fr_same (by assumption) ?a; (case a => kspl_open nw))) | done)
local macro_rules | `(tactic| kspl_open nw) => `(tactic| first | ((refine' fr_al (by assumption) ?a; (case a => kspl_open nw))) | done)
local macro_rules | `(tactic| kspl_open nw) => `(tactic| first | (exact Al.nw (by assumption)) | done)
local macro_rules | `(tactic| kspl_open nw) => `(tactic| first | (assumption) | done)
local macro_rules | `(tactic| fail "g1") => `(tactic| first
  | dsimp only
  | done)
local macro_rules | `(tactic| fail "g1") => `(tactic| first
  | (with_reducible refine' s_tdnotin ?_)
  | ((with_reducible refine' s_kdinI ?a ?b); (case a => w_dflts lk))
  | ((with_reducible refine' s_kdinP ?a ?c ?b); (case a => w_dflts lk); (case c => w_dflts lk))
  | ((with_reducible refine' s_catA ?a ?c ?d ?b); (case a => fail "sq"); (case c => fail "sq"); (case d => fail "len"); intro _ _ _)
  | (with_reducible refine' s_tdget1 ?_)
  | (with_reducible refine' s_tdget2 ?_)
  | ((with_reducible refine' s_kget1T ?a ?b); (case a => w_dflts lk))
  | ((with_reducible refine' s_kget2T ?a ?b); (case a => w_dflts lk))
  | ((with_reducible refine' s_kgoP ?a ?c ?b); (case a => w_dflts lk); (case c => w_dflts lk))
  | ((with_reducible refine' s_kdputP ?a ?c ?l ?b); (case a => w_dflts lk); (case c => w_dflts lk); (case l => fail "len"); intro _ _)
  | done)
local macro_rules | `(tactic| fail "g1") => `(tactic| first
  | (with_reducible refine' s_ienT ?_)
  | (with_reducible refine' s_ienL ?_)
  | (with_reducible refine' s_ienS ?_)
  | ((with_reducible refine' s_kenT ?a ?b); (case a => fail "sqA"))
  | ((with_reducible refine' s_kenL ?a ?b); (case a => fail "sq"))
  | (with_reducible refine' s_kenS ?_)
  | ((with_reducible refine' s_gtup ?a ?c ?b); (case a => fail "sq"); (case c => exact rfl))
  | (with_reducible refine' s_gcons ?_)
  | (with_reducible refine' s_gnil ?_)
  | (with_reducible refine' s_tdin ?_)
  | done)
local macro_rules | `(tactic| fail "g1") => `(tactic| first
  | (with_reducible refine' s_knotV ?_)
  | ((with_reducible refine' s_taug ?a ?b); (case a => exact rfl))
  | (with_reducible refine' s_ipI ?_)
  | (with_reducible refine' s_trevL ?_)
  | ((with_reducible refine' s_krevL ?a ?b); (case a => w_dflts lk); intro _ _ _)
  | (with_reducible refine' s_wen ?_)
  | ((with_reducible refine' s_wec ?_); intro _ _ _)
  | ((with_reducible refine' s_weaT ?a ?b); (case a => fail "sqA"))
  | ((with_reducible refine' s_weaL ?a ?b); (case a => fail "sq"))
  | (with_reducible refine' s_weaS ?_)
  | done)
local macro_rules | `(tactic| fail "g1") => `(tactic| first
  | (with_reducible refine' s_wln ?_)
  | (with_reducible refine' s_wlc ?_)
  | ((with_reducible refine' s_wla ?a ?b); (case a => fail "sq"))
  | (with_reducible refine' s_bm0 ?_)
  | ((with_reducible refine' s_lenZ ?a ?b); (case a => exact Nat.le_of_ble_eq_true rfl))
  | (with_reducible refine' s_tandV ?_)
  | (with_reducible refine' s_torV ?_)
  | (with_reducible refine' s_tnotV ?_)
  | (with_reducible refine' s_kandV ?_)
  | (with_reducible refine' s_korV ?_)
  | done)
local macro_rules | `(tactic| fail "g1") => `(tactic| first
  | ((with_reducible refine' s_kgetS ?a ?b); (case a => exact rfl))
  | ((with_reducible refine' s_knotS ?a ?b); (case a => exact rfl))
  | ((with_reducible refine' s_kgetP ?a ?b); (case a => exact rfl); intro _ _)
  | ((with_reducible refine' s_popS ?a ?b); (case a => w_dflts lk); intro _ _)
  | ((with_reducible refine' s_ext ?a ?c ?l ?b); (case a => w_dflts lk); (case c => w_dflts lk); (case l => fail "len"); intro _ _)
  | (with_reducible refine' s_kturn ?_)
  | (with_reducible refine' s_asgG ?_)
  | (with_reducible refine' s_gfld ?_)
  | ((with_reducible refine' s_kgfld ?a ?c ?n ?i ?l ?f ?b); (case a => w_dflts lk); (case c => exact CF.cls (by decide +kernel)); (case n => exact CF.na (by decide +kernel)); (case i => fail "im"); (case l => exact rfl); (case f => fail "pf"); intro _ _)
  | (with_reducible refine' s_tnotT ?_)
  | done)
local macro_rules | `(tactic| fail "g1") => `(tactic| first
  | (with_reducible refine' s_iT ?_)
  | ((with_reducible refine' s_kiL ?a ?b); (case a => fail "sq"))
  | ((with_reducible refine' s_kiT ?a ?b); (case a => fail "sq"))
  | (with_reducible refine' s_for ?_)
  | (with_reducible refine' s_lc ?_)
  | ((with_reducible refine' s_truL ?a ?b); (case a => w_dflts lk))
  | ((with_reducible refine' s_truT ?a ?b); (case a => w_dflts lk))
  | (with_reducible refine' s_truN ?_)
  | (with_reducible refine' s_u ?_)
  | (with_reducible refine' s_un ?_)
  | done)
local macro_rules | `(tactic| fail "g1") => `(tactic| first
  | (with_reducible refine' s_wfn ?_)
  | ((with_reducible refine' s_wfa ?a ?b); (case a => fail "sq"))
  | (with_reducible refine' s_wcn ?_)
  | ((with_reducible refine' s_wca ?a ?b); (case a => fail "sq"))
  | (with_reducible refine' s_sdput ?_)
  | ((with_reducible refine' s_kdputA ?a ?l ?b); (case a => assumption); (case l => fail "len"); intro _ _)
  | (with_reducible refine' s_tdget ?_)
  | ((with_reducible refine' s_kdgetK ?a ?e ?b); (case a => w_dflts lk); (case e => assumption))
  | ((with_reducible refine' s_addStr ?a ?b); (case a => fail "len"))
  | (with_reducible refine' s_iL ?_)
  | done)
local macro_rules | `(tactic| fail "g1") => `(tactic| first
  | (with_reducible refine' s_kpart ?_)
  | ((with_reducible refine' s_slT1 ?a ?b); (case a => fail "sq"); intro _ _ _)
  | ((with_reducible refine' s_slT ?a ?c ?b); (case a => fail "sq"); (case c => fail "slc"); intro _ _ _)
  | ((with_reducible refine' s_slL ?a ?b); (case a => fail "sq"); intro _ _ _)
  | ((with_reducible refine' s_cat ?a ?c ?d ?b); (case a => w_dflts lk); (case c => w_dflts lk); (case d => fail "len"); intro _ _ _)
  | ((with_reducible refine' s_addStr ?a ?b); (case a => fail "len"))
  | ((with_reducible refine' s_pop ?a ?c ?b); (case a => w_dflts lk); (case c => exact rfl); intro _ _)
  | ((with_reducible refine' s_bm0L ?a ?b); (case a => w_dflts lk))
  | ((with_reducible refine' s_i ?a ?b); (case a => fail "ar"))
  | (with_reducible refine' s_tru ?_)
  | done)
local macro_rules | `(tactic| fail "g1") => `(tactic| first
  | (with_reducible refine' s_isStrT ?_)
  | ((with_reducible refine' s_isTup ?a ?b); (case a => w_dflts lk))
  | ((with_reducible refine' s_isE ?a ?b); (case a => fail "e"))
  | ((with_reducible refine' s_isTupI ?a ?b); (case a => w_dflts lk))
  | ((with_reducible refine' s_inT ?a ?c ?d ?b); (case a => w_dflts lk); (case c => exact rfl); (case d => exact rfl))
  | ((with_reducible refine' s_inL ?a ?c ?d ?b); (case a => w_dflts lk); (case c => exact rfl); (case d => exact rfl))
  | ((with_reducible refine' s_inK ?a ?c ?d ?b); (case a => assumption); (case c => exact rfl); (case d => exact rfl))
  | (with_reducible refine' s_sl ?_)
  | (with_reducible refine' s_noPart ?_)
  | (with_reducible refine' s_part ?_)
  | done)
local macro_rules | `(tactic| fail "g1") => `(tactic| first
  | ((with_reducible refine' s_lenL ?a ?b); (case a => fail "sq"))
  | ((with_reducible refine' s_lenT ?a ?b); (case a => fail "sq"))
  | ((with_reducible refine' s_isN ?_))
  | ((with_reducible refine' s_notN ?_))
  | ((with_reducible refine' s_dictD ?a ?b); (case a => w_dflts lk); intro _ _ _)
  | ((with_reducible refine' s_tupOf ?a ?b); (case a => fail "sq"); intro _ _ _)
  | (with_reducible refine' s_isInt ?_)
  | (with_reducible refine' s_isStr ?_)
  | (with_reducible refine' s_isIntB ?_)
  | (with_reducible refine' s_isIntT ?_)
  | done)
local macro_rules | `(tactic| fail "g1") => `(tactic| first
  | (with_reducible refine' s_retN ?_)
  | (with_reducible refine' s_ifx ?_)
  | ((with_reducible refine' s_setL ?a ?l ?b); (case a => w_dflts lk); (case l => exact rfl); intro _ _)
  | (with_reducible refine' s_asgS ?_)
  | (with_reducible refine' s_sfld ?_)
  | ((with_reducible refine' s_ksfld ?a ?c ?n ?i ?l ?f ?b); (case a => w_dflts lk); (case c => exact CF.cls (by decide +kernel)); (case n => exact CF.na (by decide +kernel)); (case i => fail "im"); (case l => exact rfl); (case f => fail "pf"); intro _ _)
  | (with_reducible refine' s_aug ?_)
  | ((with_reducible refine' s_kaugI ?a ?c ?n ?k ?i ?l ?r ?f ?b); (case a => w_dflts lk); (case c => exact CF.cls (by decide +kernel)); (case n => exact CF.na (by decide +kernel)); (case k => fail "fl"); (case i => fail "im"); (case l => exact rfl); (case r => first | exact r_add | exact r_sub); (case f => fail "pf"); intro _ _)
  | (with_reducible refine' s_intI ?_)
  | (with_reducible refine' s_intB ?_)
  | done)
local macro_rules | `(tactic| fail "g1") => `(tactic| first
  | ((with_reducible refine' s_ne ?a ?b); (case a => exact rfl))
  | (with_reducible refine' s_tlst ?_)
  | ((with_reducible refine' s_klst ?a ?b); (case a => exact Nat.le_of_ble_eq_true rfl); intro _ _ _)
  | (with_reducible refine' s_yes ?_)
  | (with_reducible refine' s_wcc ?_)
  | (with_reducible refine' s_wfc ?_)
  | ((with_reducible refine' s_ixL ?a ?c ?b); (case a => fail "sq"); (case c => first | exact rfl | exact at0 | assumption))
  | ((with_reducible refine' s_dnK ?_); intro _ _ _)
  | ((with_reducible refine' s_dnT ?_); intro _ _ _)
  | (with_reducible refine' s_make ?_)
  | done)
local macro_rules | `(tactic| fail "g1") => `(tactic| first
  | (with_reducible refine' s_ttup ?_)
  | ((with_reducible refine' s_ktup ?a ?b); (case a => exact Nat.le_of_ble_eq_true rfl); intro _ _ _)
  | (with_reducible refine' s_tfld ?_)
  | ((with_reducible refine' s_kfld ?a ?c ?n ?l ?b); (case a => w_dflts lk); (case c => exact CF.cls (by decide +kernel)); (case n => exact CF.na (by decide +kernel)); (case l => fail "fl"))
  | (with_reducible refine' s_gName ?_)
  | ((with_reducible refine' s_klct ?a ?b); (case a => exact rfl))
  | ((with_reducible refine' s_kapp ?a ?l ?b); (case a => w_dflts lk); (case l => fail "len"); intro _ _)
  | (with_reducible refine' s_or ?_)
  | (with_reducible refine' s_and ?_)
  | (with_reducible refine' s_not ?_)
  | done)
local macro_rules | `(tactic| fail "g1") => `(tactic| first
  | (with_reducible refine' s_ret ?_)
  | (with_reducible refine' s_tb ?_)
  | (with_reducible refine' s_cb ?_)
  | (with_reducible refine' s_call ?_)
  | (with_reducible refine' s_drop ?_)
  | (with_reducible refine' s_bm ?_)
  | ((with_reducible refine' s_kbmL ?a ?b); (case a => w_dflts lk))
  | ((with_reducible refine' s_append ?a ?l ?b); (case a => w_dflts lk); (case l => fail "len"); intro _ _)
  | (with_reducible refine' s_meth ?_)
  | ((with_reducible refine' s_kmeth ?a ?l ?b); (case a => w_dflts lk); (case l => fail "fl"))
  | done)
local macro_rules | `(tactic| fail "g1") => `(tactic| first | ((with_reducible refine' s_i0 ?_)) | done)
local macro_rules | `(tactic| fail "g1") => `(tactic| first | (((with_reducible refine' s_ixT ?a ?c ?b); (case a => fail "sq"); (case c => first | exact rfl | exact at0 | assumption))) | done)
local macro_rules | `(tactic| fail "g1") => `(tactic| first | ((with_reducible refine' s_asg ?_)) | done)
local macro_rules | `(tactic| fail "g1") => `(tactic| first | ((with_reducible refine' s_seq ?_)) | done)
local macro_rules | `(tactic| fail "g1") => `(tactic| first | ((with_reducible refine' s_next ?_)) | done)
local macro_rules | `(tactic| fail "g1") => `(tactic| first | ((with_reducible refine' s_ifs ?_)) | done)
local macro_rules | `(tactic| fail "g1") => `(tactic| first | (((with_reducible refine' i_t ?a ?b); (case a => fail "dk"))) | done)
local macro_rules | `(tactic| fail "g1") => `(tactic| first | (((with_reducible refine' i_f ?a ?b); (case a => fail "dk"))) | done)
local macro_rules | `(tactic| fail "g1") => `(tactic| first | (((with_reducible refine' s_eq ?a ?b); (case a => exact rfl))) | done)
local macro_rules | `(tactic| fail "g1") => `(tactic| first | ((with_reducible refine' s_test ?_)) | done)
local macro_rules | `(tactic| fail "g1") => `(tactic| first | ((with_reducible refine' s_kb ?_)) | done)
local macro_rules | `(tactic| fail "g1") => `(tactic| first | ((with_reducible refine' s_op ?_)) | done)
local macro_rules | `(tactic| fail "g1") => `(tactic| first | ((with_reducible refine' s_nil ?_)) | done)
local macro_rules | `(tactic| fail "g1") => `(tactic| first | ((with_reducible refine' s_c ?_)) | done)
local macro_rules | `(tactic| fail "g1") => `(tactic| first | (((with_reducible refine' s_var ?a ?b); (case a => exact rfl))) | done)
local macro_rules | `(tactic| fail "g1") => `(tactic| first | ((with_reducible refine' s_cons ?_)) | done)
section
variable {P : Program} {w : World} {K : PySem.W.Frag} {mg : Str → Option Value} {base : Heap} [Tx w K mg]
theorem ok_law_take (hd : Dd K d_law_take) (g_law_fill : Ok P w K mg base 1 d_law_fill ["_law_c"] spFill) : Ok P w K mg base 2 d_law_take ["_law_c", "_law_many"] spTake := by
  obtain ⟨⟨_, G_law_fill, b_law_fill⟩, k_law_fill⟩ := id g_law_fill
  refine ok_mk hd sc_law_take bd_law_take (fun vs H Q E h => ?_) (fun cdv A outer s H vs Q E hr h => ?_)
  · obtain ⟨_, _, _, _, rfl, _⟩ := h
    rfl
  obtain ⟨c, bud, vn, m, rfl, ⟨s, ns, a, b, d, hc, hs, ha, hsc⟩, hm0, hm1, k⟩ := h
  refine ⟨_, (pss_cons (ps_if (pt_cmpR op_lt (pe_ix ix_list (pv 0) pe_int (fun _ _ => rfl)) (pv 1) (nomark _)) (pss_one (ps_asg (pe_call G_law_fill (hr.mono (by omega)) rfl (Tx.gl (K := K) "_law_fill" (by decide +kernel)) k_law_fill b_law_fill .nil pass0 (pa_cons (pv 0) pa_nil)) (pg_sub (pv 0) pe_int set_list))) pss_nil)
  (pss_cons (ps_set (i := 2) sc_law_take.nd rfl (Or.inl rfl) (pe_op op_mod (pe_callTy call_intI rfl (Tx.fr (K := K) "int" (by decide +kernel)) (by decide +kernel) (pa_cons (pe_ix ix_list (pv 0) pe_int (fun _ _ => rfl)) pa_nil)) (pv 1)))
  (pss_cons (ps_asg (pe_op op_fdivN (pe_ix ix_list (pv 0) pe_int (fun _ _ => rfl)) (pv 1)) (pg_sub (pv 0) pe_int set_list))
  (pss_one (ps_ret (pv 2)))))), ?_⟩
  fail "b"
  fail "g"
  refine ite2 (fun _ => ?_) (fun _ => ?_)
  · fail "g"
    refine ⟨c, bud, vn, rfl, ⟨s, ns, a, b, d, hc, hs, ha, hsc⟩, fun r H1 ⟨s1, ns1, a1, b1, d1, hc1, hs1, ha1, hsc1⟩ m1 => ?_⟩
    fail "g"
    exact k _ _ (Int.emod_nonneg _ (by omega)) (Int.emod_lt_of_pos _ hm0) ⟨s1, ns1, a1, _, d1, by w_dflts lk, by w_dflts lk, ha1, hsc1⟩ (by kspl_open mu)
  · fail "g"
    exact k _ _ (Int.emod_nonneg _ (by omega)) (Int.emod_lt_of_pos _ hm0) ⟨s, ns, a, _, d, by w_dflts lk, by w_dflts lk, ha, hsc⟩ (by kspl_open mu)
end
/-! ## Zlaw2 -/
open PySem PySem.Spec PyProof.Rows L2
section
variable {P : Program} {w : World} {K : PySem.W.Frag} {mg : Str → Option Value} {base : Heap} [Tx w K mg]
theorem atI_map {ns : List Int} {j : Int} (h0 : 0 ≤ j) (h1 : j < (ns.length : Int)) : ∃ v, atI (ns.map V.int) j = some (.int v) := by
  obtain ⟨n, rfl⟩ : ∃ n : Nat, j = (n : Int) := ⟨j.toNat, by omega⟩
  have hn : n < ns.length := by omega
  exact ⟨ns[n], atI_nat (by rw [List.getElem?_map, List.getElem?_eq_getElem hn] <;> rfl)⟩
theorem atI_last {ns : List Int} (h : ns ≠ []) : ∃ v, atI (ns.map V.int) (-1) = some (.int v) := by
  have hl : 0 < ns.length := List.length_pos_iff.mpr h
  refine ⟨ns[ns.length - 1], ?_⟩
  have e : ixN (ns.map V.int).length (-1) = some (ns.length - 1) := by
    unfold ixN
    rw [List.length_map, if_neg (by decide), if_pos (by omega)]
    exact congrArg some (by omega)
  unfold atI
  rw [e]
  show (ns.map V.int)[ns.length - 1]? = _
  rw [List.getElem?_map, List.getElem?_eq_getElem (by omega)] <;> rfl
theorem ok_law_fill (hd : Dd K d_law_fill) : Ok P w K mg base 1 d_law_fill ["_law_c"] spFill := by
  refine ok_mk hd sc_law_fill bd_law_fill (fun vs H Q E h => ?_) (fun cdv A outer s0 H vs Q E hr h => ?_)
  · obtain ⟨_, _, _, rfl, _⟩ := h
    rfl
  obtain ⟨c, bud, vn, rfl, ⟨s, ns, a, b, d, hc, hs, ha, hsc⟩, k⟩ := h
  refine ⟨_, (pss_cons (ps_asg (pe_op op_add (pe_ix ix_list (pv 0) pe_int (fun _ _ => rfl)) pe_int) (pg_sub (pv 0) pe_int set_list))
  (pss_cons (ps_set (i := 1) sc_law_fill.nd rfl (Or.inl rfl) (pe_op op_add (pe_op op_mul (pe_ix ix_list (pv 0) pe_int (fun _ _ => rfl)) pe_int) pe_int))
  (pss_cons (ps_if (pt_cmpR op_lt (pe_ix ix_list (pv 0) pe_int (fun _ _ => rfl)) (pe_callB call_lenS rfl (Tx.fr (K := K) "len" (by decide +kernel)) (by decide +kernel) (pa_cons (pe_ix ix_list (pv 0) pe_int (fun _ _ => rfl)) pa_nil)) (nomark _)) (pss_cons (ps_set (i := 1) sc_law_fill.nd rfl (Or.inl rfl) (pe_ix ix_list (pe_ix ix_list (pv 0) pe_int (fun _ _ => rfl)) (pe_ix ix_list (pv 0) pe_int (fun _ _ => rfl)) (fun _ _ => rfl)))
  (pss_cons (ps_asg (pe_op op_add (pe_ix ix_list (pv 0) pe_int (fun _ _ => rfl)) pe_int) (pg_sub (pv 0) pe_int set_list))
  (pss_cons (ps_if (pt_cmpR op_lt (pv 1) pe_int (nomark _)) (pss_one (ps_set (i := 1) sc_law_fill.nd rfl (Or.inl rfl) (pe_op op_sub (pe_op op_sub pe_int pe_int) (pv 1)))) pss_nil)
  (pss_one (ps_if (pt_cmpR op_ge (pv 1) (pe_op op_pow pe_int pe_int) (nomark _)) (pss_one (ps_ret (pv 1))) pss_nil))))) pss_nil)
  (pss_cons (ps_if (PW.pt (pw_and (pt_truth1 (pe_ix ix_list (pv 0) pe_int (fun _ _ => rfl)) (by intro _; rfl)) (pw_and1 (pt_cmpR op_ge (pe_ix ix_list (pv 0) pe_int (fun _ _ => rfl)) (pe_callB call_lenS rfl (Tx.fr (K := K) "len" (by decide +kernel)) (by decide +kernel) (pa_cons (pe_ix ix_list (pv 0) pe_int (fun _ _ => rfl)) pa_nil)) (nomark _))))) (pss_one (ps_set (i := 1) sc_law_fill.nd rfl (Or.inl rfl) (pe_op op_add (pv 1) (pe_op op_mod (pe_callTy call_intI rfl (Tx.fr (K := K) "int" (by decide +kernel)) (by decide +kernel) (pa_cons (pe_ix ix_list (pe_ix ix_list (pv 0) pe_int (fun _ _ => rfl)) (pe_un un_neg pe_int) (fun _ _ => rfl)) pa_nil)) pe_int)))) pss_nil)
  (pss_cons (ps_set (i := 1) sc_law_fill.nd rfl (Or.inl rfl) (pe_op op_mod (pe_callTy call_intI rfl (Tx.fr (K := K) "int" (by decide +kernel)) (by decide +kernel) (pa_cons (pe_op op_add (pe_op op_mul (pv 1) pe_int) (pe_op op_mul (pe_ix ix_list (pv 0) pe_int (fun _ _ => rfl)) pe_int)) pa_nil)) pe_int))
  (pss_one (ps_ret (pe_op op_add (pe_op op_mod (pe_callTy call_intI rfl (Tx.fr (K := K) "int" (by decide +kernel)) (by decide +kernel) (pa_cons (pe_op op_add (pe_op op_add (pe_op op_mul (pv 1) (pv 1)) (pe_op op_mul (pe_ix ix_list (pv 0) pe_int (fun _ _ => rfl)) pe_int)) pe_int) pa_nil)) pe_int) pe_int)))))))), ?_⟩
  by_cases hn : ns = []
  · subst hn
    fail "b"
    fail "g"
    refine i_f (decide_eq_false (by show ¬ a < 0; omega)) ?_
    fail "g"
    exact k _ _ ⟨s, [], a, b, _, by w_dflts lk, by w_dflts lk, ha, hsc⟩ (by kspl_open mu)
  · obtain ⟨lv, hlv⟩ := atI_last hn
    have ne : (!(ns.map V.int).isEmpty) = true := by
      cases ns with
      | nil => exact absurd rfl hn
      | cons _ _ => rfl
    fail "b"
    fail "g"
    refine ite2 (fun hlt => ?_) (fun hge => ?_)
    · obtain ⟨v, hv⟩ := atI_map (ns := ns) (j := a) ha (by have q := of_decide_eq_true hlt; rw [List.length_map] at q; exact q)
      fail "g"
      refine ite2 (fun _ => ?_) (fun _ => ?_) <;> fail "g"
      all_goals refine ite2 (fun _ => ?_) (fun _ => ?_) <;> fail "g"
      · exact k _ _ ⟨s, ns, _, b, _, by w_dflts lk, by w_dflts lk, by omega, hsc⟩ (by kspl_open mu)
      · refine i_t ne ?_
        fail "g"
        refine ite2 (fun _ => ?_) (fun _ => ?_) <;> fail "g"
        all_goals exact k _ _ ⟨s, ns, _, b, _, by w_dflts lk, by w_dflts lk, by omega, hsc⟩ (by kspl_open mu)
      · exact k _ _ ⟨s, ns, _, b, _, by w_dflts lk, by w_dflts lk, by omega, hsc⟩ (by kspl_open mu)
      · refine i_t ne ?_
        fail "g"
        refine ite2 (fun _ => ?_) (fun _ => ?_) <;> fail "g"
        all_goals exact k _ _ ⟨s, ns, _, b, _, by w_dflts lk, by w_dflts lk, by omega, hsc⟩ (by kspl_open mu)
    · fail "g"
      refine i_t ne ?_
      fail "g"
      refine ite2 (fun _ => ?_) (fun _ => ?_) <;> fail "g"
      all_goals exact k _ _ ⟨s, ns, _, b, _, by w_dflts lk, by w_dflts lk, by omega, hsc⟩ (by kspl_open mu)
end
/-! ## Zlaw3 -/
open PySem PySem.Spec PyProof.Rows L2
theorem u_take {H : Hp} {c : Addr} {bud m : Int} {vn : V} {Q : VK} {E : XK} (h : CS H c bud vn) (h0 : 0 < m) (h1 : m < 1073741824) (q : ∀ r H', 0 ≤ r → r < m → CS H' c bud vn → Mu c H H' → Q (.int r) H') : spTake ([.ref c, .int m] ++ []) H Q E := ⟨c, bud, vn, m, rfl, h, h0, h1, q⟩
def spStart (K : PySem.W.Frag) : Sp := fun vs H Q _ => ∃ (a : Addr) (ns : List Int), vs = [.ref a] ∧ SqL K H a (ns.map V.int) ∧ ns.length ≤ 63 ∧ ∀ c l H', CS H' c 20 (.ref l) → H c = none → Same H H' → Q (.ref c) H'
def kindsV : List V := [.str "num", .str "name", .str "fn", .str "call", .str "sum", .str "less", .str "if", .str "let", .str "say"]
def wordsV : List V := kindsV ++ [.str "rule", .str "keep", .str "part", .str "with", .str "usual", .str "do"]
def spKinds : Sp := fun vs H Q _ => vs = [] ∧ ∀ p H', Al H H' p (.lst kindsV) → Q (.ref p) H'
def spFree : Sp := fun vs H Q _ => ∃ x : Str, vs = [.str x] ∧ ∀ H', Same H H' → Q (.bl (!inV (.str x) wordsV)) H'
def spInteger : Sp := fun vs H Q _ => ∃ (c : Addr) (bud : Int) (vn : V), vs = [.ref c] ∧ CS H c bud vn ∧ ∀ r H', CS H' c bud vn → Mu c H H' → Q (.int r) H'
/-- a leaf: a number, or a name of the scope -/
inductive Leaf0 (ρ : List Str) : E → Prop where
  | num (n : Int) : Leaf0 ρ (.num n)
  | name {x : Str} : x ∈ ρ → Leaf0 ρ (.name x)
def spLeaf : Sp := fun vs H Q _ => ∃ (c l : Addr) (bud : Int) (vn : V) (ρ : List Str), vs = [.ref c, .ref l, .non] ∧ CS H c bud vn ∧ H l = some (.lst (ρ.map V.str)) ∧ l ≠ c ∧ ρ.length < 1000 ∧ ∀ p e H', EAt H' (.ref p) e → Leaf0 ρ e → CS H' c bud vn → Mu c H H' → Q (.ref p) H'
theorem cut_63 {xs : List V} (h : xs.length ≤ 63) : cutV xs none (some 63) = xs := by
  unfold cutV
  have e1 : HT.sIx xs.length 0 none = 0 := rfl
  have e2 : HT.sIx xs.length xs.length (some 63) = xs.length := by
    unfold HT.sIx
    simp
    omega
  rw [e1, e2, List.drop_zero, Nat.sub_zero, List.take_length]
section
variable {P : Program} {w : World} {K : PySem.W.Frag} {mg : Str → Option Value} {base : Heap} [Tx w K mg]
theorem ok_law_start (hd : Dd K d_law_start) : Ok P w K mg base 1 d_law_start ["_law_script"] (spStart K) := by
  refine ok_mk hd sc_law_start bd_law_start (fun vs H Q E h => ?_) (fun cdv A outer s0 H vs Q E hr h => ?_)
  · obtain ⟨_, _, rfl, _⟩ := h
    rfl
  obtain ⟨a, ns, rfl, hS, hl, k⟩ := h
  refine ⟨_, (pss_one (ps_ret (pe_lst (pa_cons (pe_lc (own := [("_law_cell", 1)]) (g := (gName 1)) (tt := tYes) rfl sc_law_start.nd (pi_list (pe_slice sl_list (pv 0) po_none (po_some pe_int))) (blkOk_by (N := ["_law_script", "_law_cell"]) (sc := defScope s_law_start) (by decide +kernel)) (fun _ _ _ _ _ => pg_name (i := 1) sc_law_start.nd rfl (Or.inl rfl)) (fun _ _ _ _ _ => pts_nil) (fun _ _ _ _ _ => (pe_callTy call_intI rfl (Tx.fr (K := K) "int" (by decide +kernel)) (by decide +kernel) (pa_cons (pv 1) pa_nil)))) (pa_cons pe_int (pa_cons pe_int (pa_cons pe_int (pa_cons pe_int (pa_cons (pe_lst pa_nil) pa_nil))))))))), ?_⟩
  fail "b"
  fail "g"
  rename_i p1 H1 a1
  have hq : cutV (ns.map V.int) none (some 63) = ns.map V.int := cut_63 (by rw [List.length_map]; exact hl)
  rw [hq] at a1
  refine s_klcL (p := p1) (xs := ns.map V.int) (fun D i H2 => H1 D = none ∧ H2 D = some (.lst ((ns.take i).map V.int)) ∧ Same H1 H2) (fun D H2 a2 => ⟨a2.nw, a2.at_, a2.sm⟩) (fun D i H2 _ ⟨_, _, s2⟩ => SqL.of (s2 _ _ a1.at_)) ?_ ?_
  · rintro D i x H2 hx ⟨n2, h2, s2⟩
    obtain ⟨z, hz, rfl⟩ : ∃ z, ns[i]? = some z ∧ x = V.int z := by
      rw [List.getElem?_map] at hx
      cases e : ns[i]? with
      | none => rw [e] at hx; cases hx
      | some z => rw [e] at hx; exact ⟨z, rfl, (Option.some.inj hx).symm⟩
    fail "g"
    refine s_kapp h2 ?_ fun H3 w3 => ?_
    · have q := (List.getElem?_eq_some_iff.mp hz).1
      rw [List.length_map, List.length_take]
      exact Nat.lt_of_le_of_lt (Nat.min_le_right _ _) (Nat.lt_of_le_of_lt hl (by decide))
    · refine ⟨n2, ?_, fun b u e => w3.bt _ _ (s2 _ _ e) (ne_of_none e n2)⟩
      rw [w3.at_, List.take_add_one, hz, List.map_append]
      rfl
  · rintro D H2 ⟨n2, h2, s2⟩
    rw [List.length_map, List.take_length] at h2
    fail "g"
    rename_i l3 H3 a3 c4 H4 a4
    refine k c4 l3 H4 ⟨D, ns, 0, 0, 0, a4.at_, by w_dflts lk, Int.le_refl 0, ?_⟩ ?_ ?_
    · exact (ne_of_none (lk_al a3 h2) a4.nw)
    · exact (Same.trans a1.sm (Same.trans s2 a3.sm)).free a4.nw
    · exact Same.trans a1.sm (Same.trans s2 (Same.trans a3.sm a4.sm))
theorem ok_law_kinds (hd : Dd K d_law_kinds) : Ok P w K mg base 1 d_law_kinds [] spKinds := by
  refine ok_mk hd sc_law_kinds bd_law_kinds (fun vs H Q E h => ?_) (fun cdv A outer s0 H vs Q E hr h => ?_)
  · obtain ⟨rfl, _⟩ := h
    rfl
  obtain ⟨rfl, k⟩ := h
  refine ⟨_, (pss_one (ps_ret (pe_lst (pa_cons pe_str (pa_cons pe_str (pa_cons pe_str (pa_cons pe_str (pa_cons pe_str (pa_cons pe_str (pa_cons pe_str (pa_cons pe_str (pa_cons pe_str pa_nil)))))))))))), ?_⟩
  fail "b"
  fail "g"
  exact k _ _ (by assumption)
theorem ok_law_free (hd : Dd K d_law_free) (g_law_kinds : Ok P w K mg base 1 d_law_kinds [] spKinds) : Ok P w K mg base 2 d_law_free ["_law_name"] spFree := by
  obtain ⟨⟨_, G_law_kinds, b_law_kinds⟩, k_law_kinds⟩ := id g_law_kinds
  refine ok_mk hd sc_law_free bd_law_free (fun vs H Q E h => ?_) (fun cdv A outer s0 H vs Q E hr h => ?_)
  · obtain ⟨_, rfl, _⟩ := h
    rfl
  obtain ⟨x, rfl, k⟩ := h
  refine ⟨_, (pss_one (ps_ret (pe_cmpR op_notIn_seq (pv 0) (pe_op op_cat (pe_call0 G_law_kinds (hr.mono (by omega)) rfl (Tx.gl (K := K) "_law_kinds" (by decide +kernel)) k_law_kinds b_law_kinds .nil pass0) (pe_lst (pa_cons pe_str (pa_cons pe_str (pa_cons pe_str (pa_cons pe_str (pa_cons pe_str (pa_cons pe_str pa_nil)))))))) (by with_unfolding_all rfl)))), ?_⟩
  fail "b"
  fail "g"
  refine ⟨rfl, fun p H1 a1 => ?_⟩
  fail "g"
  exact k _ (by kspl_open sm)
theorem ok_law_integer (hd : Dd K d_law_integer) (g_law_take : Ok P w K mg base 2 d_law_take ["_law_c", "_law_many"] spTake) : Ok P w K mg base 3 d_law_integer ["_law_c"] spInteger := by
  obtain ⟨⟨_, G_law_take, b_law_take⟩, k_law_take⟩ := id g_law_take
  refine ok_mk hd sc_law_integer bd_law_integer (fun vs H Q E h => ?_) (fun cdv A outer s0 H vs Q E hr h => ?_)
  · obtain ⟨_, _, _, rfl, _⟩ := h
    rfl
  obtain ⟨c, bud, vn, rfl, hc, k⟩ := h
  refine ⟨_, (pss_one (ps_ret (pe_ix ix_list (pe_lst (pa_cons (pe_op op_sub (pe_call G_law_take (hr.mono (by omega)) rfl (Tx.gl (K := K) "_law_take" (by decide +kernel)) k_law_take b_law_take .nil pass0 (pa_cons (pv 0) (pa_cons pe_int pa_nil))) pe_int) (pa_cons (pe_op op_sub (pe_call G_law_take (hr.mono (by omega)) rfl (Tx.gl (K := K) "_law_take" (by decide +kernel)) k_law_take b_law_take .nil pass0 (pa_cons (pv 0) (pa_cons pe_int pa_nil))) pe_int) (pa_cons (pe_call G_law_take (hr.mono (by omega)) rfl (Tx.gl (K := K) "_law_take" (by decide +kernel)) k_law_take b_law_take .nil pass0 (pa_cons (pv 0) (pa_cons pe_int pa_nil))) (pa_cons (pe_op op_sub (pe_call G_law_take (hr.mono (by omega)) rfl (Tx.gl (K := K) "_law_take" (by decide +kernel)) k_law_take b_law_take .nil pass0 (pa_cons (pv 0) (pa_cons pe_int pa_nil))) pe_int) pa_nil))))) (pe_call G_law_take (hr.mono (by omega)) rfl (Tx.gl (K := K) "_law_take" (by decide +kernel)) k_law_take b_law_take .nil pass0 (pa_cons (pv 0) (pa_cons pe_int pa_nil))) (fun _ _ => rfl)))), ?_⟩
  fail "b"
  fail "g"
  refine u_take hc (by decide) (by decide) fun r1 H1 l1 u1 c1 m1 => ?_
  fail "g"
  refine u_take c1 (by decide) (by decide) fun r2 H2 l2 u2 c2 m2 => ?_
  fail "g"
  refine u_take c2 (by decide) (by decide) fun r3 H3 l3 u3 c3 m3 => ?_
  fail "g"
  refine u_take c3 (by decide) (by decide) fun r4 H4 l4 u4 c4 m4 => ?_
  fail "g"
  rename_i p5 H5 a5
  refine u_take (c4.sm a5.sm) (by decide) (by decide) fun r6 H6 l6 u6 c6 m6 => ?_
  have h6 := lk_mu m6 a5.at_ (c4.ne a5)
  rcases (show r6 = 0 ∨ r6 = 1 ∨ r6 = 2 ∨ r6 = 3 by omega) with rfl | rfl | rfl | rfl <;> fail "g" <;> exact k _ _ c6 (by kspl_open mu)
theorem ok_law_leaf (hd : Dd K d_law_leaf) (g_law_take : Ok P w K mg base 2 d_law_take ["_law_c", "_law_many"] spTake) (g_law_integer : Ok P w K mg base 3 d_law_integer ["_law_c"] spInteger) : Ok P w K mg base 4 d_law_leaf ["_law_c", "_law_names_here", "_law_about"] spLeaf := by
  obtain ⟨⟨_, G_law_take, b_law_take⟩, k_law_take⟩ := id g_law_take
  obtain ⟨⟨_, G_law_integer, b_law_integer⟩, k_law_integer⟩ := id g_law_integer
  refine ok_mk hd sc_law_leaf bd_law_leaf (fun vs H Q E h => ?_) (fun cdv A outer s0 H vs Q E hr h => ?_)
  · obtain ⟨_, _, _, _, _, rfl, _⟩ := h
    rfl
  obtain ⟨c, l, bud, vn, ρ, rfl, hc, hl, hlc, hn, k⟩ := h
  refine ⟨_, (pss_cons (ps_set (i := 3) sc_law_leaf.nd rfl (Or.inl rfl) (pe_call G_law_take (hr.mono (by omega)) rfl (Tx.gl (K := K) "_law_take" (by decide +kernel)) k_law_take b_law_take .nil pass0 (pa_cons (pv 0) (pa_cons pe_int pa_nil))))
  (pss_cons (ps_if (PW.pt (pw_and (pt_truth1 (pv 1) (by intro _; rfl)) (pw_and1 (pt_cmpR op_gt (pv 3) pe_int (nomark _))))) (pss_one (ps_ret (pe_tup (pa_cons pe_str (pa_cons (pe_ix ix_list (pv 1) (pe_call G_law_take (hr.mono (by omega)) rfl (Tx.gl (K := K) "_law_take" (by decide +kernel)) k_law_take b_law_take .nil pass0 (pa_cons (pv 0) (pa_cons (pe_callB call_lenS rfl (Tx.fr (K := K) "len" (by decide +kernel)) (by decide +kernel) (pa_cons (pv 1) pa_nil)) pa_nil))) (fun _ _ => rfl)) pa_nil))))) pss_nil)
  (pss_cons (ps_if (PW.pt (pw_and (pt_cmpR op_notN1 (pv 2) pe_non (nomark _)) (pw_and1 (pt_cmpR op_lt (pv 3) pe_int (nomark _))))) pss_never pss_nil)
  (pss_one (ps_ret (pe_tup (pa_cons pe_str (pa_cons (pe_call G_law_integer (hr.mono (by omega)) rfl (Tx.gl (K := K) "_law_integer" (by decide +kernel)) k_law_integer b_law_integer .nil pass0 (pa_cons (pv 0) pa_nil)) pa_nil)))))))), ?_⟩
  fail "b"
  fail "g"
  refine u_take hc (by decide) (by decide) fun r1 H1 l1 v1 c1 m1 => ?_
  have hl1 := lk_mu m1 hl hlc
  fail "g"
  by_cases hn0 : ρ = []
  · subst hn0
    fail "g"
    refine ⟨c, bud, vn, rfl, c1, fun r2 H2 c2 m2 => ?_⟩
    fail "g"
    rename_i p3 H3 a3
    exact k _ (.num r2) _ (by fail "e") (.num _) (by kspl_open cs) (by kspl_open mu)
  · have ne : (!(ρ.map V.str).isEmpty) = true := by
      cases ρ with
      | nil => exact absurd rfl hn0
      | cons _ _ => rfl
    refine i_t ne ?_
    fail "g"
    refine ite2 (fun _ => ?_) (fun _ => ?_)
    · fail "g"
      have hpos : 0 < ρ.length := List.length_pos_iff.mpr hn0
      refine u_take c1 (by rw [List.length_map]; omega) (by rw [List.length_map]; omega) fun r2 H2 l2 v2 c2 m2 => ?_
      rw [List.length_map] at v2
      obtain ⟨j, rfl⟩ : ∃ j : Nat, r2 = (j : Int) := ⟨r2.toNat, by omega⟩
      have hj : j < ρ.length := by omega
      have hl2 := lk_mu m2 hl1 hlc
      have hat : atI (ρ.map V.str) (j : Int) = some (.str ρ[j]) := atI_nat (by rw [List.getElem?_map, List.getElem?_eq_getElem hj] <;> rfl)
      fail "g"
      exact k _ (.name ρ[j]) _ (by fail "e") (.name (List.getElem_mem hj)) (by kspl_open cs) (by kspl_open mu)
    · fail "g"
      refine ⟨c, bud, vn, rfl, c1, fun r2 H2 c2 m2 => ?_⟩
      fail "g"
      exact k _ (.num r2) _ (by fail "e") (.num _) (by kspl_open cs) (by kspl_open mu)
end
/-! ## Zlaw4 -/
open PySem PySem.Spec PyProof.Rows L2
def E.size : E → Nat
  | .num _ => 1 | .name _ => 1 | .fn _ b => b.size + 1 | .call a b => a.size + b.size + 1 | .sum a b => a.size + b.size + 1 | .less a b => a.size + b.size + 1 | .iff a b c => a.size + b.size + c.size + 1
  | .lett _ a b => a.size + b.size + 1 | .say a => a.size + 1 | .rule _ r b => r.size + b.size + 1 | .keep _ r => r.size + 1 | .part _ => 1 | .withh a => a.size + 1 | .usual => 1 | .do1 a => a.size + 1 | .do2 a b => a.size + b.size + 1
def E.depth : E → Nat
  | .num _ => 1 | .name _ => 1 | .fn _ b => b.depth + 1 | .call a b => max a.depth b.depth + 1 | .sum a b => max a.depth b.depth + 1 | .less a b => max a.depth b.depth + 1 | .iff a b c => max a.depth (max b.depth c.depth) + 1
  | .lett _ a b => max a.depth b.depth + 1 | .say a => a.depth + 1 | .rule _ r b => max r.depth b.depth + 1 | .keep _ r => r.depth + 1 | .part _ => 1 | .withh a => a.depth + 1 | .usual => 1 | .do1 a => a.depth + 1 | .do2 a b => max a.depth b.depth + 1
/-- the programs that the law makes: names are bound, functions stand where they are called -/
inductive Pg : List Str → E → Prop where
  | leaf {ρ e} : Leaf0 ρ e → Pg ρ e
  | call {ρ x a b} : Pg (ρ ++ [x]) b → Pg ρ a → Pg ρ (.call (.fn x b) a)
  | lett {ρ x a b} : Pg ρ a → Pg (ρ ++ [x]) b → Pg ρ (.lett x a b)
  | say {ρ a} : Pg ρ a → Pg ρ (.say a)
  | iff {ρ a b c} : Pg ρ a → Pg ρ b → Pg ρ c → Pg ρ (.iff a b c)
  | sum {ρ a b} : Pg ρ a → Pg ρ b → Pg ρ (.sum a b)
  | less {ρ a b} : Pg ρ a → Pg ρ b → Pg ρ (.less a b)
def posI (b : Int) : Int := max b 0
/-- what a program is, made from the budget b, leaving the budget b' -/
structure Made (d : Nat) (b : Int) (ρ : List Str) (e : E) (b' : Int) : Prop where
  pg : Pg ρ e
  dp : e.depth ≤ 2 * d + 1
  sz : (e.size : Int) ≤ 1 + 4 * (posI b - posI b')
  le : posI b' ≤ posI b
def spPlainly (d : Nat) : Sp := fun vs H Q _ => ∃ (c l nl : Addr) (bud n : Int) (ρ names : List Str), vs = [.ref c, .ref l, .int n] ∧ CS H c bud (.ref nl) ∧ H nl = some (.lst (names.map V.str)) ∧ 6 ≤ names.length ∧ nl ≠ c ∧
  H l = some (.lst (ρ.map V.str)) ∧ l ≠ c ∧ n ≤ (d : Int) ∧ ρ.length + d ≤ 900 ∧ ∀ p e bud' H', EAt H' (.ref p) e → Made d bud ρ e bud' → CS H' c bud' (.ref nl) → Mu c H H' → Q (.ref p) H'
def spNo : Sp := fun _ _ _ _ => False
def spPl : Nat → Sp
  | 0 => spNo
  | d + 1 => spPlainly d
theorem s_pl {d : Nat} {vs : List V} {H : Hp} {Q : VK} {X : XK} (h : spPlainly d vs H Q X) : spPl (d + 1) vs H Q X := h
theorem u_plainly {d : Nat} {H : Hp} {c l nl : Addr} {bud n : Int} {ρ names : List Str} {Q : VK} {X : XK} (hc : CS H c bud (.ref nl)) (hn : H nl = some (.lst (names.map V.str))) (h6 : 6 ≤ names.length) (nc : nl ≠ c) (hl : H l = some (.lst (ρ.map V.str))) (lc : l ≠ c) (hd : n ≤ (d : Int))
    (hr : ρ.length + d ≤ 900) (q : ∀ p e bud' H', EAt H' (.ref p) e → Made d bud ρ e bud' → CS H' c bud' (.ref nl) → Mu c H H' → Q (.ref p) H') : spPlainly d ([.ref c, .ref l, .int n] ++ []) H Q X := ⟨c, l, nl, bud, n, ρ, names, rfl, hc, hn, h6, nc, hl, lc, hd, hr, q⟩
theorem u_leaf {H : Hp} {c l : Addr} {bud : Int} {vn : V} {ρ : List Str} {Q : VK} {X : XK} (hc : CS H c bud vn) (hl : H l = some (.lst (ρ.map V.str))) (lc : l ≠ c) (hr : ρ.length < 1000)
    (q : ∀ p e H', EAt H' (.ref p) e → Leaf0 ρ e → CS H' c bud vn → Mu c H H' → Q (.ref p) H') : spLeaf ([.ref c, .ref l, .non] ++ []) H Q X := ⟨c, l, bud, vn, ρ, rfl, hc, hl, lc, hr, q⟩
theorem leaf_size {ρ : List Str} {e : E} (h : Leaf0 ρ e) : e.size = 1 ∧ e.depth = 1 := by cases h <;> exact ⟨rfl, rfl⟩
theorem CS.bud {H H' : Hp} {c s : Addr} {bud' a b d : Int} {ns : List Int} {vn : V} (hs : H s = some (.lst (ns.map V.int))) (ha : 0 ≤ a) (hsc : s ≠ c) (w : Wr H H' c (.lst [.ref s, .int a, .int b, .int d, .int bud', vn])) : CS H' c bud' vn := ⟨s, ns, a, b, d, w.at_, w.bt _ _ hs hsc, ha, hsc⟩
theorem at_str {ns : List Str} {j : Int} (h0 : 0 ≤ j) (h1 : j < (ns.length : Int)) : ∃ v, atI (ns.map V.str) j = some (.str v) := by
  obtain ⟨n, rfl⟩ : ∃ n : Nat, j = (n : Int) := ⟨j.toNat, by omega⟩
  have hn : n < ns.length := by omega
  exact ⟨ns[n], atI_nat (by rw [List.getElem?_map, List.getElem?_eq_getElem hn] <;> rfl)⟩
section
variable {d : Nat} {bud b1 b2 b3 : Int} {ρ : List Str} {x : Str} {e1 e2 e3 : E}
theorem Made.call (h : ¬ bud - 1 < 1) (h1 : Made d (bud - 1) (ρ ++ [x]) e1 b1) (h2 : Made d b1 ρ e2 b2) : Made (d + 1) bud ρ (.call (.fn x e1) e2) b2 := by
  obtain ⟨g1, p1, s1, l1⟩ := h1
  obtain ⟨g2, p2, s2, l2⟩ := h2
  refine ⟨.call g1 g2, ?_, ?_, ?_⟩ <;> simp only [E.depth, E.size, posI] at * <;> omega
theorem Made.lett (h : ¬ bud - 1 < 1) (h1 : Made d (bud - 1) ρ e1 b1) (h2 : Made d b1 (ρ ++ [x]) e2 b2) : Made (d + 1) bud ρ (.lett x e1 e2) b2 := by
  obtain ⟨g1, p1, s1, l1⟩ := h1
  obtain ⟨g2, p2, s2, l2⟩ := h2
  refine ⟨.lett g1 g2, ?_, ?_, ?_⟩ <;> simp only [E.depth, E.size, posI] at * <;> omega
theorem Made.say (h : ¬ bud - 1 < 1) (h1 : Made d (bud - 1) ρ e1 b1) : Made (d + 1) bud ρ (.say e1) b1 := by
  obtain ⟨g1, p1, s1, l1⟩ := h1
  refine ⟨.say g1, ?_, ?_, ?_⟩ <;> simp only [E.depth, E.size, posI] at * <;> omega
theorem Made.iff (h : ¬ bud - 1 < 1) (h1 : Made d (bud - 1) ρ e1 b1) (h2 : Made d b1 ρ e2 b2) (h3 : Made d b2 ρ e3 b3) : Made (d + 1) bud ρ (.iff e1 e2 e3) b3 := by
  obtain ⟨g1, p1, s1, l1⟩ := h1
  obtain ⟨g2, p2, s2, l2⟩ := h2
  obtain ⟨g3, p3, s3, l3⟩ := h3
  refine ⟨.iff g1 g2 g3, ?_, ?_, ?_⟩ <;> simp only [E.depth, E.size, posI] at * <;> omega
theorem Made.sum (h : ¬ bud - 1 < 1) (h1 : Made d (bud - 1) ρ e1 b1) (h2 : Made d b1 ρ e2 b2) : Made (d + 1) bud ρ (.sum e1 e2) b2 := by
  obtain ⟨g1, p1, s1, l1⟩ := h1
  obtain ⟨g2, p2, s2, l2⟩ := h2
  refine ⟨.sum g1 g2, ?_, ?_, ?_⟩ <;> simp only [E.depth, E.size, posI] at * <;> omega
theorem Made.less (h : ¬ bud - 1 < 1) (h1 : Made d (bud - 1) ρ e1 b1) (h2 : Made d b1 ρ e2 b2) : Made (d + 1) bud ρ (.less e1 e2) b2 := by
  obtain ⟨g1, p1, s1, l1⟩ := h1
  obtain ⟨g2, p2, s2, l2⟩ := h2
  refine ⟨.less g1 g2, ?_, ?_, ?_⟩ <;> simp only [E.depth, E.size, posI] at * <;> omega
end
section
variable {P : Program} {w : World} {K : PySem.W.Frag} {mg : Str → Option Value} {base : Heap} [Tx w K mg]
theorem ok_law_plainly1 (hd : Dd K d_law_plainly) (g_law_take : Ok P w K mg base 2 d_law_take ["_law_c", "_law_many"] spTake) (g_law_leaf : Ok P w K mg base 4 d_law_leaf ["_law_c", "_law_names_here", "_law_about"] spLeaf) (d k0 : Nat) (hk0 : 4 ≤ k0)
    (g_law_plainly : Ok P w K mg base k0 d_law_plainly ["_law_c", "_law_names_here", "_law_depth_here"] (spPl d)) : Ok P w K mg base (k0 + 1) d_law_plainly ["_law_c", "_law_names_here", "_law_depth_here"] (spPl (d + 1)) := by
  obtain ⟨⟨_, G_law_take, b_law_take⟩, k_law_take⟩ := id g_law_take
  obtain ⟨⟨_, G_law_leaf, b_law_leaf⟩, k_law_leaf⟩ := id g_law_leaf
  obtain ⟨⟨_, G_law_plainly, b_law_plainly⟩, k_law_plainly⟩ := id g_law_plainly
  refine ok_mk hd sc_law_plainly bd_law_plainly (fun vs H Q E h => ?_) (fun cdv A outer s0 H vs Q E hr h => ?_)
  · obtain ⟨_, _, _, _, _, _, _, rfl, _⟩ := h
    rfl
  obtain ⟨c, l, nl, bud, n, ρ, names, rfl, ⟨s, ns, a, b, d0, hc, hs, ha, hsc⟩, hnl, h6, hnc, hl, hlc, hnd, hrd, k⟩ := h
  refine ⟨_, (pss_cons (ps_asg (pe_op op_sub (pe_ix ix_list (pv 0) pe_int (fun _ _ => rfl)) pe_int) (pg_sub (pv 0) pe_int set_list))
  (pss_cons (ps_set (i := 3) sc_law_plainly.nd rfl (Or.inl rfl) (pe_call G_law_take (hr.mono (by omega)) rfl (Tx.gl (K := K) "_law_take" (by decide +kernel)) k_law_take b_law_take .nil pass0 (pa_cons (pv 0) (pa_cons pe_int pa_nil))))
  (pss_cons (ps_if (PW.pt (pw_or (pt_cmpR op_lt (pv 2) pe_int (nomark _)) (pw_or (pt_cmpR op_lt (pe_ix ix_list (pv 0) pe_int (fun _ _ => rfl)) pe_int (nomark _)) (pw_or1 (pt_cmpR op_lt (pv 3) pe_int (nomark _)))))) (pss_one (ps_ret (pe_call G_law_leaf (hr.mono (by omega)) rfl (Tx.gl (K := K) "_law_leaf" (by decide +kernel)) k_law_leaf b_law_leaf .nil pass0 (pa_cons (pv 0) (pa_cons (pv 1) (pa_cons pe_non pa_nil)))))) pss_nil)
  (pss_cons (ps_set (i := 4) sc_law_plainly.nd rfl (Or.inl rfl) (pe_ix ix_list (pe_ix ix_list (pv 0) pe_int (fun _ _ => rfl)) (pe_call G_law_take (hr.mono (by omega)) rfl (Tx.gl (K := K) "_law_take" (by decide +kernel)) k_law_take b_law_take .nil pass0 (pa_cons (pv 0) (pa_cons pe_int pa_nil))) (fun _ _ => rfl)))
  (pss_cons (ps_if (pt_cmpR op_eq (pv 3) pe_int (nomark _)) (pss_one (ps_ret (pe_tup (pa_cons pe_str (pa_cons (pe_tup (pa_cons pe_str (pa_cons (pv 4) (pa_cons (pe_call G_law_plainly (hr.mono (by omega)) rfl (Tx.gl (K := K) "_law_plainly" (by decide +kernel)) k_law_plainly b_law_plainly .nil pass0 (pa_cons (pv 0) (pa_cons (pe_op op_cat (pv 1) (pe_lst (pa_cons (pv 4) pa_nil))) (pa_cons (pe_op op_sub (pv 2) pe_int) pa_nil)))) pa_nil)))) (pa_cons (pe_call G_law_plainly (hr.mono (by omega)) rfl (Tx.gl (K := K) "_law_plainly" (by decide +kernel)) k_law_plainly b_law_plainly .nil pass0 (pa_cons (pv 0) (pa_cons (pv 1) (pa_cons (pe_op op_sub (pv 2) pe_int) pa_nil)))) pa_nil)))))) pss_nil)
  (pss_cons (ps_if (pt_cmpR op_lt (pv 3) pe_int (nomark _)) (pss_one (ps_ret (pe_tup (pa_cons pe_str (pa_cons (pv 4) (pa_cons (pe_call G_law_plainly (hr.mono (by omega)) rfl (Tx.gl (K := K) "_law_plainly" (by decide +kernel)) k_law_plainly b_law_plainly .nil pass0 (pa_cons (pv 0) (pa_cons (pv 1) (pa_cons (pe_op op_sub (pv 2) pe_int) pa_nil)))) (pa_cons (pe_call G_law_plainly (hr.mono (by omega)) rfl (Tx.gl (K := K) "_law_plainly" (by decide +kernel)) k_law_plainly b_law_plainly .nil pass0 (pa_cons (pv 0) (pa_cons (pe_op op_cat (pv 1) (pe_lst (pa_cons (pv 4) pa_nil))) (pa_cons (pe_op op_sub (pv 2) pe_int) pa_nil)))) pa_nil))))))) pss_nil)
  (pss_cons (ps_if (pt_cmpR op_eq (pv 3) pe_int (nomark _)) (pss_one (ps_ret (pe_tup (pa_cons pe_str (pa_cons (pe_call G_law_plainly (hr.mono (by omega)) rfl (Tx.gl (K := K) "_law_plainly" (by decide +kernel)) k_law_plainly b_law_plainly .nil pass0 (pa_cons (pv 0) (pa_cons (pv 1) (pa_cons (pe_op op_sub (pv 2) pe_int) pa_nil)))) pa_nil))))) pss_nil)
  (pss_cons (ps_if (pt_cmpR op_eq (pv 3) pe_int (nomark _)) (pss_cons (ps_set (i := 5) sc_law_plainly.nd rfl (Or.inl rfl) (pe_call G_law_plainly (hr.mono (by omega)) rfl (Tx.gl (K := K) "_law_plainly" (by decide +kernel)) k_law_plainly b_law_plainly .nil pass0 (pa_cons (pv 0) (pa_cons (pv 1) (pa_cons (pe_op op_sub (pv 2) pe_int) pa_nil)))))
  (pss_cons (ps_set (i := 6) sc_law_plainly.nd rfl (Or.inl rfl) (pe_call G_law_plainly (hr.mono (by omega)) rfl (Tx.gl (K := K) "_law_plainly" (by decide +kernel)) k_law_plainly b_law_plainly .nil pass0 (pa_cons (pv 0) (pa_cons (pv 1) (pa_cons (pe_op op_sub (pv 2) pe_int) pa_nil)))))
  (pss_one (ps_ret (pe_tup (pa_cons pe_str (pa_cons (pv 5) (pa_cons (pv 6) (pa_cons (pe_call G_law_plainly (hr.mono (by omega)) rfl (Tx.gl (K := K) "_law_plainly" (by decide +kernel)) k_law_plainly b_law_plainly .nil pass0 (pa_cons (pv 0) (pa_cons (pv 1) (pa_cons (pe_op op_sub (pv 2) pe_int) pa_nil)))) pa_nil))))))))) pss_nil)
  (pss_cons (ps_set (i := 5) sc_law_plainly.nd rfl (Or.inl rfl) (pe_call G_law_plainly (hr.mono (by omega)) rfl (Tx.gl (K := K) "_law_plainly" (by decide +kernel)) k_law_plainly b_law_plainly .nil pass0 (pa_cons (pv 0) (pa_cons (pv 1) (pa_cons (pe_op op_sub (pv 2) pe_int) pa_nil)))))
  (pss_one (ps_ret (pe_tup (pa_cons (pe_ix ix_list (pe_lst (pa_cons pe_str (pa_cons pe_str pa_nil))) (pe_op op_sub (pv 3) pe_int) (fun _ _ => rfl)) (pa_cons (pv 5) (pa_cons (pe_call G_law_plainly (hr.mono (by omega)) rfl (Tx.gl (K := K) "_law_plainly" (by decide +kernel)) k_law_plainly b_law_plainly .nil pass0 (pa_cons (pv 0) (pa_cons (pv 1) (pa_cons (pe_op op_sub (pv 2) pe_int) pa_nil)))) pa_nil))))))))))))))), ?_⟩
  fail "b"
  fail "g"
  rename_i H1 w1
  have c1 : CS H1 c (bud - 1) (.ref nl) := CS.bud hs ha hsc w1
  have hnl1 := w1.bt _ _ hnl hnc
  have hl1 := w1.bt _ _ hl hlc
  refine u_take c1 (by decide) (by decide) fun r H2 hr0 hr1 c2 m2 => ?_
  have hnl2 := lk_mu m2 hnl1 hnc
  have hl2 := lk_mu m2 hl1 hlc
  have mu2 : Mu c H H2 := by kspl_open mu
  obtain ⟨s2, ns2, a2, b2, d2, hc2, hs2, ha2, hsc2⟩ := id c2
  -- the leaf's way
  have leaf : ∀ (Q' : VK) (X' : XK), (∀ p e H', EAt H' (.ref p) e → Made d bud ρ e (bud - 1) → CS H' c (bud - 1) (.ref nl) → Mu c H H' → Q' (.ref p) H') → spLeaf ([.ref c, .ref l, .non] ++ []) H2 Q' X' := fun Q' X' kk =>
    u_leaf c2 hl2 hlc (by omega) fun p e H' he le c' m' => kk p e H' he ⟨.leaf le, by rw [(leaf_size le).2]; omega, by rw [(leaf_size le).1]; unfold posI; omega, by unfold posI; omega⟩ c' (mu2.trans m')
  by_cases hn1 : n < 1
  · fail "g"
    refine i_t (decide_eq_true hn1) ?_
    fail "g"
    exact leaf _ _ fun p e H' he hm c' m' => k p e _ H' he hm c' m'
  obtain ⟨d', rfl⟩ : ∃ d', d = d' + 1 := ⟨d - 1, by omega⟩
  fail "g"
  refine i_f (decide_eq_false hn1) ?_
  fail "g"
  refine ite2 (fun _ => ?_) (fun hb1 => ?_)
  · fail "g"
    exact leaf _ _ fun p e H' he hm c' m' => k p e _ H' he hm c' m'
  have hb1' : ¬ bud - 1 < 1 := fun q => hb1 (decide_eq_true q)
  fail "g"
  refine ite2 (fun _ => ?_) (fun hk2 => ?_)
  · fail "g"
    exact leaf _ _ fun p e H' he hm c' m' => k p e _ H' he hm c' m'
  fail "g"
  refine u_take c2 (by decide) (by decide) fun r3 H3 hr30 hr31 c3 m3 => ?_
  have hnl3 := lk_mu m3 hnl2 hnc
  have hl3 := lk_mu m3 hl2 hlc
  obtain ⟨x, hx⟩ := at_str (ns := names) (j := r3) hr30 (by omega)
  have hz : (ρ.map V.str).length + [V.str x].length ≤ sizeLine := by
    rw [List.length_map]
    exact Nat.le_trans (show ρ.length + 1 ≤ 1000 by omega) (by decide)
  rcases (show r = 2 ∨ r = 3 ∨ r = 4 ∨ r = 5 ∨ r = 6 ∨ r = 7 ∨ r = 8 by have q : ¬ r < 2 := fun q => hk2 (decide_eq_true q); omega) with rfl | rfl | rfl | rfl | rfl | rfl | rfl
  · fail "g"
    rename_i p4 H4 a4 l5 H5 a5
    refine s_pl ?_
    refine u_plainly (d := d') (ρ := ρ ++ [x]) (names := names) (l := l5) (by kspl_open cs) (by w_dflts lk) h6 hnc (by rw [List.map_append]; exact a5.at_) ((c3.sm a4.sm).ne a5) (by omega) (by rw [List.length_append, List.length_singleton]; omega) fun p6 e6 b6 H6 he6 hm6 c6 m6 => ?_
    fail "g"
    refine s_pl ?_
    refine u_plainly (d := d') (ρ := ρ) (names := names) (l := l) (by kspl_open cs) (by w_dflts lk) h6 hnc (by w_dflts lk) hlc (by omega) (by omega) fun p7 e7 b7 H7 he7 hm7 c7 m7 => ?_
    fail "g"
    exact k _ (.call (.fn x e6) e7) _ _ (by fail "e") (hm6.call hb1' hm7) (by kspl_open cs) (by kspl_open mu)
  all_goals try (
    fail "g"
    refine s_pl ?_
    refine u_plainly (d := d') (ρ := ρ) (names := names) (l := l) (by kspl_open cs) (by w_dflts lk) h6 hnc (by w_dflts lk) hlc (by omega) (by omega) fun p7 e7 b7 H7 he7 hm7 c7 m7 => ?_
    fail "g"
    rename_i p4 H4 a4 l5 H5 a5
    refine s_pl ?_
    refine u_plainly (d := d') (ρ := ρ ++ [x]) (names := names) (l := l5) (by kspl_open cs) (by w_dflts lk) h6 hnc (by rw [List.map_append]; exact a5.at_) ((c7.sm a4.sm).ne a5) (by omega) (by rw [List.length_append, List.length_singleton]; omega) fun p6 e6 b6 H6 he6 hm6 c6 m6 => ?_
    fail "g"
    exact k _ (.lett x e7 e6) _ _ (by fail "e") (hm7.lett hb1' hm6) (by kspl_open cs) (by kspl_open mu)
    done)
  · fail "g"
    refine s_pl ?_
    refine u_plainly (d := d') (ρ := ρ) (names := names) (l := l) (by kspl_open cs) (by w_dflts lk) h6 hnc (by w_dflts lk) hlc (by omega) (by omega) fun p7 e7 b7 H7 he7 hm7 c7 m7 => ?_
    fail "g"
    exact k _ (.say e7) _ _ (by fail "e") (hm7.say hb1') (by kspl_open cs) (by kspl_open mu)
  · fail "g"
    refine s_pl ?_
    refine u_plainly (d := d') (ρ := ρ) (names := names) (l := l) (by kspl_open cs) (by w_dflts lk) h6 hnc (by w_dflts lk) hlc (by omega) (by omega) fun p7 e7 b7 H7 he7 hm7 c7 m7 => ?_
    fail "g"
    refine s_pl ?_
    refine u_plainly (d := d') (ρ := ρ) (names := names) (l := l) (by kspl_open cs) (by w_dflts lk) h6 hnc (by w_dflts lk) hlc (by omega) (by omega) fun p8 e8 b8 H8 he8 hm8 c8 m8 => ?_
    fail "g"
    refine s_pl ?_
    refine u_plainly (d := d') (ρ := ρ) (names := names) (l := l) (by kspl_open cs) (by w_dflts lk) h6 hnc (by w_dflts lk) hlc (by omega) (by omega) fun p9 e9 b9 H9 he9 hm9 c9 m9 => ?_
    fail "g"
    exact k _ (.iff e7 e8 e9) _ _ (by fail "e") (hm7.iff hb1' hm8 hm9) (by kspl_open cs) (by kspl_open mu)
  · fail "g"
    refine s_pl ?_
    refine u_plainly (d := d') (ρ := ρ) (names := names) (l := l) (by kspl_open cs) (by w_dflts lk) h6 hnc (by w_dflts lk) hlc (by omega) (by omega) fun p7 e7 b7 H7 he7 hm7 c7 m7 => ?_
    fail "g"
    refine s_pl ?_
    refine u_plainly (d := d') (ρ := ρ) (names := names) (l := l) (by kspl_open cs) (by w_dflts lk) h6 hnc (by w_dflts lk) hlc (by omega) (by omega) fun p8 e8 b8 H8 he8 hm8 c8 m8 => ?_
    fail "g"
    exact k _ (.sum e7 e8) _ _ (by fail "e") (hm7.sum hb1' hm8) (by kspl_open cs) (by kspl_open mu)
  · fail "g"
    refine s_pl ?_
    refine u_plainly (d := d') (ρ := ρ) (names := names) (l := l) (by kspl_open cs) (by w_dflts lk) h6 hnc (by w_dflts lk) hlc (by omega) (by omega) fun p7 e7 b7 H7 he7 hm7 c7 m7 => ?_
    fail "g"
    refine s_pl ?_
    refine u_plainly (d := d') (ρ := ρ) (names := names) (l := l) (by kspl_open cs) (by w_dflts lk) h6 hnc (by w_dflts lk) hlc (by omega) (by omega) fun p8 e8 b8 H8 he8 hm8 c8 m8 => ?_
    fail "g"
    exact k _ (.less e7 e8) _ _ (by fail "e") (hm7.less hb1' hm8) (by kspl_open cs) (by kspl_open mu)
end
/-! ## Zlb1 -/
open PySem PySem.Spec PyProof.Rows L2
/-! ### the names that the law draws: at least six -/
def sgS : Str := "abcdefghijklmnopqrstuvwxyzABCDEFGHIJKLMNOPQRSTUVWXYZ0123456789"
def dgS : Str := "0123456789"
def sgL : List Nat := sgS.cps.toList
def dgL : List Nat := dgS.cps.toList
def sgA (j : Nat) : Nat := sgL.getD j 0
def wordsS : List Str := ["num", "name", "fn", "call", "sum", "less", "if", "let", "say", "rule", "keep", "part", "with", "usual", "do"]
theorem wordsV_eq : wordsV = wordsS.map V.str := rfl
def nmk (st : Str) (a p k : Nat) : Str := st ++ ⟨#[sgA ((a + k * p) % 62)]⟩
def okN (x : Str) : Bool := (match x.cps.toList with | c :: _ => !decide (c ∈ dgL) | [] => true) && !decide (x ∈ wordsS)
def fnd (st : Str) (a p : Nat) : Nat → List Str
  | 0 => []
  | k + 1 => if (okN (nmk st a p k) && !decide (nmk st a p k ∈ fnd st a p k)) = true then fnd st a p k ++ [nmk st a p k] else fnd st a p k
theorem nmk_tl (st : Str) (a p k : Nat) : (nmk st a p k).cps.toList = st.cps.toList ++ [sgA ((a + k * p) % 62)] := by
  have := TL.tl_append st ⟨#[sgA ((a + k * p) % 62)]⟩
  exact this
theorem sgA_inj : ∀ i < 62, ∀ j < 62, sgA i = sgA j → i = j := by decide +kernel
theorem sgA_dg : ∀ i < 62, decide (sgA i ∈ dgL) = decide (52 ≤ i) := by decide +kernel
theorem step_inj {a p i j : Nat} (hp : 1 ≤ p) (hp5 : p ≤ 5) (hi : i < 31) (hj : j < 31) (h : (a + i * p) % 62 = (a + j * p) % 62) : i = j := by
  rcases (show p = 1 ∨ p = 2 ∨ p = 3 ∨ p = 4 ∨ p = 5 by omega) with rfl | rfl | rfl | rfl | rfl <;> omega
theorem nmk_inj {st : Str} {a p i j : Nat} (hp : 1 ≤ p) (hp5 : p ≤ 5) (hi : i < 31) (hj : j < 31) (h : nmk st a p i = nmk st a p j) : i = j := by
  have e : (nmk st a p i).cps.toList = (nmk st a p j).cps.toList := by rw [h]
  rw [nmk_tl, nmk_tl] at e
  have e2 := List.append_cancel_left e
  injection e2 with e3
  exact step_inj hp hp5 hi hj (sgA_inj _ (Nat.mod_lt _ (by decide)) _ (Nat.mod_lt _ (by decide)) e3)
def cnt (st : Str) (a p : Nat) : Nat → Nat
  | 0 => 0
  | k + 1 => cnt st a p k + (if okN (nmk st a p k) = true then 1 else 0)
theorem fnd_cnt {st : Str} {a p : Nat} (hp : 1 ≤ p) (hp5 : p ≤ 5) : ∀ k, k ≤ 31 → (fnd st a p k).length = cnt st a p k ∧ ∀ x ∈ fnd st a p k, ∃ i, i < k ∧ x = nmk st a p i
  | 0, _ => ⟨rfl, fun x h => by cases h⟩
  | k + 1, hk => by
    obtain ⟨h1, h2⟩ := fnd_cnt hp hp5 k (by omega)
    have hn : nmk st a p k ∉ fnd st a p k := fun m => by
      obtain ⟨i, hi, e⟩ := h2 _ m
      have := nmk_inj hp hp5 (by omega) (by omega) e
      omega
    show (if _ = true then _ else _ : List Str).length = _ ∧ ∀ x ∈ (if _ = true then _ else _ : List Str), _
    rw [show (okN (nmk st a p k) && !decide (nmk st a p k ∈ fnd st a p k)) = okN (nmk st a p k) by simp [hn]]
    show _ = cnt st a p k + (if okN (nmk st a p k) = true then 1 else 0) ∧ _
    by_cases ho : okN (nmk st a p k) = true
    · rw [if_pos ho, if_pos ho]
      refine ⟨by rw [List.length_append, h1]; rfl, fun x hx => ?_⟩
      rcases List.mem_append.mp hx with q | q
      · obtain ⟨i, hi, e⟩ := h2 _ q
        exact ⟨i, by omega, e⟩
      · exact ⟨k, by omega, List.mem_singleton.mp q⟩
    · rw [if_neg ho, if_neg ho]
      exact ⟨h1, fun x hx => let ⟨i, hi, e⟩ := h2 _ hx; ⟨i, by omega, e⟩⟩
theorem fnd_mono {st : Str} {a p : Nat} (i : Nat) : ∀ d, (fnd st a p i).length ≤ (fnd st a p (i + d)).length
  | 0 => Nat.le_refl _
  | d + 1 => by
    refine Nat.le_trans (fnd_mono i d) ?_
    show _ ≤ (if _ = true then _ else _ : List Str).length
    split
    · rw [List.length_append]
      exact Nat.le_add_right _ _
    · exact Nat.le_refl _
theorem fnd_le {st : Str} {a p : Nat} : ∀ k, (fnd st a p k).length ≤ k
  | 0 => Nat.le_refl _
  | k + 1 => by
    have := fnd_le (st := st) (a := a) (p := p) k
    show (if _ = true then _ else _ : List Str).length ≤ _
    split
    · rw [List.length_append]
      exact Nat.succ_le_succ this
    · omega
/-! single signs -/
def cntN (a p : Nat) : Nat → Nat
  | 0 => 0
  | k + 1 => cntN a p k + (if 52 ≤ (a + k * p) % 62 then 0 else 1)
theorem cntN6 : ∀ a < 62, ∀ p < 5, 6 ≤ cntN a (p + 1) 31 := by decide +kernel
theorem words2 : wordsS.all (fun w => decide (2 ≤ w.cps.toList.length)) = true := by decide +kernel
theorem words_in : wordsS.all (fun u => wordsS.all fun v => decide (u.cps.toList.dropLast = v.cps.toList.dropLast → u = v)) = true := by decide +kernel
theorem cnt_one {st : Str} {a p : Nat} (h : st.cps.toList = []) : ∀ k, cnt st a p k = cntN a p k
  | 0 => rfl
  | k + 1 => by
    show cnt st a p k + _ = cntN a p k + _
    rw [cnt_one h k]
    have hm := Nat.mod_lt (a + k * p) (show 0 < 62 by decide)
    have hw : nmk st a p k ∉ wordsS := fun m => by
      have := of_decide_eq_true (List.all_eq_true.mp words2 _ m)
      rw [nmk_tl, h] at this
      simp at this
    have ho : okN (nmk st a p k) = !decide (52 ≤ (a + k * p) % 62) := by
      unfold okN
      rw [nmk_tl, h]
      simp only [List.nil_append, sgA_dg _ hm, hw, decide_false, Bool.not_false, Bool.and_true]
    rw [ho]
    by_cases q : 52 ≤ (a + k * p) % 62 <;> simp [q]
theorem cnt_long {st : Str} {a p c : Nat} {r : List Nat} (hp : 1 ≤ p) (hp5 : p ≤ 5) (h : st.cps.toList = c :: r) (hc : c ∉ dgL) : ∀ k, k ≤ 31 → cnt st a p k = k ∨ (cnt st a p k + 1 = k ∧ ∃ i, i < k ∧ nmk st a p i ∈ wordsS)
  | 0, _ => .inl rfl
  | k + 1, hk => by
    have ih := cnt_long (a := a) hp hp5 h hc k (by omega)
    have ho : okN (nmk st a p k) = !decide (nmk st a p k ∈ wordsS) := by
      unfold okN
      rw [nmk_tl, h]
      simp [hc]
    show cnt st a p k + (if okN (nmk st a p k) = true then 1 else 0) = _ ∨ (cnt st a p k + (if okN (nmk st a p k) = true then 1 else 0) + 1 = _ ∧ _)
    rw [ho]
    by_cases q : nmk st a p k ∈ wordsS
    · rw [if_neg (by simp [q])]
      rcases ih with e | ⟨_, i, hi, m⟩
      · exact .inr ⟨by omega, k, by omega, q⟩
      · exfalso
        have w1 := List.all_eq_true.mp words_in _ m
        have w2 := of_decide_eq_true (List.all_eq_true.mp w1 _ q)
        have e := w2 (by rw [nmk_tl, nmk_tl, List.dropLast_concat, List.dropLast_concat])
        have := nmk_inj hp hp5 (by omega) (by omega) e
        omega
    · rw [if_pos (by simp [q])]
      rcases ih with e | ⟨e, i, hi, m⟩
      · exact .inl (by omega)
      · exact .inr ⟨by omega, i, by omega, m⟩
theorem fnd6 {st : Str} {a p : Nat} (ha : a < 62) (hp : 1 ≤ p) (hp5 : p ≤ 5) (h : st.cps.toList = [] ∨ ∃ c r, st.cps.toList = c :: r ∧ c ∉ dgL) : 6 ≤ (fnd st a p 62).length := by
  have h31 := (fnd_cnt (st := st) (a := a) hp hp5 31 (Nat.le_refl _)).1
  have hm : (fnd st a p 31).length ≤ (fnd st a p 62).length := fnd_mono 31 31
  have : 6 ≤ cnt st a p 31 := by
    rcases h with h | ⟨c, r, h, hc⟩
    · rw [cnt_one h]
      have := cntN6 a ha (p - 1) (by omega)
      rwa [show p - 1 + 1 = p by omega] at this
    · rcases cnt_long (a := a) hp hp5 h hc 31 (Nat.le_refl _) with e | ⟨e, _⟩ <;> omega
  omega
/-! ## Zlb2 -/
open PySem PySem.Spec PyProof.Rows L2
def spNames : Sp := fun vs H Q _ => ∃ (c : Addr) (bud : Int) (vn : V), vs = [.ref c] ∧ CS H c bud vn ∧ ∀ l names H', H' l = some (.lst ((names : List Str).map V.str)) → 6 ≤ names.length → l ≠ c → CS H' c bud vn → Mu c H H' → Q (.ref l) H'
theorem inV_str (x : Str) : ∀ ws : List Str, inV (.str x) (ws.map V.str) = decide (x ∈ ws)
  | [] => rfl
  | w :: r => by
    show (w == x || inV (.str x) (r.map V.str)) = _
    rw [inV_str x r]
    by_cases h : w = x
    · simp [h]
    · have h2 : (w == x) = false := by simpa using h
      have h3 : ¬ x = w := fun e => h e.symm
      simp [h2, h3]
theorem flat_str : ∀ ws : List Str, (ws.map V.str).all flatV = true
  | [] => rfl
  | w :: r => flat_str r
theorem cut_10 {xs : List V} : cutV xs none (some 10) = xs.take 10 := by
  unfold cutV
  have e1 : HT.sIx xs.length 0 none = 0 := rfl
  have e2 : HT.sIx xs.length xs.length (some 10) = min 10 xs.length := HT.sIx_nat xs.length xs.length 10
  rw [e1, e2, List.drop_zero, Nat.sub_zero]
  rcases Nat.le_total 10 xs.length with h | h
  · rw [Nat.min_eq_left h]
  · rw [Nat.min_eq_right h, List.take_length, List.take_of_length_le h]
theorem at_sg {r : Nat} (h : r < 62) : atI sgS.cps.toList (r : Int) = some (sgA r) := by
  refine atI_nat ?_
  have hl : r < sgL.length := h
  show sgL[r]? = some (sgL.getD r 0)
  rw [List.getElem?_eq_getElem hl, List.getD_eq_getElem?_getD, List.getElem?_eq_getElem hl]
  rfl
def kRng1 (R : It → Hp → Prop) (vs : List V) (H : Hp) : Prop := ∃ j : Int, vs = [.int j] ∧ -(2 ^ 62) ≤ j ∧ j < 2 ^ 62 ∧ R (Itr 0 j.toNat) H
section
variable {σ : L2.St} {H : Hp} {Q : VK} {R : It → Hp → Prop} {ta : TA} {z : Str} {n : Int} {c : Nat} {x : V} {d : Addr}
theorem s_irng1 (q : ta σ H (kRng1 R)) : iRng1 ta σ H R := q
theorem s_krng1 {j : Nat} (h : j < 100000) (q : R (Itr 0 j) H) : kRng1 R [.int (j : Nat)] H := ⟨(j : Int), rfl, by omega, by omega, q⟩
theorem s_ixS (hl : z.length ≤ sizeLine) (ha : atI z.cps.toList n = some c) (q : Q (.str ⟨#[c]⟩) H) : rIxS (.str z) (.int n) H Q := ⟨z, n, c, rfl, rfl, hl, ha, q⟩
end
theorem Mu.wrN {p l : Addr} {H H1 H2 : Hp} {o : HO} (m : Mu p H H1) (w : Wr H1 H2 l o) (hl : H l = none) : Mu p H H2 := ⟨fun b u hb hn => w.bt _ _ (m.bt _ _ hb hn) (ne_of_none hb hl), m.fx.trans w.fx⟩
theorem ite3 {A B : Prop} {k : Bool} (h1 : k = true → A) (h2 : k = false → B) : if k = true then A else B := by
  cases k with
  | true => rw [if_pos rfl]; exact h1 rfl
  | false => rw [if_neg Bool.false_ne_true]; exact h2 rfl
section
variable {P : Program} {w : World} {K : PySem.W.Frag} {mg : Str → Option Value} {base : Heap} [Tx w K mg]
theorem ok_law_names (hd : Dd K d_law_names) (g_law_take : Ok P w K mg base 2 d_law_take ["_law_c", "_law_many"] spTake) (g_law_free : Ok P w K mg base 2 d_law_free ["_law_name"] spFree) : Ok P w K mg base 3 d_law_names ["_law_c"] spNames := by
  obtain ⟨⟨_, G_law_take, b_law_take⟩, k_law_take⟩ := id g_law_take
  obtain ⟨⟨_, G_law_free, b_law_free⟩, k_law_free⟩ := id g_law_free
  refine ok_mk hd sc_law_names bd_law_names (fun vs H Q E h => ?_) (fun cdv A outer s0 H vs Q E hr h => ?_)
  · obtain ⟨_, _, _, rfl, _⟩ := h
    rfl
  obtain ⟨c, bud, vn, rfl, hc, k⟩ := h
  refine ⟨_, (pss_cons (ps_set (i := 1) sc_law_names.nd rfl (Or.inl rfl) pe_str)
  (pss_cons (ps_set (i := 2) sc_law_names.nd rfl (Or.inl rfl) pe_str)
  (pss_cons (ps_for PassesOwn.never rfl (pi_range1 rfl (Tx.fr (K := K) "range" (by decide +kernel)) (pa_cons (pe_ix ix_list (pe_lst (pa_cons pe_int (pa_cons pe_int (pa_cons pe_int (pa_cons pe_int (pa_cons pe_int pa_nil)))))) (pe_call G_law_take (hr.mono (by omega)) rfl (Tx.gl (K := K) "_law_take" (by decide +kernel)) k_law_take b_law_take .nil pass0 (pa_cons (pv 0) (pa_cons pe_int pa_nil))) (fun _ _ => rfl)) pa_nil)) (pg_name (i := 3) sc_law_names.nd rfl (Or.inl rfl))
  (pss_one (ps_set (i := 2) sc_law_names.nd rfl (Or.inl rfl) (pe_op op_addStr (pv 2) (pe_ix ix_str (pv 1) (pe_call G_law_take (hr.mono (by omega)) rfl (Tx.gl (K := K) "_law_take" (by decide +kernel)) k_law_take b_law_take .nil pass0 (pa_cons (pv 0) (pa_cons (pe_ix ix_list (pe_lst (pa_cons pe_int (pa_cons pe_int pa_nil))) (pe_callTy call_intI rfl (Tx.fr (K := K) "int" (by decide +kernel)) (by decide +kernel) (pa_cons (pe_cmpR op_eq (pv 2) pe_str (nomark _)) pa_nil)) (fun _ _ => rfl)) pa_nil))) (fun _ _ => rfl))))))
  (pss_cons (ps_set (i := 4) sc_law_names.nd rfl (Or.inl rfl) (pe_call G_law_take (hr.mono (by omega)) rfl (Tx.gl (K := K) "_law_take" (by decide +kernel)) k_law_take b_law_take .nil pass0 (pa_cons (pv 0) (pa_cons pe_int pa_nil))))
  (pss_cons (ps_set (i := 5) sc_law_names.nd rfl (Or.inl rfl) (pe_op op_add pe_int (pe_call G_law_take (hr.mono (by omega)) rfl (Tx.gl (K := K) "_law_take" (by decide +kernel)) k_law_take b_law_take .nil pass0 (pa_cons (pv 0) (pa_cons pe_int pa_nil)))))
  (pss_cons (ps_set (i := 6) sc_law_names.nd rfl (Or.inl rfl) (pe_lst pa_nil))
  (pss_cons (ps_for PassesOwn.never rfl (pi_range1 rfl (Tx.fr (K := K) "range" (by decide +kernel)) (pa_cons pe_int pa_nil)) (pg_name (i := 3) sc_law_names.nd rfl (Or.inl rfl))
  (pss_cons (ps_set (i := 7) sc_law_names.nd rfl (Or.inl rfl) (pe_op op_addStr (pv 2) (pe_ix ix_str (pv 1) (pe_op op_mod (pe_callTy call_intI rfl (Tx.fr (K := K) "int" (by decide +kernel)) (by decide +kernel) (pa_cons (pe_op op_add (pv 4) (pe_op op_mul (pv 3) (pv 5))) pa_nil)) pe_int) (fun _ _ => rfl))))
  (pss_one (ps_if (PW.pt (pw_and (pt_cmpR op_notIn_sign (pe_ix ix_str (pv 7) pe_int (fun _ _ => rfl)) pe_str (by with_unfolding_all rfl)) (pw_and (pt_cmpR op_notIn_seq (pv 7) (pv 6) (by with_unfolding_all rfl)) (pw_and1 (pt_val (pe_call G_law_free (hr.mono (by omega)) rfl (Tx.gl (K := K) "_law_free" (by decide +kernel)) k_law_free b_law_free .nil pass0 (pa_cons (pv 7) pa_nil))))))) (pss_one (ps_expr (pe_bm PySem.F.plainAttrs_list PySem.F.slot_list_append PySem.F.type_list_append mt_append (pv 6) (pa_cons (pv 7) pa_nil)))) pss_nil))))
  (pss_one (ps_ret (pe_slice sl_list (pv 6) po_none (po_some pe_int))))))))))), ?_⟩
  fail "b"
  fail "g"
  refine s_irng1 ?_
  fail "g"
  rename_i p1 H1 a1
  refine u_take (hc.sm a1.sm) (by decide) (by decide) fun r H2 l2 u2 c2 m2 => ?_
  have h2 := lk_mu m2 a1.at_ (hc.ne a1)
  obtain ⟨n, hn, hn6⟩ : ∃ n : Nat, atI [V.int 0, V.int 0, V.int 1, V.int 3, V.int 6] r = some (.int (n : Nat)) ∧ n ≤ 6 := by
    rcases (show r = 0 ∨ r = 1 ∨ r = 2 ∨ r = 3 ∨ r = 4 by omega) with rfl | rfl | rfl | rfl | rfl
    · exact ⟨0, rfl, by decide⟩
    · exact ⟨0, rfl, by decide⟩
    · exact ⟨1, rfl, by decide⟩
    · exact ⟨3, rfl, by decide⟩
    · exact ⟨6, rfl, by decide⟩
  refine s_ixL (SqL.of h2) hn ?_
  fail "g"
  refine s_krng1 (by omega) ?_
  refine s_forR (fun i σ H3 => ∃ st kv, σ = [some (.ref c), some (.str sgS), some (.str st), kv, none, none, none, none] ∧ CS H3 c bud vn ∧ Mu c H H3 ∧ st.cps.toList.length = i ∧ (st.cps.toList = [] ∨ ∃ x r, st.cps.toList = x :: r ∧ x ∉ dgL))
    ⟨"", none, rfl, c2, by kspl_open mu, rfl, .inl rfl⟩ ?_ ?_
  · rintro i σ H3 hi ⟨st, kv, rfl, c3, m3, hl3, hst⟩
    have hlen : ∀ x : Nat, st.length + (⟨#[x]⟩ : Str).length ≤ sizeLine := fun x => by
      have e1 : st.length = i := by rw [← hl3]; rfl
      rw [e1]
      exact Nat.le_trans (Nat.succ_le_of_lt (Nat.lt_of_lt_of_le hi hn6)) (by decide)
    have fin : ∀ (kv2 : Option V) (x : Nat) (H5 : Hp), CS H5 c bud vn → Mu c H3 H5 → (st.cps.toList = [] → x ∉ dgL) → ∃ st2 kv, [some (.ref c), some (.str sgS), some (.str (st ++ ⟨#[x]⟩)), kv2, none, none, none, none] = [some (.ref c), some (.str sgS), some (.str st2), kv, none, none, none, none] ∧ CS H5 c bud vn ∧ Mu c H H5 ∧ st2.cps.toList.length = i + 1 ∧ (st2.cps.toList = [] ∨ ∃ x r, st2.cps.toList = x :: r ∧ x ∉ dgL) := fun kv2 x H5 c5 m5 hx => by
      have e : (st ++ ⟨#[x]⟩ : Str).cps.toList = st.cps.toList ++ [x] := TL.tl_append st ⟨#[x]⟩
      refine ⟨_, _, rfl, c5, m3.trans m5, by rw [e, List.length_append, hl3]; rfl, .inr ?_⟩
      rw [e]
      rcases hst with h0 | ⟨y, r, h0, hy⟩
      · exact ⟨x, [], by rw [h0]; rfl, hx h0⟩
      · exact ⟨y, r ++ [x], by rw [h0]; rfl, hy⟩
    fail "g"
    rename_i p4 H4 a4
    rcases hst with h0 | ⟨y, rr, h0, hy⟩
    · obtain rfl : st = "" := TL.ext_tl h0
      refine s_ixL (SqL.of (by w_dflts lk)) (v := .int 52) (by decide +kernel) ?_
      fail "g"
      refine u_take (c3.sm a4.sm) (by decide) (by decide) fun r5 H5 l5 u5 c5 m5 => ?_
      obtain ⟨j, rfl⟩ : ∃ j : Nat, r5 = (j : Int) := ⟨r5.toNat, by omega⟩
      refine s_ixS (by decide) (at_sg (by omega)) ?_
      refine s_addStr (hlen _) ?_
      refine fin _ _ _ c5 ((Mu.of_al a4).trans m5) fun _ hx => ?_
      have := sgA_dg j (by omega)
      rw [decide_eq_true hx] at this
      have := of_decide_eq_true this.symm
      omega
    · have hne : decide (V.str st = V.str "") = false := decide_eq_false fun h => by
        cases h
        cases h0
      refine s_ixL (SqL.of (by w_dflts lk)) (v := .int 62) (by rw [hne]; rfl) ?_
      fail "g"
      refine u_take (c3.sm a4.sm) (by decide) (by decide) fun r5 H5 l5 u5 c5 m5 => ?_
      obtain ⟨j, rfl⟩ : ∃ j : Nat, r5 = (j : Int) := ⟨r5.toNat, by omega⟩
      refine s_ixS (by decide) (at_sg (by omega)) ?_
      refine s_addStr (hlen _) ?_
      exact fin _ _ _ c5 ((Mu.of_al a4).trans m5) fun h => by rw [h0] at h; cases h
  rintro σ H3 ⟨st, kv, rfl, c3, m3, hl3, hst⟩
  fail "g"
  refine u_take c3 (by decide) (by decide) fun r4 H4 l4 u4 c4 m4 => ?_
  obtain ⟨a, rfl⟩ : ∃ j : Nat, r4 = (j : Int) := ⟨r4.toNat, by omega⟩
  fail "g"
  refine u_take c4 (by decide) (by decide) fun r5 H5 l5 u5 c5 m5 => ?_
  obtain ⟨p, hp⟩ : ∃ p : Nat, 1 + r5 = (p : Int) := ⟨(1 + r5).toNat, by omega⟩
  fail "g"
  rw [hp]
  rename_i l H6 a6
  refine s_irng1 ?_
  fail "g"
  refine s_krng1 (j := 62) (by decide) ?_
  have hlc : l ≠ c := c5.ne a6
  obtain ⟨s, ns, y1, y2, y3, hc5, hs5, hy1, hsc⟩ := id c5
  have hls : l ≠ s := (ne_of_none hs5 a6.nw).symm
  have m05 : Mu c H H5 := by kspl_open mu
  have hl0 : H l = none := by
    cases e : H l with
    | none => rfl
    | some u =>
      have := m05.bt _ _ e hlc
      rw [a6.nw] at this
      cases this
  refine s_forR (fun i σ H7 => ∃ kv nv, σ = [some (.ref c), some (.str sgS), some (.str st), kv, some (.int (a : Nat)), some (.int (p : Nat)), some (.ref l), nv] ∧ H7 c = some (.lst [.ref s, .int y1, .int y2, .int y3, .int bud, vn]) ∧ H7 s = some (.lst (ns.map V.int)) ∧ Mu c H H7 ∧ H7 l = some (.lst ((fnd st a p i).map V.str)))
    ⟨_, _, rfl, a6.sm _ _ hc5, a6.sm _ _ hs5, by kspl_open mu, a6.at_⟩ ?_ ?_
  · rintro i σ H7 hi ⟨kv, nv, rfl, hc7, hs7, m7, h7⟩
    have hfl : (fnd st a p i).length < sizeLine := Nat.lt_of_le_of_lt (fnd_le i) (Nat.lt_trans hi (by decide))
    have hidx : ((a : Int) + (0 + (i : Int)) * (p : Int)) % 62 = (((a + i * p) % 62 : Nat) : Int) := by
      rw [Int.zero_add]
      norm_cast
    obtain ⟨x0, r0, hx0, hx1⟩ : ∃ x0 r0, (nmk st a p i).cps.toList = x0 :: r0 ∧ True := by
      rw [nmk_tl]
      cases st.cps.toList with
      | nil => exact ⟨_, _, rfl, trivial⟩
      | cons y r => exact ⟨_, _, rfl, trivial⟩
    have hok : okN (nmk st a p i) = (!decide (x0 ∈ dgL) && !decide (nmk st a p i ∈ wordsS)) := by
      unfold okN
      rw [hx0]
    have hat0 : atI (nmk st a p i).cps.toList 0 = some x0 := by
      rw [hx0]
      exact atI_nat (j := 0) rfl
    have hstl : st.length + 1 ≤ sizeLine := by
      have : st.length = n := hl3
      rw [this]
      exact Nat.le_trans (Nat.succ_le_succ hn6) (by decide)
    have hnl : (nmk st a p i).length ≤ sizeLine := by
      have : (nmk st a p i).length = st.length + 1 := by
        show (nmk st a p i).cps.size = _
        rw [← Array.length_toList, nmk_tl, List.length_append]
        rfl
      rw [this]
      exact hstl
    have hno : (okN (nmk st a p i) && !decide (nmk st a p i ∈ fnd st a p i)) = false → fnd st a p (i + 1) = fnd st a p i := fun h => by
      show (if _ = true then _ else _) = _
      rw [h]
      rfl
    have hyes : (okN (nmk st a p i) && !decide (nmk st a p i ∈ fnd st a p i)) = true → fnd st a p (i + 1) = fnd st a p i ++ [nmk st a p i] := fun h => by
      show (if _ = true then _ else _) = _
      rw [h]
      rfl
    fail "g"
    rw [hidx]
    refine s_ixS (by decide) (at_sg (Nat.mod_lt _ (by decide))) ?_
    refine s_addStr hstl ?_
    fail "g"
    refine s_ixS hnl hat0 ?_
    refine ⟨x0, dgS, rfl, rfl, ?_⟩
    refine s_kb ?_
    have hstay : ∀ H8, Same H7 H8 → (okN (nmk st a p i) && !decide (nmk st a p i ∈ fnd st a p i)) = false → ∀ kv nv : Option V, ∃ kv2 nv2, [some (.ref c), some (.str sgS), some (.str st), kv, some (.int (a : Nat)), some (.int (p : Nat)), some (.ref l), nv] = [some (V.ref c), some (V.str sgS), some (V.str st), kv2, some (V.int (a : Nat)), some (V.int (p : Nat)), some (V.ref l), nv2] ∧ H8 c = some (.lst [.ref s, .int y1, .int y2, .int y3, .int bud, vn]) ∧ H8 s = some (.lst (ns.map V.int)) ∧ Mu c H H8 ∧ H8 l = some (.lst ((fnd st a p (i + 1)).map V.str)) := fun H8 s8 h kv nv => by
      rw [hno h]
      exact ⟨kv, nv, rfl, s8 _ _ hc7, s8 _ _ hs7, m7.trans (Mu.of_same s8), s8 _ _ h7⟩
    refine ite3 (fun h1 => ?_) (fun h1 => ?_)
    · have h1 : (!decide (x0 ∈ dgL)) = true := h1
      fail "g"
      refine s_inL (by w_dflts lk) rfl (flat_str _) ?_
      refine s_kb ?_
      refine ite3 (fun h2 => ?_) (fun h2 => ?_)
      · have h2 : (!decide (nmk st a p i ∈ fnd st a p i)) = true := by
          rw [← inV_str]
          exact h2
        fail "g"
        refine ⟨nmk st a p i, rfl, fun H8 s8 => ?_⟩
        refine s_kb ?_
        refine ite3 (fun h3 => ?_) (fun h3 => ?_)
        · have h3 : (!decide (nmk st a p i ∈ wordsS)) = true := by
            rw [← inV_str, ← wordsV_eq]
            exact h3
          have h8 := s8 _ _ h7
          have hfl2 : ((fnd st a p i).map V.str).length < sizeLine := by rw [List.length_map]; exact hfl
          fail "g"
          rename_i H9 w9
          refine ⟨_, _, rfl, w9.bt _ _ (s8 _ _ hc7) hlc.symm, w9.bt _ _ (s8 _ _ hs7) hls.symm, (m7.trans (Mu.of_same s8)).wrN w9 hl0, ?_⟩
          rw [hyes (by rw [hok, h1, h2, h3]; rfl), List.map_append]
          exact w9.at_
        · have h3 : (!decide (nmk st a p i ∈ wordsS)) = false := by
            rw [← inV_str, ← wordsV_eq]
            exact h3
          fail "g"
          exact hstay _ s8 (by rw [hok, h3, Bool.and_false]; rfl) _ _
      · have h2 : (!decide (nmk st a p i ∈ fnd st a p i)) = false := by
          rw [← inV_str]
          exact h2
        fail "g"
        exact hstay _ (Same.refl _) (by rw [h2, Bool.and_false]) _ _
    · have h1 : (!decide (x0 ∈ dgL)) = false := h1
      fail "g"
      exact hstay _ (Same.refl _) (by rw [hok, h1]; rfl) _ _
  · rintro σ H7 ⟨kv, nv, rfl, hc7, hs7, m7, h7⟩
    have c7 : CS H7 c bud vn := ⟨s, ns, y1, y2, y3, hc7, hs7, hy1, hsc⟩
    have h6 := fnd6 (st := st) (a := a) (p := p) (by omega) (by omega) (by omega) hst
    fail "g"
    rename_i l8 H8 a8
    rw [cut_10, ← List.map_take] at a8
    exact k _ _ _ a8.at_ (by rw [List.length_take]; omega) (c7.ne a8) (c7.sm a8.sm) (m7.trans (Mu.of_al a8))
end
/-! ## Zcol1 -/
open PySem PySem.Spec PyProof.Rows L2
/-! ### plain expressions with their names bound -/
inductive Wf : List Str → E → Prop where
  | num {ρ} (n : Int) : Wf ρ (.num n)
  | name {ρ x} : x ∈ ρ → Wf ρ (.name x)
  | fn {ρ x b} : Wf (x :: ρ) b → Wf ρ (.fn x b)
  | call {ρ a b} : Wf ρ a → Wf ρ b → Wf ρ (.call a b)
  | sum {ρ a b} : Wf ρ a → Wf ρ b → Wf ρ (.sum a b)
  | less {ρ a b} : Wf ρ a → Wf ρ b → Wf ρ (.less a b)
  | iff {ρ a b c} : Wf ρ a → Wf ρ b → Wf ρ c → Wf ρ (.iff a b c)
  | lett {ρ x a b} : Wf ρ a → Wf (x :: ρ) b → Wf ρ (.lett x a b)
  | say {ρ a} : Wf ρ a → Wf ρ (.say a)
theorem mem_up {ρ ρ' : List Str} {x : Str} (s : ∀ y ∈ ρ, y ∈ ρ') : ∀ y ∈ x :: ρ, y ∈ x :: ρ' := fun y hy => by
  rcases List.mem_cons.mp hy with q | q
  · exact List.mem_cons.mpr (.inl q)
  · exact List.mem_cons.mpr (.inr (s _ q))
theorem Wf.mono {ρ : List Str} {e : E} (h : Wf ρ e) : ∀ {ρ' : List Str}, (∀ x ∈ ρ, x ∈ ρ') → Wf ρ' e := by
  induction h with
  | num n => intro _ _; exact .num n
  | name h => intro _ s; exact .name (s _ h)
  | fn _ i => intro _ s; exact .fn (i (mem_up s))
  | call _ _ i j => intro _ s; exact .call (i s) (j s)
  | sum _ _ i j => intro _ s; exact .sum (i s) (j s)
  | less _ _ i j => intro _ s; exact .less (i s) (j s)
  | iff _ _ _ i j l => intro _ s; exact .iff (i s) (j s) (l s)
  | lett _ _ i j => intro _ s; exact .lett (i s) (j (mem_up s))
  | say _ i => intro _ s; exact .say (i s)
theorem Pg.wf {ρ : List Str} {e : E} (h : Pg ρ e) : Wf ρ e := by
  have sn : ∀ (ρ : List Str) (x y : Str), y ∈ ρ ++ [x] → y ∈ x :: ρ := fun ρ x y hy => by
    rcases List.mem_append.mp hy with q | q
    · exact List.mem_cons.mpr (.inr q)
    · exact List.mem_cons.mpr (.inl (List.mem_singleton.mp q))
  induction h with
  | leaf h =>
    cases h with
    | num n => exact .num n
    | name h => exact .name h
  | call _ _ i j => exact .call (.fn (i.mono (sn _ _))) j
  | lett _ _ i j => exact .lett i (j.mono (sn _ _))
  | say _ i => exact .say i
  | iff _ _ _ i j l => exact .iff i j l
  | sum _ _ i j => exact .sum i j
  | less _ _ i j => exact .less i j
/-! ### noted: the same expression again -/
def spNoted (d : Nat) : Sp := fun vs H Q _ => ∃ (v : V) (e : E) (ρ : List Str) (k : Int) (rl : Addr), vs = [v, .int k, .ref rl] ∧ EAt H v e ∧ Wf ρ e ∧ e.depth ≤ d ∧ ∀ p H', EAt H' (.ref p) e → Same H H' → Q (.ref p) H'
def spNt : Nat → Sp
  | 0 => spNo
  | d + 1 => spNoted (d + 1)
theorem u_noted {d : Nat} {v : V} {e : E} {ρ : List Str} {k : Int} {rl : Addr} {H : Hp} {Q : VK} {X : XK} (h : EAt H v e) (w : Wf ρ e) (hd : e.depth ≤ d) (q : ∀ p H', EAt H' (.ref p) e → Same H H' → Q (.ref p) H') : spNt d ([v, .int k, .ref rl] ++ []) H Q X := by
  cases d with
  | zero => cases w <;> simp only [E.depth] at hd <;> omega
  | succ d => exact ⟨v, e, ρ, k, rl, rfl, h, w, hd, q⟩
section
variable {P : Program} {w : World} {K : PySem.W.Frag} {mg : Str → Option Value} {base : Heap} [Tx w K mg]
theorem ok_no {d : He.DefD} {N ps : List Str} (h : Dd K d) (bnd : ∀ (kV doc pm : Value) (an : Option Addr) (cdv ct : Value) (us : List Value), us.length = ps.length → bindArgs (PySem.W.fnOf d.name d.qual d.params d.body d.scope .none kV doc pm an cdv ct) ⟨us, []⟩ = pure (ps.zip us)) (k : Nat) : Ok P w K mg base k d ps spNo := by
  obtain ⟨fd, F⟩ := h
  exact ⟨⟨fd, ⟨fun vs H Q X h => h.elim, fun A outer s H args us vs Q E _ _ _ _ h => h.elim⟩, F.bindsN bnd⟩, F.kp⟩
theorem ok_law_noted1 (hd : Dd K d_law_noted) (d k0 : Nat) (g_law_noted : Ok P w K mg base k0 d_law_noted ["_law_e", "_law_k", "_law_rules"] (spNt d)) : Ok P w K mg base (k0 + 1) d_law_noted ["_law_e", "_law_k", "_law_rules"] (spNt (d + 1)) := by
  obtain ⟨⟨_, G_law_noted, b_law_noted⟩, k_law_noted⟩ := id g_law_noted
  refine ok_mk hd sc_law_noted bd_law_noted (fun vs H Q X h => ?_) (fun cdv A outer s0 H vs Q X hr h => ?_)
  · obtain ⟨_, _, _, _, _, rfl, _⟩ := h
    rfl
  obtain ⟨v, e, ρ, kk, rl, rfl, he, hw, hdp, k⟩ := h
  refine ⟨_, (pss_cons (ps_if (PW.pt (pw_or (pt_cmpR op_eq (pe_ix ix_tup (pv 0) pe_int (fun _ _ => rfl)) pe_str (nomark _)) (pw_or1 (pt_cmpR op_eq (pe_ix ix_tup (pv 0) pe_int (fun _ _ => rfl)) pe_str (nomark _))))) pss_never pss_nil)
  (pss_cons (ps_if (pt_cmpR op_eq (pe_ix ix_tup (pv 0) pe_int (fun _ _ => rfl)) pe_str (nomark _)) pss_never pss_nil)
  (pss_cons (ps_set (i := 6) sc_law_noted.nd rfl (Or.inl rfl) (pe_lst (pa_cons (pe_ix ix_tup (pv 0) pe_int (fun _ _ => rfl)) pa_nil)))
  (pss_cons (ps_for PassesOwn.never rfl (pi_tup (pe_slice sl_tup (pv 0) (po_some pe_int) po_none)) (pg_name (i := 5) sc_law_noted.nd rfl (Or.inl rfl))
  (pss_cons (ps_if (pt_val (pe_callB call_isI rfl (Tx.fr (K := K) "isinstance" (by decide +kernel)) (by decide +kernel) (pa_cons (pv 5) (pa_cons (pe_bltn (v := .ty "tuple") rfl (Tx.fr (K := K) "tuple" (by decide +kernel)) (by decide +kernel) rfl) pa_nil)))) (pss_one (ps_set (i := 5) sc_law_noted.nd rfl (Or.inl rfl) (pe_call G_law_noted (hr.mono (by omega)) rfl (Tx.gl (K := K) "_law_noted" (by decide +kernel)) k_law_noted b_law_noted .nil pass0 (pa_cons (pv 5) (pa_cons (pv 1) (pa_cons (pv 2) pa_nil)))))) pss_nil)
  (pss_one (ps_expr (pe_bm PySem.F.plainAttrs_list PySem.F.slot_list_append PySem.F.type_list_append mt_append (pv 6) (pa_cons (pv 5) pa_nil))))))
  (pss_one (ps_ret (pe_callTy call_tupleOf1 rfl (Tx.fr (K := K) "tuple" (by decide +kernel)) (by decide +kernel) (pa_cons (pv 6) pa_nil)))))))), ?_⟩
  fail "b"
  cases hw with
  | num n =>
    cases he with
    | num hp =>
      simp only [E.depth] at hdp
      fail "g"
      fail "un"
      fail "g"
      exact k _ _ (by fail "e") (by kspl_open sm)
  | name hm =>
    cases he with
    | name hp =>
      simp only [E.depth] at hdp
      fail "g"
      fail "un"
      fail "g"
      exact k _ _ (by fail "e") (by kspl_open sm)
  | fn wa =>
    cases he with
    | fn hp ha =>
      simp only [E.depth] at hdp
      fail "g"
      fail "un"
      fail "g"
      refine u_noted (d := d) (by fail "e") wa (by omega) fun p0 H0 h0 s0 => ?_
      fail "g"
      exact k _ _ (by fail "e") (by kspl_open sm)
  | call wa wb =>
    cases he with
    | call hp ha hb =>
      simp only [E.depth] at hdp
      fail "g"
      fail "un"
      fail "g"
      refine u_noted (d := d) (by fail "e") wa (by omega) fun p0 H0 h0 s0 => ?_
      fail "g"
      refine u_noted (d := d) (by fail "e") wb (by omega) fun p1 H1 h1 s1 => ?_
      fail "g"
      exact k _ _ (by fail "e") (by kspl_open sm)
  | sum wa wb =>
    cases he with
    | sum hp ha hb =>
      simp only [E.depth] at hdp
      fail "g"
      fail "un"
      fail "g"
      refine u_noted (d := d) (by fail "e") wa (by omega) fun p0 H0 h0 s0 => ?_
      fail "g"
      refine u_noted (d := d) (by fail "e") wb (by omega) fun p1 H1 h1 s1 => ?_
      fail "g"
      exact k _ _ (by fail "e") (by kspl_open sm)
  | less wa wb =>
    cases he with
    | less hp ha hb =>
      simp only [E.depth] at hdp
      fail "g"
      fail "un"
      fail "g"
      refine u_noted (d := d) (by fail "e") wa (by omega) fun p0 H0 h0 s0 => ?_
      fail "g"
      refine u_noted (d := d) (by fail "e") wb (by omega) fun p1 H1 h1 s1 => ?_
      fail "g"
      exact k _ _ (by fail "e") (by kspl_open sm)
  | iff wa wb wc =>
    cases he with
    | iff hp ha hb hc =>
      simp only [E.depth] at hdp
      fail "g"
      fail "un"
      fail "g"
      refine u_noted (d := d) (by fail "e") wa (by omega) fun p0 H0 h0 s0 => ?_
      fail "g"
      refine u_noted (d := d) (by fail "e") wb (by omega) fun p1 H1 h1 s1 => ?_
      fail "g"
      refine u_noted (d := d) (by fail "e") wc (by omega) fun p2 H2 h2 s2 => ?_
      fail "g"
      exact k _ _ (by fail "e") (by kspl_open sm)
  | lett wa wb =>
    cases he with
    | lett hp ha hb =>
      simp only [E.depth] at hdp
      fail "g"
      fail "un"
      fail "g"
      refine u_noted (d := d) (by fail "e") wa (by omega) fun p0 H0 h0 s0 => ?_
      fail "g"
      refine u_noted (d := d) (by fail "e") wb (by omega) fun p1 H1 h1 s1 => ?_
      fail "g"
      exact k _ _ (by fail "e") (by kspl_open sm)
  | say wa =>
    cases he with
    | say hp ha =>
      simp only [E.depth] at hdp
      fail "g"
      fail "un"
      fail "g"
      refine u_noted (d := d) (by fail "e") wa (by omega) fun p0 H0 h0 s0 => ?_
      fail "g"
      exact k _ _ (by fail "e") (by kspl_open sm)
end
end Zg
/-! ## Zcol2 -/
set_option Elab.async false
set_option linter.all false
set_option maxRecDepth 100000
set_option maxHeartbeats 4000000
namespace Zg
open PySem PySem.Spec PyProof.Rows L2
/-! ### plain programs (all at level 0) -/
inductive Pl where
  | num (n : Int) | name (x : Str) | fn (x : Str) (b : Pl) | call (a b : Pl) | sum (a b : Pl) | less (a b : Pl) | iff (a b c : Pl) | lett (x : Str) (a b : Pl) | say (a : Pl)
def Pl.size : Pl → Nat
  | .num _ => 1 | .name _ => 1 | .fn _ b => b.size + 1 | .call a b => a.size + b.size + 1 | .sum a b => a.size + b.size + 1 | .less a b => a.size + b.size + 1 | .iff a b c => a.size + b.size + c.size + 1
  | .lett _ a b => a.size + b.size + 1 | .say a => a.size + 1
inductive QAt (H : Hp) : V → Pl → Prop where
  | num {p n} : H p = some (.tup [.str "num", .int n]) → QAt H (.ref p) (.num n)
  | name {p x} : H p = some (.tup [.str "name", .str x]) → QAt H (.ref p) (.name x)
  | fn {p x vb b} : H p = some (.tup [.str "fn", .int 0, .str x, vb]) → QAt H vb b → QAt H (.ref p) (.fn x b)
  | call {p va a vb b} : H p = some (.tup [.str "call", .int 0, va, vb]) → QAt H va a → QAt H vb b → QAt H (.ref p) (.call a b)
  | sum {p va a vb b} : H p = some (.tup [.str "sum", .int 0, va, vb]) → QAt H va a → QAt H vb b → QAt H (.ref p) (.sum a b)
  | less {p va a vb b} : H p = some (.tup [.str "less", .int 0, va, vb]) → QAt H va a → QAt H vb b → QAt H (.ref p) (.less a b)
  | iff {p vc c va a vb b} : H p = some (.tup [.str "if", .int 0, vc, va, vb]) → QAt H vc c → QAt H va a → QAt H vb b → QAt H (.ref p) (.iff c a b)
  | lett {p x va a vb b} : H p = some (.tup [.str "let", .str x, va, vb]) → QAt H va a → QAt H vb b → QAt H (.ref p) (.lett x a b)
  | say {p va a} : H p = some (.tup [.str "say", .int 0, va]) → QAt H va a → QAt H (.ref p) (.say a)
theorem QAt.fix {H H' : Hp} (f : Fix H H') {v : V} {e : Pl} (h : QAt H v e) : QAt H' v e := by
  induction h with
  | num h => exact .num (f _ _ h rfl)
  | name h => exact .name (f _ _ h rfl)
  | fn h _ i1 => exact .fn (f _ _ h rfl) i1
  | call h _ _ i1 i2 => exact .call (f _ _ h rfl) i1 i2
  | sum h _ _ i1 i2 => exact .sum (f _ _ h rfl) i1 i2
  | less h _ _ i1 i2 => exact .less (f _ _ h rfl) i1 i2
  | iff h _ _ _ i1 i2 i3 => exact .iff (f _ _ h rfl) i1 i2 i3
  | lett h _ _ i1 i2 => exact .lett (f _ _ h rfl) i1 i2
  | say h _ i1 => exact .say (f _ _ h rfl) i1
/-- the same but for names; a new name is none of those around -/
inductive RenOf : List (Str × Str) → E → Pl → Prop where
  | num {ρ} (n : Int) : RenOf ρ (.num n) (.num n)
  | name {ρ x y} : ρ.lookup x = some y → RenOf ρ (.name x) (.name y)
  | fn {ρ x y b b'} : y ∉ ρ.map (·.2) → RenOf ((x, y) :: ρ) b b' → RenOf ρ (.fn x b) (.fn y b')
  | call {ρ a b a' b'} : RenOf ρ a a' → RenOf ρ b b' → RenOf ρ (.call a b) (.call a' b')
  | sum {ρ a b a' b'} : RenOf ρ a a' → RenOf ρ b b' → RenOf ρ (.sum a b) (.sum a' b')
  | less {ρ a b a' b'} : RenOf ρ a a' → RenOf ρ b b' → RenOf ρ (.less a b) (.less a' b')
  | iff {ρ a b c a' b' c'} : RenOf ρ a a' → RenOf ρ b b' → RenOf ρ c c' → RenOf ρ (.iff a b c) (.iff a' b' c')
  | lett {ρ x y a b a' b'} : y ∉ ρ.map (·.2) → RenOf ρ a a' → RenOf ((x, y) :: ρ) b b' → RenOf ρ (.lett x a b) (.lett y a' b')
  | say {ρ a a'} : RenOf ρ a a' → RenOf ρ (.say a) (.say a')
theorem RenOf.size {ρ : List (Str × Str)} {e : E} {p : Pl} (h : RenOf ρ e p) : p.size = e.size := by
  induction h <;> simp only [Pl.size, E.size] <;> omega
/-! ### new names -/
def nm (i : Int) : Str := ("n" : Str) ++ Str.ofString (toString i)
theorem nm_inj {i j : Int} (hi : 0 ≤ i) (hi2 : i < 10 ^ 10) (hj : 0 ≤ j) (hj2 : j < 10 ^ 10) (h : nm i = nm j) : i = j := by
  have e : TL.tl (nm i) = TL.tl (nm j) := by rw [h]
  unfold nm at e
  rw [TL.tl_append, TL.tl_append] at e
  have e2 : Str.ofString (toString i) = Str.ofString (toString j) := TL.ext_tl (List.append_cancel_left e)
  have a := PySem.W.KIN.num_reads hi hi2
  rw [e2, PySem.W.KIN.num_reads hj hj2] at a
  exact (Option.some.inj a).symm
def NamesUpTo (n : Int) (ρ : List (Str × Str)) : Prop := ∀ p ∈ ρ, ∃ i, 0 ≤ i ∧ i ≤ n ∧ p.2 = nm i
theorem NamesUpTo.mono {n n' : Int} {ρ : List (Str × Str)} (h : NamesUpTo n ρ) (l : n ≤ n') : NamesUpTo n' ρ := fun p hp => let ⟨i, a, b, c⟩ := h p hp; ⟨i, a, by omega, c⟩
theorem NamesUpTo.cons {n : Int} {ρ : List (Str × Str)} (h : NamesUpTo n ρ) (h0 : 0 ≤ n) (x : Str) : NamesUpTo (n + 1) ((x, nm (n + 1)) :: ρ) := fun p hp => by
  rcases List.mem_cons.mp hp with rfl | q
  · exact ⟨n + 1, by omega, by omega, rfl⟩
  · exact h.mono (by omega) p q
theorem NamesUpTo.fresh {n : Int} {ρ : List (Str × Str)} (h : NamesUpTo n ρ) (h0 : 0 ≤ n) (hb : n < 100000) : nm (n + 1) ∉ ρ.map (·.2) := fun m => by
  obtain ⟨p, hp, e⟩ := List.mem_map.mp m
  obtain ⟨i, a, b, c⟩ := h p hp
  have q : nm i = nm (n + 1) := c.symm.trans e
  have := nm_inj a (by omega) (by omega) (by omega) q
  omega
theorem lookup_memK {α : Type} {x : Str} {y : α} : ∀ {ρ : List (Str × α)}, ρ.lookup x = some y → x ∈ ρ.map (·.1)
  | [], h => by cases h
  | (a, b) :: r, h => by
    rw [lookup_cons'] at h
    by_cases e : x = a
    · rw [e]
      exact List.mem_cons_self
    · rw [if_neg e] at h
      exact List.mem_cons_of_mem _ (lookup_memK h)
theorem RenOf.wf {ρ : List (Str × Str)} {e : E} {p : Pl} (h : RenOf ρ e p) : Wf (ρ.map (·.1)) e := by
  induction h with
  | num n => exact .num n
  | name h => exact .name (lookup_memK h)
  | fn _ _ i => exact .fn i
  | call _ _ i j => exact .call i j
  | sum _ _ i j => exact .sum i j
  | less _ _ i j => exact .less i j
  | iff _ _ _ i j l => exact .iff i j l
  | lett _ _ _ i j => exact .lett i j
  | say _ i => exact .say i
theorem mem_lookup {x : Str} : ∀ {ρ : List (Str × Str)}, x ∈ ρ.map (·.1) → ∃ y, ρ.lookup x = some y
  | [], h => by cases h
  | (a, b) :: r, h => by
    rw [lookup_cons']
    by_cases e : x = a
    · exact ⟨b, by rw [if_pos e]⟩
    · rw [if_neg e]
      rcases List.mem_cons.mp h with q | q
      · exact absurd q e
      · exact mem_lookup q
theorem E.size_pos (e : E) : 1 ≤ e.size := by cases e <;> simp only [E.size] <;> omega
/-- texts -/
def RS (v : V) (s : Str) : Prop := v = .str s
/-! ## Zcol3 -/
open PySem PySem.Spec PyProof.Rows L2
local macro_rules | `(tactic| w_dflts lk) => `(tactic| first | (exact Wr.at_ (by assumption)) | done)
local macro_rules | `(tactic| w_dflts lk) => `(tactic| first | (exact Al.at_ (by assumption)) | done)
local macro_rules | `(tactic| w_dflts lk) => `(tactic| first | (assumption) | done)
local macro_rules | `(tactic| w_dflts lk) => `(tactic| first | (((with_reducible refine' lk_fix (by with_reducible assumption) ?a ?b); (case b => exact rfl); (case a => w_dflts lk))) | done)
local macro_rules | `(tactic| w_dflts lk) => `(tactic| first | (((with_reducible refine' lk_wrk (by with_reducible assumption) ?a ?b ?c); (case a => w_dflts lk); (case b => w_dflts lk); (case c => exact rfl))) | done)
local macro_rules | `(tactic| w_dflts lk) => `(tactic| first | (((with_reducible refine' lk_wr (by with_reducible assumption) ?a ?b); (case b => kspl_open ne); (case a => w_dflts lk))) | done)
local macro_rules | `(tactic| w_dflts lk) => `(tactic| first | (((with_reducible refine' lk_muk (by with_reducible assumption) ?a ?b ?c); (case a => w_dflts lk); (case b => w_dflts lk); (case c => exact rfl))) | done)
local macro_rules | `(tactic| w_dflts lk) => `(tactic| first | (((with_reducible refine' lk_mu (by with_reducible assumption) ?a ?b); (case b => kspl_open ne); (case a => w_dflts lk))) | done)
local macro_rules | `(tactic| w_dflts lk) => `(tactic| first | (((with_reducible refine' lk_muf (by with_reducible assumption) ?a ?b); (case b => exact rfl); (case a => w_dflts lk))) | done)
local macro_rules | `(tactic| w_dflts lk) => `(tactic| first | (((with_reducible refine' lk_same (by with_reducible assumption) ?a); (case a => w_dflts lk))) | done)
local macro_rules | `(tactic| w_dflts lk) => `(tactic| first | (((with_reducible refine' lk_al (by with_reducible assumption) ?a); (case a => w_dflts lk))) | done)
local macro_rules | `(tactic| w_dflts lk) => `(tactic| first | (((with_reducible refine' Wr.at_ ?a); (case a => with_reducible assumption))) | done)
local macro_rules | `(tactic| w_dflts lk) => `(tactic| first | (((with_reducible refine' Al.at_ ?a); (case a => with_reducible assumption))) | done)
local macro_rules | `(tactic| w_dflts lk) => `(tactic| first | (with_reducible assumption) | done)
local macro_rules | `(tactic| kspl_open ne) => `(tactic| first | (assumption) | done)
local macro_rules | `(tactic| kspl_open ne) => `(tactic| first | ((apply Ne.symm; refine' ne_of_none ?a (Al.nw (by with_reducible assumption)); (case a => w_dflts lk))) | done)
local macro_rules | `(tactic| kspl_open ne) => `(tactic| first | ((refine' ne_of_none ?a (Al.nw (by with_reducible assumption)); (case a => w_dflts lk))) | done)
local macro_rules | `(tactic| kspl_open ne) => `(tactic| first | ((apply Ne.symm; assumption)) | done)
local macro_rules | `(tactic| kspl_open ne) => `(tactic| first | (with_reducible assumption) | done)
local macro_rules | `(tactic| kspl_open fx) => `(tactic| first | (assumption) | done)
local macro_rules | `(tactic| kspl_open fx) => `(tactic| first | ((refine' Fix.trans ?a (by with_reducible assumption); (case a => kspl_open fx))) | done)
local macro_rules | `(tactic| kspl_open fx) => `(tactic| first | ((refine' Fix.trans ?a (Fix.of_same (by with_reducible assumption)); (case a => kspl_open fx))) | done)
local macro_rules | `(tactic| kspl_open fx) => `(tactic| first | ((refine' Fix.trans ?a (Mu.fx (by with_reducible assumption)); (case a => kspl_open fx))) | done)
local macro_rules | `(tactic| kspl_open fx) => `(tactic| first | ((refine' Fix.trans ?a (Wr.fx (by with_reducible assumption)); (case a => kspl_open fx))) | done)
local macro_rules | `(tactic| kspl_open fx) => `(tactic| first | ((refine' Fix.trans ?a (Al.fx (by with_reducible assumption)); (case a => kspl_open fx))) | done)
local macro_rules | `(tactic| kspl_open fx) => `(tactic| first | (with_reducible assumption) | done)
local macro_rules | `(tactic| kspl_open fx) => `(tactic| first | ((with_reducible exact Fix.refl _)) | done)
local macro_rules | `(tactic| kspl_open sm) => `(tactic| first | (assumption) | done)
local macro_rules | `(tactic| kspl_open sm) => `(tactic| first | ((intro _ _ _; w_dflts lk)) | done)
local macro_rules | `(tactic| kspl_open sm) => `(tactic| first | ((refine' Same.trans ?a (by with_reducible assumption); (case a => kspl_open sm))) | done)
local macro_rules | `(tactic| kspl_open sm) => `(tactic| first | ((refine' Same.trans ?a (Al.sm (by with_reducible assumption)); (case a => kspl_open sm))) | done)
local macro_rules | `(tactic| kspl_open sm) => `(tactic| first | (with_reducible assumption) | done)
local macro_rules | `(tactic| kspl_open sm) => `(tactic| first | ((with_reducible exact Same.refl _)) | done)
local macro_rules | `(tactic| kspl_open mu) => `(tactic| first | (assumption) | done)
local macro_rules | `(tactic| kspl_open mu) => `(tactic| first | ((refine' Mu.mk ?a ?b; (case a => intro _ _ _ _; w_dflts lk); (case b => kspl_open fx))) | done)
local macro_rules | `(tactic| kspl_open mu) => `(tactic| first | ((refine' Mu.trans ?a (by with_reducible assumption); (case a => kspl_open mu))) | done)
local macro_rules | `(tactic| kspl_open mu) => `(tactic| first | ((refine' Mu.trans ?a (Mu.of_same (by with_reducible assumption)); (case a => kspl_open mu))) | done)
local macro_rules | `(tactic| kspl_open mu) => `(tactic| first | ((refine' Mu.trans ?a (Mu.of_wr (by with_reducible assumption)); (case a => kspl_open mu))) | done)
local macro_rules | `(tactic| kspl_open mu) => `(tactic| first | ((refine' Mu.trans ?a (Mu.of_al (by with_reducible assumption)); (case a => kspl_open mu))) | done)
local macro_rules | `(tactic| kspl_open mu) => `(tactic| first | (with_reducible assumption) | done)
local macro_rules | `(tactic| kspl_open mu) => `(tactic| first | ((with_reducible exact Mu.refl _ _)) | done)
local macro_rules | `(tactic| fail "e") => `(tactic| first | (assumption) | done)
local macro_rules | `(tactic| fail "e") => `(tactic| first | ((refine' EAt.fix (by with_reducible assumption) ?a; (case a => fail "e"))) | done)
local macro_rules | `(tactic| fail "e") => `(tactic| first | ((refine' EAt.fix (Fix.of_same (by with_reducible assumption)) ?a; (case a => fail "e"))) | done)
local macro_rules | `(tactic| fail "e") => `(tactic| first | ((refine' EAt.fix (Mu.fx (by with_reducible assumption)) ?a; (case a => fail "e"))) | done)
local macro_rules | `(tactic| fail "e") => `(tactic| first | ((refine' EAt.fix (Wr.fx (by with_reducible assumption)) ?a; (case a => fail "e"))) | done)
local macro_rules | `(tactic| fail "e") => `(tactic| first | ((refine' EAt.fix (Al.fx (by with_reducible assumption)) ?a; (case a => fail "e"))) | done)
local macro_rules | `(tactic| fail "e") => `(tactic| first | (((with_reducible refine' EAt.do2 ?a ?b ?c ?d); (case a => w_dflts lk); (case b => w_dflts lk); (case c => fail "e"); (case d => fail "e"))) | done)
local macro_rules | `(tactic| fail "e") => `(tactic| first | (((with_reducible refine' EAt.do1 ?a ?b ?c); (case a => w_dflts lk); (case b => w_dflts lk); (case c => fail "e"))) | done)
local macro_rules | `(tactic| fail "e") => `(tactic| first | (((with_reducible refine' EAt.withh ?a ?b); (case a => w_dflts lk); (case b => fail "e"))) | done)
local macro_rules | `(tactic| fail "e") => `(tactic| first | (((with_reducible refine' EAt.keep ?a ?b); (case a => w_dflts lk); (case b => fail "e"))) | done)
local macro_rules | `(tactic| fail "e") => `(tactic| first | (((with_reducible refine' EAt.rule ?a ?b ?c); (case a => w_dflts lk); (case b => fail "e"); (case c => fail "e"))) | done)
local macro_rules | `(tactic| fail "e") => `(tactic| first | (((with_reducible refine' EAt.iff ?a ?b ?c ?d); (case a => w_dflts lk); (case b => fail "e"); (case c => fail "e"); (case d => fail "e"))) | done)
local macro_rules | `(tactic| fail "e") => `(tactic| first | (((with_reducible refine' EAt.lett ?a ?b ?c); (case a => w_dflts lk); (case b => fail "e"); (case c => fail "e"))) | done)
local macro_rules | `(tactic| fail "e") => `(tactic| first | (((with_reducible refine' EAt.less ?a ?b ?c); (case a => w_dflts lk); (case b => fail "e"); (case c => fail "e"))) | done)
local macro_rules | `(tactic| fail "e") => `(tactic| first | (((with_reducible refine' EAt.sum ?a ?b ?c); (case a => w_dflts lk); (case b => fail "e"); (case c => fail "e"))) | done)
local macro_rules | `(tactic| fail "e") => `(tactic| first | (((with_reducible refine' EAt.call ?a ?b ?c); (case a => w_dflts lk); (case b => fail "e"); (case c => fail "e"))) | done)
local macro_rules | `(tactic| fail "e") => `(tactic| first | (((with_reducible refine' EAt.say ?a ?b); (case a => w_dflts lk); (case b => fail "e"))) | done)
local macro_rules | `(tactic| fail "e") => `(tactic| first | (((with_reducible refine' EAt.fn ?a ?b); (case a => w_dflts lk); (case b => fail "e"))) | done)
local macro_rules | `(tactic| fail "e") => `(tactic| first | (((with_reducible refine' EAt.part ?a); (case a => w_dflts lk))) | done)
local macro_rules | `(tactic| fail "e") => `(tactic| first | (((with_reducible refine' EAt.usual ?a); (case a => w_dflts lk))) | done)
local macro_rules | `(tactic| fail "e") => `(tactic| first | (((with_reducible refine' EAt.name ?a); (case a => w_dflts lk))) | done)
local macro_rules | `(tactic| fail "e") => `(tactic| first | (((with_reducible refine' EAt.num ?a); (case a => w_dflts lk))) | done)
local macro_rules | `(tactic| fail "e") => `(tactic| first | (with_reducible assumption) | done)
local macro_rules | `(tactic| fail "fl") => `(tactic| first
  | (with_reducible exact lk_eq)
  | (with_reducible exact lk_nil)
  | ((with_reducible refine' lk_ne ?a ?b); (case a => decide +kernel); (case b => fail "fl")))
local macro_rules | `(tactic| fail "pf") => `(tactic| first
  | (with_reducible exact pf_eq)
  | (with_reducible exact pf_nil)
  | ((with_reducible refine' pf_ne ?a ?b); (case a => decide +kernel); (case b => fail "pf")))
local macro_rules | `(tactic| fail "im") => `(tactic| first | ((with_reducible refine' im_3 ?a); (case a => decide +kernel)) | exact rfl)
local macro_rules | `(tactic| fail "sq") => `(tactic| first | assumption | (refine' SqT.of ?a; (case a => w_dflts lk)) | (refine' SqL.of ?a; (case a => w_dflts lk)))
local macro_rules | `(tactic| fail "dk") => `(tactic| first | decide +kernel | exact rfl)
local macro_rules | `(tactic| fail "g") => `(tactic| repeat fail "g1")
local macro_rules | `(tactic| fail "b") => `(tactic| try dsimp only [cxOf, Cx.nox, Cx.wish])
local macro_rules | `(tactic| fail "un") => `(tactic| first
  | ((with_reducible refine' s_forTu ?a ?b); (case a => fail "sq"))
  | ((with_reducible refine' s_klcTu ?a ?b); (case a => fail "sq"); intro _ _ _))
local macro_rules | `(tactic| fail "ar") => `(tactic| first | exact Or.inr ⟨by decide, by decide⟩ | exact ⟨by decide, by decide⟩ | exact ⟨by decide, by decide, by decide⟩ | omega | (show (0 : Int) < _; omega) | exact Or.inl ⟨by omega, by omega⟩ | exact ⟨by omega, by omega⟩)
local macro_rules | `(tactic| fail "slc") => `(tactic| first | assumption | (intro h; exact absurd h.1 (by decide)))
local macro_rules | `(tactic| fail "len") => `(tactic| first | assumption | omega | exact Nat.le_of_ble_eq_true rfl)
local macro_rules | `(tactic| kspl_open cs) => `(tactic| first
  | with_reducible assumption
  | (refine' CS.sm (Al.sm (by with_reducible assumption)) ?a; (case a => kspl_open cs))
  | (refine' CS.sm (by with_reducible assumption) ?a; (case a => kspl_open cs))
  | assumption)
local macro_rules | `(tactic| fail "qa") => `(tactic| first | (assumption) | done)
local macro_rules | `(tactic| fail "qa") => `(tactic| first | ((refine' QAt.fix (by with_reducible assumption) ?a; (case a => fail "qa"))) | done)
local macro_rules | `(tactic| fail "qa") => `(tactic| first | ((refine' QAt.fix (Fix.of_same (by with_reducible assumption)) ?a; (case a => fail "qa"))) | done)
local macro_rules | `(tactic| fail "qa") => `(tactic| first | ((refine' QAt.fix (Mu.fx (by with_reducible assumption)) ?a; (case a => fail "qa"))) | done)
local macro_rules | `(tactic| fail "qa") => `(tactic| first | ((refine' QAt.fix (Wr.fx (by with_reducible assumption)) ?a; (case a => fail "qa"))) | done)
local macro_rules | `(tactic| fail "qa") => `(tactic| first | ((refine' QAt.fix (Al.fx (by with_reducible assumption)) ?a; (case a => fail "qa"))) | done)
local macro_rules | `(tactic| fail "qa") => `(tactic| first | (((with_reducible refine' QAt.iff ?a ?b ?c ?d); (case a => w_dflts lk); (case b => fail "qa"); (case c => fail "qa"); (case d => fail "qa"))) | done)
local macro_rules | `(tactic| fail "qa") => `(tactic| first | (((with_reducible refine' QAt.lett ?a ?b ?c); (case a => w_dflts lk); (case b => fail "qa"); (case c => fail "qa"))) | done)
local macro_rules | `(tactic| fail "qa") => `(tactic| first | (((with_reducible refine' QAt.less ?a ?b ?c); (case a => w_dflts lk); (case b => fail "qa"); (case c => fail "qa"))) | done)
local macro_rules | `(tactic| fail "qa") => `(tactic| first | (((with_reducible refine' QAt.sum ?a ?b ?c); (case a => w_dflts lk); (case b => fail "qa"); (case c => fail "qa"))) | done)
local macro_rules | `(tactic| fail "qa") => `(tactic| first | (((with_reducible refine' QAt.call ?a ?b ?c); (case a => w_dflts lk); (case b => fail "qa"); (case c => fail "qa"))) | done)
local macro_rules | `(tactic| fail "qa") => `(tactic| first | (((with_reducible refine' QAt.say ?a ?b); (case a => w_dflts lk); (case b => fail "qa"))) | done)
local macro_rules | `(tactic| fail "qa") => `(tactic| first | (((with_reducible refine' QAt.fn ?a ?b); (case a => w_dflts lk); (case b => fail "qa"))) | done)
local macro_rules | `(tactic| fail "qa") => `(tactic| first | (((with_reducible refine' QAt.name ?a); (case a => w_dflts lk))) | done)
local macro_rules | `(tactic| fail "qa") => `(tactic| first | (((with_reducible refine' QAt.num ?a); (case a => w_dflts lk))) | done)
local macro_rules | `(tactic| fail "qa") => `(tactic| first | (with_reducible assumption) | done)
local macro_rules | `(tactic| kspl_open env) => `(tactic| first | (assumption) | done)
local macro_rules | `(tactic| kspl_open env) => `(tactic| first | ((refine' EnvAt.fix0 (by with_reducible assumption) ?a; (case a => kspl_open env))) | done)
local macro_rules | `(tactic| kspl_open env) => `(tactic| first | ((refine' EnvAt.fix0 (Fix.of_same (by with_reducible assumption)) ?a; (case a => kspl_open env))) | done)
local macro_rules | `(tactic| kspl_open env) => `(tactic| first | ((refine' EnvAt.fix0 (Mu.fx (by with_reducible assumption)) ?a; (case a => kspl_open env))) | done)
local macro_rules | `(tactic| kspl_open env) => `(tactic| first | ((refine' EnvAt.fix0 (Wr.fx (by with_reducible assumption)) ?a; (case a => kspl_open env))) | done)
local macro_rules | `(tactic| kspl_open env) => `(tactic| first | ((refine' EnvAt.fix0 (Al.fx (by with_reducible assumption)) ?a; (case a => kspl_open env))) | done)
local macro_rules | `(tactic| kspl_open env) => `(tactic| first | (with_reducible assumption) | done)
local macro_rules | `(tactic| fail "sqA") => `(tactic| first | fail "sq" | (refine' sq_all ?a; (case a => assumption)))
local macro_rules | `(tactic| fail "un") => `(tactic| first | (((with_reducible refine' s_forEW ?a ?b); (case a => exact rfl))) | done)
local macro_rules | `(tactic| fail "un") => `(tactic| first | (((with_reducible refine' s_forEL ?a ?b); (case a => fail "sq"))) | done)
local macro_rules | `(tactic| fail "un") => `(tactic| first | (((with_reducible refine' s_forET ?a ?b); (case a => fail "sqA"))) | done)
local macro_rules | `(tactic| fail "un") => `(tactic| first | (((with_reducible refine' s_klcLu ?a ?b); (case a => w_dflts lk); intro _ _ _)) | done)
local macro_rules | `(tactic| fail "un") => `(tactic| first | (((with_reducible refine' s_klcTu ?a ?b); (case a => fail "sqA"); intro _ _ _)) | done)
local macro_rules | `(tactic| fail "un") => `(tactic| first | (((with_reducible refine' s_forTu ?a ?b); (case a => fail "sqA"))) | done)
local macro_rules | `(tactic| kspl_open nw) => `(tactic| first | ((refine' fr_wr (by assumption) ?a; (case a => kspl_open nw))) | done)
local macro_rules | `(tactic| kspl_open nw) => `(tactic| first | ((refine' fr_same (by assumption) ?a; (case a => kspl_open nw))) | done)
local macro_rules | `(tactic| kspl_open nw) => `(tactic| first | ((refine' fr_al (by assumption) ?a; (case a => kspl_open nw))) | done)
local macro_rules | `(tactic| kspl_open nw) => `(tactic| first | (exact Al.nw (by assumption)) | done)
local macro_rules | `(tactic| kspl_open nw) => `(tactic| first | (assumption) | done)
local macro_rules | `(tactic| fail "g1") => `(tactic| first
  | dsimp only
  | done)
local macro_rules | `(tactic| fail "g1") => `(tactic| first
  | (with_reducible refine' s_tdnotin ?_)
  | ((with_reducible refine' s_kdinI ?a ?b); (case a => w_dflts lk))
  | ((with_reducible refine' s_kdinP ?a ?c ?b); (case a => w_dflts lk); (case c => w_dflts lk))
  | ((with_reducible refine' s_catA ?a ?c ?d ?b); (case a => fail "sq"); (case c => fail "sq"); (case d => fail "len"); intro _ _ _)
  | (with_reducible refine' s_tdget1 ?_)
  | (with_reducible refine' s_tdget2 ?_)
  | ((with_reducible refine' s_kget1T ?a ?b); (case a => w_dflts lk))
  | ((with_reducible refine' s_kget2T ?a ?b); (case a => w_dflts lk))
  | ((with_reducible refine' s_kgoP ?a ?c ?b); (case a => w_dflts lk); (case c => w_dflts lk))
  | ((with_reducible refine' s_kdputP ?a ?c ?l ?b); (case a => w_dflts lk); (case c => w_dflts lk); (case l => fail "len"); intro _ _)
  | done)
local macro_rules | `(tactic| fail "g1") => `(tactic| first
  | (with_reducible refine' s_ienT ?_)
  | (with_reducible refine' s_ienL ?_)
  | (with_reducible refine' s_ienS ?_)
  | ((with_reducible refine' s_kenT ?a ?b); (case a => fail "sqA"))
  | ((with_reducible refine' s_kenL ?a ?b); (case a => fail "sq"))
  | (with_reducible refine' s_kenS ?_)
  | ((with_reducible refine' s_gtup ?a ?c ?b); (case a => fail "sq"); (case c => exact rfl))
  | (with_reducible refine' s_gcons ?_)
  | (with_reducible refine' s_gnil ?_)
  | (with_reducible refine' s_tdin ?_)
  | done)
local macro_rules | `(tactic| fail "g1") => `(tactic| first
  | (with_reducible refine' s_knotV ?_)
  | ((with_reducible refine' s_taug ?a ?b); (case a => exact rfl))
  | (with_reducible refine' s_ipI ?_)
  | (with_reducible refine' s_trevL ?_)
  | ((with_reducible refine' s_krevL ?a ?b); (case a => w_dflts lk); intro _ _ _)
  | (with_reducible refine' s_wen ?_)
  | ((with_reducible refine' s_wec ?_); intro _ _ _)
  | ((with_reducible refine' s_weaT ?a ?b); (case a => fail "sqA"))
  | ((with_reducible refine' s_weaL ?a ?b); (case a => fail "sq"))
  | (with_reducible refine' s_weaS ?_)
  | done)
local macro_rules | `(tactic| fail "g1") => `(tactic| first
  | (with_reducible refine' s_wln ?_)
  | (with_reducible refine' s_wlc ?_)
  | ((with_reducible refine' s_wla ?a ?b); (case a => fail "sq"))
  | (with_reducible refine' s_bm0 ?_)
  | ((with_reducible refine' s_lenZ ?a ?b); (case a => exact Nat.le_of_ble_eq_true rfl))
  | (with_reducible refine' s_tandV ?_)
  | (with_reducible refine' s_torV ?_)
  | (with_reducible refine' s_tnotV ?_)
  | (with_reducible refine' s_kandV ?_)
  | (with_reducible refine' s_korV ?_)
  | done)
local macro_rules | `(tactic| fail "g1") => `(tactic| first
  | ((with_reducible refine' s_kgetS ?a ?b); (case a => exact rfl))
  | ((with_reducible refine' s_knotS ?a ?b); (case a => exact rfl))
  | ((with_reducible refine' s_kgetP ?a ?b); (case a => exact rfl); intro _ _)
  | ((with_reducible refine' s_popS ?a ?b); (case a => w_dflts lk); intro _ _)
  | ((with_reducible refine' s_ext ?a ?c ?l ?b); (case a => w_dflts lk); (case c => w_dflts lk); (case l => fail "len"); intro _ _)
  | (with_reducible refine' s_kturn ?_)
  | (with_reducible refine' s_asgG ?_)
  | (with_reducible refine' s_gfld ?_)
  | ((with_reducible refine' s_kgfld ?a ?c ?n ?i ?l ?f ?b); (case a => w_dflts lk); (case c => exact CF.cls (by decide +kernel)); (case n => exact CF.na (by decide +kernel)); (case i => fail "im"); (case l => exact rfl); (case f => fail "pf"); intro _ _)
  | (with_reducible refine' s_tnotT ?_)
  | done)
local macro_rules | `(tactic| fail "g1") => `(tactic| first
  | (with_reducible refine' s_iT ?_)
  | ((with_reducible refine' s_kiL ?a ?b); (case a => fail "sq"))
  | ((with_reducible refine' s_kiT ?a ?b); (case a => fail "sq"))
  | (with_reducible refine' s_for ?_)
  | (with_reducible refine' s_lc ?_)
  | ((with_reducible refine' s_truL ?a ?b); (case a => w_dflts lk))
  | ((with_reducible refine' s_truT ?a ?b); (case a => w_dflts lk))
  | (with_reducible refine' s_truN ?_)
  | (with_reducible refine' s_u ?_)
  | (with_reducible refine' s_un ?_)
  | done)
local macro_rules | `(tactic| fail "g1") => `(tactic| first
  | (with_reducible refine' s_wfn ?_)
  | ((with_reducible refine' s_wfa ?a ?b); (case a => fail "sq"))
  | (with_reducible refine' s_wcn ?_)
  | ((with_reducible refine' s_wca ?a ?b); (case a => fail "sq"))
  | (with_reducible refine' s_sdput ?_)
  | ((with_reducible refine' s_kdputA ?a ?l ?b); (case a => assumption); (case l => fail "len"); intro _ _)
  | (with_reducible refine' s_tdget ?_)
  | ((with_reducible refine' s_kdgetK ?a ?e ?b); (case a => w_dflts lk); (case e => assumption))
  | ((with_reducible refine' s_addStr ?a ?b); (case a => fail "len"))
  | (with_reducible refine' s_iL ?_)
  | done)
local macro_rules | `(tactic| fail "g1") => `(tactic| first
  | (with_reducible refine' s_kpart ?_)
  | ((with_reducible refine' s_slT1 ?a ?b); (case a => fail "sq"); intro _ _ _)
  | ((with_reducible refine' s_slT ?a ?c ?b); (case a => fail "sq"); (case c => fail "slc"); intro _ _ _)
  | ((with_reducible refine' s_slL ?a ?b); (case a => fail "sq"); intro _ _ _)
  | ((with_reducible refine' s_cat ?a ?c ?d ?b); (case a => w_dflts lk); (case c => w_dflts lk); (case d => fail "len"); intro _ _ _)
  | ((with_reducible refine' s_addStr ?a ?b); (case a => fail "len"))
  | ((with_reducible refine' s_pop ?a ?c ?b); (case a => w_dflts lk); (case c => exact rfl); intro _ _)
  | ((with_reducible refine' s_bm0L ?a ?b); (case a => w_dflts lk))
  | ((with_reducible refine' s_i ?a ?b); (case a => fail "ar"))
  | (with_reducible refine' s_tru ?_)
  | done)
local macro_rules | `(tactic| fail "g1") => `(tactic| first
  | (with_reducible refine' s_isStrT ?_)
  | ((with_reducible refine' s_isTup ?a ?b); (case a => w_dflts lk))
  | ((with_reducible refine' s_isE ?a ?b); (case a => fail "e"))
  | ((with_reducible refine' s_isTupI ?a ?b); (case a => w_dflts lk))
  | ((with_reducible refine' s_inT ?a ?c ?d ?b); (case a => w_dflts lk); (case c => exact rfl); (case d => exact rfl))
  | ((with_reducible refine' s_inL ?a ?c ?d ?b); (case a => w_dflts lk); (case c => exact rfl); (case d => exact rfl))
  | ((with_reducible refine' s_inK ?a ?c ?d ?b); (case a => assumption); (case c => exact rfl); (case d => exact rfl))
  | (with_reducible refine' s_sl ?_)
  | (with_reducible refine' s_noPart ?_)
  | (with_reducible refine' s_part ?_)
  | done)
local macro_rules | `(tactic| fail "g1") => `(tactic| first
  | ((with_reducible refine' s_lenL ?a ?b); (case a => fail "sq"))
  | ((with_reducible refine' s_lenT ?a ?b); (case a => fail "sq"))
  | ((with_reducible refine' s_isN ?_))
  | ((with_reducible refine' s_notN ?_))
  | ((with_reducible refine' s_dictD ?a ?b); (case a => w_dflts lk); intro _ _ _)
  | ((with_reducible refine' s_tupOf ?a ?b); (case a => fail "sq"); intro _ _ _)
  | (with_reducible refine' s_isInt ?_)
  | (with_reducible refine' s_isStr ?_)
  | (with_reducible refine' s_isIntB ?_)
  | (with_reducible refine' s_isIntT ?_)
  | done)
local macro_rules | `(tactic| fail "g1") => `(tactic| first
  | (with_reducible refine' s_retN ?_)
  | (with_reducible refine' s_ifx ?_)
  | ((with_reducible refine' s_setL ?a ?l ?b); (case a => w_dflts lk); (case l => exact rfl); intro _ _)
  | (with_reducible refine' s_asgS ?_)
  | (with_reducible refine' s_sfld ?_)
  | ((with_reducible refine' s_ksfld ?a ?c ?n ?i ?l ?f ?b); (case a => w_dflts lk); (case c => exact CF.cls (by decide +kernel)); (case n => exact CF.na (by decide +kernel)); (case i => fail "im"); (case l => exact rfl); (case f => fail "pf"); intro _ _)
  | (with_reducible refine' s_aug ?_)
  | ((with_reducible refine' s_kaugI ?a ?c ?n ?k ?i ?l ?r ?f ?b); (case a => w_dflts lk); (case c => exact CF.cls (by decide +kernel)); (case n => exact CF.na (by decide +kernel)); (case k => fail "fl"); (case i => fail "im"); (case l => exact rfl); (case r => first | exact r_add | exact r_sub); (case f => fail "pf"); intro _ _)
  | (with_reducible refine' s_intI ?_)
  | (with_reducible refine' s_intB ?_)
  | done)
local macro_rules | `(tactic| fail "g1") => `(tactic| first
  | ((with_reducible refine' s_ne ?a ?b); (case a => exact rfl))
  | (with_reducible refine' s_tlst ?_)
  | ((with_reducible refine' s_klst ?a ?b); (case a => exact Nat.le_of_ble_eq_true rfl); intro _ _ _)
  | (with_reducible refine' s_yes ?_)
  | (with_reducible refine' s_wcc ?_)
  | (with_reducible refine' s_wfc ?_)
  | ((with_reducible refine' s_ixL ?a ?c ?b); (case a => fail "sq"); (case c => first | exact rfl | exact at0 | assumption))
  | ((with_reducible refine' s_dnK ?_); intro _ _ _)
  | ((with_reducible refine' s_dnT ?_); intro _ _ _)
  | (with_reducible refine' s_make ?_)
  | done)
local macro_rules | `(tactic| fail "g1") => `(tactic| first
  | (with_reducible refine' s_ttup ?_)
  | ((with_reducible refine' s_ktup ?a ?b); (case a => exact Nat.le_of_ble_eq_true rfl); intro _ _ _)
  | (with_reducible refine' s_tfld ?_)
  | ((with_reducible refine' s_kfld ?a ?c ?n ?l ?b); (case a => w_dflts lk); (case c => exact CF.cls (by decide +kernel)); (case n => exact CF.na (by decide +kernel)); (case l => fail "fl"))
  | (with_reducible refine' s_gName ?_)
  | ((with_reducible refine' s_klct ?a ?b); (case a => exact rfl))
  | ((with_reducible refine' s_kapp ?a ?l ?b); (case a => w_dflts lk); (case l => fail "len"); intro _ _)
  | (with_reducible refine' s_or ?_)
  | (with_reducible refine' s_and ?_)
  | (with_reducible refine' s_not ?_)
  | done)
local macro_rules | `(tactic| fail "g1") => `(tactic| first
  | (with_reducible refine' s_ret ?_)
  | (with_reducible refine' s_tb ?_)
  | (with_reducible refine' s_cb ?_)
  | (with_reducible refine' s_call ?_)
  | (with_reducible refine' s_drop ?_)
  | (with_reducible refine' s_bm ?_)
  | ((with_reducible refine' s_kbmL ?a ?b); (case a => w_dflts lk))
  | ((with_reducible refine' s_append ?a ?l ?b); (case a => w_dflts lk); (case l => fail "len"); intro _ _)
  | (with_reducible refine' s_meth ?_)
  | ((with_reducible refine' s_kmeth ?a ?l ?b); (case a => w_dflts lk); (case l => fail "fl"))
  | done)
local macro_rules | `(tactic| fail "g1") => `(tactic| first | ((with_reducible refine' s_i0 ?_)) | done)
local macro_rules | `(tactic| fail "g1") => `(tactic| first | (((with_reducible refine' s_ixT ?a ?c ?b); (case a => fail "sq"); (case c => first | exact rfl | exact at0 | assumption))) | done)
local macro_rules | `(tactic| fail "g1") => `(tactic| first | ((with_reducible refine' s_asg ?_)) | done)
local macro_rules | `(tactic| fail "g1") => `(tactic| first | ((with_reducible refine' s_seq ?_)) | done)
local macro_rules | `(tactic| fail "g1") => `(tactic| first | ((with_reducible refine' s_next ?_)) | done)
local macro_rules | `(tactic| fail "g1") => `(tactic| first | ((with_reducible refine' s_ifs ?_)) | done)
local macro_rules | `(tactic| fail "g1") => `(tactic| first | (((with_reducible refine' i_t ?a ?b); (case a => fail "dk"))) | done)
local macro_rules | `(tactic| fail "g1") => `(tactic| first | (((with_reducible refine' i_f ?a ?b); (case a => fail "dk"))) | done)
local macro_rules | `(tactic| fail "g1") => `(tactic| first | (((with_reducible refine' s_eq ?a ?b); (case a => exact rfl))) | done)
local macro_rules | `(tactic| fail "g1") => `(tactic| first | ((with_reducible refine' s_test ?_)) | done)
local macro_rules | `(tactic| fail "g1") => `(tactic| first | ((with_reducible refine' s_kb ?_)) | done)
local macro_rules | `(tactic| fail "g1") => `(tactic| first | ((with_reducible refine' s_op ?_)) | done)
local macro_rules | `(tactic| fail "g1") => `(tactic| first | ((with_reducible refine' s_nil ?_)) | done)
local macro_rules | `(tactic| fail "g1") => `(tactic| first | ((with_reducible refine' s_c ?_)) | done)
local macro_rules | `(tactic| fail "g1") => `(tactic| first | (((with_reducible refine' s_var ?a ?b); (case a => exact rfl))) | done)
local macro_rules | `(tactic| fail "g1") => `(tactic| first | ((with_reducible refine' s_cons ?_)) | done)
def spWith : Sp := fun vs H Q _ => ∃ (env : V) (ρ : List (Str × Str)) (x y : Str), vs = [env, .str x, .str y] ∧ EnvAt RS H env ρ ∧ ρ.length < 1000 ∧ ∀ p H', EnvAt RS H' (.ref p) ((x, y) :: ρ) → Same H H' → Q (.ref p) H'
def spNew : Sp := fun vs H Q _ => ∃ (bx : Addr) (n m : Int) (f g : V), vs = [.ref bx] ∧ H bx = some (.lst [.int n, .int m, f, g]) ∧ 0 ≤ n ∧ n < 100000 ∧ ∀ H', H' bx = some (.lst [.int (n + 1), .int m, f, g]) → Mu bx H H' → Q (.str (nm (n + 1))) H'
theorem u_with {env : V} {ρ : List (Str × Str)} {x y : Str} {H : Hp} {Q : VK} {X : XK} (h : EnvAt RS H env ρ) (l : ρ.length < 1000) (q : ∀ p H', EnvAt RS H' (.ref p) ((x, y) :: ρ) → Same H H' → Q (.ref p) H') : spWith ([env, .str x, .str y] ++ []) H Q X := ⟨env, ρ, x, y, rfl, h, l, q⟩
theorem u_new {bx : Addr} {n m : Int} {f g : V} {H : Hp} {Q : VK} {X : XK} (h : H bx = some (.lst [.int n, .int m, f, g])) (h0 : 0 ≤ n) (h1 : n < 100000) (q : ∀ H', H' bx = some (.lst [.int (n + 1), .int m, f, g]) → Mu bx H H' → Q (.str (nm (n + 1))) H') : spNew ([.ref bx] ++ []) H Q X := ⟨bx, n, m, f, g, rfl, h, h0, h1, q⟩
section
variable {P : Program} {w : World} {K : PySem.W.Frag} {mg : Str → Option Value} {base : Heap} [Tx w K mg]
theorem ok_law_with (hd : Dd K d_law_with) : Ok P w K mg base 1 d_law_with ["_law_env", "_law_x", "_law_value"] spWith := by
  refine ok_mk hd sc_law_with bd_law_with (fun vs H Q X h => ?_) (fun cdv A outer s0 H vs Q X hr h => ?_)
  · obtain ⟨_, _, _, _, rfl, _⟩ := h
    rfl
  obtain ⟨env, ρ, x, y, rfl, ⟨d, kvs, rfl, hd, er⟩, hl, k⟩ := h
  refine ⟨_, (pss_cons (ps_set (i := 3) sc_law_with.nd rfl (Or.inl rfl) (pe_callTy call_dictD1 rfl (Tx.fr (K := K) "dict" (by decide +kernel)) (by decide +kernel) (pa_cons (pv 0) pa_nil)))
  (pss_cons (ps_dput (hu_of hr) (pv 3) (pv 1) (pv 2) rfl)
  (pss_one (ps_ret (pv 3))))), ?_⟩
  fail "b"
  have hz : kvs.length < sizeLine := Nat.lt_of_le_of_lt er.len (Nat.lt_of_lt_of_le hl (by decide))
  fail "g"
  exact k _ _ ⟨_, _, rfl, by w_dflts lk, er.put x rfl⟩ (by kspl_open sm)
theorem log_small {n : Int} (h0 : 0 ≤ n) (h : n < 100001) : n.natAbs.log2 < 1920 := by
  have e : n.natAbs.log2 ≤ n.natAbs := Nat.log2_le_self _
  by_cases z : n.natAbs = 0
  · rw [z]; decide
  · have q : n.natAbs.log2 < 20 := (Nat.log2_lt z).mpr (by omega)
    omega
theorem ok_law_new (hd : Dd K d_law_new) : Ok P w K mg base 1 d_law_new ["_law_box"] spNew := by
  refine ok_mk hd sc_law_new bd_law_new (fun vs H Q X h => ?_) (fun cdv A outer s0 H vs Q X hr h => ?_)
  · obtain ⟨_, _, _, _, _, rfl, _⟩ := h
    rfl
  obtain ⟨bx, n, m, f, g, rfl, hb, h0, h1, k⟩ := h
  refine ⟨_, (pss_cons (ps_asg (pe_op op_add (pe_ix ix_list (pv 0) pe_int (fun _ _ => rfl)) pe_int) (pg_sub (pv 0) pe_int set_list))
  (pss_one (ps_ret (pe_op op_addStr pe_str (pe_callTy call_strI rfl (Tx.fr (K := K) "str" (by decide +kernel)) (by decide +kernel) (pa_cons (pe_ix ix_list (pv 0) pe_int (fun _ _ => rfl)) pa_nil)))))), ?_⟩
  fail "b"
  fail "g"
  refine s_intS (log_small (by omega) (by omega)) ?_
  have hz : ("n" : Str).length + (Str.ofString (toString (n + 1))).length ≤ sizeLine := by
    have q := PyProof.Rows.int_text_len_1921 (log_small (n := n + 1) (by omega) (by omega))
    have q2 : ("n" : Str).length = 1 := by decide +kernel
    exact Nat.le_trans (show _ ≤ 2000 by omega) (by decide)
  fail "g"
  exact k _ (by w_dflts lk) (by kspl_open mu)
/-! ### the law's own collapse -/
/-- what made and plain are given, for an expression of depth at most d; left: the steps that they still may take -/
structure BxA (H : Hp) (bx rl : Addr) (n m : Int) (g : V) (v : V) (e : E) (env : V) (ρ : List (Str × Str)) (d : Nat) : Prop where
  bxh : H bx = some (.lst [.int n, .int m, .bl false, g])
  rlh : H rl = some (.lst [])
  ne : rl ≠ bx
  ee : EAt H v e
  wf : Wf (ρ.map (·.1)) e
  dp : e.depth ≤ d
  envh : EnvAt RS H env ρ
  nn : NamesUpTo n ρ
  n0 : 0 ≤ n
  n1 : n + e.size ≤ 10000
  rr : ρ.length + d ≤ 900
structure BxZ (H H' : Hp) (bx : Addr) (n m : Int) (g : V) (r : V) (e : E) (ρ : List (Str × Str)) (pl : Pl) (n' m' : Int) : Prop where
  bxh : H' bx = some (.lst [.int n', .int m', .bl false, g])
  qq : QAt H' r pl
  rn : RenOf ρ e pl
  n0 : n ≤ n'
  n1 : n' ≤ n + e.size
  mu : Mu bx H H'
def spMade (d : Nat) : Sp := fun vs H Q _ => ∃ (v : V) (e : E) (env : V) (ρ : List (Str × Str)) (bx rl : Addr) (n m : Int) (g : V), vs = [v, .int 0, env, .non, .ref rl, .ref bx] ∧ BxA H bx rl n m g v e env ρ d ∧ (e.size : Int) ≤ m ∧
  ∀ p pl n' H', BxZ H H' bx n m g (.ref p) e ρ pl n' (m - e.size) → Q (.ref p) H'
def spPlain (d : Nat) : Sp := fun vs H Q _ => ∃ (v : V) (e : E) (env : V) (ρ : List (Str × Str)) (bx rl : Addr) (n m : Int) (g : V), vs = [v, .int 0, env, .non, .ref rl, .ref bx] ∧ BxA H bx rl n m g v e env ρ d ∧ (e.size : Int) ≤ m + 1 ∧
  ∀ p pl n' H', BxZ H H' bx n m g (.ref p) e ρ pl n' (m + 1 - e.size) → Q (.ref p) H'
def spMd : Nat → Sp
  | 0 => spNo
  | d + 1 => spMade (d + 1)
theorem u_made {d : Nat} {v : V} {e : E} {env : V} {ρ : List (Str × Str)} {bx rl : Addr} {n m : Int} {g : V} {H : Hp} {Q : VK} {X : XK} (a : BxA H bx rl n m g v e env ρ d) (hm : (e.size : Int) ≤ m)
    (q : ∀ p pl n' H', BxZ H H' bx n m g (.ref p) e ρ pl n' (m - e.size) → Q (.ref p) H') : spMd d ([v, .int 0, env, .non, .ref rl, .ref bx] ++ []) H Q X := by
  cases d with
  | zero =>
    have w := a.dp
    cases e <;> simp only [E.depth] at w <;> omega
  | succ d => exact ⟨v, e, env, ρ, bx, rl, n, m, g, rfl, a, hm, q⟩
theorem u_plain {d : Nat} {v : V} {e : E} {env : V} {ρ : List (Str × Str)} {bx rl : Addr} {n m : Int} {g : V} {H : Hp} {Q : VK} {X : XK} (a : BxA H bx rl n m g v e env ρ d) (hm : (e.size : Int) ≤ m + 1)
    (q : ∀ p pl n' H', BxZ H H' bx n m g (.ref p) e ρ pl n' (m + 1 - e.size) → Q (.ref p) H') : spPlain d ([v, .int 0, env, .non, .ref rl, .ref bx] ++ []) H Q X := ⟨v, e, env, ρ, bx, rl, n, m, g, rfl, a, hm, q⟩
theorem EAt.head {H : Hp} {v : V} {e : E} {ρ : List Str} (h : EAt H v e) (w : Wf ρ e) : ∃ p kd r, v = .ref p ∧ H p = some (.tup (.str kd :: r)) ∧ inV (.str kd) kindsV = true := by
  cases w <;> cases h <;> exact ⟨_, _, _, rfl, by assumption, by decide +kernel⟩
theorem ok_law_made1 (hd : Dd K d_law_made) (g_law_kinds : Ok P w K mg base 1 d_law_kinds [] spKinds) (d k0 : Nat) (hk0 : 1 ≤ k0) (g_law_plain : Ok P w K mg base k0 d_law_plain ["_law_e", "_law_k", "_law_env", "_law_about", "_law_rules", "_law_box"] (spPlain (d + 1))) : Ok P w K mg base (k0 + 1) d_law_made ["_law_e", "_law_k", "_law_env", "_law_about", "_law_rules", "_law_box"] (spMd (d + 1)) := by
  obtain ⟨⟨_, G_law_kinds, b_law_kinds⟩, k_law_kinds⟩ := id g_law_kinds
  obtain ⟨⟨_, G_law_plain, b_law_plain⟩, k_law_plain⟩ := id g_law_plain
  refine ok_mk hd sc_law_made bd_law_made (fun vs H Q X h => ?_) (fun cdv A outer s0 H vs Q X hr h => ?_)
  · obtain ⟨_, _, _, _, _, _, _, _, _, rfl, _⟩ := h
    rfl
  obtain ⟨v, e, env, ρ, bx, rl, n, m, g, rfl, ⟨hbx, hrl, hne, hee, hwf, hdp, henv, hnn, hn0, hn1, hrr⟩, hm, k⟩ := h
  have hsz := e.size_pos
  obtain ⟨p, kd, r, rfl, hp, hkd⟩ := hee.head hwf
  refine ⟨_, (pss_cons (ps_asg (pe_op op_sub (pe_ix ix_list (pv 5) pe_int (fun _ _ => rfl)) pe_int) (pg_sub (pv 5) pe_int set_list))
  (pss_cons (ps_if (pt_cmpR op_lt (pe_ix ix_list (pv 5) pe_int (fun _ _ => rfl)) pe_int (nomark _)) pss_never pss_nil)
  (pss_cons (ps_if (pt_cmpR op_in_seq (pe_ix ix_tup (pv 0) pe_int (fun _ _ => rfl)) (pe_call0 G_law_kinds (hr.mono (by omega)) rfl (Tx.gl (K := K) "_law_kinds" (by decide +kernel)) k_law_kinds b_law_kinds .nil pass0) (by with_unfolding_all rfl)) (pss_cons (ps_if (pt_val (pe_callB (cr_any rfl) rfl (Tx.fr (K := K) "any" (by decide +kernel)) (by decide +kernel) (pa_cons (pe_lc (own := [("_law_row", 17)]) (g := (gName 17)) (tt := tYes) rfl sc_law_made.nd (pi_list (pv 4)) (blkOk_by (N := ["_law_e", "_law_k", "_law_env", "_law_about", "_law_rules", "_law_box", "_law_one", "_law_names_here", "_law_outer", "_law_table", "_law_told", "_law_y", "_law_a", "_law_own", "_law_plain_here", "_law_j", "_law_part", "_law_row"]) (sc := defScope s_law_made) (by decide +kernel)) (fun _ _ _ _ _ => pg_name (i := 17) sc_law_made.nd rfl (Or.inl rfl)) (fun _ _ _ _ _ => pts_nil) (fun _ _ _ _ _ => (pe_and (pe_cmpR op_eq (pe_ix (show IxR _ (rIxT K) from ix_tup) (pv 17) pe_int (fun _ _ => rfl)) (pv 1) (nomark _)) (pe_one (pe_cmpR op_eq (pe_ix (show IxR _ (rIxT K) from ix_tup) (pv 17) pe_int (fun _ _ => rfl)) (pe_ix (show IxR _ (rIxT K) from ix_tup) (pv 0) pe_int (fun _ _ => rfl)) (nomark _)))))) pa_nil))) pss_never pss_nil)
  (pss_one (ps_ret (pe_call G_law_plain (hr.mono (by omega)) rfl (Tx.gl (K := K) "_law_plain" (by decide +kernel)) k_law_plain b_law_plain .nil pass0 (pa_cons (pv 0) (pa_cons (pv 1) (pa_cons (pv 2) (pa_cons (pv 3) (pa_cons (pv 4) (pa_cons (pv 5) pa_nil)))))))))) pss_nil)
  pss_never))), ?_⟩
  fail "b"
  fail "g"
  refine i_f (decide_eq_false (by omega)) ?_
  fail "g"
  rename_i H1 w1
  refine ⟨rfl, fun q H2 a2 => ?_⟩
  fail "g"
  refine i_t hkd ?_
  fail "g"
  refine s_klcL (xs := []) (p := rl) (fun D i H3 => Al H2 H3 D (.lst [])) (fun D H3 a => a) (fun D i H3 _ a3 => by fail "sq") (fun D i x H3 hx _ => by cases hx) fun D H3 a3 => ?_
  fail "g"
  refine ⟨D, [], rfl, SqL.of a3.at_, ?_⟩
  fail "g"
  refine u_plain (d := d + 1) (e := e) (ρ := ρ) (n := n) (m := m - 1) (g := g) ⟨by w_dflts lk, by w_dflts lk, hne, by fail "e", hwf, hdp, by kspl_open env, hnn, hn0, hn1, hrr⟩ (by omega) fun p4 pl n4 H4 z4 => ?_
  have hmm : m - 1 + 1 - (e.size : Int) = m - e.size := by omega
  have z := z4.bxh
  rw [hmm] at z
  have m13 : Mu bx H H3 := by kspl_open mu
  exact k _ _ _ _ ⟨z, z4.qq, z4.rn, z4.n0, z4.n1, m13.trans z4.mu⟩
end
/-! ## Zcol4 -/
open PySem PySem.Spec PyProof.Rows L2
section
variable {P : Program} {w : World} {K : PySem.W.Frag} {mg : Str → Option Value} {base : Heap} [Tx w K mg]
theorem ok_law_plain1 (hd : Dd K d_law_plain) (g_law_new : Ok P w K mg base 1 d_law_new ["_law_box"] spNew) (g_law_with : Ok P w K mg base 1 d_law_with ["_law_env", "_law_x", "_law_value"] spWith) (d k0 : Nat) (hk0 : 1 ≤ k0) (g_law_made : Ok P w K mg base k0 d_law_made ["_law_e", "_law_k", "_law_env", "_law_about", "_law_rules", "_law_box"] (spMd d)) :
    Ok P w K mg base (k0 + 1) d_law_plain ["_law_e", "_law_k", "_law_env", "_law_about", "_law_rules", "_law_box"] (spPlain (d + 1)) := by
  obtain ⟨⟨_, G_law_new, b_law_new⟩, k_law_new⟩ := id g_law_new
  obtain ⟨⟨_, G_law_with, b_law_with⟩, k_law_with⟩ := id g_law_with
  obtain ⟨⟨_, G_law_made, b_law_made⟩, k_law_made⟩ := id g_law_made
  refine ok_mk hd sc_law_plain bd_law_plain (fun vs H Q X h => ?_) (fun cdv A outer s0 H vs Q X hr h => ?_)
  · obtain ⟨_, _, _, _, _, _, _, _, _, rfl, _⟩ := h
    rfl
  obtain ⟨v, e, env, ρ, bx, rl, n, m, g, rfl, ⟨hbx, hrl, hne, hee, hwf, hdp, henv, hnn, hn0, hn1, hrr⟩, hm, k⟩ := h
  refine ⟨_, (pss_cons (ps_if (pt_cmpR op_eq (pe_ix ix_tup (pv 0) pe_int (fun _ _ => rfl)) pe_str (nomark _)) (pss_one (ps_ret (pv 0))) pss_nil)
  (pss_cons (ps_if (pt_cmpR op_eq (pe_ix ix_tup (pv 0) pe_int (fun _ _ => rfl)) pe_str (nomark _)) (pss_one (ps_ret (pe_tup (pa_cons pe_str (pa_cons (pe_dget (hu_of hr) (pv 2) (pe_ix ix_tup (pv 0) pe_int (fun _ _ => rfl)) (fun _ _ => rfl)) pa_nil))))) pss_nil)
  (pss_cons (ps_if (pt_cmpR op_eq (pe_ix ix_tup (pv 0) pe_int (fun _ _ => rfl)) pe_str (nomark _)) (pss_cons (ps_set (i := 6) sc_law_plain.nd rfl (Or.inl rfl) (pe_call G_law_new (hr.mono (by omega)) rfl (Tx.gl (K := K) "_law_new" (by decide +kernel)) k_law_new b_law_new .nil pass0 (pa_cons (pv 5) pa_nil)))
  (pss_one (ps_ret (pe_tup (pa_cons pe_str (pa_cons (pv 1) (pa_cons (pv 6) (pa_cons (pe_call G_law_made (hr.mono (by omega)) rfl (Tx.gl (K := K) "_law_made" (by decide +kernel)) k_law_made b_law_made .nil pass0 (pa_cons (pe_ix ix_tup (pv 0) pe_int (fun _ _ => rfl)) (pa_cons (pv 1) (pa_cons (pe_call G_law_with (hr.mono (by omega)) rfl (Tx.gl (K := K) "_law_with" (by decide +kernel)) k_law_with b_law_with .nil pass0 (pa_cons (pv 2) (pa_cons (pe_ix ix_tup (pv 0) pe_int (fun _ _ => rfl)) (pa_cons (pv 6) pa_nil)))) (pa_cons (pv 3) (pa_cons (pv 4) (pa_cons (pv 5) pa_nil))))))) pa_nil)))))))) pss_nil)
  (pss_cons (ps_if (pt_cmpR op_eq (pe_ix ix_tup (pv 0) pe_int (fun _ _ => rfl)) pe_str (nomark _)) (pss_cons (ps_set (i := 6) sc_law_plain.nd rfl (Or.inl rfl) (pe_call G_law_new (hr.mono (by omega)) rfl (Tx.gl (K := K) "_law_new" (by decide +kernel)) k_law_new b_law_new .nil pass0 (pa_cons (pv 5) pa_nil)))
  (pss_cons (ps_set (i := 7) sc_law_plain.nd rfl (Or.inl rfl) (pe_call G_law_made (hr.mono (by omega)) rfl (Tx.gl (K := K) "_law_made" (by decide +kernel)) k_law_made b_law_made .nil pass0 (pa_cons (pe_ix ix_tup (pv 0) pe_int (fun _ _ => rfl)) (pa_cons (pv 1) (pa_cons (pv 2) (pa_cons (pv 3) (pa_cons (pv 4) (pa_cons (pv 5) pa_nil))))))))
  (pss_one (ps_ret (pe_tup (pa_cons pe_str (pa_cons (pv 6) (pa_cons (pv 7) (pa_cons (pe_call G_law_made (hr.mono (by omega)) rfl (Tx.gl (K := K) "_law_made" (by decide +kernel)) k_law_made b_law_made .nil pass0 (pa_cons (pe_ix ix_tup (pv 0) pe_int (fun _ _ => rfl)) (pa_cons (pv 1) (pa_cons (pe_call G_law_with (hr.mono (by omega)) rfl (Tx.gl (K := K) "_law_with" (by decide +kernel)) k_law_with b_law_with .nil pass0 (pa_cons (pv 2) (pa_cons (pe_ix ix_tup (pv 0) pe_int (fun _ _ => rfl)) (pa_cons (pv 6) pa_nil)))) (pa_cons (pv 3) (pa_cons (pv 4) (pa_cons (pv 5) pa_nil))))))) pa_nil))))))))) pss_nil)
  (pss_cons (ps_set (i := 8) sc_law_plain.nd rfl (Or.inl rfl) (pe_lst (pa_cons (pe_ix ix_tup (pv 0) pe_int (fun _ _ => rfl)) (pa_cons (pv 1) pa_nil))))
  (pss_cons (ps_for PassesOwn.never rfl (pi_tup (pe_slice sl_tup (pv 0) (po_some pe_int) po_none)) (pg_name (i := 9) sc_law_plain.nd rfl (Or.inl rfl))
  (pss_one (ps_expr (pe_bm PySem.F.plainAttrs_list PySem.F.slot_list_append PySem.F.type_list_append mt_append (pv 8) (pa_cons (pe_call G_law_made (hr.mono (by omega)) rfl (Tx.gl (K := K) "_law_made" (by decide +kernel)) k_law_made b_law_made .nil pass0 (pa_cons (pv 9) (pa_cons (pv 1) (pa_cons (pv 2) (pa_cons (pv 3) (pa_cons (pv 4) (pa_cons (pv 5) pa_nil))))))) pa_nil)))))
  (pss_one (ps_ret (pe_callTy call_tupleOf1 rfl (Tx.fr (K := K) "tuple" (by decide +kernel)) (by decide +kernel) (pa_cons (pv 8) pa_nil)))))))))), ?_⟩
  fail "b"
  cases hwf with
  | num i =>
    cases hee
    fail "g"
    exact k _ (.num i) n _ ⟨by simp only [E.size]; rw [show m + 1 - ((1 : Nat) : Int) = m by omega]; exact hbx, by fail "qa", .num i, by omega, by simp only [E.size]; omega, Mu.refl _ _⟩
  | name hx =>
    cases hee with
    | name hp =>
      obtain ⟨y, hy⟩ := mem_lookup hx
      obtain ⟨ed, kvs, rfl, hed, er⟩ := henv
      obtain ⟨yv, hyv, rfl⟩ := er.at_ _ _ hy
      fail "g"
      exact k _ (.name y) n _ ⟨by simp only [E.size]; rw [show m + 1 - ((1 : Nat) : Int) = m by omega]; w_dflts lk, by fail "qa", .name hy, by omega, by simp only [E.size]; omega, by kspl_open mu⟩
  | fn wb =>
    rename_i x b
    cases hee with
    | fn hp hb =>
      simp only [E.size] at hn1 hm
      simp only [E.depth] at hdp
      fail "g"
      refine u_new hbx hn0 (by omega) fun H1 hb1 m1 => ?_
      fail "g"
      refine u_with (ρ := ρ) (by kspl_open env) (by omega) fun p2 H2 he2 s2 => ?_
      fail "g"
      refine u_made (d := d) (e := b) (ρ := ((x, nm (n + 1)) :: ρ)) (n := n + 1) (m := m) (g := g) ⟨by w_dflts lk, by w_dflts lk, hne, by fail "e", wb, by omega, by kspl_open env, hnn.cons hn0 _, by omega, by omega, by first | omega | (simp only [List.length_cons]; omega)⟩ (by omega) fun p3 pl3 n3 H3 z3 => ?_
      obtain ⟨zb3, zq3, zr3, zn3, zm3, zu3⟩ := z3
      fail "g"
      exact k _ (.fn (nm (n + 1)) pl3) n3 _ ⟨by simp only [E.size]; rw [show m + 1 - ((b.size + 1 : Nat) : Int) = m - b.size by omega]; w_dflts lk, by fail "qa", .fn (hnn.fresh hn0 (by omega)) zr3, by omega, by simp only [E.size]; omega, by kspl_open mu⟩
  | lett wa wb =>
    rename_i x a b
    cases hee with
    | lett hp ha hb =>
      simp only [E.size] at hn1 hm
      simp only [E.depth] at hdp
      fail "g"
      refine u_new hbx hn0 (by omega) fun H1 hb1 m1 => ?_
      fail "g"
      refine u_made (d := d) (e := a) (ρ := ρ) (n := n + 1) (m := m) (g := g) ⟨by w_dflts lk, by w_dflts lk, hne, by fail "e", wa, by omega, by kspl_open env, hnn.mono (by omega), by omega, by omega, by first | omega | (simp only [List.length_cons]; omega)⟩ (by omega) fun p2 pl2 n2 H2 z2 => ?_
      obtain ⟨zb2, zq2, zr2, zn2, zm2, zu2⟩ := z2
      fail "g"
      refine u_with (ρ := ρ) (by kspl_open env) (by omega) fun p3 H3 he3 s3 => ?_
      fail "g"
      refine u_made (d := d) (e := b) (ρ := ((x, nm (n + 1)) :: ρ)) (n := n2) (m := m - a.size) (g := g) ⟨by w_dflts lk, by w_dflts lk, hne, by fail "e", wb, by omega, by kspl_open env, (hnn.cons hn0 _).mono (by omega), by omega, by omega, by first | omega | (simp only [List.length_cons]; omega)⟩ (by omega) fun p4 pl4 n4 H4 z4 => ?_
      obtain ⟨zb4, zq4, zr4, zn4, zm4, zu4⟩ := z4
      fail "g"
      exact k _ (.lett (nm (n + 1)) pl2 pl4) n4 _ ⟨by simp only [E.size]; rw [show m + 1 - ((a.size + b.size + 1 : Nat) : Int) = m - a.size - b.size by omega]; w_dflts lk, by fail "qa", .lett (hnn.fresh hn0 (by omega)) zr2 zr4, by omega, by simp only [E.size]; omega, by kspl_open mu⟩
  | call wa wb =>
    rename_i a b
    cases hee with
    | call hp ha hb =>
      simp only [E.size] at hn1 hm
      simp only [E.depth] at hdp
      fail "g"
      fail "un"
      fail "g"
      refine u_made (d := d) (e := a) (ρ := ρ) (n := n) (m := m) (g := g) ⟨by w_dflts lk, by w_dflts lk, hne, by fail "e", wa, by omega, by kspl_open env, hnn, by omega, by omega, by first | omega | (simp only [List.length_cons]; omega)⟩ (by omega) fun p1 pl1 n1 H1 z1 => ?_
      obtain ⟨zb1, zq1, zr1, zn1, zm1, zu1⟩ := z1
      fail "g"
      refine u_made (d := d) (e := b) (ρ := ρ) (n := n1) (m := m - a.size) (g := g) ⟨by w_dflts lk, by w_dflts lk, hne, by fail "e", wb, by omega, by kspl_open env, hnn.mono (by omega), by omega, by omega, by first | omega | (simp only [List.length_cons]; omega)⟩ (by omega) fun p2 pl2 n2 H2 z2 => ?_
      obtain ⟨zb2, zq2, zr2, zn2, zm2, zu2⟩ := z2
      fail "g"
      exact k _ (.call pl1 pl2) n2 _ ⟨by simp only [E.size]; rw [show m + 1 - ((a.size + b.size + 1 : Nat) : Int) = m - a.size - b.size by omega]; w_dflts lk, by fail "qa", .call zr1 zr2, by omega, by simp only [E.size]; omega, by kspl_open mu⟩
  | sum wa wb =>
    rename_i a b
    cases hee with
    | sum hp ha hb =>
      simp only [E.size] at hn1 hm
      simp only [E.depth] at hdp
      fail "g"
      fail "un"
      fail "g"
      refine u_made (d := d) (e := a) (ρ := ρ) (n := n) (m := m) (g := g) ⟨by w_dflts lk, by w_dflts lk, hne, by fail "e", wa, by omega, by kspl_open env, hnn, by omega, by omega, by first | omega | (simp only [List.length_cons]; omega)⟩ (by omega) fun p1 pl1 n1 H1 z1 => ?_
      obtain ⟨zb1, zq1, zr1, zn1, zm1, zu1⟩ := z1
      fail "g"
      refine u_made (d := d) (e := b) (ρ := ρ) (n := n1) (m := m - a.size) (g := g) ⟨by w_dflts lk, by w_dflts lk, hne, by fail "e", wb, by omega, by kspl_open env, hnn.mono (by omega), by omega, by omega, by first | omega | (simp only [List.length_cons]; omega)⟩ (by omega) fun p2 pl2 n2 H2 z2 => ?_
      obtain ⟨zb2, zq2, zr2, zn2, zm2, zu2⟩ := z2
      fail "g"
      exact k _ (.sum pl1 pl2) n2 _ ⟨by simp only [E.size]; rw [show m + 1 - ((a.size + b.size + 1 : Nat) : Int) = m - a.size - b.size by omega]; w_dflts lk, by fail "qa", .sum zr1 zr2, by omega, by simp only [E.size]; omega, by kspl_open mu⟩
  | less wa wb =>
    rename_i a b
    cases hee with
    | less hp ha hb =>
      simp only [E.size] at hn1 hm
      simp only [E.depth] at hdp
      fail "g"
      fail "un"
      fail "g"
      refine u_made (d := d) (e := a) (ρ := ρ) (n := n) (m := m) (g := g) ⟨by w_dflts lk, by w_dflts lk, hne, by fail "e", wa, by omega, by kspl_open env, hnn, by omega, by omega, by first | omega | (simp only [List.length_cons]; omega)⟩ (by omega) fun p1 pl1 n1 H1 z1 => ?_
      obtain ⟨zb1, zq1, zr1, zn1, zm1, zu1⟩ := z1
      fail "g"
      refine u_made (d := d) (e := b) (ρ := ρ) (n := n1) (m := m - a.size) (g := g) ⟨by w_dflts lk, by w_dflts lk, hne, by fail "e", wb, by omega, by kspl_open env, hnn.mono (by omega), by omega, by omega, by first | omega | (simp only [List.length_cons]; omega)⟩ (by omega) fun p2 pl2 n2 H2 z2 => ?_
      obtain ⟨zb2, zq2, zr2, zn2, zm2, zu2⟩ := z2
      fail "g"
      exact k _ (.less pl1 pl2) n2 _ ⟨by simp only [E.size]; rw [show m + 1 - ((a.size + b.size + 1 : Nat) : Int) = m - a.size - b.size by omega]; w_dflts lk, by fail "qa", .less zr1 zr2, by omega, by simp only [E.size]; omega, by kspl_open mu⟩
  | iff wa wb wc =>
    rename_i a b c
    cases hee with
    | iff hp ha hb hc =>
      simp only [E.size] at hn1 hm
      simp only [E.depth] at hdp
      fail "g"
      fail "un"
      fail "g"
      refine u_made (d := d) (e := a) (ρ := ρ) (n := n) (m := m) (g := g) ⟨by w_dflts lk, by w_dflts lk, hne, by fail "e", wa, by omega, by kspl_open env, hnn, by omega, by omega, by first | omega | (simp only [List.length_cons]; omega)⟩ (by omega) fun p1 pl1 n1 H1 z1 => ?_
      obtain ⟨zb1, zq1, zr1, zn1, zm1, zu1⟩ := z1
      fail "g"
      refine u_made (d := d) (e := b) (ρ := ρ) (n := n1) (m := m - a.size) (g := g) ⟨by w_dflts lk, by w_dflts lk, hne, by fail "e", wb, by omega, by kspl_open env, hnn.mono (by omega), by omega, by omega, by first | omega | (simp only [List.length_cons]; omega)⟩ (by omega) fun p2 pl2 n2 H2 z2 => ?_
      obtain ⟨zb2, zq2, zr2, zn2, zm2, zu2⟩ := z2
      fail "g"
      refine u_made (d := d) (e := c) (ρ := ρ) (n := n2) (m := m - a.size - b.size) (g := g) ⟨by w_dflts lk, by w_dflts lk, hne, by fail "e", wc, by omega, by kspl_open env, hnn.mono (by omega), by omega, by omega, by first | omega | (simp only [List.length_cons]; omega)⟩ (by omega) fun p3 pl3 n3 H3 z3 => ?_
      obtain ⟨zb3, zq3, zr3, zn3, zm3, zu3⟩ := z3
      fail "g"
      exact k _ (.iff pl1 pl2 pl3) n3 _ ⟨by simp only [E.size]; rw [show m + 1 - ((a.size + b.size + c.size + 1 : Nat) : Int) = m - a.size - b.size - c.size by omega]; w_dflts lk, by fail "qa", .iff zr1 zr2 zr3, by omega, by simp only [E.size]; omega, by kspl_open mu⟩
  | say wa =>
    rename_i a
    cases hee with
    | say hp ha =>
      simp only [E.size] at hn1 hm
      simp only [E.depth] at hdp
      fail "g"
      fail "un"
      fail "g"
      refine u_made (d := d) (e := a) (ρ := ρ) (n := n) (m := m) (g := g) ⟨by w_dflts lk, by w_dflts lk, hne, by fail "e", wa, by omega, by kspl_open env, hnn, by omega, by omega, by first | omega | (simp only [List.length_cons]; omega)⟩ (by omega) fun p1 pl1 n1 H1 z1 => ?_
      obtain ⟨zb1, zq1, zr1, zn1, zm1, zu1⟩ := z1
      fail "g"
      exact k _ (.say pl1) n1 _ ⟨by simp only [E.size]; rw [show m + 1 - ((a.size + 1 : Nat) : Int) = m - a.size by omega]; w_dflts lk, by fail "qa", .say zr1, by omega, by simp only [E.size]; omega, by kspl_open mu⟩
end
/-! ## Zcoa -/
open PySem PySem.Spec PyProof.Rows L2
/-! ### Numbering: the same expression again -/
abbrev oNb (K : PySem.W.Frag) (dx : Addr) (x y : V) : HO := .ins (He.ga K "Numbering") dx [("many", x), ("rules", y)]
def spNbI (K : PySem.W.Frag) : Sp := fun vs H Q _ => ∃ (sf dx : Addr), vs = [.ref sf] ∧ H sf = some (.ins (He.ga K "Numbering") dx []) ∧ ∀ rl H', H' sf = some (oNb K dx (.int 0) (.ref rl)) → H' rl = some (.dT []) → rl ≠ sf → But sf H H' → Q .non H'
def spNex (K : PySem.W.Frag) (d : Nat) : Sp := fun vs H Q _ => ∃ (sf dx : Addr) (x y v : V) (e : E) (ρ : List Str) (k : Int), vs = [.ref sf, v, .int k] ∧ H sf = some (oNb K dx x y) ∧ EAt H v e ∧ Wf ρ e ∧ e.depth ≤ d ∧ ∀ p H', EAt H' (.ref p) e → Same H H' → Q (.ref p) H'
def spNx (K : PySem.W.Frag) : Nat → Sp
  | 0 => spNo
  | d + 1 => spNex K (d + 1)
theorem u_nex {K : PySem.W.Frag} {d : Nat} {sf dx : Addr} {x y v : V} {e : E} {ρ : List Str} {k : Int} {H : Hp} {Q : VK} {X : XK} (hs : H sf = some (oNb K dx x y)) (h : EAt H v e) (w : Wf ρ e) (hd : e.depth ≤ d) (q : ∀ p H', EAt H' (.ref p) e → Same H H' → Q (.ref p) H') : spNx K d (.ref sf :: ([v, .int k] ++ [])) H Q X := by
  cases d with
  | zero => cases w <;> simp only [E.depth] at hd <;> omega
  | succ d => exact ⟨sf, dx, x, y, v, e, ρ, k, rfl, hs, h, w, hd, q⟩
section
variable {P : Program} {w : World} {K : PySem.W.Frag} {mg : Str → Option Value} {base : Heap} [Tx w K mg]
theorem ok_Numbering_init (hd : Dd K d_Numbering_init) : Ok P w K mg base 1 d_Numbering_init ["self"] (spNbI K) := by
  refine ok_mk hd sc_Numbering_init bd_Numbering_init (fun vs H Q X h => ?_) (fun cdv A outer s0 H vs Q X hr h => ?_)
  · obtain ⟨_, _, rfl, _⟩ := h
    rfl
  obtain ⟨sf, dx, rfl, hs, k⟩ := h
  refine ⟨_, (pss_cons (ps_fld (pv 0) pe_int rfl)
  (pss_one (ps_fld (pv 0) pe_dnewT rfl))), ?_⟩
  fail "b"
  fail "g"
  rename_i H1 w1 p H2 a2 H3 w3
  exact k p _ w3.at_ (by w_dflts lk) (ne_k a2.at_ (lk_al a2 w1.at_) rfl) fun b u hb n => w3.bt _ _ (a2.sm _ _ (w1.bt _ _ hb n)) n
theorem ok_Numbering_expression1 (hd : Dd K d_Numbering_expression) (d k0 : Nat) (g_Numbering_expression : Ok P w K mg base k0 d_Numbering_expression ["self", "e", "level"] (spNx K d)) : Ok P w K mg base (k0 + 1) d_Numbering_expression ["self", "e", "level"] (spNx K (d + 1)) := by
  obtain ⟨⟨_, G_Numbering_expression, b_Numbering_expression⟩, k_Numbering_expression⟩ := id g_Numbering_expression
  refine ok_mk hd sc_Numbering_expression bd_Numbering_expression (fun vs H Q X h => ?_) (fun cdv A outer s0 H vs Q X hr h => ?_)
  · obtain ⟨_, _, _, _, _, _, _, _, rfl, _⟩ := h
    rfl
  obtain ⟨sf, dx, x0, y0, v, e, ρ, kk, rfl, hs, he, hw, hdp, k⟩ := h
  refine ⟨_, (pss_cons (ps_set (i := 3) sc_Numbering_expression.nd rfl (Or.inl rfl) (pe_ix ix_tup (pv 1) pe_int (fun _ _ => rfl)))
  (pss_cons (ps_if (PW.pt (pw_or (pt_cmpR op_eq (pv 3) pe_str (nomark _)) (pw_or1 (pt_cmpR op_eq (pv 3) pe_str (nomark _))))) pss_never pss_nil)
  (pss_cons (ps_if (pt_cmpR op_eq (pv 3) pe_str (nomark _)) (pss_one (ps_ret (pe_tup (pa_cons pe_str (pa_cons (pe_ix ix_tup (pv 1) pe_int (fun _ _ => rfl)) (pa_cons (pe_meth (pv 0) (CF.cls (K := K) (n := "Numbering") (by decide +kernel)) (CF.me (K := K) (n := "Numbering") (m := "expression") (by decide +kernel)) G_Numbering_expression (hr.mono (by omega)) b_Numbering_expression .nil pass0 (pa_cons (pe_ix ix_tup (pv 1) pe_int (fun _ _ => rfl)) (pa_cons (pv 2) pa_nil))) pa_nil)))))) pss_nil)
  (pss_cons (ps_if (pt_cmpR op_eq (pv 3) pe_str (nomark _)) (pss_one (ps_ret (pe_tup (pa_cons pe_str (pa_cons (pe_ix ix_tup (pv 1) pe_int (fun _ _ => rfl)) (pa_cons (pe_meth (pv 0) (CF.cls (K := K) (n := "Numbering") (by decide +kernel)) (CF.me (K := K) (n := "Numbering") (m := "expression") (by decide +kernel)) G_Numbering_expression (hr.mono (by omega)) b_Numbering_expression .nil pass0 (pa_cons (pe_ix ix_tup (pv 1) pe_int (fun _ _ => rfl)) (pa_cons (pv 2) pa_nil))) (pa_cons (pe_meth (pv 0) (CF.cls (K := K) (n := "Numbering") (by decide +kernel)) (CF.me (K := K) (n := "Numbering") (m := "expression") (by decide +kernel)) G_Numbering_expression (hr.mono (by omega)) b_Numbering_expression .nil pass0 (pa_cons (pe_ix ix_tup (pv 1) pe_int (fun _ _ => rfl)) (pa_cons (pv 2) pa_nil))) pa_nil))))))) pss_nil)
  (pss_cons (ps_if (pt_cmpR op_eq (pv 3) pe_str (nomark _)) pss_never pss_nil)
  (pss_one (ps_ret (pe_op op_catA (pe_tup (pa_cons (pv 3) pa_nil)) (pe_callTy call_tupleOf1 rfl (Tx.fr (K := K) "tuple" (by decide +kernel)) (by decide +kernel) (pa_cons (pe_lc (own := [("one", 6)]) (g := (gName 6)) (tt := tYes) rfl sc_Numbering_expression.nd (pi_tup (pe_slice sl_tup (pv 1) (po_some pe_int) po_none)) (blkOk_by (N := ["self", "e", "level", "kind", "number", "rule", "one"]) (sc := defScope s_Numbering_expression) (by decide +kernel)) (fun _ _ _ _ _ => pg_name (i := 6) sc_Numbering_expression.nd rfl (Or.inl rfl)) (fun _ _ _ _ _ => pts_nil) (fun _ _ _ _ _ => (pe_ifExp (pt_val (pe_callB (show CallR _ _ (rIsI K) from call_isI) rfl (Tx.fr (K := K) "isinstance" (by decide +kernel)) (by decide +kernel) (pa_cons (pv 6) (pa_cons (pe_bltn (v := .ty "tuple") rfl (Tx.fr (K := K) "tuple" (by decide +kernel)) (by decide +kernel) rfl) pa_nil)))) (pe_meth (pv 0) (CF.cls (K := K) (n := "Numbering") (by decide +kernel)) (CF.me (K := K) (n := "Numbering") (m := "expression") (by decide +kernel)) G_Numbering_expression (hr.mono (by omega)) b_Numbering_expression .nil pass0 (pa_cons (pv 6) (pa_cons (pv 2) pa_nil))) (pv 6)))) pa_nil)))))))))), ?_⟩
  fail "b"
  cases hw with
  | num n =>
    cases he with
    | num hp =>
      simp only [E.depth] at hdp
      fail "g"
      fail "un"
      fail "g"
      exact k _ _ (by fail "e") (by kspl_open sm)
  | name hm =>
    cases he with
    | name hp =>
      simp only [E.depth] at hdp
      fail "g"
      fail "un"
      fail "g"
      exact k _ _ (by fail "e") (by kspl_open sm)
  | fn wa =>
    cases he with
    | fn hp ha =>
      simp only [E.depth] at hdp
      fail "g"
      refine u_nex (d := d) (by w_dflts lk) (by fail "e") wa (by omega) fun p0 H0 h0 s0 => ?_
      fail "g"
      exact k _ _ (by fail "e") (by kspl_open sm)
  | call wa wb =>
    cases he with
    | call hp ha hb =>
      simp only [E.depth] at hdp
      fail "g"
      fail "un"
      fail "g"
      refine u_nex (d := d) (by w_dflts lk) (by fail "e") wa (by omega) fun p0 H0 h0 s0 => ?_
      fail "g"
      refine u_nex (d := d) (by w_dflts lk) (by fail "e") wb (by omega) fun p1 H1 h1 s1 => ?_
      fail "g"
      exact k _ _ (by fail "e") (by kspl_open sm)
  | sum wa wb =>
    cases he with
    | sum hp ha hb =>
      simp only [E.depth] at hdp
      fail "g"
      fail "un"
      fail "g"
      refine u_nex (d := d) (by w_dflts lk) (by fail "e") wa (by omega) fun p0 H0 h0 s0 => ?_
      fail "g"
      refine u_nex (d := d) (by w_dflts lk) (by fail "e") wb (by omega) fun p1 H1 h1 s1 => ?_
      fail "g"
      exact k _ _ (by fail "e") (by kspl_open sm)
  | less wa wb =>
    cases he with
    | less hp ha hb =>
      simp only [E.depth] at hdp
      fail "g"
      fail "un"
      fail "g"
      refine u_nex (d := d) (by w_dflts lk) (by fail "e") wa (by omega) fun p0 H0 h0 s0 => ?_
      fail "g"
      refine u_nex (d := d) (by w_dflts lk) (by fail "e") wb (by omega) fun p1 H1 h1 s1 => ?_
      fail "g"
      exact k _ _ (by fail "e") (by kspl_open sm)
  | iff wa wb wc =>
    cases he with
    | iff hp ha hb hc =>
      simp only [E.depth] at hdp
      fail "g"
      fail "un"
      fail "g"
      refine u_nex (d := d) (by w_dflts lk) (by fail "e") wa (by omega) fun p0 H0 h0 s0 => ?_
      fail "g"
      refine u_nex (d := d) (by w_dflts lk) (by fail "e") wb (by omega) fun p1 H1 h1 s1 => ?_
      fail "g"
      refine u_nex (d := d) (by w_dflts lk) (by fail "e") wc (by omega) fun p2 H2 h2 s2 => ?_
      fail "g"
      exact k _ _ (by fail "e") (by kspl_open sm)
  | lett wa wb =>
    cases he with
    | lett hp ha hb =>
      simp only [E.depth] at hdp
      fail "g"
      refine u_nex (d := d) (by w_dflts lk) (by fail "e") wa (by omega) fun p0 H0 h0 s0 => ?_
      fail "g"
      refine u_nex (d := d) (by w_dflts lk) (by fail "e") wb (by omega) fun p1 H1 h1 s1 => ?_
      fail "g"
      exact k _ _ (by fail "e") (by kspl_open sm)
  | say wa =>
    cases he with
    | say hp ha =>
      simp only [E.depth] at hdp
      fail "g"
      fail "un"
      fail "g"
      refine u_nex (d := d) (by w_dflts lk) (by fail "e") wa (by omega) fun p0 H0 h0 s0 => ?_
      fail "g"
      exact k _ _ (by fail "e") (by kspl_open sm)
end
/-! ## Zcob -/
open PySem PySem.Spec PyProof.Rows L2
/-! ### Collapser: a plain program of the same size -/
abbrev oCo (K : PySem.W.Frag) (dx rl : Addr) (n m : Int) : HO := .ins (He.ga K "Collapser") dx [("rules", .ref rl), ("many", .int n), ("nodes", .int m)]
def spCoI (K : PySem.W.Frag) : Sp := fun vs H Q _ => ∃ (sf dx rl : Addr), vs = [.ref sf, .ref rl] ∧ H sf = some (.ins (He.ga K "Collapser") dx []) ∧ ∀ H', H' sf = some (oCo K dx rl 0 0) → But sf H H' → Q .non H'
def spCoF (K : PySem.W.Frag) : Sp := fun vs H Q _ => ∃ (sf dx rl : Addr) (n m : Int) (x : Str), vs = [.ref sf, .str x] ∧ H sf = some (oCo K dx rl n m) ∧ 0 ≤ n ∧ n < 100000 ∧ x.length ≤ 10 ∧ ∀ y H', H' sf = some (oCo K dx rl (n + 1) m) → Mu sf H H' → Q (.str y) H'
def spCoN (K : PySem.W.Frag) : Sp := fun vs H Q _ => ∃ (sf dx rl : Addr) (n m : Int) (v : V), vs = [.ref sf, v] ∧ H sf = some (oCo K dx rl n m) ∧ m < 20000 ∧ ∀ H', H' sf = some (oCo K dx rl n (m + 1)) → Mu sf H H' → Q v H'
theorem u_coF {K : PySem.W.Frag} {sf dx rl : Addr} {n m : Int} {x : Str} {H : Hp} {Q : VK} {X : XK} (h : H sf = some (oCo K dx rl n m)) (h0 : 0 ≤ n) (h1 : n < 100000) (hx : x.length ≤ 10) (q : ∀ y H', H' sf = some (oCo K dx rl (n + 1) m) → Mu sf H H' → Q (.str y) H') : spCoF K (.ref sf :: ([.str x] ++ [])) H Q X := ⟨sf, dx, rl, n, m, x, rfl, h, h0, h1, hx, q⟩
theorem u_coN {K : PySem.W.Frag} {sf dx rl : Addr} {n m : Int} {v : V} {H : Hp} {Q : VK} {X : XK} (h : H sf = some (oCo K dx rl n m)) (h1 : m < 20000) (q : ∀ H', H' sf = some (oCo K dx rl n (m + 1)) → Mu sf H H' → Q v H') : spCoN K (.ref sf :: ([v] ++ [])) H Q X := ⟨sf, dx, rl, n, m, v, rfl, h, h1, q⟩
structure CoA (K : PySem.W.Frag) (H : Hp) (sf dx rl : Addr) (n m : Int) (v : V) (e : E) (env : V) (ρ : List (Str × Str)) (d z : Nat) : Prop where
  sfh : H sf = some (oCo K dx rl n m)
  rlh : H rl = some (.dT [])
  ne : rl ≠ sf
  ee : EAt H v e
  wf : Wf (ρ.map (·.1)) e
  dp : e.depth ≤ d
  envh : EnvAt RS H env ρ
  n0 : 0 ≤ n
  n1 : n + z ≤ 10000
  m1 : m + z ≤ 10000
  rr : ρ.length + d ≤ 900
structure CoZ (K : PySem.W.Frag) (H H' : Hp) (sf dx rl : Addr) (n m : Int) (r : V) (e : E) (pl : Pl) (n' m' : Int) : Prop where
  sfh : H' sf = some (oCo K dx rl n' m')
  qq : QAt H' r pl
  sz : pl.size = e.size
  n0 : n ≤ n'
  n1 : n' ≤ n + e.size
  m1 : m' ≤ m + e.size
  mu : Mu sf H H'
def spCex (K : PySem.W.Frag) (d : Nat) : Sp := fun vs H Q _ => ∃ (v : V) (e : E) (env : V) (ρ : List (Str × Str)) (sf dx rl : Addr) (n m : Int), vs = [.ref sf, v, .int 0, env, .non] ∧ CoA K H sf dx rl n m v e env ρ d e.size ∧ ∀ p pl n' m' H', CoZ K H H' sf dx rl n m (.ref p) e pl n' m' → Q (.ref p) H'
def spCus (K : PySem.W.Frag) (d : Nat) : Sp := fun vs H Q _ => ∃ (v : V) (e : E) (env : V) (ρ : List (Str × Str)) (sf dx rl dd : Addr) (n m : Int), vs = [.ref sf, v, .int 0, env, .non, .ref dd] ∧ H dd = some (.dK []) ∧ CoA K H sf dx rl n m v e env ρ d e.size ∧ ∀ p pl n' m' H', CoZ K H H' sf dx rl n m (.ref p) e pl n' m' → Q (.ref p) H'
def PaZ (H : Hp) : E → List V → Prop
  | .call a b, vs => ∃ va vb pa pb, vs = [va, vb] ∧ QAt H va pa ∧ QAt H vb pb ∧ pa.size = a.size ∧ pb.size = b.size
  | .sum a b, vs => ∃ va vb pa pb, vs = [va, vb] ∧ QAt H va pa ∧ QAt H vb pb ∧ pa.size = a.size ∧ pb.size = b.size
  | .less a b, vs => ∃ va vb pa pb, vs = [va, vb] ∧ QAt H va pa ∧ QAt H vb pb ∧ pa.size = a.size ∧ pb.size = b.size
  | .iff c a b, vs => ∃ vc va vb pc pa pb, vs = [vc, va, vb] ∧ QAt H vc pc ∧ QAt H va pa ∧ QAt H vb pb ∧ pc.size = c.size ∧ pa.size = a.size ∧ pb.size = b.size
  | .lett _ a _, vs => ∃ va pa, vs = [va] ∧ QAt H va pa ∧ pa.size = a.size
  | .say a, vs => ∃ va pa, vs = [va] ∧ QAt H va pa ∧ pa.size = a.size
  | _, _ => False
def psz : E → Nat
  | .call a b => a.size + b.size
  | .sum a b => a.size + b.size
  | .less a b => a.size + b.size
  | .iff c a b => c.size + a.size + b.size
  | .lett _ a _ => a.size
  | .say a => a.size
  | _ => 0
def hasP : E → Bool
  | .call _ _ => true | .sum _ _ => true | .less _ _ => true | .iff _ _ _ => true | .lett _ _ _ => true | .say _ => true | _ => false
def spCpa (K : PySem.W.Frag) (d : Nat) : Sp := fun vs H Q _ => ∃ (v : V) (e : E) (env : V) (ρ : List (Str × Str)) (sf dx rl dd : Addr) (n m : Int), vs = [.ref sf, v, .int 0, env, .non, .ref dd] ∧ hasP e = true ∧ H dd = some (.dK []) ∧ CoA K H sf dx rl n m v e env ρ d (psz e) ∧
  ∀ l rs n' m' H', H' l = some (.lst rs) → PaZ H' e rs → H' sf = some (oCo K dx rl n' m') → n ≤ n' → n' ≤ n + psz e → m' ≤ m + psz e → l ≠ sf → Mu sf H H' → Q (.ref l) H'
def spCx (K : PySem.W.Frag) : Nat → Sp
  | 0 => spNo
  | d + 1 => spCex K (d + 1)
theorem u_cex {K : PySem.W.Frag} {d : Nat} {v : V} {e : E} {env : V} {ρ : List (Str × Str)} {sf dx rl : Addr} {n m : Int} {H : Hp} {Q : VK} {X : XK} (a : CoA K H sf dx rl n m v e env ρ d e.size)
    (q : ∀ p pl n' m' H', CoZ K H H' sf dx rl n m (.ref p) e pl n' m' → Q (.ref p) H') : spCx K d (.ref sf :: ([v, .int 0, env, .non] ++ [])) H Q X := by
  cases d with
  | zero =>
    have w := a.dp
    cases e <;> simp only [E.depth] at w <;> omega
  | succ d => exact ⟨v, e, env, ρ, sf, dx, rl, n, m, rfl, a, q⟩
theorem u_cus {K : PySem.W.Frag} {d : Nat} {v : V} {e : E} {env : V} {ρ : List (Str × Str)} {sf dx rl dd : Addr} {n m : Int} {H : Hp} {Q : VK} {X : XK} (hd : H dd = some (.dK [])) (a : CoA K H sf dx rl n m v e env ρ d e.size)
    (q : ∀ p pl n' m' H', CoZ K H H' sf dx rl n m (.ref p) e pl n' m' → Q (.ref p) H') : spCus K d (.ref sf :: ([v, .int 0, env, .non, .ref dd] ++ [])) H Q X := ⟨v, e, env, ρ, sf, dx, rl, dd, n, m, rfl, hd, a, q⟩
theorem u_cpa {K : PySem.W.Frag} {d : Nat} {v : V} {e : E} {env : V} {ρ : List (Str × Str)} {sf dx rl dd : Addr} {n m : Int} {H : Hp} {Q : VK} {X : XK} (hp : hasP e = true) (hd : H dd = some (.dK [])) (a : CoA K H sf dx rl n m v e env ρ d (psz e))
    (q : ∀ l rs n' m' H', H' l = some (.lst rs) → PaZ H' e rs → H' sf = some (oCo K dx rl n' m') → n ≤ n' → n' ≤ n + psz e → m' ≤ m + psz e → l ≠ sf → Mu sf H H' → Q (.ref l) H') : spCpa K d (.ref sf :: ([v, .int 0, env, .non, .ref dd] ++ [])) H Q X := ⟨v, e, env, ρ, sf, dx, rl, dd, n, m, rfl, hp, hd, a, q⟩
section
variable {P : Program} {w : World} {K : PySem.W.Frag} {mg : Str → Option Value} {base : Heap} [Tx w K mg]
theorem ok_Collapser_init (hd : Dd K d_Collapser_init) : Ok P w K mg base 1 d_Collapser_init ["self", "rules"] (spCoI K) := by
  refine ok_mk hd sc_Collapser_init bd_Collapser_init (fun vs H Q X h => ?_) (fun cdv A outer s0 H vs Q X hr h => ?_)
  · obtain ⟨_, _, _, rfl, _⟩ := h
    rfl
  obtain ⟨sf, dx, rl, rfl, hs, k⟩ := h
  refine ⟨_, (pss_cons (ps_fld (pv 0) (pv 1) rfl)
  (pss_cons (ps_fld (pv 0) pe_int rfl)
  (pss_one (ps_fld (pv 0) pe_int rfl)))), ?_⟩
  fail "b"
  fail "g"
  rename_i H1 w1 H2 w2 H3 w3
  exact k _ w3.at_ fun b u hb n => w3.bt _ _ (w2.bt _ _ (w1.bt _ _ hb n) n) n
theorem ok_Collapser_fresh (hd : Dd K d_Collapser_fresh) : Ok P w K mg base 1 d_Collapser_fresh ["self", "mark"] (spCoF K) := by
  refine ok_mk hd sc_Collapser_fresh bd_Collapser_fresh (fun vs H Q X h => ?_) (fun cdv A outer s0 H vs Q X hr h => ?_)
  · obtain ⟨_, _, _, _, _, _, rfl, _⟩ := h
    rfl
  obtain ⟨sf, dx, rl, n, m, x, rfl, hs, h0, h1, hx, k⟩ := h
  refine ⟨_, (pss_cons (ps_fldaug (pv 0) pe_int in_add)
  (pss_one (ps_ret (pe_op op_addStr (pv 1) (pe_callTy call_strI rfl (Tx.fr (K := K) "str" (by decide +kernel)) (by decide +kernel) (pa_cons (pe_fld (pv 0) rfl) pa_nil)))))), ?_⟩
  fail "b"
  fail "g"
  refine s_intS (log_small (by omega) (by omega)) ?_
  have hz : x.length + (Str.ofString (toString (n + 1))).length ≤ sizeLine := by
    have q := PyProof.Rows.int_text_len_1921 (log_small (n := n + 1) (by omega) (by omega))
    exact Nat.le_trans (show _ ≤ 2000 by omega) (by decide)
  fail "g"
  exact k _ _ (by w_dflts lk) (by kspl_open mu)
theorem ok_Collapser_node (hd : Dd K d_Collapser_node) : Ok P w K mg base 1 d_Collapser_node ["self", "plain"] (spCoN K) := by
  refine ok_mk hd sc_Collapser_node bd_Collapser_node (fun vs H Q X h => ?_) (fun cdv A outer s0 H vs Q X hr h => ?_)
  · obtain ⟨_, _, _, _, _, _, rfl, _⟩ := h
    rfl
  obtain ⟨sf, dx, rl, n, m, v, rfl, hs, h1, k⟩ := h
  obtain ⟨tm, hMost⟩ := Tx.most (K := K) (mg := mg)
  refine ⟨_, (pss_cons (ps_fldaug (pv 0) pe_int in_add)
  (pss_cons (ps_if (pt_cmpR op_gt (pe_fld (pv 0) rfl) (pe_glob (v := .int 20000) rfl hMost ⟨_, rfl⟩) (nomark _)) pss_never pss_nil)
  (pss_one (ps_ret (pv 1))))), ?_⟩
  fail "b"
  fail "g"
  refine i_f (decide_eq_false (by omega)) ?_
  fail "g"
  exact k _ (by w_dflts lk) (by kspl_open mu)
theorem ok_with_name (hd : Dd K d_with_name) : Ok P w K mg base 1 d_with_name ["names", "x", "other"] spWith := by
  refine ok_mk hd sc_with_name bd_with_name (fun vs H Q X h => ?_) (fun cdv A outer s0 H vs Q X hr h => ?_)
  · obtain ⟨_, _, _, _, rfl, _⟩ := h
    rfl
  obtain ⟨env, ρ, x, y, rfl, ⟨d, kvs, rfl, hd, er⟩, hl, k⟩ := h
  refine ⟨_, (pss_cons (ps_set (i := 3) sc_with_name.nd rfl (Or.inl rfl) (pe_callTy call_dictD1 rfl (Tx.fr (K := K) "dict" (by decide +kernel)) (by decide +kernel) (pa_cons (pv 0) pa_nil)))
  (pss_cons (ps_dput (hu_of hr) (pv 3) (pv 1) (pv 2) rfl)
  (pss_one (ps_ret (pv 3))))), ?_⟩
  fail "b"
  have hz : kvs.length < sizeLine := Nat.lt_of_le_of_lt er.len (Nat.lt_of_lt_of_le hl (by decide))
  fail "g"
  exact k _ _ ⟨_, _, rfl, by w_dflts lk, er.put x rfl⟩ (by kspl_open sm)

theorem ok_Collapser_parts1 (hd : Dd K d_Collapser_parts) (d k0 : Nat) (g_Collapser_expression : Ok P w K mg base k0 d_Collapser_expression ["self", "e", "level", "names", "about"] (spCx K d)) : Ok P w K mg base (k0 + 1) d_Collapser_parts ["self", "e", "level", "names", "about", "delayed"] (spCpa K (d + 1)) := by
  obtain ⟨⟨_, G_Collapser_expression, b_Collapser_expression⟩, k_Collapser_expression⟩ := id g_Collapser_expression
  refine ok_mk hd sc_Collapser_parts bd_Collapser_parts (fun vs H Q X h => ?_) (fun cdv A outer s0 H vs Q X hr h => ?_)
  · obtain ⟨_, _, _, _, _, _, _, _, _, _, rfl, _⟩ := h
    rfl
  obtain ⟨v, e, env, ρ, sf, dx, rl, dd, n, m, rfl, hp, hdd, ⟨hs, hrl, hne, hee, hwf, hdp, henv, hn0, hn1, hm1, hrr⟩, k⟩ := h
  obtain ⟨es, nn, hPT⟩ := (Tx.tabP (w := w) (K := K) (mg := mg)).2
  refine ⟨_, (pss_cons (ps_set (i := 6) sc_Collapser_parts.nd rfl (Or.inl rfl) (pe_lst pa_nil))
  (pss_cons (ps_for PassesOwn.never rfl (pi_enumT rfl (Tx.fr (K := K) "enumerate" (by decide +kernel)) (pa_cons (pe_dgetK (hPT) (pe_glob (v := .ref (He.ga K "PARTS")) rfl ((Tx.tabP (K := K)).1) rfl) (pe_ix ix_tup (pv 1) pe_int (fun _ _ => rfl)) (fun _ _ => rfl)) pa_nil)) (pg_tup (by rfl) (pgs_cons (pg_name (i := 7) sc_Collapser_parts.nd rfl (Or.inl rfl)) (pgs_cons (pg_name (i := 8) sc_Collapser_parts.nd rfl (Or.inl rfl)) pgs_nil)))
  (pss_one (ps_if (pt_cmp (pc_din (hu_of hr) (pv 7) (pv 5)) (by rfl)) pss_never (pss_one (ps_expr (pe_bm PySem.F.plainAttrs_list PySem.F.slot_list_append PySem.F.type_list_append mt_append (pv 6) (pa_cons (pe_meth (pv 0) (CF.cls (K := K) (n := "Collapser") (by decide +kernel)) (CF.me (K := K) (n := "Collapser") (m := "expression") (by decide +kernel)) G_Collapser_expression (hr.mono (by omega)) b_Collapser_expression .nil pass0 (pa_cons (pe_ix ix_tup (pv 1) (pv 8) (fun _ _ => rfl)) (pa_cons (pv 2) (pa_cons (pv 3) (pa_cons (pv 4) pa_nil))))) pa_nil)))))))
  (pss_one (ps_ret (pv 6))))), ?_⟩
  fail "b"
  cases hwf with
  | num i => cases hp
  | name hx => cases hp
  | fn wb => cases hp
  | call wa wb =>
    rename_i a b
    cases hee with
    | call hp0 ha hb =>
      simp only [psz] at hn1 hm1
      simp only [E.depth] at hdp
      fail "g"
      fail "un"
      fail "g"
      refine u_cex (d := d) (e := a) (ρ := ρ) (n := n) (m := m) ⟨by w_dflts lk, by w_dflts lk, hne, by fail "e", wa, by omega, by kspl_open env, by omega, by omega, by omega, by omega⟩ fun p0 pl0 n0 m0 H0 z0 => ?_
      obtain ⟨zs0, zq0, zz0, zn0, zm0, zk0, zu0⟩ := z0
      fail "g"
      refine u_cex (d := d) (e := b) (ρ := ρ) (n := n0) (m := m0) ⟨by w_dflts lk, by w_dflts lk, hne, by fail "e", wb, by omega, by kspl_open env, by omega, by omega, by omega, by omega⟩ fun p1 pl1 n1 m1 H1 z1 => ?_
      obtain ⟨zs1, zq1, zz1, zn1, zm1, zk1, zu1⟩ := z1
      fail "g"
      exact k _ _ n1 m1 _ (by w_dflts lk) ⟨_, _, _, _, rfl, by fail "qa", by fail "qa", zz0, zz1⟩ (by w_dflts lk) (by omega) (by simp only [psz]; omega) (by simp only [psz]; omega) (by kspl_open ne) (by kspl_open mu)
  | sum wa wb =>
    rename_i a b
    cases hee with
    | sum hp0 ha hb =>
      simp only [psz] at hn1 hm1
      simp only [E.depth] at hdp
      fail "g"
      fail "un"
      fail "g"
      refine u_cex (d := d) (e := a) (ρ := ρ) (n := n) (m := m) ⟨by w_dflts lk, by w_dflts lk, hne, by fail "e", wa, by omega, by kspl_open env, by omega, by omega, by omega, by omega⟩ fun p0 pl0 n0 m0 H0 z0 => ?_
      obtain ⟨zs0, zq0, zz0, zn0, zm0, zk0, zu0⟩ := z0
      fail "g"
      refine u_cex (d := d) (e := b) (ρ := ρ) (n := n0) (m := m0) ⟨by w_dflts lk, by w_dflts lk, hne, by fail "e", wb, by omega, by kspl_open env, by omega, by omega, by omega, by omega⟩ fun p1 pl1 n1 m1 H1 z1 => ?_
      obtain ⟨zs1, zq1, zz1, zn1, zm1, zk1, zu1⟩ := z1
      fail "g"
      exact k _ _ n1 m1 _ (by w_dflts lk) ⟨_, _, _, _, rfl, by fail "qa", by fail "qa", zz0, zz1⟩ (by w_dflts lk) (by omega) (by simp only [psz]; omega) (by simp only [psz]; omega) (by kspl_open ne) (by kspl_open mu)
  | less wa wb =>
    rename_i a b
    cases hee with
    | less hp0 ha hb =>
      simp only [psz] at hn1 hm1
      simp only [E.depth] at hdp
      fail "g"
      fail "un"
      fail "g"
      refine u_cex (d := d) (e := a) (ρ := ρ) (n := n) (m := m) ⟨by w_dflts lk, by w_dflts lk, hne, by fail "e", wa, by omega, by kspl_open env, by omega, by omega, by omega, by omega⟩ fun p0 pl0 n0 m0 H0 z0 => ?_
      obtain ⟨zs0, zq0, zz0, zn0, zm0, zk0, zu0⟩ := z0
      fail "g"
      refine u_cex (d := d) (e := b) (ρ := ρ) (n := n0) (m := m0) ⟨by w_dflts lk, by w_dflts lk, hne, by fail "e", wb, by omega, by kspl_open env, by omega, by omega, by omega, by omega⟩ fun p1 pl1 n1 m1 H1 z1 => ?_
      obtain ⟨zs1, zq1, zz1, zn1, zm1, zk1, zu1⟩ := z1
      fail "g"
      exact k _ _ n1 m1 _ (by w_dflts lk) ⟨_, _, _, _, rfl, by fail "qa", by fail "qa", zz0, zz1⟩ (by w_dflts lk) (by omega) (by simp only [psz]; omega) (by simp only [psz]; omega) (by kspl_open ne) (by kspl_open mu)
  | iff wc wa wb =>
    rename_i c a b
    cases hee with
    | iff hp0 hc ha hb =>
      simp only [psz] at hn1 hm1
      simp only [E.depth] at hdp
      fail "g"
      fail "un"
      fail "g"
      refine u_cex (d := d) (e := c) (ρ := ρ) (n := n) (m := m) ⟨by w_dflts lk, by w_dflts lk, hne, by fail "e", wc, by omega, by kspl_open env, by omega, by omega, by omega, by omega⟩ fun p0 pl0 n0 m0 H0 z0 => ?_
      obtain ⟨zs0, zq0, zz0, zn0, zm0, zk0, zu0⟩ := z0
      fail "g"
      refine u_cex (d := d) (e := a) (ρ := ρ) (n := n0) (m := m0) ⟨by w_dflts lk, by w_dflts lk, hne, by fail "e", wa, by omega, by kspl_open env, by omega, by omega, by omega, by omega⟩ fun p1 pl1 n1 m1 H1 z1 => ?_
      obtain ⟨zs1, zq1, zz1, zn1, zm1, zk1, zu1⟩ := z1
      fail "g"
      refine u_cex (d := d) (e := b) (ρ := ρ) (n := n1) (m := m1) ⟨by w_dflts lk, by w_dflts lk, hne, by fail "e", wb, by omega, by kspl_open env, by omega, by omega, by omega, by omega⟩ fun p2 pl2 n2 m2 H2 z2 => ?_
      obtain ⟨zs2, zq2, zz2, zn2, zm2, zk2, zu2⟩ := z2
      fail "g"
      exact k _ _ n2 m2 _ (by w_dflts lk) ⟨_, _, _, _, _, _, rfl, by fail "qa", by fail "qa", by fail "qa", zz0, zz1, zz2⟩ (by w_dflts lk) (by omega) (by simp only [psz]; omega) (by simp only [psz]; omega) (by kspl_open ne) (by kspl_open mu)
  | lett wa wb =>
    rename_i x a b
    cases hee with
    | lett hp0 ha hb =>
      simp only [psz] at hn1 hm1
      simp only [E.depth] at hdp
      fail "g"
      fail "un"
      fail "g"
      refine u_cex (d := d) (e := a) (ρ := ρ) (n := n) (m := m) ⟨by w_dflts lk, by w_dflts lk, hne, by fail "e", wa, by omega, by kspl_open env, by omega, by omega, by omega, by omega⟩ fun p0 pl0 n0 m0 H0 z0 => ?_
      obtain ⟨zs0, zq0, zz0, zn0, zm0, zk0, zu0⟩ := z0
      fail "g"
      exact k _ _ n0 m0 _ (by w_dflts lk) ⟨_, _, rfl, by fail "qa", zz0⟩ (by w_dflts lk) (by omega) (by simp only [psz]; omega) (by simp only [psz]; omega) (by kspl_open ne) (by kspl_open mu)
  | say wa =>
    rename_i a
    cases hee with
    | say hp0 ha =>
      simp only [psz] at hn1 hm1
      simp only [E.depth] at hdp
      fail "g"
      fail "un"
      fail "g"
      refine u_cex (d := d) (e := a) (ρ := ρ) (n := n) (m := m) ⟨by w_dflts lk, by w_dflts lk, hne, by fail "e", wa, by omega, by kspl_open env, by omega, by omega, by omega, by omega⟩ fun p0 pl0 n0 m0 H0 z0 => ?_
      obtain ⟨zs0, zq0, zz0, zn0, zm0, zk0, zu0⟩ := z0
      fail "g"
      exact k _ _ n0 m0 _ (by w_dflts lk) ⟨_, _, rfl, by fail "qa", zz0⟩ (by w_dflts lk) (by omega) (by simp only [psz]; omega) (by simp only [psz]; omega) (by kspl_open ne) (by kspl_open mu)
theorem ok_Collapser_usual1 (hd : Dd K d_Collapser_usual) (g_Collapser_node : Ok P w K mg base 1 d_Collapser_node ["self", "plain"] (spCoN K)) (g_Collapser_fresh : Ok P w K mg base 1 d_Collapser_fresh ["self", "mark"] (spCoF K)) (g_with_name : Ok P w K mg base 1 d_with_name ["names", "x", "other"] spWith)
    (d k0 : Nat) (hk0 : 1 ≤ k0) (g_Collapser_parts : Ok P w K mg base k0 d_Collapser_parts ["self", "e", "level", "names", "about", "delayed"] (spCpa K (d + 1))) (g_Collapser_expression : Ok P w K mg base k0 d_Collapser_expression ["self", "e", "level", "names", "about"] (spCx K d)) : Ok P w K mg base (k0 + 1) d_Collapser_usual ["self", "e", "level", "names", "about", "delayed"] (spCus K (d + 1)) := by
  obtain ⟨⟨_, G_Collapser_node, b_Collapser_node⟩, k_Collapser_node⟩ := id g_Collapser_node
  obtain ⟨⟨_, G_Collapser_fresh, b_Collapser_fresh⟩, k_Collapser_fresh⟩ := id g_Collapser_fresh
  obtain ⟨⟨_, G_with_name, b_with_name⟩, k_with_name⟩ := id g_with_name
  obtain ⟨⟨_, G_Collapser_parts, b_Collapser_parts⟩, k_Collapser_parts⟩ := id g_Collapser_parts
  obtain ⟨⟨_, G_Collapser_expression, b_Collapser_expression⟩, k_Collapser_expression⟩ := id g_Collapser_expression
  refine ok_mk hd sc_Collapser_usual bd_Collapser_usual (fun vs H Q X h => ?_) (fun cdv A outer s0 H vs Q X hr h => ?_)
  · obtain ⟨_, _, _, _, _, _, _, _, _, _, rfl, _⟩ := h
    rfl
  obtain ⟨v, e, env, ρ, sf, dx, rl, dd, n, m, rfl, hdd, ⟨hs, hrl, hne, hee, hwf, hdp, henv, hn0, hn1, hm1, hrr⟩, k⟩ := h
  have hkc := (knd_at (Tx.ex (w := w) (mg := mg) (K := K))).2.1
  have hwf0 := hwf
  refine ⟨_, (pss_cons (ps_set (i := 6) sc_Collapser_usual.nd rfl (Or.inl rfl) (pe_ix ix_tup (pv 1) pe_int (fun _ _ => rfl)))
  (pss_cons (ps_if (pt_cmpR op_eq (pv 6) pe_str (nomark _)) (pss_one (ps_ret (pe_meth (pv 0) (CF.cls (K := K) (n := "Collapser") (by decide +kernel)) (CF.me (K := K) (n := "Collapser") (m := "node") (by decide +kernel)) G_Collapser_node (hr.mono (by omega)) b_Collapser_node .nil pass0 (pa_cons (pv 1) pa_nil)))) pss_nil)
  (pss_cons (ps_if (pt_cmpR op_eq (pv 6) pe_str (nomark _)) (pss_one (ps_ret (pe_meth (pv 0) (CF.cls (K := K) (n := "Collapser") (by decide +kernel)) (CF.me (K := K) (n := "Collapser") (m := "node") (by decide +kernel)) G_Collapser_node (hr.mono (by omega)) b_Collapser_node .nil pass0 (pa_cons (pe_tup (pa_cons pe_str (pa_cons (pe_dget (hu_of hr) (pv 3) (pe_ix ix_tup (pv 1) pe_int (fun _ _ => rfl)) (fun _ _ => rfl)) pa_nil))) pa_nil)))) pss_nil)
  (pss_cons (ps_if (pt_cmpR op_eq (pv 6) pe_str (nomark _)) (pss_cons (ps_set (i := 7) sc_Collapser_usual.nd rfl (Or.inl rfl) (pe_meth (pv 0) (CF.cls (K := K) (n := "Collapser") (by decide +kernel)) (CF.me (K := K) (n := "Collapser") (m := "fresh") (by decide +kernel)) G_Collapser_fresh (hr.mono (by omega)) b_Collapser_fresh .nil pass0 (pa_cons pe_str pa_nil)))
  (pss_cons (ps_set (i := 8) sc_Collapser_usual.nd rfl (Or.inl rfl) (pe_meth (pv 0) (CF.cls (K := K) (n := "Collapser") (by decide +kernel)) (CF.me (K := K) (n := "Collapser") (m := "expression") (by decide +kernel)) G_Collapser_expression (hr.mono (by omega)) b_Collapser_expression .nil pass0 (pa_cons (pe_ix ix_tup (pv 1) pe_int (fun _ _ => rfl)) (pa_cons (pv 2) (pa_cons (pe_call G_with_name (hr.mono (by omega)) rfl (Tx.gl (K := K) "with_name" (by decide +kernel)) k_with_name b_with_name .nil pass0 (pa_cons (pv 3) (pa_cons (pe_ix ix_tup (pv 1) pe_int (fun _ _ => rfl)) (pa_cons (pv 7) pa_nil)))) (pa_cons (pv 4) pa_nil))))))
  (pss_one (ps_ret (pe_meth (pv 0) (CF.cls (K := K) (n := "Collapser") (by decide +kernel)) (CF.me (K := K) (n := "Collapser") (m := "node") (by decide +kernel)) G_Collapser_node (hr.mono (by omega)) b_Collapser_node .nil pass0 (pa_cons (pe_tup (pa_cons pe_str (pa_cons (pv 2) (pa_cons (pv 7) (pa_cons (pv 8) pa_nil))))) pa_nil)))))) pss_nil)
  (pss_cons (ps_if (pt_cmpR op_eq (pv 6) pe_str (nomark _)) (pss_cons (ps_set (i := 7) sc_Collapser_usual.nd rfl (Or.inl rfl) (pe_meth (pv 0) (CF.cls (K := K) (n := "Collapser") (by decide +kernel)) (CF.me (K := K) (n := "Collapser") (m := "fresh") (by decide +kernel)) G_Collapser_fresh (hr.mono (by omega)) b_Collapser_fresh .nil pass0 (pa_cons pe_str pa_nil)))
  (pss_cons (ps_set (i := 9) sc_Collapser_usual.nd rfl (Or.inl rfl) (pe_meth (pv 0) (CF.cls (K := K) (n := "Collapser") (by decide +kernel)) (CF.me (K := K) (n := "Collapser") (m := "parts") (by decide +kernel)) G_Collapser_parts (hr.mono (by omega)) b_Collapser_parts .nil pass0 (pa_cons (pv 1) (pa_cons (pv 2) (pa_cons (pv 3) (pa_cons (pv 4) (pa_cons (pv 5) pa_nil)))))))
  (pss_cons (ps_set (i := 8) sc_Collapser_usual.nd rfl (Or.inl rfl) (pe_meth (pv 0) (CF.cls (K := K) (n := "Collapser") (by decide +kernel)) (CF.me (K := K) (n := "Collapser") (m := "expression") (by decide +kernel)) G_Collapser_expression (hr.mono (by omega)) b_Collapser_expression .nil pass0 (pa_cons (pe_ix ix_tup (pv 1) pe_int (fun _ _ => rfl)) (pa_cons (pv 2) (pa_cons (pe_call G_with_name (hr.mono (by omega)) rfl (Tx.gl (K := K) "with_name" (by decide +kernel)) k_with_name b_with_name .nil pass0 (pa_cons (pv 3) (pa_cons (pe_ix ix_tup (pv 1) pe_int (fun _ _ => rfl)) (pa_cons (pv 7) pa_nil)))) (pa_cons (pv 4) pa_nil))))))
  (pss_one (ps_ret (pe_meth (pv 0) (CF.cls (K := K) (n := "Collapser") (by decide +kernel)) (CF.me (K := K) (n := "Collapser") (m := "node") (by decide +kernel)) G_Collapser_node (hr.mono (by omega)) b_Collapser_node .nil pass0 (pa_cons (pe_tup (pa_cons pe_str (pa_cons (pv 7) (pa_cons (pe_ix ix_list (pv 9) pe_int (fun _ _ => rfl)) (pa_cons (pv 8) pa_nil))))) pa_nil))))))) pss_nil)
  (pss_cons (ps_if (pt_cmpR op_in_seq (pv 6) (pe_glob (v := .ref (He.ga K "KINDS_collapsing")) rfl (Tx.kc (K := K)) rfl) (by with_unfolding_all rfl)) (pss_one (ps_ret (pe_meth (pv 0) (CF.cls (K := K) (n := "Collapser") (by decide +kernel)) (CF.me (K := K) (n := "Collapser") (m := "node") (by decide +kernel)) G_Collapser_node (hr.mono (by omega)) b_Collapser_node .nil pass0 (pa_cons (pe_op op_catA (pe_tup (pa_cons (pv 6) (pa_cons (pv 2) pa_nil))) (pe_callTy call_tupleOf1 rfl (Tx.fr (K := K) "tuple" (by decide +kernel)) (by decide +kernel) (pa_cons (pe_meth (pv 0) (CF.cls (K := K) (n := "Collapser") (by decide +kernel)) (CF.me (K := K) (n := "Collapser") (m := "parts") (by decide +kernel)) G_Collapser_parts (hr.mono (by omega)) b_Collapser_parts .nil pass0 (pa_cons (pv 1) (pa_cons (pv 2) (pa_cons (pv 3) (pa_cons (pv 4) (pa_cons (pv 5) pa_nil)))))) pa_nil))) pa_nil)))) pss_nil)
  pss_never)))))), ?_⟩
  fail "b"
  cases hwf with
  | num i =>
    cases hee with
    | num hp =>
      simp only [E.size] at hn1 hm1
      fail "g"
      refine u_coN (n := n) (m := m) (by w_dflts lk) (by omega) fun H1 hs1 u1 => ?_
      exact k _ (.num i) n (m + 1) _ ⟨hs1, by fail "qa", rfl, by omega, by simp only [E.size]; omega, by simp only [E.size]; omega, by kspl_open mu⟩
  | name hx =>
    cases hee with
    | name hp =>
      simp only [E.size] at hn1 hm1
      obtain ⟨y, hy⟩ := mem_lookup hx
      obtain ⟨ed, kvs, rfl, hed, er⟩ := henv
      obtain ⟨yv, hyv, rfl⟩ := er.at_ _ _ hy
      fail "g"
      refine u_coN (n := n) (m := m) (by w_dflts lk) (by omega) fun H1 hs1 u1 => ?_
      exact k _ (.name y) n (m + 1) _ ⟨hs1, by fail "qa", rfl, by omega, by simp only [E.size]; omega, by simp only [E.size]; omega, by kspl_open mu⟩
  | fn wb =>
    rename_i x b
    cases hee with
    | fn hp hb =>
      simp only [E.size] at hn1 hm1
      simp only [E.depth] at hdp
      fail "g"
      refine u_coF (n := n) (m := m) (by w_dflts lk) hn0 (by omega) (by decide +kernel) fun y H1 hs1 u1 => ?_
      fail "g"
      refine u_with (ρ := ρ) (by kspl_open env) (by omega) fun p2 H2 he2 s2 => ?_
      fail "g"
      refine u_cex (d := d) (e := b) (ρ := ((x, y) :: ρ)) (n := n + 1) (m := m) ⟨by w_dflts lk, by w_dflts lk, hne, by fail "e", wb, by omega, by kspl_open env, by omega, by omega, by omega, by simp only [List.length_cons]; omega⟩ fun p3 pl3 n3 m3 H3 z3 => ?_
      obtain ⟨zs3, zq3, zz3, zn3, zm3, zk3, zu3⟩ := z3
      fail "g"
      refine u_coN (n := n3) (m := m3) (by w_dflts lk) (by omega) fun H5 hs5 u5 => ?_
      exact k _ (.fn y pl3) n3 (m3 + 1) _ ⟨hs5, by fail "qa", by simp only [Pl.size, E.size, zz3], by omega, by simp only [E.size]; omega, by simp only [E.size]; omega, by kspl_open mu⟩
  | lett wa wb =>
    rename_i x a b
    have hee0 := hee
    cases hee with
    | lett hp ha hb =>
      simp only [E.size] at hn1 hm1
      have hdp0 := hdp
      simp only [E.depth] at hdp
      fail "g"
      refine u_coF (n := n) (m := m) (by w_dflts lk) hn0 (by omega) (by decide +kernel) fun y H1 hs1 u1 => ?_
      fail "g"
      refine u_cpa (d := d + 1) (e := .lett x a b) (ρ := ρ) (n := n + 1) (m := m) rfl (by w_dflts lk) ⟨by w_dflts lk, by w_dflts lk, hne, by fail "e", hwf0, hdp0, by kspl_open env, by omega, by simp only [psz]; omega, by simp only [psz]; omega, hrr⟩ fun l rs n1 m1 H2 hl2 hz2 hs2 hn2a hn2b hm2b hlne u2 => ?_
      obtain ⟨va1, pa1, rfl, qa, za⟩ := hz2
      simp only [psz] at hn2b hm2b
      fail "g"
      refine u_with (ρ := ρ) (by kspl_open env) (by omega) fun p3 H3 he3 s3 => ?_
      fail "g"
      refine u_cex (d := d) (e := b) (ρ := ((x, y) :: ρ)) (n := n1) (m := m1) ⟨by w_dflts lk, by w_dflts lk, hne, by fail "e", wb, by omega, by kspl_open env, by omega, by omega, by omega, by simp only [List.length_cons]; omega⟩ fun p4 pl4 n4 m4 H4 z4 => ?_
      obtain ⟨zs4, zq4, zz4, zn4, zm4, zk4, zu4⟩ := z4
      have hl4 : H4 l = some (.lst [va1]) := lk_mu zu4 (by w_dflts lk) hlne
      fail "g"
      refine u_coN (n := n4) (m := m4) (by w_dflts lk) (by omega) fun H5 hs5 u5 => ?_
      exact k _ (.lett y pa1 pl4) n4 (m4 + 1) _ ⟨hs5, by fail "qa", by simp only [Pl.size, E.size, za, zz4], by omega, by simp only [E.size]; omega, by simp only [E.size]; omega, by kspl_open mu⟩
  | call wa wb =>
    rename_i a b
    have hee0 := hee
    cases hee with
    | call hp ha hb =>
      fail "g"
      refine u_cpa (d := d + 1) (e := .call a b) (ρ := ρ) (n := n) (m := m) rfl (by w_dflts lk) ⟨by w_dflts lk, by w_dflts lk, hne, by fail "e", hwf0, hdp, by kspl_open env, hn0, by simp only [psz, E.size] at hn1 ⊢; omega, by simp only [psz, E.size] at hm1 ⊢; omega, hrr⟩ fun l rs n1 m1 H1 hl1 hz1 hs1 hn1a hn1b hm1b hlne u1 => ?_
      obtain ⟨va1, vb1, pa1, pb1, rfl, qa, qb, za, zb⟩ := hz1
      simp only [psz] at hn1b hm1b
      simp only [E.size] at hn1 hm1
      fail "g"
      refine u_coN (n := n1) (m := m1) (by w_dflts lk) (by omega) fun H5 hs5 u5 => ?_
      exact k _ (.call pa1 pb1) n1 (m1 + 1) _ ⟨hs5, by fail "qa", by simp only [Pl.size, E.size, za, zb], by omega, by simp only [E.size]; omega, by simp only [E.size]; omega, by kspl_open mu⟩
  | sum wa wb =>
    rename_i a b
    have hee0 := hee
    cases hee with
    | sum hp ha hb =>
      fail "g"
      refine u_cpa (d := d + 1) (e := .sum a b) (ρ := ρ) (n := n) (m := m) rfl (by w_dflts lk) ⟨by w_dflts lk, by w_dflts lk, hne, by fail "e", hwf0, hdp, by kspl_open env, hn0, by simp only [psz, E.size] at hn1 ⊢; omega, by simp only [psz, E.size] at hm1 ⊢; omega, hrr⟩ fun l rs n1 m1 H1 hl1 hz1 hs1 hn1a hn1b hm1b hlne u1 => ?_
      obtain ⟨va1, vb1, pa1, pb1, rfl, qa, qb, za, zb⟩ := hz1
      simp only [psz] at hn1b hm1b
      simp only [E.size] at hn1 hm1
      fail "g"
      refine u_coN (n := n1) (m := m1) (by w_dflts lk) (by omega) fun H5 hs5 u5 => ?_
      exact k _ (.sum pa1 pb1) n1 (m1 + 1) _ ⟨hs5, by fail "qa", by simp only [Pl.size, E.size, za, zb], by omega, by simp only [E.size]; omega, by simp only [E.size]; omega, by kspl_open mu⟩
  | less wa wb =>
    rename_i a b
    have hee0 := hee
    cases hee with
    | less hp ha hb =>
      fail "g"
      refine u_cpa (d := d + 1) (e := .less a b) (ρ := ρ) (n := n) (m := m) rfl (by w_dflts lk) ⟨by w_dflts lk, by w_dflts lk, hne, by fail "e", hwf0, hdp, by kspl_open env, hn0, by simp only [psz, E.size] at hn1 ⊢; omega, by simp only [psz, E.size] at hm1 ⊢; omega, hrr⟩ fun l rs n1 m1 H1 hl1 hz1 hs1 hn1a hn1b hm1b hlne u1 => ?_
      obtain ⟨va1, vb1, pa1, pb1, rfl, qa, qb, za, zb⟩ := hz1
      simp only [psz] at hn1b hm1b
      simp only [E.size] at hn1 hm1
      fail "g"
      refine u_coN (n := n1) (m := m1) (by w_dflts lk) (by omega) fun H5 hs5 u5 => ?_
      exact k _ (.less pa1 pb1) n1 (m1 + 1) _ ⟨hs5, by fail "qa", by simp only [Pl.size, E.size, za, zb], by omega, by simp only [E.size]; omega, by simp only [E.size]; omega, by kspl_open mu⟩
  | iff wc wa wb =>
    rename_i c a b
    have hee0 := hee
    cases hee with
    | iff hp hc ha hb =>
      fail "g"
      refine u_cpa (d := d + 1) (e := .iff c a b) (ρ := ρ) (n := n) (m := m) rfl (by w_dflts lk) ⟨by w_dflts lk, by w_dflts lk, hne, by fail "e", hwf0, hdp, by kspl_open env, hn0, by simp only [psz, E.size] at hn1 ⊢; omega, by simp only [psz, E.size] at hm1 ⊢; omega, hrr⟩ fun l rs n1 m1 H1 hl1 hz1 hs1 hn1a hn1b hm1b hlne u1 => ?_
      obtain ⟨vc1, va1, vb1, pc1, pa1, pb1, rfl, qc, qa, qb, zc, za, zb⟩ := hz1
      simp only [psz] at hn1b hm1b
      simp only [E.size] at hn1 hm1
      fail "g"
      refine u_coN (n := n1) (m := m1) (by w_dflts lk) (by omega) fun H5 hs5 u5 => ?_
      exact k _ (.iff pc1 pa1 pb1) n1 (m1 + 1) _ ⟨hs5, by fail "qa", by simp only [Pl.size, E.size, zc, za, zb], by omega, by simp only [E.size]; omega, by simp only [E.size]; omega, by kspl_open mu⟩
  | say wa =>
    rename_i a
    have hee0 := hee
    cases hee with
    | say hp ha =>
      fail "g"
      refine u_cpa (d := d + 1) (e := .say a) (ρ := ρ) (n := n) (m := m) rfl (by w_dflts lk) ⟨by w_dflts lk, by w_dflts lk, hne, by fail "e", hwf0, hdp, by kspl_open env, hn0, by simp only [psz, E.size] at hn1 ⊢; omega, by simp only [psz, E.size] at hm1 ⊢; omega, hrr⟩ fun l rs n1 m1 H1 hl1 hz1 hs1 hn1a hn1b hm1b hlne u1 => ?_
      obtain ⟨va1, pa1, rfl, qa, za⟩ := hz1
      simp only [psz] at hn1b hm1b
      simp only [E.size] at hn1 hm1
      fail "g"
      refine u_coN (n := n1) (m := m1) (by w_dflts lk) (by omega) fun H5 hs5 u5 => ?_
      exact k _ (.say pa1) n1 (m1 + 1) _ ⟨hs5, by fail "qa", by simp only [Pl.size, E.size, za], by omega, by simp only [E.size]; omega, by simp only [E.size]; omega, by kspl_open mu⟩
end
/-! ## Zcoc -/
open PySem PySem.Spec PyProof.Rows L2
def spColl (d : Nat) : Sp := fun vs H Q _ => ∃ (v : V) (e : E), vs = [v] ∧ EAt H v e ∧ Wf [] e ∧ e.depth ≤ d ∧ e.size ≤ 9000 ∧ d ≤ 900 ∧ ∀ p pl H', QAt H' (.ref p) pl → pl.size = e.size → Same H H' → Q (.ref p) H'
section
variable {P : Program} {w : World} {K : PySem.W.Frag} {mg : Str → Option Value} {base : Heap} [Tx w K mg]
theorem ok_Collapser_expression1 (hd : Dd K d_Collapser_expression) (d k0 : Nat) (g_Collapser_usual : Ok P w K mg base k0 d_Collapser_usual ["self", "e", "level", "names", "about", "delayed"] (spCus K (d + 1))) : Ok P w K mg base (k0 + 1) d_Collapser_expression ["self", "e", "level", "names", "about"] (spCx K (d + 1)) := by
  obtain ⟨⟨_, G_Collapser_usual, b_Collapser_usual⟩, k_Collapser_usual⟩ := id g_Collapser_usual
  refine ok_mk hd sc_Collapser_expression bd_Collapser_expression (fun vs H Q X h => ?_) (fun cdv A outer s0 H vs Q X hr h => ?_)
  · obtain ⟨_, _, _, _, _, _, _, _, _, rfl, _⟩ := h
    rfl
  obtain ⟨v, e, env, ρ, sf, dx, rl, n, m, rfl, ⟨hs, hrl, hne, hee, hwf, hdp, henv, hn0, hn1, hm1, hrr⟩, k⟩ := h
  obtain ⟨p, kd, r, rfl, hp, hkd⟩ := hee.head hwf
  refine ⟨_, (pss_cons (ps_set (i := 5) sc_Collapser_expression.nd rfl (Or.inl rfl) (pe_ix ix_tup (pv 1) pe_int (fun _ _ => rfl)))
  (pss_cons (ps_if (pt_cmp (pc_dnotin (hu_of hr) (pe_tup (pa_cons (pv 2) (pa_cons (pv 5) pa_nil))) (pe_fld (pv 0) rfl)) (by rfl)) (pss_one (ps_ret (pe_meth (pv 0) (CF.cls (K := K) (n := "Collapser") (by decide +kernel)) (CF.me (K := K) (n := "Collapser") (m := "usual") (by decide +kernel)) G_Collapser_usual (hr.mono (by omega)) b_Collapser_usual .nil pass0 (pa_cons (pv 1) (pa_cons (pv 2) (pa_cons (pv 3) (pa_cons (pv 4) (pa_cons pe_dnewK pa_nil)))))))) pss_nil)
  pss_never)), ?_⟩
  fail "b"
  fail "g"
  refine u_cus (e := e) (ρ := ρ) (n := n) (m := m) (by w_dflts lk) ⟨by w_dflts lk, by w_dflts lk, hne, by fail "e", hwf, hdp, by kspl_open env, hn0, hn1, hm1, hrr⟩ fun p2 pl n2 m2 H2 z2 => ?_
  rename_i H0 a0 _ H1 a1
  have m1 : Mu sf H H1 := by kspl_open mu
  exact k _ _ _ _ _ ⟨z2.sfh, z2.qq, z2.sz, z2.n0, z2.n1, z2.m1, m1.trans z2.mu⟩
theorem ok_collapse (hd : Dd K d_collapse) (g_Numbering_init : Ok P w K mg base 1 d_Numbering_init ["self"] (spNbI K)) (g_Collapser_init : Ok P w K mg base 1 d_Collapser_init ["self", "rules"] (spCoI K)) (d k0 : Nat) (hk0 : 3 ≤ k0) (g_Numbering_expression : Ok P w K mg base k0 d_Numbering_expression ["self", "e", "level"] (spNx K d))
    (g_Collapser_expression : Ok P w K mg base k0 d_Collapser_expression ["self", "e", "level", "names", "about"] (spCx K d)) : Ok P w K mg base (k0 + 1) d_collapse ["program"] (spColl d) := by
  obtain ⟨⟨_, G_Numbering_init, b_Numbering_init⟩, k_Numbering_init⟩ := id g_Numbering_init
  obtain ⟨⟨_, G_Collapser_init, b_Collapser_init⟩, k_Collapser_init⟩ := id g_Collapser_init
  obtain ⟨⟨_, G_Numbering_expression, b_Numbering_expression⟩, k_Numbering_expression⟩ := id g_Numbering_expression
  obtain ⟨⟨_, G_Collapser_expression, b_Collapser_expression⟩, k_Collapser_expression⟩ := id g_Collapser_expression
  refine ok_mk hd sc_collapse bd_collapse (fun vs H Q X h => ?_) (fun cdv A outer s0 H vs Q X hr h => ?_)
  · obtain ⟨_, _, rfl, _⟩ := h
    rfl
  obtain ⟨v, e, rfl, hee, hwf, hdp, hsz, hd9, k⟩ := h
  refine ⟨_, (pss_cons (ps_set (i := 1) sc_collapse.nd rfl (Or.inl rfl) (pe_make0 (CF.mk (K := K) (by decide +kernel)) G_Numbering_init (hr.mono (by omega)) rfl (Tx.gl (K := K) "Numbering" (by decide +kernel)) b_Numbering_init .nil pass0))
  (pss_cons (ps_set (i := 2) sc_collapse.nd rfl (Or.inl rfl) (pe_meth (pv 1) (CF.cls (K := K) (n := "Numbering") (by decide +kernel)) (CF.me (K := K) (n := "Numbering") (m := "expression") (by decide +kernel)) G_Numbering_expression (hr.mono (by omega)) b_Numbering_expression .nil pass0 (pa_cons (pv 0) (pa_cons pe_int pa_nil))))
  (pss_one (ps_ret (pe_meth (pe_make (CF.mk (K := K) (by decide +kernel)) G_Collapser_init (hr.mono (by omega)) rfl (Tx.gl (K := K) "Collapser" (by decide +kernel)) b_Collapser_init .nil pass0 (pa_cons (pe_fld (pv 1) rfl) pa_nil)) (CF.cls (K := K) (n := "Collapser") (by decide +kernel)) (CF.me (K := K) (n := "Collapser") (m := "expression") (by decide +kernel)) G_Collapser_expression (hr.mono (by omega)) b_Collapser_expression .nil pass0 (pa_cons (pv 2) (pa_cons pe_int (pa_cons pe_dnewK (pa_cons pe_non pa_nil))))))))), ?_⟩
  fail "b"
  fail "g"
  intro x dx hx hdx hne
  refine ⟨x, dx, rfl, upd_same, fun rl H1 h1 h2 h3 h4 => ⟨rfl, ?_⟩⟩
  have s1 : Same H H1 := Same.made hx hdx fun b o e1 n => h4 b o e1 n
  fail "g"
  refine u_nex (d := d) (e := e) (by w_dflts lk) (by fail "e") hwf hdp fun p2 H2 he2 s2 => ?_
  fail "g"
  intro x2 dx2 hx2 hdx2 hne2
  refine ⟨x2, dx2, rl, rfl, upd_same, fun H3 h31 h32 => ⟨rfl, ?_⟩⟩
  have s3 : Same H2 H3 := Same.made hx2 hdx2 fun b o e1 n => h32 b o e1 n
  have hrx : rl ≠ x2 := ne_of_none (show H2 rl = some _ by w_dflts lk) hx2
  fail "g"
  refine u_cex (d := d) (e := e) (ρ := []) (n := 0) (m := 0) ⟨by w_dflts lk, by w_dflts lk, hrx, by fail "e", hwf, hdp, ⟨_, [], rfl, by w_dflts lk, EnvR.nil⟩, by omega, by omega, by omega, by simp only [List.length_nil]; omega⟩ fun p4 pl4 n4 m4 H4 z4 => ?_
  refine k _ pl4 _ z4.qq z4.sz ?_
  intro b u hb
  have n2 : b ≠ x2 := ne_of_none (show H2 b = some u from s2 _ _ (s1 _ _ hb)) hx2
  refine lk_mu z4.mu ?_ n2
  w_dflts lk
end
/-! ## Zpla -/
open PySem PySem.Spec PyProof.Rows L2
def QL (H : Hp) (zs : List (V × Pl)) : Prop := ∀ q ∈ zs, QAt H q.1 q.2
def qsz (zs : List (V × Pl)) : Nat := (zs.map fun q => q.2.size).sum
theorem QL.fix {H H' : Hp} {zs : List (V × Pl)} (h : QL H zs) (f : Fix H H') : QL H' zs := fun q hq => (h q hq).fix f
theorem QL.cons {H : Hp} {v : V} {p : Pl} {zs : List (V × Pl)} (h : QAt H v p) (k : QL H zs) : QL H ((v, p) :: zs) := fun q hq => by
  rcases List.mem_cons.mp hq with rfl | e
  · exact h
  · exact k q e
theorem QL.nil {H : Hp} : QL H [] := fun q hq => by cases hq
theorem QL.app {H : Hp} {xs ys : List (V × Pl)} (h : QL H xs) (k : QL H ys) : QL H (xs ++ ys) := fun q hq => by
  rcases List.mem_append.mp hq with e | e
  · exact h q e
  · exact k q e
theorem qsz_app {xs ys : List (V × Pl)} : qsz (xs ++ ys) = qsz xs + qsz ys := by unfold qsz; rw [List.map_append, List.sum_append]
theorem qsz_cons {x : V × Pl} {ys : List (V × Pl)} : qsz (x :: ys) = x.2.size + qsz ys := by unfold qsz; rw [List.map_cons, List.sum_cons]
theorem qsz_nil : qsz [] = 0 := rfl
theorem Pl.size_pos (e : Pl) : 1 ≤ e.size := by cases e <;> simp only [Pl.size] <;> omega
theorem len_qsz : ∀ (zs : List (V × Pl)), zs.length ≤ qsz zs
  | [] => Nat.le_refl _
  | x :: r => by
    rw [qsz_cons, List.length_cons]
    have := len_qsz r
    have := x.2.size_pos
    omega
def spKids : Sp := fun vs H Q _ => ∃ (v : V) (pl : Pl), vs = [v] ∧ QAt H v pl ∧ ∀ l (zs : List (V × Pl)) H', H' l = some (.lst (zs.map (·.1))) → H l = none → QL H' zs → qsz zs + 1 = pl.size → Same H H' → Q (.ref l) H'
theorem u_kids {v : V} {pl : Pl} {H : Hp} {Q : VK} {X : XK} (h : QAt H v pl) (q : ∀ l (zs : List (V × Pl)) H', H' l = some (.lst (zs.map (·.1))) → H l = none → QL H' zs → qsz zs + 1 = pl.size → Same H H' → Q (.ref l) H') : spKids ([v] ++ []) H Q X := ⟨v, pl, rfl, h, q⟩
def spPsz : Sp := fun vs H Q _ => ∃ (v : V) (pl : Pl), vs = [v] ∧ QAt H v pl ∧ pl.size ≤ 10000 ∧ ∀ H', Same H H' → Q (.int pl.size) H'
def spIsP : Sp := fun vs H Q _ => ∃ (v : V) (pl : Pl), vs = [v] ∧ QAt H v pl ∧ pl.size ≤ 10000 ∧ ∀ H', Same H H' → Q (.bl true) H'
def spIsInt : Sp := fun vs H Q _ => ∃ (n : Int), vs = [.int n] ∧ Q (.bl true) H
theorem s_isint {n : Int} {H : Hp} {Q : VK} {X : XK} (q : Q (.bl true) H) : spIsInt ([.int n] ++ []) H Q X := ⟨n, rfl, q⟩
section
variable {P : Program} {w : World} {K : PySem.W.Frag} {mg : Str → Option Value} {base : Heap} [Tx w K mg]
theorem ok_inner (hd : Dd K d_inner) : Ok P w K mg base 1 d_inner ["e"] spKids := by
  refine ok_mk hd sc_inner bd_inner (fun vs H Q X h => ?_) (fun cdv A outer s0 H vs Q X hr h => ?_)
  · obtain ⟨_, _, rfl, _⟩ := h
    rfl
  obtain ⟨v, pl, rfl, hq, k⟩ := h
  refine ⟨_, (pss_cons (ps_set (i := 1) sc_inner.nd rfl (Or.inl rfl) (pe_ix ix_tup (pv 0) pe_int (fun _ _ => rfl)))
  (pss_cons (ps_if (pt_cmpR op_in_seq (pv 1) (pe_tup (pa_cons pe_str (pa_cons pe_str (pa_cons pe_str (pa_cons pe_str pa_nil))))) (by with_unfolding_all rfl)) (pss_one (ps_ret (pe_lst pa_nil))) pss_nil)
  (pss_cons (ps_if (pt_cmpR op_in_seq (pv 1) (pe_tup (pa_cons pe_str (pa_cons pe_str (pa_cons pe_str pa_nil)))) (by with_unfolding_all rfl)) (pss_one (ps_ret (pe_lst (pa_cons (pe_ix ix_tup (pv 0) pe_int (fun _ _ => rfl)) (pa_cons (pe_ix ix_tup (pv 0) pe_int (fun _ _ => rfl)) pa_nil))))) pss_nil)
  (pss_cons (ps_if (pt_cmpR op_eq (pv 1) pe_str (nomark _)) (pss_one (ps_ret (pe_lst (pa_cons (pe_ix ix_tup (pv 0) pe_int (fun _ _ => rfl)) (pa_cons (pe_ix ix_tup (pv 0) pe_int (fun _ _ => rfl)) (pa_cons (pe_ix ix_tup (pv 0) pe_int (fun _ _ => rfl)) pa_nil)))))) pss_nil)
  (pss_cons (ps_if (pt_cmpR op_in_seq (pv 1) (pe_tup (pa_cons pe_str (pa_cons pe_str pa_nil))) (by with_unfolding_all rfl)) (pss_one (ps_ret (pe_lst (pa_cons (pe_ix ix_tup (pv 0) pe_int (fun _ _ => rfl)) (pa_cons (pe_ix ix_tup (pv 0) pe_int (fun _ _ => rfl)) pa_nil))))) pss_nil)
  (pss_cons (ps_if (pt_cmpR op_eq (pv 1) pe_str (nomark _)) (pss_one (ps_ret (pe_op op_cat (pe_lc (own := [("_", 2), ("branch", 3)]) (g := (gTup K 2 (gCons (gName 2) (gCons (gName 3) (gNil))))) (tt := tYes) rfl sc_inner.nd (pi_tup (pe_ix ix_tup (pv 0) pe_int (fun _ _ => rfl))) (blkOk_by (N := ["e", "kind", "_", "branch"]) (sc := defScope s_inner) (by decide +kernel)) (fun _ _ _ _ _ => pg_tup rfl (pgs_cons (pg_name (i := 2) sc_inner.nd rfl (Or.inl rfl)) (pgs_cons (pg_name (i := 3) sc_inner.nd rfl (Or.inl rfl)) pgs_nil))) (fun _ _ _ _ _ => pts_nil) (fun _ _ _ _ _ => (pv 3))) (pe_lst (pa_cons (pe_ix ix_tup (pv 0) pe_int (fun _ _ => rfl)) pa_nil))))) pss_nil)
  (pss_one (ps_ret (pe_lst (pa_cons (pe_ix ix_tup (pv 0) (pe_un un_neg pe_int) (fun _ _ => rfl)) pa_nil)))))))))), ?_⟩
  fail "b"
  cases hq with
  | @num p n hp =>
    fail "g"
    exact k _ [] _ (by w_dflts lk) (by kspl_open nw) QL.nil rfl (by kspl_open sm)
  | @name p x hp =>
    fail "g"
    exact k _ [] _ (by w_dflts lk) (by kspl_open nw) QL.nil rfl (by kspl_open sm)
  | @fn p x va a hp ha =>
    fail "g"
    exact k _ [(va, a)] _ (by w_dflts lk) (by kspl_open nw) (QL.cons (by fail "qa") QL.nil) (by simp only [qsz, List.map_cons, List.map_nil, List.sum_cons, List.sum_nil, Pl.size]; omega) (by kspl_open sm)
  | @call p va a vb b hp ha hb =>
    fail "g"
    exact k _ [(va, a), (vb, b)] _ (by w_dflts lk) (by kspl_open nw) (QL.cons (by fail "qa") (QL.cons (by fail "qa") QL.nil)) (by simp only [qsz, List.map_cons, List.map_nil, List.sum_cons, List.sum_nil, Pl.size]; omega) (by kspl_open sm)
  | @sum p va a vb b hp ha hb =>
    fail "g"
    exact k _ [(va, a), (vb, b)] _ (by w_dflts lk) (by kspl_open nw) (QL.cons (by fail "qa") (QL.cons (by fail "qa") QL.nil)) (by simp only [qsz, List.map_cons, List.map_nil, List.sum_cons, List.sum_nil, Pl.size]; omega) (by kspl_open sm)
  | @less p va a vb b hp ha hb =>
    fail "g"
    exact k _ [(va, a), (vb, b)] _ (by w_dflts lk) (by kspl_open nw) (QL.cons (by fail "qa") (QL.cons (by fail "qa") QL.nil)) (by simp only [qsz, List.map_cons, List.map_nil, List.sum_cons, List.sum_nil, Pl.size]; omega) (by kspl_open sm)
  | @iff p vc c va a vb b hp hc ha hb =>
    fail "g"
    exact k _ [(vc, c), (va, a), (vb, b)] _ (by w_dflts lk) (by kspl_open nw) (QL.cons (by fail "qa") (QL.cons (by fail "qa") (QL.cons (by fail "qa") QL.nil))) (by simp only [qsz, List.map_cons, List.map_nil, List.sum_cons, List.sum_nil, Pl.size]; omega) (by kspl_open sm)
  | @lett p x va a vb b hp ha hb =>
    fail "g"
    exact k _ [(va, a), (vb, b)] _ (by w_dflts lk) (by kspl_open nw) (QL.cons (by fail "qa") (QL.cons (by fail "qa") QL.nil)) (by simp only [qsz, List.map_cons, List.map_nil, List.sum_cons, List.sum_nil, Pl.size]; omega) (by kspl_open sm)
  | @say p va a hp ha =>
    fail "g"
    exact k _ [(va, a)] _ (by w_dflts lk) (by kspl_open nw) (QL.cons (by fail "qa") QL.nil) (by simp only [qsz, List.map_cons, List.map_nil, List.sum_cons, List.sum_nil, Pl.size]; omega) (by kspl_open sm)
theorem ok_plain_size (hd : Dd K d_plain_size) (g_inner : Ok P w K mg base 1 d_inner ["e"] spKids) : Ok P w K mg base 2 d_plain_size ["plain"] spPsz := by
  obtain ⟨⟨_, G_inner, b_inner⟩, k_inner⟩ := id g_inner
  refine ok_mk hd sc_plain_size bd_plain_size (fun vs H Q X h => ?_) (fun cdv A outer s0 H vs Q X hr h => ?_)
  · obtain ⟨_, _, rfl, _⟩ := h
    rfl
  obtain ⟨v, pl, rfl, hq, hsz, k⟩ := h
  refine ⟨_, (pss_cons (ps_set (i := 1) sc_plain_size.nd rfl (Or.inl rfl) pe_int)
  (pss_cons (ps_set (i := 2) sc_plain_size.nd rfl (Or.inl rfl) (pe_lst (pa_cons (pv 0) pa_nil)))
  (pss_cons (ps_while PassesOwn.never (pt_truth1 (pv 2) (by intro _; rfl)) (pss_cons (ps_set (i := 3) sc_plain_size.nd rfl (Or.inl rfl) (pe_bm0 PySem.F.plainAttrs_list PySem.F.slot_list_pop PySem.F.type_list_pop mt_pop (pv 2)))
  (pss_cons (ps_aug (i := 1) sc_plain_size.nd rfl (Or.inl rfl) pe_int ip_add)
  (pss_one (ps_expr (pe_bm PySem.F.plainAttrs_list PySem.F.slot_list_extend PySem.F.type_list_extend mt_extend (pv 2) (pa_cons (pe_call G_inner (hr.mono (by omega)) rfl (Tx.gl (K := K) "inner" (by decide +kernel)) k_inner b_inner .nil pass0 (pa_cons (pv 3) pa_nil)) pa_nil)))))))
  (pss_one (ps_ret (pv 1)))))), ?_⟩
  fail "b"
  fail "g"
  rename_i l0 H0 a0
  refine s_while (fun m σ H1 => ∃ (zs : List (V × Pl)) (c : Nat) (x : Option V), σ = [some v, some (.int c), some (.ref l0), x] ∧ H1 l0 = some (.lst (zs.map (·.1))) ∧ QL H1 zs ∧ m = qsz zs ∧ c + qsz zs = pl.size ∧ Same H H1) pl.size ⟨[(v, pl)], 0, none, rfl, a0.at_, QL.cons (by fail "qa") QL.nil, by simp only [qsz, List.map_cons, List.map_nil, List.sum_cons, List.sum_nil]; omega, by simp only [qsz, List.map_cons, List.map_nil, List.sum_cons, List.sum_nil]; omega, by kspl_open sm⟩ ?_
  rintro m σ H1 ⟨zs, c, x, rfl, hl, hql, rfl, hc, sm⟩
  fail "g"
  rcases List.eq_nil_or_concat zs with rfl | ⟨ys, y, rfl⟩
  · refine i_f rfl ?_
    fail "g"
    have e : (c : Int) = pl.size := by simp only [qsz, List.map_nil, List.sum_nil] at hc; omega
    rw [e]
    exact k _ sm
  · refine i_t (by simp) ?_
    rw [List.map_concat] at hl
    rw [List.concat_eq_append] at hl hql hc ⊢
    rw [qsz_app] at hc
    simp only [qsz_cons, qsz_nil] at hc
    fail "g"
    rename_i H2 w2
    have w2 : Wr H1 H2 l0 (.lst (ys.map (·.1))) := w2
    refine u_kids (pl := y.2) ((hql y (by simp)).fix w2.fx) fun l3 zs3 H3 hl3 hn3 hq3 hz3 sm3 => ?_
    have hlen : (ys.map (·.1)).length + (zs3.map (·.1)).length ≤ sizeLine := by
      have e1 := len_qsz ys
      have e2 := len_qsz zs3
      rw [List.length_map, List.length_map]
      exact Nat.le_trans (show _ ≤ 10001 by omega) (by decide)
    fail "g"
    rename_i H4 w4
    refine ⟨qsz (ys ++ zs3), by rw [qsz_app, qsz_app, qsz_cons]; omega, ys ++ zs3, c + 1, some y.1, rfl, by rw [List.map_append]; exact w4.at_, QL.app ((fun q hq => (hql q (by simp [hq]))) |> fun (h : QL H1 ys) => ((h.fix w2.fx).fix (Fix.of_same sm3)).fix w4.fx) (hq3.fix w4.fx), rfl, by rw [qsz_app]; omega, ?_⟩
    intro b u hb
    have nb : b ≠ l0 := ne_of_none hb a0.nw
    exact w4.bt _ _ (sm3 _ _ (w2.bt _ _ (sm _ _ hb) nb)) nb
theorem ok_is_plain (hd : Dd K d_is_plain) (g_inner_plain : Ok P w K mg base 2 d_inner_plain ["q"] spKids) : Ok P w K mg base 3 d_is_plain ["plain"] spIsP := by
  obtain ⟨⟨_, G_inner_plain, b_inner_plain⟩, k_inner_plain⟩ := id g_inner_plain
  refine ok_mk hd sc_is_plain bd_is_plain (fun vs H Q X h => ?_) (fun cdv A outer s0 H vs Q X hr h => ?_)
  · obtain ⟨_, _, rfl, _⟩ := h
    rfl
  obtain ⟨v, pl, rfl, hq, hsz, k⟩ := h
  refine ⟨_, (pss_cons (ps_set (i := 1) sc_is_plain.nd rfl (Or.inl rfl) (pe_lst (pa_cons (pv 0) pa_nil)))
  (pss_cons (ps_while PassesOwn.never (pt_truth1 (pv 1) (by intro _; rfl)) (pss_cons (ps_set (i := 2) sc_is_plain.nd rfl (Or.inl rfl) (pe_call G_inner_plain (hr.mono (by omega)) rfl (Tx.gl (K := K) "inner_plain" (by decide +kernel)) k_inner_plain b_inner_plain .nil pass0 (pa_cons (pe_bm0 PySem.F.plainAttrs_list PySem.F.slot_list_pop PySem.F.type_list_pop mt_pop (pv 1)) pa_nil)))
  (pss_cons (ps_if (pt_cmpR op_isN1 (pv 2) pe_non (nomark _)) (pss_one (ps_ret pe_bl)) pss_nil)
  (pss_one (ps_expr (pe_bm PySem.F.plainAttrs_list PySem.F.slot_list_extend PySem.F.type_list_extend mt_extend (pv 1) (pa_cons (pv 2) pa_nil)))))))
  (pss_one (ps_ret pe_bl)))), ?_⟩
  fail "b"
  fail "g"
  rename_i l0 H0 a0
  refine s_while (fun m σ H1 => ∃ (zs : List (V × Pl)) (x : Option V), σ = [some v, some (.ref l0), x] ∧ H1 l0 = some (.lst (zs.map (·.1))) ∧ QL H1 zs ∧ m = qsz zs ∧ qsz zs ≤ pl.size ∧ Same H H1) pl.size ⟨[(v, pl)], none, rfl, a0.at_, QL.cons (by fail "qa") QL.nil, by simp only [qsz, List.map_cons, List.map_nil, List.sum_cons, List.sum_nil]; omega, by simp only [qsz, List.map_cons, List.map_nil, List.sum_cons, List.sum_nil]; omega, by kspl_open sm⟩ ?_
  rintro m σ H1 ⟨zs, x, rfl, hl, hql, rfl, hc, sm⟩
  fail "g"
  rcases List.eq_nil_or_concat zs with rfl | ⟨ys, y, rfl⟩
  · refine i_f rfl ?_
    fail "g"
    exact k _ sm
  · refine i_t (by simp) ?_
    rw [List.map_concat] at hl
    rw [List.concat_eq_append] at hl hql hc ⊢
    rw [qsz_app] at hc
    simp only [qsz_cons, qsz_nil] at hc
    fail "g"
    rename_i H2 w2
    have w2 : Wr H1 H2 l0 (.lst (ys.map (·.1))) := w2
    refine u_kids (pl := y.2) ((hql y (by simp)).fix w2.fx) fun l3 zs3 H3 hl3 hn3 hq3 hz3 sm3 => ?_
    have hlen : (ys.map (·.1)).length + (zs3.map (·.1)).length ≤ sizeLine := by
      have e1 := len_qsz ys
      have e2 := len_qsz zs3
      rw [List.length_map, List.length_map]
      exact Nat.le_trans (show _ ≤ 10001 by omega) (by decide)
    fail "g"
    rename_i H4 w4
    refine ⟨qsz (ys ++ zs3), by rw [qsz_app, qsz_app, qsz_cons]; omega, ys ++ zs3, some (.ref l3), rfl, by rw [List.map_append]; exact w4.at_, QL.app ((fun q hq => (hql q (by simp [hq]))) |> fun (h : QL H1 ys) => ((h.fix w2.fx).fix (Fix.of_same sm3)).fix w4.fx) (hq3.fix w4.fx), rfl, by rw [qsz_app]; omega, ?_⟩
    intro b u hb
    have nb : b ≠ l0 := ne_of_none hb a0.nw
    exact w4.bt _ _ (sm3 _ _ (w2.bt _ _ (sm _ _ hb) nb)) nb
theorem ok_is_integer (hd : Dd K d_is_integer) : Ok P w K mg base 1 d_is_integer ["value"] spIsInt := by
  refine ok_mk hd sc_is_integer bd_is_integer (fun vs H Q X h => ?_) (fun cdv A outer s0 H vs Q X hr h => ?_)
  · obtain ⟨_, rfl, _⟩ := h
    rfl
  obtain ⟨n, rfl, k⟩ := h
  refine ⟨_, (pss_one (ps_ret (pe_and (pe_callB call_isI rfl (Tx.fr (K := K) "isinstance" (by decide +kernel)) (by decide +kernel) (pa_cons (pv 0) (pa_cons (pe_bltn (v := .ty "int") rfl (Tx.fr (K := K) "int" (by decide +kernel)) (by decide +kernel) rfl) pa_nil))) (pe_one (pe_not (pe_callB call_isI rfl (Tx.fr (K := K) "isinstance" (by decide +kernel)) (by decide +kernel) (pa_cons (pv 0) (pa_cons (pe_bltn (v := .ty "bool") rfl (Tx.fr (K := K) "bool" (by decide +kernel)) (by decide +kernel) rfl) pa_nil)))))))), ?_⟩
  fail "b"
  fail "g"
  exact k
end
/-! ## Zju1 -/
open PySem PySem.Spec PyProof.Rows L2
/-! ### nodes -/
def E.kd : E → Str
  | .num _ => "num" | .name _ => "name" | .fn _ _ => "fn" | .call _ _ => "call" | .sum _ _ => "sum" | .less _ _ => "less" | .iff _ _ _ => "if" | .lett _ _ _ => "let" | .say _ => "say"
  | .rule _ _ _ => "rule" | .keep _ _ => "keep" | .part _ => "part" | .withh _ => "with" | .usual => "usual" | .do1 _ => "do" | .do2 _ _ => "do"
def kidsE : E → List E
  | .fn _ b => [b] | .call a b => [a, b] | .sum a b => [a, b] | .less a b => [a, b] | .iff c a b => [c, a, b] | .lett _ a b => [a, b] | .say a => [a] | _ => []
abbrev oNd (K : PySem.W.Frag) (dx : Addr) (e : E) (v : V) (il : Addr) (m : Int) : HO := .ins (He.ga K "Node") dx [("kind", .str e.kd), ("e", v), ("level", .int 0), ("inner", .ref il), ("number", .int 0), ("mark", .int m)]
def spNdI (K : PySem.W.Frag) : Sp := fun vs H Q _ => ∃ (sf dx : Addr) (v : V) (e : E) (ρ : List Str), vs = [.ref sf, v, .int 0] ∧ H sf = some (.ins (He.ga K "Node") dx []) ∧ EAt H v e ∧ Wf ρ e ∧ ∀ il H', H' sf = some (oNd K dx e v il 0) → H' il = some (.lst []) → H il = none → But sf H H' → Q .non H'
inductive F2 {α β : Type} (R : α → β → Prop) : List α → List β → Prop where
  | nil : F2 R [] []
  | cons {x y xs ys} : R x y → F2 R xs ys → F2 R (x :: xs) (y :: ys)
/-- a pair of an expression and the level 0 -/
def PrAt (H : Hp) (z : V × E) (t : V) : Prop := ∃ p, t = .ref p ∧ H p = some (.tup [z.1, .int 0]) ∧ EAt H z.1 z.2
def spInOf : Sp := fun vs H Q _ => ∃ (v : V) (e : E) (ρ : List Str), vs = [v, .int 0] ∧ EAt H v e ∧ Wf ρ e ∧ ∀ l ts (zs : List (V × E)) H', H' l = some (.lst ts) → H l = none → F2 (PrAt H') zs ts → zs.map (·.2) = kidsE e → Same H H' → Q (.ref l) H'
section
variable {P : Program} {w : World} {K : PySem.W.Frag} {mg : Str → Option Value} {base : Heap} [Tx w K mg]
theorem ok_Node_init (hd : Dd K d_Node_init) : Ok P w K mg base 1 d_Node_init ["self", "e", "level"] (spNdI K) := by
  refine ok_mk hd sc_Node_init bd_Node_init (fun vs H Q X h => ?_) (fun cdv A outer s0 H vs Q X hr h => ?_)
  · obtain ⟨_, _, _, _, _, rfl, _⟩ := h
    rfl
  obtain ⟨sf, dx, v, e, ρ, rfl, hs, hee, hwf, k⟩ := h
  have hh : ∃ p r, v = .ref p ∧ H p = some (.tup (.str e.kd :: r)) := by
    cases hwf <;> cases hee <;> exact ⟨_, _, rfl, by assumption⟩
  obtain ⟨p, r, rfl, hp⟩ := hh
  refine ⟨_, (pss_cons (ps_fld (pv 0) (pe_ix ix_tup (pv 1) pe_int (fun _ _ => rfl)) rfl)
  (pss_cons (ps_fld (pv 0) (pv 1) rfl)
  (pss_cons (ps_fld (pv 0) (pv 2) rfl)
  (pss_cons (ps_fld (pv 0) (pe_lst pa_nil) rfl)
  (pss_cons (ps_fld (pv 0) pe_int rfl)
  (pss_one (ps_fld (pv 0) pe_int rfl))))))), ?_⟩
  fail "b"
  fail "g"
  rename_i H1 w1 H2 w2 H3 w3 il H4 a4 H5 w5 H6 w6 H7 w7
  have hb3 : But sf H H3 := (w1.bt.trans w2.bt).trans w3.bt
  have hi : H3 il = none := a4.nw
  have hne : il ≠ sf := fun e => by rw [e, w3.at_] at hi; cases hi
  have hil : H il = none := by
    cases q : H il with
    | none => rfl
    | some u => rw [hb3 _ _ q hne] at hi; cases hi
  exact k il _ w7.at_ (w7.bt _ _ (w6.bt _ _ (w5.bt _ _ a4.at_ hne) hne) hne) hil ((((hb3.trans (But.of_same a4.sm)).trans w5.bt).trans w6.bt).trans w7.bt)
theorem ok_inner_of (hd : Dd K d_inner_of) : Ok P w K mg base 1 d_inner_of ["e", "level"] spInOf := by
  refine ok_mk hd sc_inner_of bd_inner_of (fun vs H Q X h => ?_) (fun cdv A outer s0 H vs Q X hr h => ?_)
  · obtain ⟨_, _, _, rfl, _⟩ := h
    rfl
  obtain ⟨v, e, ρ, rfl, hee, hwf, k⟩ := h
  refine ⟨_, (pss_cons (ps_set (i := 2) sc_inner_of.nd rfl (Or.inl rfl) (pe_ix ix_tup (pv 0) pe_int (fun _ _ => rfl)))
  (pss_cons (ps_if (pt_cmpR op_in_seq (pv 2) (pe_tup (pa_cons pe_str (pa_cons pe_str (pa_cons pe_str (pa_cons pe_str (pa_cons pe_str (pa_cons pe_str pa_nil))))))) (by with_unfolding_all rfl)) (pss_one (ps_ret (pe_lc (own := [("part", 3)]) (g := (gName 3)) (tt := tYes) rfl sc_inner_of.nd (pi_tup (pe_slice sl_tup (pv 0) (po_some pe_int) po_none)) (blkOk_by (N := ["e", "level", "kind", "part"]) (sc := defScope s_inner_of) (by decide +kernel)) (fun _ _ _ _ _ => pg_name (i := 3) sc_inner_of.nd rfl (Or.inl rfl)) (fun _ _ _ _ _ => pts_nil) (fun _ _ _ _ _ => (pe_tup (pa_cons (pv 3) (pa_cons (pv 1) pa_nil))))))) pss_nil)
  (pss_cons (ps_if (pt_cmpR op_eq (pv 2) pe_str (nomark _)) (pss_one (ps_ret (pe_lst (pa_cons (pe_tup (pa_cons (pe_ix ix_tup (pv 0) pe_int (fun _ _ => rfl)) (pa_cons (pv 1) pa_nil))) pa_nil)))) pss_nil)
  (pss_cons (ps_if (pt_cmpR op_eq (pv 2) pe_str (nomark _)) (pss_one (ps_ret (pe_lst (pa_cons (pe_tup (pa_cons (pe_ix ix_tup (pv 0) pe_int (fun _ _ => rfl)) (pa_cons (pv 1) pa_nil))) (pa_cons (pe_tup (pa_cons (pe_ix ix_tup (pv 0) pe_int (fun _ _ => rfl)) (pa_cons (pv 1) pa_nil))) pa_nil))))) pss_nil)
  (pss_cons (ps_if (pt_cmpR op_eq (pv 2) pe_str (nomark _)) (pss_one (ps_ret (pe_lst (pa_cons (pe_tup (pa_cons (pe_ix ix_tup (pv 0) pe_int (fun _ _ => rfl)) (pa_cons (pe_op op_add (pv 1) pe_int) pa_nil))) (pa_cons (pe_tup (pa_cons (pe_ix ix_tup (pv 0) pe_int (fun _ _ => rfl)) (pa_cons (pv 1) pa_nil))) pa_nil))))) pss_nil)
  (pss_cons (ps_if (pt_cmpR op_eq (pv 2) pe_str (nomark _)) (pss_one (ps_ret (pe_lst (pa_cons (pe_tup (pa_cons (pe_ix ix_tup (pv 0) pe_int (fun _ _ => rfl)) (pa_cons (pe_op op_add (pv 1) pe_int) pa_nil))) pa_nil)))) pss_nil)
  (pss_cons (ps_if (pt_cmpR op_eq (pv 2) pe_str (nomark _)) (pss_one (ps_ret (pe_lc (own := [("part", 3)]) (g := (gName 3)) (tt := tYes) rfl sc_inner_of.nd (pi_list (pe_ix ix_tup (pv 0) pe_int (fun _ _ => rfl))) (blkOk_by (N := ["e", "level", "kind", "part"]) (sc := defScope s_inner_of) (by decide +kernel)) (fun _ _ _ _ _ => pg_name (i := 3) sc_inner_of.nd rfl (Or.inl rfl)) (fun _ _ _ _ _ => pts_nil) (fun _ _ _ _ _ => (pe_tup (pa_cons (pv 3) (pa_cons (pv 1) pa_nil))))))) pss_nil)
  (pss_one (ps_ret (pe_lst pa_nil)))))))))), ?_⟩
  fail "b"
  cases hwf with
  | num n =>
    cases hee with
    | num hp =>
      fail "g"
      exact k _ _ [] _ (by w_dflts lk) (by kspl_open nw) .nil rfl (by kspl_open sm)
  | name hm =>
    cases hee with
    | name hp =>
      fail "g"
      exact k _ _ [] _ (by w_dflts lk) (by kspl_open nw) .nil rfl (by kspl_open sm)
  | fn wa =>
    cases hee with
    | fn hp ha =>
      fail "g"
      exact k _ _ [(_, _)] _ (by w_dflts lk) (by kspl_open nw) (.cons ⟨_, rfl, by w_dflts lk, by fail "e"⟩ .nil) rfl (by kspl_open sm)
  | call wa wb =>
    cases hee with
    | call hp ha hb =>
      fail "g"
      fail "un"
      fail "g"
      exact k _ _ [(_, _), (_, _)] _ (by w_dflts lk) (by kspl_open nw) (.cons ⟨_, rfl, by w_dflts lk, by fail "e"⟩ (.cons ⟨_, rfl, by w_dflts lk, by fail "e"⟩ .nil)) rfl (by kspl_open sm)
  | sum wa wb =>
    cases hee with
    | sum hp ha hb =>
      fail "g"
      fail "un"
      fail "g"
      exact k _ _ [(_, _), (_, _)] _ (by w_dflts lk) (by kspl_open nw) (.cons ⟨_, rfl, by w_dflts lk, by fail "e"⟩ (.cons ⟨_, rfl, by w_dflts lk, by fail "e"⟩ .nil)) rfl (by kspl_open sm)
  | less wa wb =>
    cases hee with
    | less hp ha hb =>
      fail "g"
      fail "un"
      fail "g"
      exact k _ _ [(_, _), (_, _)] _ (by w_dflts lk) (by kspl_open nw) (.cons ⟨_, rfl, by w_dflts lk, by fail "e"⟩ (.cons ⟨_, rfl, by w_dflts lk, by fail "e"⟩ .nil)) rfl (by kspl_open sm)
  | iff wa wb wc =>
    cases hee with
    | iff hp hc ha hb =>
      fail "g"
      fail "un"
      fail "g"
      exact k _ _ [(_, _), (_, _), (_, _)] _ (by w_dflts lk) (by kspl_open nw) (.cons ⟨_, rfl, by w_dflts lk, by fail "e"⟩ (.cons ⟨_, rfl, by w_dflts lk, by fail "e"⟩ (.cons ⟨_, rfl, by w_dflts lk, by fail "e"⟩ .nil))) rfl (by kspl_open sm)
  | lett wa wb =>
    cases hee with
    | lett hp ha hb =>
      fail "g"
      exact k _ _ [(_, _), (_, _)] _ (by w_dflts lk) (by kspl_open nw) (.cons ⟨_, rfl, by w_dflts lk, by fail "e"⟩ (.cons ⟨_, rfl, by w_dflts lk, by fail "e"⟩ .nil)) rfl (by kspl_open sm)
  | say wa =>
    cases hee with
    | say hp ha =>
      fail "g"
      fail "un"
      fail "g"
      exact k _ _ [(_, _)] _ (by w_dflts lk) (by kspl_open nw) (.cons ⟨_, rfl, by w_dflts lk, by fail "e"⟩ .nil) rfl (by kspl_open sm)
end
/-! ## Zju2 -/
open PySem PySem.Spec PyProof.Rows L2
/-! ### the tree of nodes; pend: nodes whose own parts are still to be made -/
inductive NdP (K : PySem.W.Frag) (H : Hp) (lf : Addr) (pend : List (Addr × E)) (dn : List Addr) : Addr → E → Prop where
  | pend {a e} : (a, e) ∈ pend → NdP K H lf pend dn a e
  | n0 {a e dx v il m} : a ∈ dn → H a = some (oNd K dx e v il m) → EAt H v e → il ≠ lf → H il = some (.lst []) → kidsE e = [] → NdP K H lf pend dn a e
  | n1 {a e dx v il m b e1} : a ∈ dn → H a = some (oNd K dx e v il m) → EAt H v e → il ≠ lf → H il = some (.lst [.ref b]) → kidsE e = [e1] → NdP K H lf pend dn b e1 → NdP K H lf pend dn a e
  | n2 {a e dx v il m b e1 c e2} : a ∈ dn → H a = some (oNd K dx e v il m) → EAt H v e → il ≠ lf → H il = some (.lst [.ref b, .ref c]) → kidsE e = [e1, e2] → NdP K H lf pend dn b e1 → NdP K H lf pend dn c e2 → NdP K H lf pend dn a e
  | n3 {a e dx v il m b e1 c e2 d e3} : a ∈ dn → H a = some (oNd K dx e v il m) → EAt H v e → il ≠ lf → H il = some (.lst [.ref b, .ref c, .ref d]) → kidsE e = [e1, e2, e3] → NdP K H lf pend dn b e1 → NdP K H lf pend dn c e2 → NdP K H lf pend dn d e3 → NdP K H lf pend dn a e
theorem NdP.turn {K : PySem.W.Frag} {H H' : Hp} {lf a : Addr} {e : E} {ys pend' : List (Addr × E)} {dn : List Addr} {C dx : Addr} {fs : List (Str × V)} {xs : List V} (hch : ∀ b u, H b = some u → b ≠ a → b ≠ lf → H' b = some u) (fx : Fix H H') (ha : H a = some (.ins C dx fs)) (hl : H lf = some (.lst xs))
    (hsub : ∀ q ∈ ys, q ∈ pend') (hdn : a ∉ dn) (new : NdP K H' lf pend' (a :: dn) a e) {r : Addr} {e0 : E} (h : NdP K H lf (ys ++ [(a, e)]) dn r e0) : NdP K H' lf pend' (a :: dn) r e0 := by
  have nd : ∀ {b : Addr} {C dx : Addr} {fs : List (Str × V)}, b ∈ dn → H b = some (.ins C dx fs) → H' b = some (.ins C dx fs) := fun hb q => hch _ _ q (fun z => hdn (z ▸ hb)) (ne_k q hl (by cases h : knd _ with | zero => simp [knd] at h | succ n => rfl))
  have nl : ∀ {b : Addr} {xs : List V}, b ≠ lf → H b = some (.lst xs) → H' b = some (.lst xs) := fun hb q => hch _ _ q (ne_k q ha (by cases h : knd (.ins C dx fs) with | zero => simp [knd] at h | succ n => rfl)) hb
  induction h with
  | pend hm =>
    rcases List.mem_append.mp hm with q | q
    · exact .pend (hsub _ q)
    · cases List.mem_singleton.mp q
      exact new
  | n0 h1 h2 h3 h4 h5 h6 => exact .n0 (List.mem_cons_of_mem _ h1) (nd h1 h2) (h3.fix fx) h4 (nl h4 h5) h6
  | n1 h1 h2 h3 h4 h5 h6 _ i1 => exact .n1 (List.mem_cons_of_mem _ h1) (nd h1 h2) (h3.fix fx) h4 (nl h4 h5) h6 i1
  | n2 h1 h2 h3 h4 h5 h6 _ _ i1 i2 => exact .n2 (List.mem_cons_of_mem _ h1) (nd h1 h2) (h3.fix fx) h4 (nl h4 h5) h6 i1 i2
  | n3 h1 h2 h3 h4 h5 h6 _ _ _ i1 i2 i3 => exact .n3 (List.mem_cons_of_mem _ h1) (nd h1 h2) (h3.fix fx) h4 (nl h4 h5) h6 i1 i2 i3
theorem NdP.same {K : PySem.W.Frag} {H H' : Hp} {lf : Addr} {pend : List (Addr × E)} {dn : List Addr} (s : Same H H') {r : Addr} {e0 : E} (h : NdP K H lf pend dn r e0) : NdP K H' lf pend dn r e0 := by
  have fx := Fix.of_same s
  induction h with
  | pend hm => exact .pend hm
  | n0 h1 h2 h3 h4 h5 h6 => exact .n0 h1 (s _ _ h2) (h3.fix fx) h4 (s _ _ h5) h6
  | n1 h1 h2 h3 h4 h5 h6 _ i1 => exact .n1 h1 (s _ _ h2) (h3.fix fx) h4 (s _ _ h5) h6 i1
  | n2 h1 h2 h3 h4 h5 h6 _ _ i1 i2 => exact .n2 h1 (s _ _ h2) (h3.fix fx) h4 (s _ _ h5) h6 i1 i2
  | n3 h1 h2 h3 h4 h5 h6 _ _ _ i1 i2 i3 => exact .n3 h1 (s _ _ h2) (h3.fix fx) h4 (s _ _ h5) h6 i1 i2 i3
/-- a node that is still to be opened -/
def Bk (K : PySem.W.Frag) (H : Hp) (q : Addr × E) : Prop := ∃ dx v il m ρ, H q.1 = some (oNd K dx q.2 v il m) ∧ EAt H v q.2 ∧ Wf ρ q.2
theorem wf_kids {ρ : List Str} {e : E} (h : Wf ρ e) : ∀ k ∈ kidsE e, ∃ ρ', Wf ρ' k := by
  cases h <;> simp only [kidsE] <;> intro k hk <;> simp only [List.mem_cons, List.not_mem_nil, or_false] at hk
  case fn h1 => subst hk; exact ⟨_, h1⟩
  case call h1 h2 => rcases hk with rfl | rfl <;> exact ⟨_, by assumption⟩
  case sum h1 h2 => rcases hk with rfl | rfl <;> exact ⟨_, by assumption⟩
  case less h1 h2 => rcases hk with rfl | rfl <;> exact ⟨_, by assumption⟩
  case iff h1 h2 h3 => rcases hk with rfl | rfl | rfl <;> exact ⟨_, by assumption⟩
  case lett h1 h2 => rcases hk with rfl | rfl <;> exact ⟨_, by assumption⟩
  case say h1 => subst hk; exact ⟨_, h1⟩
theorem kids_sz (e : E) {ρ : List Str} (h : Wf ρ e) : ((kidsE e).map E.size).sum + 1 = e.size := by
  cases h <;> simp only [kidsE, List.map_cons, List.map_nil, List.sum_cons, List.sum_nil, E.size] <;> omega
theorem kids_3 (e : E) : (kidsE e).length ≤ 3 := by cases e <;> simp [kidsE]
theorem kd_in {ρ : List Str} {e : E} (h : Wf ρ e) : decide (V.str e.kd = V.str "rule") = false ∧ decide (V.str e.kd = V.str "keep") = false := by
  cases h <;> exact ⟨rfl, rfl⟩
theorem made_none {H : Hp} {x d il : Addr} {o u : HO} (h : (upd (upd H d o) x u) il = none) : H il = none := by
  by_cases q : il = x
  · rw [q, upd_same] at h
    cases h
  · rw [upd_ne q] at h
    by_cases z : il = d
    · rw [z, upd_same] at h
      cases h
    · rwa [upd_ne z] at h
theorem make_node {K : PySem.W.Frag} {H : Hp} {v : V} {e : E} {ρ : List Str} {X : XK} {Q : VK} (hee : EAt H v e) (hwf : Wf ρ e)
    (q : ∀ x il dx H', H' x = some (oNd K dx e v il 0) → H' il = some (.lst []) → H x = none → H il = none → Same H H' → Q (.ref x) H') : kMake (He.ga K "Node") (spNdI K) X Q [v, .int 0] H := by
  intro x dx hx hdx hne
  have sm0 : Same H (upd (upd H dx (.own x)) x (.ins (He.ga K "Node") dx [])) := fun b u hb => by rw [upd_ne (ne_of_none hb hx), upd_ne (ne_of_none hb hdx)]; exact hb
  refine ⟨x, dx, v, e, ρ, rfl, upd_same, hee.fix (Fix.of_same sm0), hwf, fun il H' h1 h2 h3 h4 => ⟨rfl, ?_⟩⟩
  exact q x il dx H' h1 h2 hx (made_none h3) (Same.made hx hdx fun b o e1 n => h4 b o e1 n)
def psum (l : List (Addr × E)) : Nat := (l.map fun q => q.2.size).sum
theorem psum_len : ∀ (l : List (Addr × E)), l.length ≤ psum l
  | [] => Nat.le_refl _
  | x :: r => by
    have h := psum_len r
    have := x.2.size_pos
    unfold psum at h ⊢
    rw [List.map_cons, List.sum_cons, List.length_cons]
    omega
def spNds (K : PySem.W.Frag) : Sp := fun vs H Q _ => ∃ (v : V) (e : E) (ρ : List Str), vs = [v] ∧ EAt H v e ∧ Wf ρ e ∧ e.size ≤ 10000 ∧ ∀ t r ch lf dn H', H' t = some (.tup [.ref r, .ref ch]) → H' ch = some (.dT []) → NdP K H' lf [] dn r e → Same H H' → Q (.ref t) H'
/-- only a and l change; new objects -/
structure Mu2 (a l : Addr) (H H' : Hp) : Prop where
  bt : ∀ b u, H b = some u → b ≠ a → b ≠ l → H' b = some u
  fx : Fix H H'
theorem Mu2.refl (a l : Addr) (H : Hp) : Mu2 a l H H := ⟨fun _ _ h _ _ => h, Fix.refl H⟩
theorem Mu2.wrA {a l : Addr} {H H1 H' : Hp} {o : HO} (m : Mu2 a l H H1) (w : Wr H1 H' a o) : Mu2 a l H H' := ⟨fun b u h n1 n2 => w.bt _ _ (m.bt b u h n1 n2) n1, m.fx.trans w.fx⟩
theorem Mu2.wrL {a l : Addr} {H H1 H' : Hp} {o : HO} (m : Mu2 a l H H1) (w : Wr H1 H' l o) : Mu2 a l H H' := ⟨fun b u h n1 n2 => w.bt _ _ (m.bt b u h n1 n2) n2, m.fx.trans w.fx⟩
theorem Mu2.sm {a l : Addr} {H H1 H' : Hp} (m : Mu2 a l H H1) (s : Same H1 H') : Mu2 a l H H' := ⟨fun b u h n1 n2 => s _ _ (m.bt b u h n1 n2), m.fx.trans (Fix.of_same s)⟩
theorem Mu2.wrN {a l p : Addr} {H H1 H' : Hp} {o : HO} (m : Mu2 a l H H1) (w : Wr H1 H' p o) (h : H p = none) : Mu2 a l H H' := ⟨fun b u h1 n1 n2 => w.bt _ _ (m.bt b u h1 n1 n2) (ne_of_none h1 h), m.fx.trans w.fx⟩
theorem ref_map (ks : List (Addr × E)) : ks.map (fun q => V.ref q.1) = (ks.map (·.1)).map V.ref := by rw [List.map_map]; rfl
theorem turn_end {K : PySem.W.Frag} {H H4 H' : Hp} {lf a dxa D ila r : Addr} {ea e : E} {va : V} {ma mk : Int} {ys ks : List (Addr × E)} {dn : List Addr} {ρa : List Str}
    (hba : H4 a = some (oNd K dxa ea va ila ma)) (hea : EAt H4 va ea) (hwa : Wf ρa ea) (hlf4 : H4 lf = some (.lst ((ys ++ [(a, ea)]).map fun q => .ref q.1)))
    (hpd : ∀ q ∈ ys ++ [(a, ea)], Bk K H4 q ∧ q.1 ∉ dn ∧ H q.1 = none) (hnd : ((ys ++ [(a, ea)]).map (·.1)).Nodup) (htr : NdP K H4 lf (ys ++ [(a, ea)]) dn r e) (hps : psum (ys ++ [(a, ea)]) ≤ e.size) (sm : Same H H4) (hlf0 : H lf = none)
    (hch : ∀ b u, H4 b = some u → b ≠ a → b ≠ lf → H' b = some u) (fx : Fix H4 H') (hlf' : H' lf = some (.lst ((ys.map fun q => V.ref q.1) ++ (ks.map fun q => V.ref q.1).reverse))) (ha' : H' a = some (oNd K dxa ea va D mk)) (hD : H' D = some (.lst (ks.map fun q => V.ref q.1))) (hDl : D ≠ lf)
    (hk : ks.map (·.2) = kidsE ea) (hkn : ∀ q ∈ ks, H4 q.1 = none ∧ Bk K H' q) (hkd : (ks.map (·.1)).Nodup) (hdn : ∀ b ∈ dn, H4 b ≠ none) :
    psum (ys ++ ks.reverse) < psum (ys ++ [(a, ea)]) ∧ H' lf = some (.lst ((ys ++ ks.reverse).map fun q => .ref q.1)) ∧ (∀ q ∈ ys ++ ks.reverse, Bk K H' q ∧ q.1 ∉ a :: dn ∧ H q.1 = none) ∧ ((ys ++ ks.reverse).map (·.1)).Nodup ∧
      NdP K H' lf (ys ++ ks.reverse) (a :: dn) r e ∧ psum (ys ++ ks.reverse) ≤ e.size ∧ Same H H' ∧ ∀ b ∈ a :: dn, H' b ≠ none := by
  have hpe : psum (ys ++ ks.reverse) + 1 = psum (ys ++ [(a, ea)]) := by
    have h1 := kids_sz ea hwa
    have h2 : (ks.map fun q => q.2.size).sum = ((kidsE ea).map E.size).sum := by rw [← hk, List.map_map]; rfl
    unfold psum
    rw [List.map_append, List.map_append, List.sum_append, List.sum_append, List.map_reverse, List.sum_reverse, h2]
    simp only [List.map_cons, List.map_nil, List.sum_cons, List.sum_nil]
    omega
  have hlfa : lf ≠ a := fun z => by rw [z, hba] at hlf4; cases hlf4
  have ha : (a, ea) ∈ ys ++ [(a, ea)] := by simp
  have hndy : (ys.map (·.1)).Nodup ∧ a ∉ ys.map (·.1) := by
    rw [List.map_append] at hnd
    have q := List.nodup_append.mp hnd
    exact ⟨q.1, fun hm => q.2.2 a hm a (by simp) rfl⟩
  refine ⟨by omega, by rw [hlf', List.map_append, List.map_reverse], fun q hq => ?_, ?_, ?_, by omega, fun b u hb => ?_, fun b hb => ?_⟩
  · rcases List.mem_append.mp hq with z | z
    · obtain ⟨⟨dx, v, il, m, ρ, h1, h2, h3⟩, h4, h5⟩ := hpd q (List.mem_append.mpr (.inl z))
      have hqa : q.1 ≠ a := fun w => hndy.2 (List.mem_map.mpr ⟨q, z, w⟩)
      have hql : q.1 ≠ lf := fun w => by rw [w, hlf4] at h1; cases h1
      exact ⟨⟨dx, v, il, m, ρ, hch _ _ h1 hqa hql, h2.fix fx, h3⟩, fun w => by rcases List.mem_cons.mp w with w | w; exact hqa w; exact h4 w, h5⟩
    · have z := List.mem_reverse.mp z
      obtain ⟨h1, h2⟩ := hkn q z
      refine ⟨h2, fun w => ?_, sm.free h1⟩
      rcases List.mem_cons.mp w with w | w
      · rw [w, hba] at h1
        cases h1
      · exact hdn _ w h1
  · rw [List.map_append, List.map_reverse]
    refine List.nodup_append.mpr ⟨hndy.1, List.pairwise_reverse.mpr (hkd.imp Ne.symm), fun x hx y hy e => ?_⟩
    obtain ⟨q, hq, rfl⟩ := List.mem_map.mp hx
    obtain ⟨q2, hq2, rfl⟩ := List.mem_map.mp (List.mem_reverse.mp hy)
    obtain ⟨⟨dx, v, il, m, ρ, h1, _⟩, _⟩ := hpd q (List.mem_append.mpr (.inl hq))
    rw [e, (hkn q2 hq2).1] at h1
    cases h1
  · refine NdP.turn hch fx hba hlf4 (fun q hq => List.mem_append.mpr (.inl hq)) (hpd _ ha).2.1 ?_ htr
    have hm : ∀ q ∈ ks, q ∈ ys ++ ks.reverse := fun q hq => List.mem_append.mpr (.inr (List.mem_reverse.mpr hq))
    have h3 := kids_3 ea
    rw [← hk] at h3
    match ks, hk, hD, hm, h3 with
    | [], hk, hD, hm, _ => exact .n0 List.mem_cons_self ha' (hea.fix fx) hDl hD hk.symm
    | [x], hk, hD, hm, _ => exact .n1 List.mem_cons_self ha' (hea.fix fx) hDl hD hk.symm (.pend (hm x (by simp)))
    | [x, y], hk, hD, hm, _ => exact .n2 List.mem_cons_self ha' (hea.fix fx) hDl hD hk.symm (.pend (hm x (by simp))) (.pend (hm y (by simp)))
    | [x, y, z], hk, hD, hm, _ => exact .n3 List.mem_cons_self ha' (hea.fix fx) hDl hD hk.symm (.pend (hm x (by simp))) (.pend (hm y (by simp))) (.pend (hm z (by simp)))
    | _ :: _ :: _ :: _ :: _, _, _, _, h3 => simp at h3
  · exact hch _ _ (sm _ _ hb) (fun z => by rw [z, (hpd _ ha).2.2] at hb; cases hb) (fun z => by rw [z, hlf0] at hb; cases hb)
  · rcases List.mem_cons.mp hb with z | z
    · rw [z, ha']; exact fun h => nomatch h
    · cases q : H4 b with
      | none => exact fun _ => hdn b z q
      | some u =>
        have hbl : b ≠ a := fun w => (hpd _ ha).2.1 (w ▸ z)
        by_cases w : b = lf
        · rw [w, hlf']; exact fun h => nomatch h
        · rw [hch _ _ q hbl w]; exact fun h => nomatch h
section
variable {P : Program} {w : World} {K : PySem.W.Frag} {mg : Str → Option Value} {base : Heap} [Tx w K mg]
theorem ok_nodes_of (hd : Dd K d_nodes_of) (g_Node_init : Ok P w K mg base 1 d_Node_init ["self", "e", "level"] (spNdI K)) (g_inner_of : Ok P w K mg base 1 d_inner_of ["e", "level"] spInOf) : Ok P w K mg base 3 d_nodes_of ["program"] (spNds K) := by
  obtain ⟨⟨_, G_Node_init, b_Node_init⟩, k_Node_init⟩ := id g_Node_init
  obtain ⟨⟨_, G_inner_of, b_inner_of⟩, k_inner_of⟩ := id g_inner_of
  refine ok_mk hd sc_nodes_of bd_nodes_of (fun vs H Q X h => ?_) (fun cdv A outer s0 H vs Q X hr h => ?_)
  · obtain ⟨_, _, _, rfl, _⟩ := h
    rfl
  obtain ⟨v, e, ρ, rfl, hee, hwf, hsz, k⟩ := h
  refine ⟨_, (pss_cons (ps_set (i := 1) sc_nodes_of.nd rfl (Or.inl rfl) (pe_make (CF.mk (K := K) (by decide +kernel)) G_Node_init (hr.mono (by omega)) rfl (Tx.gl (K := K) "Node" (by decide +kernel)) b_Node_init .nil pass0 (pa_cons (pv 0) (pa_cons pe_int pa_nil))))
  (pss_cons (ps_set (i := 2) sc_nodes_of.nd rfl (Or.inl rfl) pe_dnewT)
  (pss_cons (ps_set (i := 3) sc_nodes_of.nd rfl (Or.inl rfl) pe_int)
  (pss_cons (ps_set (i := 4) sc_nodes_of.nd rfl (Or.inl rfl) pe_int)
  (pss_cons (ps_set (i := 5) sc_nodes_of.nd rfl (Or.inl rfl) (pe_lst (pa_cons (pv 1) pa_nil)))
  (pss_cons (ps_while PassesOwn.never (pt_truth1 (pv 5) (by intro _; rfl)) (pss_cons (ps_set (i := 6) sc_nodes_of.nd rfl (Or.inl rfl) (pe_bm0 PySem.F.plainAttrs_list PySem.F.slot_list_pop PySem.F.type_list_pop mt_pop (pv 5)))
  (pss_cons (ps_aug (i := 4) sc_nodes_of.nd rfl (Or.inl rfl) pe_int ip_add)
  (pss_cons (ps_fld (pv 6) (pv 4) rfl)
  (pss_cons (ps_if (PW.pt (pw_or (pt_cmpR op_eq (pe_fld (pv 6) rfl) pe_str (nomark _)) (pw_or1 (pt_cmpR op_eq (pe_fld (pv 6) rfl) pe_str (nomark _))))) pss_never pss_nil)
  (pss_cons (ps_fld (pv 6) (pe_lc (own := [("e", 8), ("level", 9)]) (g := (gTup K 2 (gCons (gName 8) (gCons (gName 9) (gNil))))) (tt := tYes) rfl sc_nodes_of.nd (pi_list (pe_call G_inner_of (hr.mono (by omega)) rfl (Tx.gl (K := K) "inner_of" (by decide +kernel)) k_inner_of b_inner_of .nil pass0 (pa_cons (pe_fld (pv 6) rfl) (pa_cons (pe_fld (pv 6) rfl) pa_nil)))) (blkOk_by (N := ["program", "root", "changes", "count", "marks", "left", "node", "place", "e", "level"]) (sc := defScope s_nodes_of) (by decide +kernel)) (fun _ _ _ _ _ => pg_tup rfl (pgs_cons (pg_name (i := 8) sc_nodes_of.nd rfl (Or.inl rfl)) (pgs_cons (pg_name (i := 9) sc_nodes_of.nd rfl (Or.inl rfl)) pgs_nil))) (fun _ _ _ _ _ => pts_nil) (fun _ _ _ _ _ => (pe_make (CF.mk (K := K) (by decide +kernel)) G_Node_init (hr.mono (by omega)) rfl (Tx.gl (K := K) "Node" (by decide +kernel)) b_Node_init .nil pass0 (pa_cons (pv 8) (pa_cons (pv 9) pa_nil))))) rfl)
  (pss_one (ps_expr (pe_bm PySem.F.plainAttrs_list PySem.F.slot_list_extend PySem.F.type_list_extend mt_extend (pv 5) (pa_cons (pe_revL (pe_fld (pv 6) rfl)) pa_nil))))))))))
  (pss_one (ps_ret (pe_tup (pa_cons (pv 1) (pa_cons (pv 2) pa_nil))))))))))), ?_⟩
  fail "b"
  fail "g"
  refine make_node hee hwf fun r il dx H1 hr1 hil1 hr0 hil0 sm1 => ?_
  fail "g"
  rename_i ch H2 a2 lf H3 a3
  refine s_while (fun m σ H' => ∃ (pend : List (Addr × E)) (dn : List Addr) (mk : Int) (y : Option V), σ = [some v, some (.ref r), some (.ref ch), some (.int 0), some (.int mk), some (.ref lf), y, none, none, none] ∧
    H' ch = some (.dT []) ∧ m = psum pend ∧ H lf = none ∧ H' lf = some (.lst (pend.map fun q => .ref q.1)) ∧ (∀ q ∈ pend, Bk K H' q ∧ q.1 ∉ dn ∧ H q.1 = none) ∧ (pend.map (·.1)).Nodup ∧ NdP K H' lf pend dn r e ∧ psum pend ≤ e.size ∧ Same H H' ∧ ∀ b ∈ dn, H' b ≠ none) e.size
    ⟨[(r, e)], [], 0, none, rfl, by w_dflts lk, by simp [psum], by kspl_open nw, a3.at_, fun q hq => ?_, by simp, .pend (by simp), by simp [psum], by kspl_open sm, fun b hb => by cases hb⟩ ?_
  · cases List.mem_singleton.mp hq
    exact ⟨⟨dx, v, il, 0, ρ, by w_dflts lk, by fail "e", hwf⟩, by simp, hr0⟩
  rintro m σ H4 ⟨pend, dn, mk, y, rfl, hch, rfl, hlf0, hlf, hpd, hnd, htr, hps, sm, hdn⟩
  fail "g"
  rcases List.eq_nil_or_concat pend with rfl | ⟨ys, ⟨a, ea⟩, rfl⟩
  · refine i_f rfl ?_
    fail "g"
    rename_i t H5 a5
    refine k t r ch lf dn _ a5.at_ (by w_dflts lk) ?_ (sm.trans a5.sm)
    exact htr.same a5.sm
  · refine i_t (by simp) ?_
    rw [List.concat_eq_append] at hlf hpd hnd htr hps ⊢
    have hlf2 := hlf
    rw [List.map_append] at hlf2
    obtain ⟨⟨dxa, va, ila, ma, ρa, hba, hea, hwa⟩, hadn, ha0⟩ := hpd (a, ea) (by simp)
    have hba : H4 a = some (oNd K dxa ea va ila ma) := hba
    have hlen : ys.length ≤ 10000 := by
      have q := psum_len (ys ++ [(a, ea)])
      rw [List.length_append] at q
      omega
    obtain ⟨hk1, hk2⟩ := kd_in hwa
    fail "g"
    refine i_f hk1 ?_
    fail "g"
    refine i_f hk2 ?_
    fail "g"
    rename_i H5 w5 H6 w6
    have hcl : ∀ (ks : List (Addr × E)) (D : Addr) (H' : Hp), Mu2 a lf H4 H' → H' lf = some (.lst ((ys.map fun q => V.ref q.1) ++ (ks.map fun q => V.ref q.1).reverse)) → H' a = some (oNd K dxa ea va D (mk + 1)) → H' D = some (.lst (ks.map fun q => V.ref q.1)) → D ≠ lf → ks.map (·.2) = kidsE ea →
        (∀ q ∈ ks, H4 q.1 = none ∧ Bk K H' q) → (ks.map (·.1)).Nodup → H' ch = some (.dT []) → ∃ m', m' < psum (ys ++ [(a, ea)]) ∧ ∃ (pend : List (Addr × E)) (dn : List Addr) (mk' : Int) (y : Option V), [some v, some (V.ref r), some (.ref ch), some (.int 0), some (.int (mk + 1)), some (.ref lf), some (.ref a), none, none, none] = [some v, some (.ref r), some (.ref ch), some (.int 0), some (.int mk'), some (.ref lf), y, none, none, none] ∧
    H' ch = some (.dT []) ∧ m' = psum pend ∧ H lf = none ∧ H' lf = some (.lst (pend.map fun q => .ref q.1)) ∧ (∀ q ∈ pend, Bk K H' q ∧ q.1 ∉ dn ∧ H q.1 = none) ∧ (pend.map (·.1)).Nodup ∧ NdP K H' lf pend dn r e ∧ psum pend ≤ e.size ∧ Same H H' ∧ ∀ b ∈ dn, H' b ≠ none := by
      intro ks D H' hm h1 h2 h3 h4 h5 h6 h7 h8
      obtain ⟨t1, t2, t3, t4, t5, t6, t7, t8⟩ := turn_end hba hea hwa hlf hpd hnd htr hps sm hlf0 hm.bt hm.fx h1 h2 h3 h4 h5 h6 h7 hdn
      exact ⟨_, t1, _, _, _, _, rfl, h8, rfl, hlf0, t2, t3, t4, t5, t6, t7, t8⟩
    have hal : a ≠ lf := fun z => by rw [z, hlf] at hba; cases hba
    have hchl : ch ≠ lf := fun z => by rw [z, hlf] at hch; cases hch
    have hcha : ch ≠ a := fun z => by rw [z, hba] at hch; cases hch
    have hsl : (ys.map fun q => V.ref q.1).length + 4 ≤ sizeLine := by
      rw [List.length_map]
      exact Nat.le_trans (show _ ≤ 10004 by omega) (by decide)
    refine ⟨va, ea, ρa, rfl, (hea.fix w5.fx).fix w6.fx, hwa, fun l ts zs H7 hl7 hl0 hf hz sm7 => ?_⟩
    fail "g"
    cases hf with
    | nil =>
      fail "un"
      fail "g"
      rename_i D H8 a8 H9 w9 l10 H10 a10
      have hDn : H4 D = none := by kspl_open nw
      have hDl : D ≠ lf := Ne.symm (ne_of_none hlf hDn)
      have hDa : D ≠ a := Ne.symm (ne_of_none hba hDn)
      have hDc : D ≠ ch := Ne.symm (ne_of_none hch hDn)
      have hlf2 : H10 lf = some (.lst (ys.map fun q => V.ref q.1)) := by w_dflts lk
      refine s_ext hlf2 a10.at_ (by simp only [List.length_reverse, List.length_append, List.length_cons, List.length_nil]; omega) fun H11 w11 => ?_
      refine hcl [] D H11 ((((Mu2.refl a lf H4).wrL w5).wrA w6).sm sm7 |>.sm a8.sm |>.wrA w9 |>.sm a10.sm |>.wrL w11) w11.at_ (by w_dflts lk) (by w_dflts lk) hDl hz ?_ ?_ (by w_dflts lk)
      · intro q hq; cases hq
      · exact List.nodup_nil
    | @cons z1 t1 _ _ h1 hf =>
      obtain ⟨p1, rfl, hp1, he1⟩ := h1
      obtain ⟨ρ1, wk1⟩ := wf_kids hwa z1.2 (by rw [← hz]; simp)
      cases hf with
      | nil =>
        fail "un"
        fail "g"
        rename_i D H8 a8
        refine make_node (e := z1.2) (by fail "e") wk1 fun x1 il1 dx1 Hn1 hx1 hil1 hx10 hil10 sn1 => ?_
        have nD1 : D ≠ x1 := ne_of_none (by w_dflts lk) hx10
        have na1 : a ≠ x1 := ne_of_none (by w_dflts lk) hx10
        have nl1 : lf ≠ x1 := ne_of_none (by w_dflts lk) hx10
        fail "g"
        rename_i Hd1 wd1 H9 w9 l10 H10 a10
        have hDn : H4 D = none := by kspl_open nw
        have hDl : D ≠ lf := Ne.symm (ne_of_none hlf hDn)
        have hDa : D ≠ a := Ne.symm (ne_of_none hba hDn)
        have hDc : D ≠ ch := Ne.symm (ne_of_none hch hDn)
        have hlf2 : H10 lf = some (.lst (ys.map fun q => V.ref q.1)) := by w_dflts lk
        refine s_ext hlf2 a10.at_ (by simp only [List.length_reverse, List.length_append, List.length_cons, List.length_nil]; omega) fun H11 w11 => ?_
        refine hcl [(x1, z1.2)] D H11 ((((Mu2.refl a lf H4).wrL w5).wrA w6).sm sm7 |>.sm a8.sm |>.sm sn1 |>.wrN wd1 hDn |>.wrA w9 |>.sm a10.sm |>.wrL w11) w11.at_ (by w_dflts lk) (by w_dflts lk) hDl hz ?_ ?_ (by w_dflts lk)
        · intro q hq
          simp only [List.mem_cons, List.not_mem_nil, or_false] at hq
          subst hq
          · exact ⟨by kspl_open nw, dx1, z1.1, il1, 0, ρ1, by w_dflts lk, by fail "e", wk1⟩
        · simp
      | @cons z2 t2 _ _ h2 hf =>
        obtain ⟨p2, rfl, hp2, he2⟩ := h2
        obtain ⟨ρ2, wk2⟩ := wf_kids hwa z2.2 (by rw [← hz]; simp)
        cases hf with
        | nil =>
          fail "un"
          fail "g"
          rename_i D H8 a8
          refine make_node (e := z1.2) (by fail "e") wk1 fun x1 il1 dx1 Hn1 hx1 hil1 hx10 hil10 sn1 => ?_
          have nD1 : D ≠ x1 := ne_of_none (by w_dflts lk) hx10
          have na1 : a ≠ x1 := ne_of_none (by w_dflts lk) hx10
          have nl1 : lf ≠ x1 := ne_of_none (by w_dflts lk) hx10
          fail "g"
          rename_i Hd1 wd1
          refine make_node (e := z2.2) (by fail "e") wk2 fun x2 il2 dx2 Hn2 hx2 hil2 hx20 hil20 sn2 => ?_
          have nD2 : D ≠ x2 := ne_of_none (by w_dflts lk) hx20
          have na2 : a ≠ x2 := ne_of_none (by w_dflts lk) hx20
          have nl2 : lf ≠ x2 := ne_of_none (by w_dflts lk) hx20
          have nx12 : x1 ≠ x2 := ne_of_none (by w_dflts lk) hx20
          fail "g"
          rename_i Hd2 wd2 H9 w9 l10 H10 a10
          have hDn : H4 D = none := by kspl_open nw
          have hDl : D ≠ lf := Ne.symm (ne_of_none hlf hDn)
          have hDa : D ≠ a := Ne.symm (ne_of_none hba hDn)
          have hDc : D ≠ ch := Ne.symm (ne_of_none hch hDn)
          have hlf2 : H10 lf = some (.lst (ys.map fun q => V.ref q.1)) := by w_dflts lk
          refine s_ext hlf2 a10.at_ (by simp only [List.length_reverse, List.length_append, List.length_cons, List.length_nil]; omega) fun H11 w11 => ?_
          refine hcl [(x1, z1.2), (x2, z2.2)] D H11 ((((Mu2.refl a lf H4).wrL w5).wrA w6).sm sm7 |>.sm a8.sm |>.sm sn1 |>.wrN wd1 hDn |>.sm sn2 |>.wrN wd2 hDn |>.wrA w9 |>.sm a10.sm |>.wrL w11) w11.at_ (by w_dflts lk) (by w_dflts lk) hDl hz ?_ ?_ (by w_dflts lk)
          · intro q hq
            simp only [List.mem_cons, List.not_mem_nil, or_false] at hq
            rcases hq with rfl | rfl
            · exact ⟨by kspl_open nw, dx1, z1.1, il1, 0, ρ1, by w_dflts lk, by fail "e", wk1⟩
            · exact ⟨by kspl_open nw, dx2, z2.1, il2, 0, ρ2, by w_dflts lk, by fail "e", wk2⟩
          · simp only [List.map_cons, List.map_nil, List.nodup_cons, List.mem_cons, List.not_mem_nil, or_false, not_or, not_false_eq_true, List.nodup_nil, and_true]
            exact nx12
        | @cons z3 t3 _ _ h3 hf =>
          obtain ⟨p3, rfl, hp3, he3⟩ := h3
          obtain ⟨ρ3, wk3⟩ := wf_kids hwa z3.2 (by rw [← hz]; simp)
          cases hf with
          | nil =>
            fail "un"
            fail "g"
            rename_i D H8 a8
            refine make_node (e := z1.2) (by fail "e") wk1 fun x1 il1 dx1 Hn1 hx1 hil1 hx10 hil10 sn1 => ?_
            have nD1 : D ≠ x1 := ne_of_none (by w_dflts lk) hx10
            have na1 : a ≠ x1 := ne_of_none (by w_dflts lk) hx10
            have nl1 : lf ≠ x1 := ne_of_none (by w_dflts lk) hx10
            fail "g"
            rename_i Hd1 wd1
            refine make_node (e := z2.2) (by fail "e") wk2 fun x2 il2 dx2 Hn2 hx2 hil2 hx20 hil20 sn2 => ?_
            have nD2 : D ≠ x2 := ne_of_none (by w_dflts lk) hx20
            have na2 : a ≠ x2 := ne_of_none (by w_dflts lk) hx20
            have nl2 : lf ≠ x2 := ne_of_none (by w_dflts lk) hx20
            have nx12 : x1 ≠ x2 := ne_of_none (by w_dflts lk) hx20
            fail "g"
            rename_i Hd2 wd2
            refine make_node (e := z3.2) (by fail "e") wk3 fun x3 il3 dx3 Hn3 hx3 hil3 hx30 hil30 sn3 => ?_
            have nD3 : D ≠ x3 := ne_of_none (by w_dflts lk) hx30
            have na3 : a ≠ x3 := ne_of_none (by w_dflts lk) hx30
            have nl3 : lf ≠ x3 := ne_of_none (by w_dflts lk) hx30
            have nx13 : x1 ≠ x3 := ne_of_none (by w_dflts lk) hx30
            have nx23 : x2 ≠ x3 := ne_of_none (by w_dflts lk) hx30
            fail "g"
            rename_i Hd3 wd3 H9 w9 l10 H10 a10
            have hDn : H4 D = none := by kspl_open nw
            have hDl : D ≠ lf := Ne.symm (ne_of_none hlf hDn)
            have hDa : D ≠ a := Ne.symm (ne_of_none hba hDn)
            have hDc : D ≠ ch := Ne.symm (ne_of_none hch hDn)
            have hlf2 : H10 lf = some (.lst (ys.map fun q => V.ref q.1)) := by w_dflts lk
            refine s_ext hlf2 a10.at_ (by simp only [List.length_reverse, List.length_append, List.length_cons, List.length_nil]; omega) fun H11 w11 => ?_
            refine hcl [(x1, z1.2), (x2, z2.2), (x3, z3.2)] D H11 ((((Mu2.refl a lf H4).wrL w5).wrA w6).sm sm7 |>.sm a8.sm |>.sm sn1 |>.wrN wd1 hDn |>.sm sn2 |>.wrN wd2 hDn |>.sm sn3 |>.wrN wd3 hDn |>.wrA w9 |>.sm a10.sm |>.wrL w11) w11.at_ (by w_dflts lk) (by w_dflts lk) hDl hz ?_ ?_ (by w_dflts lk)
            · intro q hq
              simp only [List.mem_cons, List.not_mem_nil, or_false] at hq
              rcases hq with rfl | rfl | rfl
              · exact ⟨by kspl_open nw, dx1, z1.1, il1, 0, ρ1, by w_dflts lk, by fail "e", wk1⟩
              · exact ⟨by kspl_open nw, dx2, z2.1, il2, 0, ρ2, by w_dflts lk, by fail "e", wk2⟩
              · exact ⟨by kspl_open nw, dx3, z3.1, il3, 0, ρ3, by w_dflts lk, by fail "e", wk3⟩
            · simp only [List.map_cons, List.map_nil, List.nodup_cons, List.mem_cons, List.not_mem_nil, or_false, not_or, not_false_eq_true, List.nodup_nil, and_true]
              exact ⟨⟨nx12, nx13⟩, nx23⟩
          | cons h hf =>
            have := kids_3 ea
            rw [← hz] at this
            simp at this
end
/-! ## Zju3 -/
open PySem PySem.Spec PyProof.Rows L2
/-! ### places, scopes -/
abbrev oPl (K : PySem.W.Frag) (dx nd pd : Addr) : HO := .ins (He.ga K "Place") dx [("node", .ref nd), ("names", .ref pd), ("about", .non)]
abbrev oSc (K : PySem.W.Frag) (dx : Addr) (y : Str) (i : Int) (v : V) : HO := .ins (He.ga K "Scope") dx [("name", .str y), ("what", .int i), ("around", v)]
abbrev oJg (K : PySem.W.Frag) (dx ch lf sn kn : Addr) (m : Int) : HO := .ins (He.ga K "Judge") dx [("changes", .ref ch), ("left", .ref lf), ("seen", .ref sn), ("many", .int m), ("known", .ref kn)]
inductive ScAt (K : PySem.W.Frag) (H : Hp) : V → List (Str × Int) → Prop where
  | nil : ScAt K H .non []
  | cons {p dx y i v sc} : H p = some (oSc K dx y i v) → ScAt K H v sc → ScAt K H (.ref p) ((y, i) :: sc)
theorem ScAt.fix {K : PySem.W.Frag} {H H' : Hp} (f : Fix H H') {v : V} {sc : List (Str × Int)} (h : ScAt K H v sc) : ScAt K H' v sc := by
  induction h with
  | nil => exact .nil
  | cons h _ i => exact .cons (f _ _ h rfl) i
def spScI (K : PySem.W.Frag) : Sp := fun vs H Q _ => ∃ (sf dx : Addr) (y : Str) (i : Int) (v : V), vs = [.ref sf, .str y, .int i, v] ∧ H sf = some (.ins (He.ga K "Scope") dx []) ∧ ∀ H', H' sf = some (oSc K dx y i v) → But sf H H' → Q .non H'
def spPlI (K : PySem.W.Frag) : Sp := fun vs H Q _ => ∃ (sf dx nd pd : Addr), vs = [.ref sf, .ref nd, .ref pd, .non] ∧ H sf = some (.ins (He.ga K "Place") dx []) ∧ ∀ H', H' sf = some (oPl K dx nd pd) → But sf H H' → Q .non H'
def spFou (K : PySem.W.Frag) : Sp := fun vs H Q _ => ∃ (v : V) (sc : List (Str × Int)) (y : Str) (i : Int), vs = [v, .str y] ∧ ScAt K H v sc ∧ sc.lookup y = some i ∧ ∀ p dx z u H', H' p = some (oSc K dx z i u) → Same H H' → Q (.ref p) H'
def spPAt (K : PySem.W.Frag) : Sp := fun vs H Q _ => ∃ (sf dx nd pd n2 : Addr), vs = [.ref sf, .ref n2] ∧ H sf = some (oPl K dx nd pd) ∧ ∀ p dx' H', H' p = some (oPl K dx' n2 pd) → Same H H' → Q (.ref p) H'
def spPBd (K : PySem.W.Frag) : Sp := fun vs H Q _ => ∃ (sf dx nd pd n2 : Addr) (x : Str) (i : Int) (kvs : List (Key × V)), vs = [.ref sf, .ref n2, .str x, .int i] ∧ H sf = some (oPl K dx nd pd) ∧ H pd = some (.dK kvs) ∧ kvs.length < 100000 ∧ ∀ p dx' pd' H', H' p = some (oPl K dx' n2 pd') → H' pd' = some (.dK (putK kvs (.inr x) (.int i))) → Same H H' → Q (.ref p) H'
def spJNu (K : PySem.W.Frag) : Sp := fun vs H Q _ => ∃ (sf dx ch lf sn kn : Addr) (m : Int), vs = [.ref sf] ∧ H sf = some (oJg K dx ch lf sn kn m) ∧ ∀ H', Wr H H' sf (oJg K dx ch lf sn kn (m + 1)) → Q (.int (m + 1)) H'
def spJDu (K : PySem.W.Frag) : Sp := fun vs H Q _ => ∃ (sf dx ch lf sn kn : Addr) (m : Int) (q p b n d : V) (xs : List V), vs = [.ref sf, q, p, b, n, d] ∧ H sf = some (oJg K dx ch lf sn kn m) ∧ H lf = some (.lst xs) ∧ xs.length < 100000 ∧ ∀ t H1 H', Al H H1 t (.tup [q, p, b, n, d]) → Wr H1 H' lf (.lst (xs ++ [.ref t])) → Q (.bl true) H'
def spJRu (K : PySem.W.Frag) : Sp := fun vs H Q _ => ∃ (sf dx ch lf sn kn nd dxn il : Addr) (e : E) (v : V) (m mk : Int) (ρ : List Str), vs = [.ref sf, .ref nd] ∧ H sf = some (oJg K dx ch lf sn kn m) ∧ H nd = some (oNd K dxn e v il mk) ∧ Wf ρ e ∧ H ch = some (.dT []) ∧ ∀ l H', H' l = some (.lst []) → Same H H' → Q (.ref l) H'
theorem kd_w {ρ : List Str} {e : E} (h : Wf ρ e) : inV (.str e.kd) kindsW = true := by cases h <;> exact rfl
/-- behind C(..): the new instance, whole -/
theorem make_whole {C : Addr} {sp : Sp} {X : XK} {Q : VK} {vs : List V} {H : Hp} {fs : List (Str × V)} (hs : ∀ x dx H0 (R : VK), H0 x = some (.ins C dx []) → Same H H0 → (∀ H', H' x = some (.ins C dx fs) → But x H0 H' → R .non H') → sp (.ref x :: (vs ++ [])) H0 R X)
    (q : ∀ x dx H', Al H H' x (.ins C dx fs) → Q (.ref x) H') : kMake C sp X Q vs H := by
  intro x dx hx hdx hne
  have sm0 : Same H (upd (upd H dx (.own x)) x (.ins C dx [])) := fun b u hb => by rw [upd_ne (ne_of_none hb hx), upd_ne (ne_of_none hb hdx)]; exact hb
  exact hs x dx _ _ upd_same sm0 fun H' e k => ⟨rfl, q x dx H' ⟨hx, e, Same.made hx hdx fun b o e1 n => k b o e1 n⟩⟩
section
variable {P : Program} {w : World} {K : PySem.W.Frag} {mg : Str → Option Value} {base : Heap} [Tx w K mg]
theorem ok_Scope_init (hd : Dd K d_Scope_init) : Ok P w K mg base 1 d_Scope_init ["self", "name", "what", "around"] (spScI K) := by
  refine ok_mk hd sc_Scope_init bd_Scope_init (fun vs H Q X h => ?_) (fun cdv A outer s0 H vs Q X hr h => ?_)
  · obtain ⟨_, _, _, _, _, rfl, _⟩ := h
    rfl
  obtain ⟨sf, dx, y, i, v, rfl, hs, k⟩ := h
  refine ⟨_, (pss_cons (ps_fld (pv 0) (pv 1) rfl)
  (pss_cons (ps_fld (pv 0) (pv 2) rfl)
  (pss_one (ps_fld (pv 0) (pv 3) rfl)))), ?_⟩
  fail "b"
  fail "g"
  rename_i H1 w1 H2 w2 H3 w3
  exact k _ w3.at_ ((w1.bt.trans w2.bt).trans w3.bt)
theorem ok_Place_init (hd : Dd K d_Place_init) : Ok P w K mg base 1 d_Place_init ["self", "node", "names", "about"] (spPlI K) := by
  refine ok_mk hd sc_Place_init bd_Place_init (fun vs H Q X h => ?_) (fun cdv A outer s0 H vs Q X hr h => ?_)
  · obtain ⟨_, _, _, _, rfl, _⟩ := h
    rfl
  obtain ⟨sf, dx, nd, pd, rfl, hs, k⟩ := h
  refine ⟨_, (pss_cons (ps_fld (pv 0) (pv 1) rfl)
  (pss_cons (ps_fld (pv 0) (pv 2) rfl)
  (pss_one (ps_fld (pv 0) (pv 3) rfl)))), ?_⟩
  fail "b"
  fail "g"
  rename_i H1 w1 H2 w2 H3 w3
  exact k _ w3.at_ ((w1.bt.trans w2.bt).trans w3.bt)
theorem ok_found_in (hd : Dd K d_found_in) : Ok P w K mg base 1 d_found_in ["scope", "name"] (spFou K) := by
  refine ok_mk hd sc_found_in bd_found_in (fun vs H Q X h => ?_) (fun cdv A outer s0 H vs Q X hr h => ?_)
  · obtain ⟨_, _, _, _, rfl, _⟩ := h
    rfl
  obtain ⟨v, sc, y, i, rfl, hsc, hl, k⟩ := h
  refine ⟨_, (pss_cons (ps_while PassesOwn.never (pt_cmpR op_notN1 (pv 0) pe_non (nomark _)) (pss_cons (ps_if (pt_cmpR op_eq (pe_fld (pv 0) rfl) (pv 1) (nomark _)) (pss_one (ps_ret (pv 0))) pss_nil)
  (pss_one (ps_set (i := 0) sc_found_in.nd rfl (Or.inl rfl) (pe_fld (pv 0) rfl)))))
  (pss_one (ps_ret pe_non))), ?_⟩
  fail "b"
  fail "g"
  refine s_while (fun m σ H1 => ∃ (v : V) (sc : List (Str × Int)), σ = [some v, some (.str y)] ∧ ScAt K H1 v sc ∧ sc.lookup y = some i ∧ m = sc.length ∧ Same H H1) sc.length ⟨v, sc, rfl, hsc, hl, rfl, Same.refl _⟩ ?_
  rintro m σ H1 ⟨v, sc, rfl, hsc, hl, rfl, sm⟩
  cases hsc with
  | nil => cases hl
  | @cons p dx z j u sc hp hr2 =>
    fail "g"
    rw [lookup_cons'] at hl
    refine ite2 (fun hz => ?_) (fun hz => ?_)
    · have hz2 : z = y := by
        have := of_decide_eq_true hz
        cases this
        rfl
      rw [if_pos hz2.symm] at hl
      cases hl
      fail "g"
      exact k _ _ _ _ _ hp sm
    · have hz2 : ¬ y = z := fun e => hz (decide_eq_true (by rw [e]))
      rw [if_neg hz2] at hl
      fail "g"
      exact ⟨sc.length, by simp, u, sc, rfl, hr2, hl, rfl, sm⟩
theorem ok_Place_at (hd : Dd K d_Place_at) (g_Place_init : Ok P w K mg base 1 d_Place_init ["self", "node", "names", "about"] (spPlI K)) : Ok P w K mg base 3 d_Place_at ["self", "node"] (spPAt K) := by
  obtain ⟨⟨_, G_Place_init, b_Place_init⟩, k_Place_init⟩ := id g_Place_init
  refine ok_mk hd sc_Place_at bd_Place_at (fun vs H Q X h => ?_) (fun cdv A outer s0 H vs Q X hr h => ?_)
  · obtain ⟨_, _, _, _, _, rfl, _⟩ := h
    rfl
  obtain ⟨sf, dx, nd, pd, n2, rfl, hs, k⟩ := h
  refine ⟨_, (pss_one (ps_ret (pe_make (CF.mk (K := K) (by decide +kernel)) G_Place_init (hr.mono (by omega)) rfl (Tx.gl (K := K) "Place" (by decide +kernel)) b_Place_init .nil pass0 (pa_cons (pv 1) (pa_cons (pe_fld (pv 0) rfl) (pa_cons (pe_fld (pv 0) rfl) pa_nil)))))), ?_⟩
  fail "b"
  fail "g"
  refine make_whole (fs := [("node", .ref n2), ("names", .ref pd), ("about", .non)]) (fun x dx H0 R h0 s0 h1 => ⟨x, dx, n2, pd, rfl, h0, h1⟩) fun x dx H1 a1 => ?_
  exact k _ _ _ a1.at_ a1.sm
theorem ok_Place_bound (hd : Dd K d_Place_bound) (g_Place_init : Ok P w K mg base 1 d_Place_init ["self", "node", "names", "about"] (spPlI K)) : Ok P w K mg base 3 d_Place_bound ["self", "node", "x", "number"] (spPBd K) := by
  obtain ⟨⟨_, G_Place_init, b_Place_init⟩, k_Place_init⟩ := id g_Place_init
  refine ok_mk hd sc_Place_bound bd_Place_bound (fun vs H Q X h => ?_) (fun cdv A outer s0 H vs Q X hr h => ?_)
  · obtain ⟨_, _, _, _, _, _, _, _, rfl, _⟩ := h
    rfl
  obtain ⟨sf, dx, nd, pd, n2, x, i, kvs, rfl, hs, hpd, hl, k⟩ := h
  have hz : kvs.length < sizeLine := Nat.lt_of_lt_of_le hl (by decide)
  refine ⟨_, (pss_cons (ps_set (i := 4) sc_Place_bound.nd rfl (Or.inl rfl) (pe_callTy call_dictD1 rfl (Tx.fr (K := K) "dict" (by decide +kernel)) (by decide +kernel) (pa_cons (pe_fld (pv 0) rfl) pa_nil)))
  (pss_cons (ps_dput (hu_of hr) (pv 4) (pv 2) (pv 3) rfl)
  (pss_one (ps_ret (pe_make (CF.mk (K := K) (by decide +kernel)) G_Place_init (hr.mono (by omega)) rfl (Tx.gl (K := K) "Place" (by decide +kernel)) b_Place_init .nil pass0 (pa_cons (pv 1) (pa_cons (pv 4) (pa_cons (pe_fld (pv 0) rfl) pa_nil)))))))), ?_⟩
  fail "b"
  fail "g"
  rename_i d H0a a0 H1 a1
  refine make_whole (fs := [("node", .ref n2), ("names", .ref d), ("about", .non)]) (fun x dx H0 R h0 s0 h1 => ⟨x, dx, n2, d, rfl, h0, h1⟩) fun x dx H2 a2 => ?_
  exact k _ _ _ _ a2.at_ (by w_dflts lk) (by kspl_open sm)
theorem ok_Judge_number (hd : Dd K d_Judge_number) : Ok P w K mg base 1 d_Judge_number ["self"] (spJNu K) := by
  refine ok_mk hd sc_Judge_number bd_Judge_number (fun vs H Q X h => ?_) (fun cdv A outer s0 H vs Q X hr h => ?_)
  · obtain ⟨_, _, _, _, _, _, _, rfl, _⟩ := h
    rfl
  obtain ⟨sf, dx, ch, lf, sn, kn, m, rfl, hs, k⟩ := h
  refine ⟨_, (pss_cons (ps_fldaug (pv 0) pe_int in_add)
  (pss_one (ps_ret (pe_fld (pv 0) rfl)))), ?_⟩
  fail "b"
  fail "g"
  rename_i H1 w1
  exact k _ w1
theorem ok_Judge_due (hd : Dd K d_Judge_due) : Ok P w K mg base 1 d_Judge_due ["self", "q", "place", "built_in", "names", "delays"] (spJDu K) := by
  refine ok_mk hd sc_Judge_due bd_Judge_due (fun vs H Q X h => ?_) (fun cdv A outer s0 H vs Q X hr h => ?_)
  · obtain ⟨_, _, _, _, _, _, _, _, _, _, _, _, _, rfl, _⟩ := h
    rfl
  obtain ⟨sf, dx, ch, lf, sn, kn, m, q, p, b, n, d, xs, rfl, hs, hl, hln, k⟩ := h
  have hz : xs.length < sizeLine := Nat.lt_of_lt_of_le hln (by decide)
  refine ⟨_, (pss_cons (ps_expr (pe_bm PySem.F.plainAttrs_list PySem.F.slot_list_append PySem.F.type_list_append mt_append (pe_fld (pv 0) rfl) (pa_cons (pe_tup (pa_cons (pv 1) (pa_cons (pv 2) (pa_cons (pv 3) (pa_cons (pv 4) (pa_cons (pv 5) pa_nil)))))) pa_nil)))
  (pss_one (ps_ret pe_bl))), ?_⟩
  fail "b"
  fail "g"
  rename_i t H1 a1 H2 w2
  exact k _ _ _ a1 w2
theorem ok_Judge_rules_for (hd : Dd K d_Judge_rules_for) : Ok P w K mg base 1 d_Judge_rules_for ["self", "node"] (spJRu K) := by
  refine ok_mk hd sc_Judge_rules_for bd_Judge_rules_for (fun vs H Q X h => ?_) (fun cdv A outer s0 H vs Q X hr h => ?_)
  · obtain ⟨_, _, _, _, _, _, _, _, _, _, _, _, _, _, rfl, _⟩ := h
    rfl
  obtain ⟨sf, dx, ch, lf, sn, kn, nd, dxn, il, e, v, m, mk, ρ, rfl, hs, hn, hwf, hch, k⟩ := h
  have hkf := (knd_at (Tx.ex (w := w) (mg := mg) (K := K))).2.2
  refine ⟨_, (pss_one (ps_ret (pe_ifExp (pt_cmpR op_in_seq (pe_fld (pv 1) rfl) (pe_glob (v := .ref (He.ga K "KINDS_forms")) rfl (Tx.kf (K := K)) rfl) (by with_unfolding_all rfl)) (pe_dget2 (hu_of hr) (pe_fld (pv 0) rfl) (pe_tup (pa_cons (pe_fld (pv 1) rfl) (pa_cons (pe_fld (pv 1) rfl) pa_nil))) (pe_lst pa_nil) ⟨rfl, rfl, rfl, rfl⟩) (pe_lst pa_nil)))), ?_⟩
  fail "b"
  fail "g"
  refine i_t (kd_w hwf) ?_
  fail "g"
  exact k _ _ (by w_dflts lk) (by kspl_open sm)
end
/-! ## Zju4 -/
open PySem PySem.Spec PyProof.Rows L2
/-! ### the judge's state -/
def Cn (ρ : List (Str × Str)) (kvs : List (Key × V)) (sc : List (Str × Int)) : Prop := ∀ x y, ρ.lookup x = some y → ∃ i, valV kvs (.inr x) = some (.int i) ∧ sc.lookup y = some i
theorem lookup_memV {x : Str} {y : Str} : ∀ {ρ : List (Str × Str)}, ρ.lookup x = some y → y ∈ ρ.map (·.2)
  | [], h => by cases h
  | (a, b) :: r, h => by
    rw [lookup_cons'] at h
    by_cases e : x = a
    · rw [if_pos e] at h
      cases h
      exact List.mem_cons_self
    · rw [if_neg e] at h
      exact List.mem_cons_of_mem _ (lookup_memV h)
theorem Cn.bind {ρ : List (Str × Str)} {kvs : List (Key × V)} {sc : List (Str × Int)} {x y : Str} {i : Int} (c : Cn ρ kvs sc) (h : y ∉ ρ.map (·.2)) : Cn ((x, y) :: ρ) (putK kvs (.inr x) (.int i)) ((y, i) :: sc) := fun x2 y2 e => by
  rw [lookup_cons'] at e
  rw [valV_put, lookup_cons']
  by_cases q : x2 = x
  · rw [if_pos q] at e
    cases e
    exact ⟨i, by rw [if_pos (by rw [q])], by rw [if_pos rfl]⟩
  · rw [if_neg q] at e
    obtain ⟨j, h1, h2⟩ := c x2 y2 e
    refine ⟨j, by rw [if_neg (fun z => q (Sum.inr.inj z))]; exact h1, ?_⟩
    rw [if_neg (fun z : y2 = y => h (z ▸ lookup_memV e))]
    exact h2
theorem Cn.nil : Cn [] [] [] := fun x y e => by cases e
structure JB (K : PySem.W.Frag) (H0 H : Hp) (sf dx ch lf sn kn : Addr) (m : Int) (xs : List V) : Prop where
  sfh : H sf = some (oJg K dx ch lf sn kn m)
  lfh : H lf = some (.lst xs)
  mu : Mu2 sf lf H0 H
  ch0 : H0 ch = some (.dT [])
  sf0 : ∃ C d, H0 sf = some (.ins C d [])
  lf0 : H0 lf = none
def NdQ (K : PySem.W.Frag) (H0 : Hp) (nd : Addr) (e : E) : Prop := ∃ lf dn, NdP K H0 lf [] dn nd e
structure JC (K : PySem.W.Frag) (H0 H : Hp) (q : V) (plc : Addr) (sv : V) (e : E) (pl : Pl) (dxp nd pd : Addr) (ρ : List (Str × Str)) (kvs : List (Key × V)) (sc : List (Str × Int)) : Prop where
  qq : QAt H q pl
  pc : H plc = some (oPl K dxp nd pd)
  nn : NdQ K H0 nd e
  pdh : H pd = some (.dK kvs)
  sch : ScAt K H sv sc
  rn : RenOf ρ e pl
  cn : Cn ρ kvs sc
  sz : kvs.length + e.size ≤ 10000
theorem JC.fix {K : PySem.W.Frag} {H0 H H' : Hp} {q : V} {plc : Addr} {sv : V} {e : E} {pl : Pl} {dxp nd pd : Addr} {ρ : List (Str × Str)} {kvs : List (Key × V)} {sc : List (Str × Int)} (f : Fix H H') (h : JC K H0 H q plc sv e pl dxp nd pd ρ kvs sc) : JC K H0 H' q plc sv e pl dxp nd pd ρ kvs sc :=
  ⟨h.qq.fix f, f _ _ h.pc rfl, h.nn, f _ _ h.pdh rfl, h.sch.fix f, h.rn, h.cn, h.sz⟩
def JI (K : PySem.W.Frag) (H0 H : Hp) (v : V) (pl : Pl) : Prop := ∃ p q plc sv e dxp nd pd ρ kvs sc, v = .ref p ∧ H p = some (.tup [q, .ref plc, .bl false, sv, .non]) ∧ JC K H0 H q plc sv e pl dxp nd pd ρ kvs sc
theorem JI.fix {K : PySem.W.Frag} {H0 H H' : Hp} {v : V} {pl : Pl} (f : Fix H H') (h : JI K H0 H v pl) : JI K H0 H' v pl := by
  obtain ⟨p, q, plc, sv, e, dxp, nd, pd, ρ, kvs, sc, h1, h2, h3⟩ := h
  exact ⟨p, q, plc, sv, e, dxp, nd, pd, ρ, kvs, sc, h1, f _ _ h2 rfl, h3.fix f⟩
section
variable {K : PySem.W.Frag} {H0 H : Hp} {sf dx ch lf sn kn nd : Addr} {m : Int} {xs : List V} {e e1 e2 e3 : E} {kd : Str}
theorem JB.ndh (b : JB K H0 H sf dx ch lf sn kn m xs) {dxn il : Addr} {v : V} {mk : Int} (h : H0 nd = some (oNd K dxn e v il mk)) : H nd = some (oNd K dxn e v il mk) := by
  obtain ⟨C, d, h2⟩ := b.sf0
  exact b.mu.bt _ _ h (ne_k h h2 rfl) (ne_of_none h b.lf0)
theorem JB.lsh (b : JB K H0 H sf dx ch lf sn kn m xs) {il : Addr} {ys : List V} (h : H0 il = some (.lst ys)) : H il = some (.lst ys) := by
  obtain ⟨C, d, h2⟩ := b.sf0
  exact b.mu.bt _ _ h (ne_k h h2 rfl) (ne_of_none h b.lf0)
theorem JB.kp (b : JB K H0 H sf dx ch lf sn kn m xs) {a : Addr} {o : HO} (h : H0 a = some o) (hk : Nat.beq (knd o) 10 = false) : H a = some o := by
  obtain ⟨C, d, h2⟩ := b.sf0
  exact b.mu.bt _ _ h (ne_k h h2 hk) (ne_of_none h b.lf0)
theorem NdQ.any (h : NdQ K H0 nd e) (b : JB K H0 H sf dx ch lf sn kn m xs) (hkd : e.kd = kd) : ∃ dxn v il mk, H nd = some (.ins (He.ga K "Node") dxn [("kind", .str kd), ("e", v), ("level", .int 0), ("inner", .ref il), ("number", .int 0), ("mark", .int mk)]) ∧ EAt H v e := by
  obtain ⟨l, dn, h⟩ := h
  subst hkd
  cases h with
  | pend hm => cases hm
  | n0 h1 h2 h3 h4 h5 h6 => exact ⟨_, _, _, _, b.ndh h2, h3.fix b.mu.fx⟩
  | n1 h1 h2 h3 h4 h5 h6 _ => exact ⟨_, _, _, _, b.ndh h2, h3.fix b.mu.fx⟩
  | n2 h1 h2 h3 h4 h5 h6 _ _ => exact ⟨_, _, _, _, b.ndh h2, h3.fix b.mu.fx⟩
  | n3 h1 h2 h3 h4 h5 h6 _ _ _ => exact ⟨_, _, _, _, b.ndh h2, h3.fix b.mu.fx⟩
theorem NdQ.at1 (h : NdQ K H0 nd e) (b : JB K H0 H sf dx ch lf sn kn m xs) (hkd : e.kd = kd) (hk : kidsE e = [e1]) : ∃ dxn v il mk n1, H nd = some (.ins (He.ga K "Node") dxn [("kind", .str kd), ("e", v), ("level", .int 0), ("inner", .ref il), ("number", .int 0), ("mark", .int mk)]) ∧ EAt H v e ∧
    H0 il = some (.lst [.ref n1]) ∧ NdQ K H0 n1 e1 := by
  obtain ⟨l, dn, h⟩ := h
  subst hkd
  cases h with
  | pend hm => cases hm
  | n1 h1 h2 h3 h4 h5 h6 i1 =>
    rw [hk] at h6
    cases h6
    exact ⟨_, _, _, _, _, b.ndh h2, h3.fix b.mu.fx, h5, ⟨_, _, i1⟩⟩
  | n0 h1 h2 h3 h4 h5 h6 => rw [hk] at h6; cases h6
  | n2 h1 h2 h3 h4 h5 h6 _ _ => rw [hk] at h6; cases h6
  | n3 h1 h2 h3 h4 h5 h6 _ _ _ => rw [hk] at h6; cases h6
theorem NdQ.at2 (h : NdQ K H0 nd e) (b : JB K H0 H sf dx ch lf sn kn m xs) (hkd : e.kd = kd) (hk : kidsE e = [e1, e2]) : ∃ dxn v il mk n1 n2, H nd = some (.ins (He.ga K "Node") dxn [("kind", .str kd), ("e", v), ("level", .int 0), ("inner", .ref il), ("number", .int 0), ("mark", .int mk)]) ∧ EAt H v e ∧
    H0 il = some (.lst [.ref n1, .ref n2]) ∧ NdQ K H0 n1 e1 ∧ NdQ K H0 n2 e2 := by
  obtain ⟨l, dn, h⟩ := h
  subst hkd
  cases h with
  | pend hm => cases hm
  | n2 h1 h2 h3 h4 h5 h6 i1 i2 =>
    rw [hk] at h6
    cases h6
    exact ⟨_, _, _, _, _, _, b.ndh h2, h3.fix b.mu.fx, h5, ⟨_, _, i1⟩, ⟨_, _, i2⟩⟩
  | n0 h1 h2 h3 h4 h5 h6 => rw [hk] at h6; cases h6
  | n1 h1 h2 h3 h4 h5 h6 _ => rw [hk] at h6; cases h6
  | n3 h1 h2 h3 h4 h5 h6 _ _ _ => rw [hk] at h6; cases h6
theorem NdQ.at3 (h : NdQ K H0 nd e) (b : JB K H0 H sf dx ch lf sn kn m xs) (hkd : e.kd = kd) (hk : kidsE e = [e1, e2, e3]) : ∃ dxn v il mk n1 n2 n3, H nd = some (.ins (He.ga K "Node") dxn [("kind", .str kd), ("e", v), ("level", .int 0), ("inner", .ref il), ("number", .int 0), ("mark", .int mk)]) ∧ EAt H v e ∧
    H0 il = some (.lst [.ref n1, .ref n2, .ref n3]) ∧ NdQ K H0 n1 e1 ∧ NdQ K H0 n2 e2 ∧ NdQ K H0 n3 e3 := by
  obtain ⟨l, dn, h⟩ := h
  subst hkd
  cases h with
  | pend hm => cases hm
  | n3 h1 h2 h3 h4 h5 h6 i1 i2 i3 =>
    rw [hk] at h6
    cases h6
    exact ⟨_, _, _, _, _, _, _, b.ndh h2, h3.fix b.mu.fx, h5, ⟨_, _, i1⟩, ⟨_, _, i2⟩, ⟨_, _, i3⟩⟩
  | n0 h1 h2 h3 h4 h5 h6 => rw [hk] at h6; cases h6
  | n1 h1 h2 h3 h4 h5 h6 _ => rw [hk] at h6; cases h6
  | n2 h1 h2 h3 h4 h5 h6 _ _ => rw [hk] at h6; cases h6
theorem JB.same {H' : Hp} (b : JB K H0 H sf dx ch lf sn kn m xs) (s : Same H H') : JB K H0 H' sf dx ch lf sn kn m xs := ⟨s _ _ b.sfh, s _ _ b.lfh, b.mu.sm s, b.ch0, b.sf0, b.lf0⟩
theorem JB.nu {H' : Hp} {m' : Int} (b : JB K H0 H sf dx ch lf sn kn m xs) (w : Wr H H' sf (oJg K dx ch lf sn kn m')) : JB K H0 H' sf dx ch lf sn kn m' xs :=
  ⟨w.at_, w.bt _ _ b.lfh (ne_k b.lfh b.sfh rfl), b.mu.wrA w, b.ch0, b.sf0, b.lf0⟩
theorem JB.put {H' : Hp} {ys : List V} (b : JB K H0 H sf dx ch lf sn kn m xs) (w : Wr H H' lf (.lst ys)) : JB K H0 H' sf dx ch lf sn kn m ys :=
  ⟨w.bt _ _ b.sfh (ne_k b.sfh b.lfh rfl), w.at_, b.mu.wrL w, b.ch0, b.sf0, b.lf0⟩
/-- a pair is noted -/
theorem u_due {Q : VK} {X : XK} {q p b n d : V} (j : JB K H0 H sf dx ch lf sn kn m xs) (hl : xs.length < 100000) (k : ∀ t H', H' t = some (.tup [q, p, b, n, d]) → JB K H0 H' sf dx ch lf sn kn m (xs ++ [.ref t]) → Fix H H' → Q (.bl true) H') : spJDu K (.ref sf :: ([q, p, b, n, d] ++ [])) H Q X :=
  ⟨sf, dx, ch, lf, sn, kn, m, q, p, b, n, d, xs, rfl, j.sfh, j.lfh, hl, fun t H1 H' a w => k t H' (w.fx _ _ a.at_ rfl) ((j.same a.sm).put w) (a.fx.trans w.fx)⟩
end
def spJBo (K : PySem.W.Frag) : Sp := fun vs H Q _ => ∃ (H0 : Hp) (sf dx ch lf sn kn plc dxp nd nd0 pd dxn il pe nb : Addr) (m mk : Int) (xs is ts : List V) (y x kd : Str) (qb sv : V) (ρ : List (Str × Str)) (kvs : List (Key × V)) (sc : List (Str × Int)) (eb : E) (plb : Pl), vs = [.ref sf, .str y, qb, .ref plc, .ref nd, sv, .non] ∧
  JB K H0 H sf dx ch lf sn kn m xs ∧ xs.length ≤ 20000 ∧ H nd = some (.ins (He.ga K "Node") dxn [("kind", .str kd), ("e", .ref pe), ("level", .int 0), ("inner", .ref il), ("number", .int 0), ("mark", .int mk)]) ∧ H pe = some (.tup ts) ∧ atI ts 1 = some (.str x) ∧ H il = some (.lst is) ∧ atI is (-1) = some (.ref nb) ∧
  QAt H qb plb ∧ H plc = some (oPl K dxp nd0 pd) ∧ NdQ K H0 nb eb ∧ H pd = some (.dK kvs) ∧ ScAt K H sv sc ∧ RenOf ((x, y) :: ρ) eb plb ∧ y ∉ ρ.map (·.2) ∧ Cn ρ kvs sc ∧ kvs.length + eb.size + 1 ≤ 10000 ∧
  ∀ z m' H', JB K H0 H' sf dx ch lf sn kn m' (xs ++ [z]) → JI K H0 H' z plb → Fix H H' → Q (.bl true) H'
section
variable {P : Program} {w : World} {K : PySem.W.Frag} {mg : Str → Option Value} {base : Heap} [Tx w K mg]
theorem ok_Judge_bound (hd : Dd K d_Judge_bound) (g_Judge_number : Ok P w K mg base 1 d_Judge_number ["self"] (spJNu K)) (g_Judge_due : Ok P w K mg base 1 d_Judge_due ["self", "q", "place", "built_in", "names", "delays"] (spJDu K)) (g_Place_bound : Ok P w K mg base 3 d_Place_bound ["self", "node", "x", "number"] (spPBd K))
    (g_Scope_init : Ok P w K mg base 1 d_Scope_init ["self", "name", "what", "around"] (spScI K)) : Ok P w K mg base 4 d_Judge_bound ["self", "y", "q", "place", "node", "names", "delays"] (spJBo K) := by
  obtain ⟨⟨_, G_Judge_number, b_Judge_number⟩, k_Judge_number⟩ := id g_Judge_number
  obtain ⟨⟨_, G_Judge_due, b_Judge_due⟩, k_Judge_due⟩ := id g_Judge_due
  obtain ⟨⟨_, G_Place_bound, b_Place_bound⟩, k_Place_bound⟩ := id g_Place_bound
  obtain ⟨⟨_, G_Scope_init, b_Scope_init⟩, k_Scope_init⟩ := id g_Scope_init
  refine ok_mk hd sc_Judge_bound bd_Judge_bound (fun vs H Q X h => ?_) (fun cdv A outer s0 H vs Q X hr h => ?_)
  · obtain ⟨_, _, _, _, _, _, _, _, _, _, _, _, _, _, _, _, _, _, _, _, _, _, _, _, _, _, _, _, _, _, _, rfl, _⟩ := h
    rfl
  obtain ⟨H0, sf, dx, ch, lf, sn, kn, plc, dxp, nd, nd0, pd, dxn, il, pe, nb, m, mk, xs, is, ts, y, x, kd, qb, sv, ρ, kvs, sc, eb, plb, rfl, j, hxl, hnd, hpe, hts, hil, his, hqb, hplc, hnq, hpd, hsc, hrn, hy, hcn, hsz, k⟩ := h
  refine ⟨_, (pss_cons (ps_set (i := 7) sc_Judge_bound.nd rfl (Or.inl rfl) (pe_meth0 (pv 0) (CF.cls (K := K) (n := "Judge") (by decide +kernel)) (CF.me (K := K) (n := "Judge") (m := "number") (by decide +kernel)) G_Judge_number (hr.mono (by omega)) b_Judge_number .nil pass0))
  (pss_one (ps_ret (pe_meth (pv 0) (CF.cls (K := K) (n := "Judge") (by decide +kernel)) (CF.me (K := K) (n := "Judge") (m := "due") (by decide +kernel)) G_Judge_due (hr.mono (by omega)) b_Judge_due .nil pass0 (pa_cons (pv 2) (pa_cons (pe_meth (pv 3) (CF.cls (K := K) (n := "Place") (by decide +kernel)) (CF.me (K := K) (n := "Place") (m := "bound") (by decide +kernel)) G_Place_bound (hr.mono (by omega)) b_Place_bound .nil pass0 (pa_cons (pe_ix ix_list (pe_fld (pv 4) rfl) (pe_un un_neg pe_int) (fun _ _ => rfl)) (pa_cons (pe_ix ix_tup (pe_fld (pv 4) rfl) pe_int (fun _ _ => rfl)) (pa_cons (pv 7) pa_nil)))) (pa_cons pe_bl (pa_cons (pe_make (CF.mk (K := K) (by decide +kernel)) G_Scope_init (hr.mono (by omega)) rfl (Tx.gl (K := K) "Scope" (by decide +kernel)) b_Scope_init .nil pass0 (pa_cons (pv 1) (pa_cons (pv 7) (pa_cons (pv 5) pa_nil)))) (pa_cons (pv 6) pa_nil))))))))), ?_⟩
  fail "b"
  have hs := j.sfh
  have hsn : nd ≠ sf := ne_k hnd hs rfl
  fail "g"
  refine ⟨sf, dx, ch, lf, sn, kn, m, rfl, hs, fun H1 w1 => ?_⟩
  have j1 := j.nu w1
  fail "g"
  refine ⟨plc, dxp, nd0, pd, nb, x, m + 1, kvs, rfl, by w_dflts lk, by w_dflts lk, by omega, fun p2 dx2 pd2 H2 hp2 hd2 sm2 => ?_⟩
  fail "g"
  refine make_whole (fs := [("name", .str y), ("what", .int (m + 1)), ("around", sv)]) (fun x dx H0 R h0 s0 h1 => ⟨x, dx, y, m + 1, sv, rfl, h0, h1⟩) fun x3 dx3 H3 a3 => ?_
  fail "g"
  have f3 : Fix H H3 := by kspl_open fx
  refine u_due ((j1.same sm2).same a3.sm) (by omega) fun t H4 ht j4 f4 => ?_
  have f5 := f3.trans f4
  refine k (.ref t) (m + 1) H4 j4 ⟨t, qb, p2, .ref x3, eb, dx2, nb, pd2, (x, y) :: ρ, _, (y, m + 1) :: sc, rfl, ht, hqb.fix f5, f4 _ _ (a3.sm _ _ hp2) rfl, hnq, f4 _ _ (a3.sm _ _ hd2) rfl, .cons (f4 _ _ a3.at_ rfl) (hsc.fix f5), hrn, hcn.bind hy, ?_⟩ f5
  have := putK_len kvs (.inr x) (V.int (m + 1))
  omega
end
/-! ## Zju5 -/
open PySem PySem.Spec PyProof.Rows L2
def spJPl (K : PySem.W.Frag) : Sp := fun vs H Q _ => ∃ (H0 : Hp) (sf dx ch lf sn kn plc dxp nd pd : Addr) (m : Int) (xs : List V) (q sv : V) (ρ : List (Str × Str)) (kvs : List (Key × V)) (sc : List (Str × Int)) (e : E) (pl : Pl), vs = [.ref sf, q, .ref plc, sv, .non] ∧
  JB K H0 H sf dx ch lf sn kn m xs ∧ xs.length ≤ 10000 ∧ JC K H0 H q plc sv e pl dxp nd pd ρ kvs sc ∧
  ∀ (new : List (V × Pl)) m' H', JB K H0 H' sf dx ch lf sn kn m' (xs ++ new.map (·.1)) → (∀ z ∈ new, JI K H0 H' z.1 z.2) → qsz new + 1 = pl.size → Fix H H' → Q (.bl true) H'
theorem u_place {K : PySem.W.Frag} {H : Hp} {sf dx nd pd n2 : Addr} {Q : VK} {X : XK} (h : H sf = some (oPl K dx nd pd)) (q : ∀ p dx' H', H' p = some (oPl K dx' n2 pd) → Same H H' → Q (.ref p) H') : spPAt K (.ref sf :: ([.ref n2] ++ [])) H Q X := ⟨sf, dx, nd, pd, n2, rfl, h, q⟩
section
variable {P : Program} {w : World} {K : PySem.W.Frag} {mg : Str → Option Value} {base : Heap} [Tx w K mg]
theorem ok_Judge_plainly (hd : Dd K d_Judge_plainly) (g_found_in : Ok P w K mg base 1 d_found_in ["scope", "name"] (spFou K)) (g_Judge_due : Ok P w K mg base 1 d_Judge_due ["self", "q", "place", "built_in", "names", "delays"] (spJDu K)) (g_Place_at : Ok P w K mg base 3 d_Place_at ["self", "node"] (spPAt K))
    (g_Judge_bound : Ok P w K mg base 4 d_Judge_bound ["self", "y", "q", "place", "node", "names", "delays"] (spJBo K)) : Ok P w K mg base 5 d_Judge_plainly ["self", "q", "place", "names", "delays"] (spJPl K) := by
  obtain ⟨⟨_, G_found_in, b_found_in⟩, k_found_in⟩ := id g_found_in
  obtain ⟨⟨_, G_Judge_due, b_Judge_due⟩, k_Judge_due⟩ := id g_Judge_due
  obtain ⟨⟨_, G_Place_at, b_Place_at⟩, k_Place_at⟩ := id g_Place_at
  obtain ⟨⟨_, G_Judge_bound, b_Judge_bound⟩, k_Judge_bound⟩ := id g_Judge_bound
  refine ok_mk hd sc_Judge_plainly bd_Judge_plainly (fun vs H Q X h => ?_) (fun cdv A outer s0 H vs Q X hr h => ?_)
  · obtain ⟨_, _, _, _, _, _, _, _, _, _, _, _, _, _, _, _, _, _, _, _, rfl, _⟩ := h
    rfl
  obtain ⟨H0, sf, dx, ch, lf, sn, kn, plc, dxp, nd, pd, m, xs, q, sv, ρ, kvs, sc, e, pl, rfl, j, hxl, ⟨hq, hplc, hnq, hpd, hsc, hrn, hcn, hsz⟩, k⟩ := h
  have hs := j.sfh
  refine ⟨_, (pss_cons (ps_set (i := 5) sc_Judge_plainly.nd rfl (Or.inl rfl) (pe_fld (pv 2) rfl))
  (pss_cons (ps_set (i := 6) sc_Judge_plainly.nd rfl (Or.inl rfl) (pe_fld (pv 5) rfl))
  (pss_cons (ps_if (pt_cmpR op_in_seq (pv 6) (pe_tup (pa_cons pe_str (pa_cons pe_str (pa_cons pe_str (pa_cons pe_str pa_nil))))) (by with_unfolding_all rfl)) pss_never pss_nil)
  (pss_cons (ps_if (pt_cmpR op_eq (pv 6) pe_str (nomark _)) pss_never pss_nil)
  (pss_cons (ps_if (pt_cmpR op_eq (pv 6) pe_str (nomark _)) pss_never pss_nil)
  (pss_cons (ps_if (pt_cmpR op_ne (pe_ix ix_tup (pv 1) pe_int (fun _ _ => rfl)) (pv 6) (nomark _)) (pss_one (ps_ret pe_bl)) pss_nil)
  (pss_cons (ps_if (pt_cmpR op_eq (pv 6) pe_str (nomark _)) (pss_one (ps_ret (pe_cmpR op_eq (pe_ix ix_tup (pv 1) pe_int (fun _ _ => rfl)) (pe_ix ix_tup (pe_fld (pv 5) rfl) pe_int (fun _ _ => rfl)) (nomark _)))) pss_nil)
  (pss_cons (ps_if (pt_cmpR op_eq (pv 6) pe_str (nomark _)) (pss_cons (ps_set (i := 7) sc_Judge_plainly.nd rfl (Or.inl rfl) (pe_call G_found_in (hr.mono (by omega)) rfl (Tx.gl (K := K) "found_in" (by decide +kernel)) k_found_in b_found_in .nil pass0 (pa_cons (pv 3) (pa_cons (pe_ix ix_tup (pv 1) pe_int (fun _ _ => rfl)) pa_nil))))
  (pss_one (ps_ret (pe_and (pe_cmpR op_notN1 (pv 7) pe_non (nomark _)) (pe_one (pe_cmpR op_eq (pe_fld (pv 7) rfl) (pe_dget (hu_of hr) (pe_fld (pv 2) rfl) (pe_ix ix_tup (pe_fld (pv 5) rfl) pe_int (fun _ _ => rfl)) (fun _ _ => rfl)) (nomark _))))))) pss_nil)
  (pss_cons (ps_if (pt_cmpR op_eq (pv 6) pe_str (nomark _)) (pss_one (ps_ret (pe_and (pe_cmpR op_eq (pe_ix ix_tup (pv 1) pe_int (fun _ _ => rfl)) (pe_fld (pv 5) rfl) (nomark _)) (pe_one (pe_meth (pv 0) (CF.cls (K := K) (n := "Judge") (by decide +kernel)) (CF.me (K := K) (n := "Judge") (m := "bound") (by decide +kernel)) G_Judge_bound (hr.mono (by omega)) b_Judge_bound .nil pass0 (pa_cons (pe_ix ix_tup (pv 1) pe_int (fun _ _ => rfl)) (pa_cons (pe_ix ix_tup (pv 1) pe_int (fun _ _ => rfl)) (pa_cons (pv 2) (pa_cons (pv 5) (pa_cons (pv 3) (pa_cons (pv 4) pa_nil))))))))))) pss_nil)
  (pss_cons (ps_if (pt_cmpR op_eq (pv 6) pe_str (nomark _)) (pss_cons (ps_expr (pe_meth (pv 0) (CF.cls (K := K) (n := "Judge") (by decide +kernel)) (CF.me (K := K) (n := "Judge") (m := "due") (by decide +kernel)) G_Judge_due (hr.mono (by omega)) b_Judge_due .nil pass0 (pa_cons (pe_ix ix_tup (pv 1) pe_int (fun _ _ => rfl)) (pa_cons (pe_meth (pv 2) (CF.cls (K := K) (n := "Place") (by decide +kernel)) (CF.me (K := K) (n := "Place") (m := "at") (by decide +kernel)) G_Place_at (hr.mono (by omega)) b_Place_at .nil pass0 (pa_cons (pe_ix ix_list (pe_fld (pv 5) rfl) pe_int (fun _ _ => rfl)) pa_nil)) (pa_cons pe_bl (pa_cons (pv 3) (pa_cons (pv 4) pa_nil)))))))
  (pss_one (ps_ret (pe_meth (pv 0) (CF.cls (K := K) (n := "Judge") (by decide +kernel)) (CF.me (K := K) (n := "Judge") (m := "bound") (by decide +kernel)) G_Judge_bound (hr.mono (by omega)) b_Judge_bound .nil pass0 (pa_cons (pe_ix ix_tup (pv 1) pe_int (fun _ _ => rfl)) (pa_cons (pe_ix ix_tup (pv 1) pe_int (fun _ _ => rfl)) (pa_cons (pv 2) (pa_cons (pv 5) (pa_cons (pv 3) (pa_cons (pv 4) pa_nil)))))))))) pss_nil)
  (pss_cons (ps_if (pt_cmpR op_ne (pe_ix ix_tup (pv 1) pe_int (fun _ _ => rfl)) (pe_fld (pv 5) rfl) (nomark _)) (pss_one (ps_ret pe_bl)) pss_nil)
  (pss_cons (ps_for PassesOwn.never rfl (pi_enum rfl (Tx.fr (K := K) "enumerate" (by decide +kernel)) (pa_cons (pe_fld (pv 5) rfl) pa_nil)) (pg_tup (by rfl) (pgs_cons (pg_name (i := 8) sc_Judge_plainly.nd rfl (Or.inl rfl)) (pgs_cons (pg_name (i := 9) sc_Judge_plainly.nd rfl (Or.inl rfl)) pgs_nil)))
  (pss_one (ps_expr (pe_meth (pv 0) (CF.cls (K := K) (n := "Judge") (by decide +kernel)) (CF.me (K := K) (n := "Judge") (m := "due") (by decide +kernel)) G_Judge_due (hr.mono (by omega)) b_Judge_due .nil pass0 (pa_cons (pe_ix ix_tup (pv 1) (pe_op op_add pe_int (pv 8)) (fun _ _ => rfl)) (pa_cons (pe_meth (pv 2) (CF.cls (K := K) (n := "Place") (by decide +kernel)) (CF.me (K := K) (n := "Place") (m := "at") (by decide +kernel)) G_Place_at (hr.mono (by omega)) b_Place_at .nil pass0 (pa_cons (pv 9) pa_nil)) (pa_cons pe_bl (pa_cons (pv 3) (pa_cons (pv 4) pa_nil)))))))))
  (pss_one (ps_ret pe_bl)))))))))))))), ?_⟩
  fail "b"
  cases hrn with
  | num n =>
    obtain ⟨dxn, v, il, mk, hnd, hee⟩ := hnq.any j (kd := "num") rfl
    cases hq with
    | num hq0 =>
      cases hee with
      | num he0 =>
        fail "g"
        rw [show decide (V.int n = V.int n) = true from decide_eq_true rfl]
        exact k [] m _ (by rw [List.map_nil, List.append_nil]; exact j.same (by kspl_open sm)) (fun z hz => by cases hz) rfl (by kspl_open fx)
  | @name _ x y hx =>
    obtain ⟨dxn, v, il, mk, hnd, hee⟩ := hnq.any j (kd := "name") rfl
    obtain ⟨i, hi1, hi2⟩ := hcn x y hx
    cases hq with
    | name hq0 =>
      cases hee with
      | name he0 =>
        fail "g"
        refine ⟨sv, sc, y, i, rfl, hsc.fix (by kspl_open fx), hi2, fun p5 dx5 z5 u5 H5 h5 s5 => ?_⟩
        fail "g"
        rw [show decide (V.int i = V.int i) = true from decide_eq_true rfl]
        exact k [] m _ (by rw [List.map_nil, List.append_nil]; exact j.same (by kspl_open sm)) (fun z hz => by cases hz) rfl (by kspl_open fx)
  | @fn _ x y b b2 hy hb =>
    obtain ⟨dxn, v, il, mk, n1, hnd, hee, hil0, hn1⟩ := hnq.at1 j (kd := "fn") rfl rfl
    have hil := j.kp hil0 rfl
    cases hq with
    | fn hq0 hqb =>
      cases hee with
      | fn he0 heb =>
        simp only [E.size] at hsz
        fail "g"
        refine ⟨H0, sf, dx, ch, lf, sn, kn, plc, dxp, nd, nd, pd, dxn, il, _, n1, m, mk, xs, _, _, y, x, _, _, sv, ρ, kvs, sc, b, b2, rfl, j.same (by kspl_open sm), by omega, by w_dflts lk, by w_dflts lk, rfl, by w_dflts lk, rfl, by fail "qa", by w_dflts lk, hn1, by w_dflts lk, hsc.fix (by kspl_open fx), hb, hy, hcn, by omega, fun z m' H' jz iz fz => ?_⟩
        exact k [(z, b2)] m' _ jz (fun z2 hz2 => by cases List.mem_singleton.mp hz2; exact iz) (by simp only [qsz_cons, qsz_nil, Pl.size] <;> omega) (by kspl_open fx)
  | @lett _ x y a b a2 b2 hy ha hb =>
    obtain ⟨dxn, v, il, mk, n1, n2, hnd, hee, hil0, hn1, hn2⟩ := hnq.at2 j (kd := "let") rfl rfl
    have hil := j.kp hil0 rfl
    cases hq with
    | lett hq0 hqa hqb =>
      cases hee with
      | lett he0 hea heb =>
        simp only [E.size] at hsz
        fail "g"
        refine u_place (by w_dflts lk) fun p5 dx5 H5 h5 s5 => ?_
        fail "g"
        have s05 : Same H H5 := by kspl_open sm
        refine u_due (j.same s05) (by omega) fun t6 H6 h6 j6 f6 => ?_
        have f06 : Fix H H6 := (Fix.of_same s05).trans f6
        have i6 : JI K H0 H6 (.ref t6) a2 := ⟨t6, _, p5, sv, a, dx5, n1, pd, ρ, kvs, sc, rfl, h6, ⟨by fail "qa", f6 _ _ h5 rfl, hn1, f06 _ _ hpd rfl, hsc.fix f06, ha, hcn, by omega⟩⟩
        obtain ⟨dxn6, v6, il6, mk6, n16, n26, hnd6, hee6, hil60, hn16, hn26⟩ := hnq.at2 j6 (kd := "let") rfl rfl
        have hil6 := j6.kp hil60 rfl
        have hs6 := j6.sfh
        have hpl6 : H6 plc = some (oPl K dxp nd pd) := f06 _ _ hplc rfl
        cases hee6 with
        | lett he6 hea6 heb6 =>
          fail "g"
          refine ⟨H0, sf, dx, ch, lf, sn, kn, plc, dxp, nd, nd, pd, dxn6, il6, _, n26, m, mk6, _, _, _, y, x, _, _, sv, ρ, kvs, sc, b, b2, rfl, j6, by simp only [List.length_append, List.length_cons, List.length_nil]; omega, by w_dflts lk, by w_dflts lk, rfl, by w_dflts lk, rfl, hqb.fix f06, f06 _ _ hplc rfl, hn26, f06 _ _ hpd rfl, hsc.fix f06, hb, hy, hcn, by omega, fun z m' H' jz iz fz => ?_⟩
          refine k [(.ref t6, a2), (z, b2)] m' _ (by simpa using jz) (fun z2 hz2 => ?_) (by simp only [qsz_cons, qsz_nil, Pl.size] <;> omega) (f06.trans fz)
          simp only [List.mem_cons, List.not_mem_nil, or_false] at hz2
          rcases hz2 with rfl | rfl
          · exact i6.fix fz
          · exact iz
  | @call _ a b a2 b2 ha hb =>
    obtain ⟨dxn, v, il, mk, n1, n2, hnd, hee, hil0, hn1, hn2⟩ := hnq.at2 j (kd := "call") rfl rfl
    have hil := j.kp hil0 rfl
    cases hq with
    | call hq0 hqa hqb =>
      cases hee with
      | call he0 hea heb =>
        simp only [E.size] at hsz
        fail "g"
        fail "un"
        fail "g"
        refine u_place (by w_dflts lk) fun p5 dx5 H5 h5 s5 => ?_
        fail "g"
        have s05 : Same H H5 := by kspl_open sm
        refine u_due (j.same s05) (by first | omega | (simp only [List.length_append, List.length_cons, List.length_nil]; omega)) fun t6 H6 h6 j6 f6 => ?_
        have f06 : Fix H H6 := (Fix.of_same s05).trans f6
        have i6 : JI K H0 H6 (.ref t6) a2 := ⟨t6, _, p5, sv, a, dx5, n1, pd, ρ, kvs, sc, rfl, h6, ⟨hqa.fix f06, f6 _ _ h5 rfl, hn1, f06 _ _ hpd rfl, hsc.fix f06, ha, hcn, by omega⟩⟩
        have hs6 := j6.sfh
        have hil6 := j6.kp hil0 rfl
        have hpl6 : H6 plc = some (oPl K dxp nd pd) := f06 _ _ hplc rfl
        fail "g"
        refine u_place (by w_dflts lk) fun p7 dx7 H7 h7 s7 => ?_
        fail "g"
        have s07 : Same H6 H7 := by kspl_open sm
        refine u_due (j6.same s07) (by first | omega | (simp only [List.length_append, List.length_cons, List.length_nil]; omega)) fun t8 H8 h8 j8 f8 => ?_
        have f08 : Fix H H8 := (f06.trans (Fix.of_same s07)).trans f8
        have i8 : JI K H0 H8 (.ref t8) b2 := ⟨t8, _, p7, sv, b, dx7, n2, pd, ρ, kvs, sc, rfl, h8, ⟨hqb.fix f08, f8 _ _ h7 rfl, hn2, f08 _ _ hpd rfl, hsc.fix f08, hb, hcn, by omega⟩⟩
        have hs8 := j8.sfh
        have hil8 := j8.kp hil0 rfl
        have hpl8 : H8 plc = some (oPl K dxp nd pd) := f08 _ _ hplc rfl
        fail "g"
        refine k [(.ref t6, a2), (.ref t8, b2)] m _ (by simpa using j8) (fun z2 hz2 => ?_) (by simp only [qsz_cons, qsz_nil, Pl.size] <;> omega) f08
        simp only [List.mem_cons, List.not_mem_nil, or_false] at hz2
        rcases hz2 with rfl | rfl
        · exact ((i6).fix (Fix.of_same s07)).fix f8
        · exact i8
  | @sum _ a b a2 b2 ha hb =>
    obtain ⟨dxn, v, il, mk, n1, n2, hnd, hee, hil0, hn1, hn2⟩ := hnq.at2 j (kd := "sum") rfl rfl
    have hil := j.kp hil0 rfl
    cases hq with
    | sum hq0 hqa hqb =>
      cases hee with
      | sum he0 hea heb =>
        simp only [E.size] at hsz
        fail "g"
        fail "un"
        fail "g"
        refine u_place (by w_dflts lk) fun p5 dx5 H5 h5 s5 => ?_
        fail "g"
        have s05 : Same H H5 := by kspl_open sm
        refine u_due (j.same s05) (by first | omega | (simp only [List.length_append, List.length_cons, List.length_nil]; omega)) fun t6 H6 h6 j6 f6 => ?_
        have f06 : Fix H H6 := (Fix.of_same s05).trans f6
        have i6 : JI K H0 H6 (.ref t6) a2 := ⟨t6, _, p5, sv, a, dx5, n1, pd, ρ, kvs, sc, rfl, h6, ⟨hqa.fix f06, f6 _ _ h5 rfl, hn1, f06 _ _ hpd rfl, hsc.fix f06, ha, hcn, by omega⟩⟩
        have hs6 := j6.sfh
        have hil6 := j6.kp hil0 rfl
        have hpl6 : H6 plc = some (oPl K dxp nd pd) := f06 _ _ hplc rfl
        fail "g"
        refine u_place (by w_dflts lk) fun p7 dx7 H7 h7 s7 => ?_
        fail "g"
        have s07 : Same H6 H7 := by kspl_open sm
        refine u_due (j6.same s07) (by first | omega | (simp only [List.length_append, List.length_cons, List.length_nil]; omega)) fun t8 H8 h8 j8 f8 => ?_
        have f08 : Fix H H8 := (f06.trans (Fix.of_same s07)).trans f8
        have i8 : JI K H0 H8 (.ref t8) b2 := ⟨t8, _, p7, sv, b, dx7, n2, pd, ρ, kvs, sc, rfl, h8, ⟨hqb.fix f08, f8 _ _ h7 rfl, hn2, f08 _ _ hpd rfl, hsc.fix f08, hb, hcn, by omega⟩⟩
        have hs8 := j8.sfh
        have hil8 := j8.kp hil0 rfl
        have hpl8 : H8 plc = some (oPl K dxp nd pd) := f08 _ _ hplc rfl
        fail "g"
        refine k [(.ref t6, a2), (.ref t8, b2)] m _ (by simpa using j8) (fun z2 hz2 => ?_) (by simp only [qsz_cons, qsz_nil, Pl.size] <;> omega) f08
        simp only [List.mem_cons, List.not_mem_nil, or_false] at hz2
        rcases hz2 with rfl | rfl
        · exact ((i6).fix (Fix.of_same s07)).fix f8
        · exact i8
  | @less _ a b a2 b2 ha hb =>
    obtain ⟨dxn, v, il, mk, n1, n2, hnd, hee, hil0, hn1, hn2⟩ := hnq.at2 j (kd := "less") rfl rfl
    have hil := j.kp hil0 rfl
    cases hq with
    | less hq0 hqa hqb =>
      cases hee with
      | less he0 hea heb =>
        simp only [E.size] at hsz
        fail "g"
        fail "un"
        fail "g"
        refine u_place (by w_dflts lk) fun p5 dx5 H5 h5 s5 => ?_
        fail "g"
        have s05 : Same H H5 := by kspl_open sm
        refine u_due (j.same s05) (by first | omega | (simp only [List.length_append, List.length_cons, List.length_nil]; omega)) fun t6 H6 h6 j6 f6 => ?_
        have f06 : Fix H H6 := (Fix.of_same s05).trans f6
        have i6 : JI K H0 H6 (.ref t6) a2 := ⟨t6, _, p5, sv, a, dx5, n1, pd, ρ, kvs, sc, rfl, h6, ⟨hqa.fix f06, f6 _ _ h5 rfl, hn1, f06 _ _ hpd rfl, hsc.fix f06, ha, hcn, by omega⟩⟩
        have hs6 := j6.sfh
        have hil6 := j6.kp hil0 rfl
        have hpl6 : H6 plc = some (oPl K dxp nd pd) := f06 _ _ hplc rfl
        fail "g"
        refine u_place (by w_dflts lk) fun p7 dx7 H7 h7 s7 => ?_
        fail "g"
        have s07 : Same H6 H7 := by kspl_open sm
        refine u_due (j6.same s07) (by first | omega | (simp only [List.length_append, List.length_cons, List.length_nil]; omega)) fun t8 H8 h8 j8 f8 => ?_
        have f08 : Fix H H8 := (f06.trans (Fix.of_same s07)).trans f8
        have i8 : JI K H0 H8 (.ref t8) b2 := ⟨t8, _, p7, sv, b, dx7, n2, pd, ρ, kvs, sc, rfl, h8, ⟨hqb.fix f08, f8 _ _ h7 rfl, hn2, f08 _ _ hpd rfl, hsc.fix f08, hb, hcn, by omega⟩⟩
        have hs8 := j8.sfh
        have hil8 := j8.kp hil0 rfl
        have hpl8 : H8 plc = some (oPl K dxp nd pd) := f08 _ _ hplc rfl
        fail "g"
        refine k [(.ref t6, a2), (.ref t8, b2)] m _ (by simpa using j8) (fun z2 hz2 => ?_) (by simp only [qsz_cons, qsz_nil, Pl.size] <;> omega) f08
        simp only [List.mem_cons, List.not_mem_nil, or_false] at hz2
        rcases hz2 with rfl | rfl
        · exact ((i6).fix (Fix.of_same s07)).fix f8
        · exact i8
  | @iff _ c a b c2 a2 b2 hc ha hb =>
    obtain ⟨dxn, v, il, mk, n1, n2, n3, hnd, hee, hil0, hn1, hn2, hn3⟩ := hnq.at3 j (kd := "if") rfl rfl
    have hil := j.kp hil0 rfl
    cases hq with
    | iff hq0 hqc hqa hqb =>
      cases hee with
      | iff he0 hec hea heb =>
        simp only [E.size] at hsz
        fail "g"
        fail "un"
        fail "g"
        refine u_place (by w_dflts lk) fun p5 dx5 H5 h5 s5 => ?_
        fail "g"
        have s05 : Same H H5 := by kspl_open sm
        refine u_due (j.same s05) (by first | omega | (simp only [List.length_append, List.length_cons, List.length_nil]; omega)) fun t6 H6 h6 j6 f6 => ?_
        have f06 : Fix H H6 := (Fix.of_same s05).trans f6
        have i6 : JI K H0 H6 (.ref t6) c2 := ⟨t6, _, p5, sv, c, dx5, n1, pd, ρ, kvs, sc, rfl, h6, ⟨hqc.fix f06, f6 _ _ h5 rfl, hn1, f06 _ _ hpd rfl, hsc.fix f06, hc, hcn, by omega⟩⟩
        have hs6 := j6.sfh
        have hil6 := j6.kp hil0 rfl
        have hpl6 : H6 plc = some (oPl K dxp nd pd) := f06 _ _ hplc rfl
        fail "g"
        refine u_place (by w_dflts lk) fun p7 dx7 H7 h7 s7 => ?_
        fail "g"
        have s07 : Same H6 H7 := by kspl_open sm
        refine u_due (j6.same s07) (by first | omega | (simp only [List.length_append, List.length_cons, List.length_nil]; omega)) fun t8 H8 h8 j8 f8 => ?_
        have f08 : Fix H H8 := (f06.trans (Fix.of_same s07)).trans f8
        have i8 : JI K H0 H8 (.ref t8) a2 := ⟨t8, _, p7, sv, a, dx7, n2, pd, ρ, kvs, sc, rfl, h8, ⟨hqa.fix f08, f8 _ _ h7 rfl, hn2, f08 _ _ hpd rfl, hsc.fix f08, ha, hcn, by omega⟩⟩
        have hs8 := j8.sfh
        have hil8 := j8.kp hil0 rfl
        have hpl8 : H8 plc = some (oPl K dxp nd pd) := f08 _ _ hplc rfl
        fail "g"
        refine u_place (by w_dflts lk) fun p9 dx9 H9 h9 s9 => ?_
        fail "g"
        have s09 : Same H8 H9 := by kspl_open sm
        refine u_due (j8.same s09) (by first | omega | (simp only [List.length_append, List.length_cons, List.length_nil]; omega)) fun t10 H10 h10 j10 f10 => ?_
        have f010 : Fix H H10 := (f08.trans (Fix.of_same s09)).trans f10
        have i10 : JI K H0 H10 (.ref t10) b2 := ⟨t10, _, p9, sv, b, dx9, n3, pd, ρ, kvs, sc, rfl, h10, ⟨hqb.fix f010, f10 _ _ h9 rfl, hn3, f010 _ _ hpd rfl, hsc.fix f010, hb, hcn, by omega⟩⟩
        have hs10 := j10.sfh
        have hil10 := j10.kp hil0 rfl
        have hpl10 : H10 plc = some (oPl K dxp nd pd) := f010 _ _ hplc rfl
        fail "g"
        refine k [(.ref t6, c2), (.ref t8, a2), (.ref t10, b2)] m _ (by simpa using j10) (fun z2 hz2 => ?_) (by simp only [qsz_cons, qsz_nil, Pl.size] <;> omega) f010
        simp only [List.mem_cons, List.not_mem_nil, or_false] at hz2
        rcases hz2 with rfl | rfl | rfl
        · exact ((((i6).fix (Fix.of_same s07)).fix f8).fix (Fix.of_same s09)).fix f10
        · exact ((i8).fix (Fix.of_same s09)).fix f10
        · exact i10
  | @say _ a a2 ha =>
    obtain ⟨dxn, v, il, mk, n1, hnd, hee, hil0, hn1⟩ := hnq.at1 j (kd := "say") rfl rfl
    have hil := j.kp hil0 rfl
    cases hq with
    | say hq0 hqa =>
      cases hee with
      | say he0 hea =>
        simp only [E.size] at hsz
        fail "g"
        fail "un"
        fail "g"
        refine u_place (by w_dflts lk) fun p5 dx5 H5 h5 s5 => ?_
        fail "g"
        have s05 : Same H H5 := by kspl_open sm
        refine u_due (j.same s05) (by first | omega | (simp only [List.length_append, List.length_cons, List.length_nil]; omega)) fun t6 H6 h6 j6 f6 => ?_
        have f06 : Fix H H6 := (Fix.of_same s05).trans f6
        have i6 : JI K H0 H6 (.ref t6) a2 := ⟨t6, _, p5, sv, a, dx5, n1, pd, ρ, kvs, sc, rfl, h6, ⟨hqa.fix f06, f6 _ _ h5 rfl, hn1, f06 _ _ hpd rfl, hsc.fix f06, ha, hcn, by omega⟩⟩
        have hs6 := j6.sfh
        have hil6 := j6.kp hil0 rfl
        have hpl6 : H6 plc = some (oPl K dxp nd pd) := f06 _ _ hplc rfl
        fail "g"
        refine k [(.ref t6, a2)] m _ (by simpa using j6) (fun z2 hz2 => ?_) (by simp only [qsz_cons, qsz_nil, Pl.size] <;> omega) f06
        simp only [List.mem_cons, List.not_mem_nil, or_false] at hz2
        subst hz2
        · exact i6
end
/-! ## Zplb -/
open PySem PySem.Spec PyProof.Rows L2
local macro_rules | `(tactic| fail "g1") => `(tactic| first | (with_reducible refine' s_isint ?_) | done)
/-- behind a turn: the slots written out anew -/
theorem s_weaN {σ σ' : L2.St} {H : Hp} {D : Ends} {g : TG} {tb : TS} {i : Nat} {r : List V} (e : σ = σ') (q : WFe (fun _ => True) g tb D i r σ' H) : True ∧ WFe (fun _ => True) g tb D i r σ H := ⟨True.intro, by rw [e]; exact q⟩
local macro_rules | `(tactic| fail "g1") => `(tactic| first | ((with_reducible refine' s_weaN ?a ?b); (case a => (simp only [L2.start, List.set_cons_succ, List.set_cons_zero, List.map_cons, List.map_nil, List.cons_append, List.nil_append, List.length_cons, List.length_nil, List.replicate_succ, List.replicate_zero, Nat.add_sub_cancel, Nat.reduceSub, Nat.reduceAdd]); exact rfl)) | done)
section
variable {P : Program} {w : World} {K : PySem.W.Frag} {mg : Str → Option Value} {base : Heap} [Tx w K mg]
theorem ok_inner_plain (hd : Dd K d_inner_plain) (g_is_integer : Ok P w K mg base 1 d_is_integer ["value"] spIsInt) : Ok P w K mg base 2 d_inner_plain ["q"] spKids := by
  obtain ⟨⟨_, G_is_integer, b_is_integer⟩, k_is_integer⟩ := id g_is_integer
  refine ok_mk hd sc_inner_plain bd_inner_plain (fun vs H Q X h => ?_) (fun cdv A outer s0 H vs Q X hr h => ?_)
  · obtain ⟨_, _, rfl, _⟩ := h
    rfl
  obtain ⟨v, pl, rfl, hq, k⟩ := h
  obtain ⟨es, nn, hSH⟩ := (Tx.tabS (w := w) (K := K) (mg := mg)).2
  refine ⟨_, (pss_cons (ps_if (PW.pt (pw_or (pt_not (pt_val (pe_callB call_isI rfl (Tx.fr (K := K) "isinstance" (by decide +kernel)) (by decide +kernel) (pa_cons (pv 0) (pa_cons (pe_bltn (v := .ty "tuple") rfl (Tx.fr (K := K) "tuple" (by decide +kernel)) (by decide +kernel) rfl) pa_nil))))) (pw_or (pt_cmpR op_eq (pe_callB call_lenS rfl (Tx.fr (K := K) "len" (by decide +kernel)) (by decide +kernel) (pa_cons (pv 0) pa_nil)) pe_int (nomark _)) (pw_or (pt_not (pt_val (pe_callB call_isI rfl (Tx.fr (K := K) "isinstance" (by decide +kernel)) (by decide +kernel) (pa_cons (pe_ix ix_tup (pv 0) pe_int (fun _ _ => rfl)) (pa_cons (pe_bltn (v := .ty "str") rfl (Tx.fr (K := K) "str" (by decide +kernel)) (by decide +kernel) rfl) pa_nil))))) (pw_or1 (pt_cmpR (op_knot hSH) (pe_ix ix_tup (pv 0) pe_int (fun _ _ => rfl)) (pe_glob (v := .ref (He.ga K "SHAPES")) rfl ((Tx.tabS (K := K)).1) rfl) (by with_unfolding_all rfl))))))) pss_never pss_nil)
  (pss_cons (ps_set (i := 1) sc_inner_plain.nd rfl (Or.inl rfl) (pe_dgetK (hSH) (pe_glob (v := .ref (He.ga K "SHAPES")) rfl ((Tx.tabS (K := K)).1) rfl) (pe_ix ix_tup (pv 0) pe_int (fun _ _ => rfl)) (fun _ _ => rfl)))
  (pss_cons (ps_if (pt_cmpR op_ne (pe_callB call_lenS rfl (Tx.fr (K := K) "len" (by decide +kernel)) (by decide +kernel) (pa_cons (pv 0) pa_nil)) (pe_op op_add (pe_callB call_lenZ rfl (Tx.fr (K := K) "len" (by decide +kernel)) (by decide +kernel) (pa_cons (pv 1) pa_nil)) pe_int) (nomark _)) pss_never pss_nil)
  (pss_cons (ps_set (i := 2) sc_inner_plain.nd rfl (Or.inl rfl) (pe_lst pa_nil))
  (pss_cons (ps_for PassesOwn.never rfl (pi_enumS rfl (Tx.fr (K := K) "enumerate" (by decide +kernel)) (pa_cons (pv 1) pa_nil)) (pg_tup (by rfl) (pgs_cons (pg_name (i := 3) sc_inner_plain.nd rfl (Or.inl rfl)) (pgs_cons (pg_name (i := 4) sc_inner_plain.nd rfl (Or.inl rfl)) pgs_nil)))
  (pss_cons (ps_set (i := 5) sc_inner_plain.nd rfl (Or.inl rfl) (pe_ix ix_tup (pv 0) (pe_op op_add (pv 3) pe_int) (fun _ _ => rfl)))
  (pss_one (ps_if (pt_cmpR op_eq (pv 4) pe_str (nomark _)) (pss_one (ps_expr (pe_bm PySem.F.plainAttrs_list PySem.F.slot_list_append PySem.F.type_list_append mt_append (pv 2) (pa_cons (pv 5) pa_nil)))) (pss_one (ps_if (pt_cmpR op_eq (pv 4) pe_str (nomark _)) (pss_one (ps_if (pt_not (pt_val (pe_callB call_isI rfl (Tx.fr (K := K) "isinstance" (by decide +kernel)) (by decide +kernel) (pa_cons (pv 5) (pa_cons (pe_bltn (v := .ty "str") rfl (Tx.fr (K := K) "str" (by decide +kernel)) (by decide +kernel) rfl) pa_nil))))) pss_never pss_nil)) (pss_one (ps_if (pt_cmpR op_eq (pv 4) pe_str (nomark _)) pss_never (pss_one (ps_if (PW.pt (pw_or (pt_not (pt_val (pe_call G_is_integer (hr.mono (by omega)) rfl (Tx.gl (K := K) "is_integer" (by decide +kernel)) k_is_integer b_is_integer .nil pass0 (pa_cons (pv 5) pa_nil)))) (pw_or1 (PW.pt (pw_and (pt_cmpR op_eq (pv 4) pe_str (nomark _)) (pw_and1 (pt_cmpR op_lt (pv 5) pe_int (nomark _)))))))) pss_never pss_nil))))))))))
  (pss_one (ps_ret (pv 2)))))))), ?_⟩
  fail "b"
  cases hq with
  | @num p n hp =>
    fail "g"
    fail "un"
    fail "g"
    exact k _ [] _ (by w_dflts lk) (by kspl_open nw) QL.nil rfl (by kspl_open sm)
  | @name p x hp =>
    fail "g"
    fail "un"
    fail "g"
    exact k _ [] _ (by w_dflts lk) (by kspl_open nw) QL.nil rfl (by kspl_open sm)
  | @fn p x va a hp ha =>
    fail "g"
    fail "un"
    fail "g"
    exact k _ [(va, a)] _ (by w_dflts lk) (by kspl_open nw) (QL.cons (by fail "qa") QL.nil) (by simp only [qsz, List.map_cons, List.map_nil, List.sum_cons, List.sum_nil, Pl.size]; omega) (by kspl_open sm)
  | @call p va a vb b hp ha hb =>
    fail "g"
    fail "un"
    fail "g"
    exact k _ [(va, a), (vb, b)] _ (by w_dflts lk) (by kspl_open nw) (QL.cons (by fail "qa") (QL.cons (by fail "qa") QL.nil)) (by simp only [qsz, List.map_cons, List.map_nil, List.sum_cons, List.sum_nil, Pl.size]; omega) (by kspl_open sm)
  | @sum p va a vb b hp ha hb =>
    fail "g"
    fail "un"
    fail "g"
    exact k _ [(va, a), (vb, b)] _ (by w_dflts lk) (by kspl_open nw) (QL.cons (by fail "qa") (QL.cons (by fail "qa") QL.nil)) (by simp only [qsz, List.map_cons, List.map_nil, List.sum_cons, List.sum_nil, Pl.size]; omega) (by kspl_open sm)
  | @less p va a vb b hp ha hb =>
    fail "g"
    fail "un"
    fail "g"
    exact k _ [(va, a), (vb, b)] _ (by w_dflts lk) (by kspl_open nw) (QL.cons (by fail "qa") (QL.cons (by fail "qa") QL.nil)) (by simp only [qsz, List.map_cons, List.map_nil, List.sum_cons, List.sum_nil, Pl.size]; omega) (by kspl_open sm)
  | @iff p vc c va a vb b hp hc ha hb =>
    fail "g"
    fail "un"
    fail "g"
    exact k _ [(vc, c), (va, a), (vb, b)] _ (by w_dflts lk) (by kspl_open nw) (QL.cons (by fail "qa") (QL.cons (by fail "qa") (QL.cons (by fail "qa") QL.nil))) (by simp only [qsz, List.map_cons, List.map_nil, List.sum_cons, List.sum_nil, Pl.size]; omega) (by kspl_open sm)
  | @lett p x va a vb b hp ha hb =>
    fail "g"
    fail "un"
    fail "g"
    exact k _ [(va, a), (vb, b)] _ (by w_dflts lk) (by kspl_open nw) (QL.cons (by fail "qa") (QL.cons (by fail "qa") QL.nil)) (by simp only [qsz, List.map_cons, List.map_nil, List.sum_cons, List.sum_nil, Pl.size]; omega) (by kspl_open sm)
  | @say p va a hp ha =>
    fail "g"
    fail "un"
    fail "g"
    exact k _ [(va, a)] _ (by w_dflts lk) (by kspl_open nw) (QL.cons (by fail "qa") QL.nil) (by simp only [qsz, List.map_cons, List.map_nil, List.sum_cons, List.sum_nil, Pl.size]; omega) (by kspl_open sm)
end
/-! ## Zju6 -/
open PySem PySem.Spec PyProof.Rows L2
def spJFi (K : PySem.W.Frag) : Sp := fun vs H Q _ => ∃ (H0 : Hp) (sf dx ch lf sn kn : Addr) (m : Int) (xs : List V) (v : V) (pl : Pl), vs = [.ref sf, v] ∧
  JB K H0 H sf dx ch lf sn kn m xs ∧ xs.length ≤ 10000 ∧ JI K H0 H v pl ∧
  ∀ (new : List (V × Pl)) m' H', JB K H0 H' sf dx ch lf sn kn m' (xs ++ new.map (·.1)) → (∀ z ∈ new, JI K H0 H' z.1 z.2) → qsz new + 1 = pl.size → Fix H H' → Q (.bl true) H'
def spJRn (K : PySem.W.Frag) : Sp := fun vs H Q _ => ∃ (H0 : Hp) (sf dx ch lf sn kn : Addr) (m : Int) (t : V) (pl : Pl), vs = [.ref sf] ∧ JB K H0 H sf dx ch lf sn kn m [t] ∧ JI K H0 H t pl ∧ pl.size ≤ 10000 ∧ ∀ m' H', JB K H0 H' sf dx ch lf sn kn m' [] → Fix H H' → Q (.bl true) H'
def spJIn (K : PySem.W.Frag) : Sp := fun vs H Q _ => ∃ (sf dx : Addr) (ve vq : V) (e : E) (pl : Pl), vs = [.ref sf, ve, vq] ∧ H sf = some (.ins (He.ga K "Judge") dx []) ∧ EAt H ve e ∧ QAt H vq pl ∧ RenOf [] e pl ∧ e.size ≤ 10000 ∧
  ∀ H0 ch lf sn kn t H', JB K H0 H' sf dx ch lf sn kn 0 [t] → JI K H0 H' t pl → But sf H H0 → Q .non H'
def spIsC : Sp := fun vs H Q _ => ∃ (ve vq : V) (e : E) (pl : Pl), vs = [ve, vq] ∧ EAt H ve e ∧ QAt H vq pl ∧ RenOf [] e pl ∧ e.size ≤ 10000 ∧ ∀ H', Same H H' → Q (.bl true) H'
section
variable {P : Program} {w : World} {K : PySem.W.Frag} {mg : Str → Option Value} {base : Heap} [Tx w K mg]
theorem Pl.wf_q {H : Hp} {v : V} {pl : Pl} (h : QAt H v pl) : ∃ p k r, v = .ref p ∧ H p = some (.tup (.str k :: r)) ∧ decide (V.str k = V.str "force") = false := by
  cases h <;> exact ⟨_, _, _, rfl, by assumption, by decide +kernel⟩
theorem ok_Judge_fits (hd : Dd K d_Judge_fits) (g_Judge_rules_for : Ok P w K mg base 1 d_Judge_rules_for ["self", "node"] (spJRu K)) (g_Judge_plainly : Ok P w K mg base 5 d_Judge_plainly ["self", "q", "place", "names", "delays"] (spJPl K)) : Ok P w K mg base 6 d_Judge_fits ["self", "pair"] (spJFi K) := by
  obtain ⟨⟨_, G_Judge_rules_for, b_Judge_rules_for⟩, k_Judge_rules_for⟩ := id g_Judge_rules_for
  obtain ⟨⟨_, G_Judge_plainly, b_Judge_plainly⟩, k_Judge_plainly⟩ := id g_Judge_plainly
  refine ok_mk hd sc_Judge_fits bd_Judge_fits (fun vs H Q X h => ?_) (fun cdv A outer s0 H vs Q X hr h => ?_)
  · obtain ⟨_, _, _, _, _, _, _, _, _, _, _, rfl, _⟩ := h
    rfl
  obtain ⟨H0, sf, dx, ch, lf, sn, kn, m, xs, v, pl, rfl, j, hxl, ⟨p, q, plc, sv, e, dxp, nd, pd, ρ, kvs, sc, rfl, hp, jc⟩, k⟩ := h
  have hs := j.sfh
  have hplc := jc.pc
  obtain ⟨dxn, ve, il, mk, hnd, hee⟩ := jc.nn.any j (kd := e.kd) rfl
  have hwf := jc.rn.wf
  obtain ⟨pq, kq, rq, rfl, hpq, hkq⟩ := Pl.wf_q jc.qq
  refine ⟨_, (pss_cons (ps_asg (pv 1) (pg_tup (by rfl) (pgs_cons (pg_name (i := 2) sc_Judge_fits.nd rfl (Or.inl rfl)) (pgs_cons (pg_name (i := 3) sc_Judge_fits.nd rfl (Or.inl rfl)) (pgs_cons (pg_name (i := 4) sc_Judge_fits.nd rfl (Or.inl rfl)) (pgs_cons (pg_name (i := 5) sc_Judge_fits.nd rfl (Or.inl rfl)) (pgs_cons (pg_name (i := 6) sc_Judge_fits.nd rfl (Or.inl rfl)) pgs_nil)))))))
  (pss_cons (ps_set (i := 7) sc_Judge_fits.nd rfl (Or.inl rfl) (pe_meth (pv 0) (CF.cls (K := K) (n := "Judge") (by decide +kernel)) (CF.me (K := K) (n := "Judge") (m := "rules_for") (by decide +kernel)) G_Judge_rules_for (hr.mono (by omega)) b_Judge_rules_for .nil pass0 (pa_cons (pe_fld (pv 3) rfl) pa_nil)))
  (pss_cons (ps_set (i := 4) sc_Judge_fits.nd rfl (Or.inl rfl) (pe_or (pv 4) (pe_one (pe_notT (pv 7)))))
  (pss_cons (ps_if (pt_cmpR op_eq (pe_ix ix_tup (pv 2) pe_int (fun _ _ => rfl)) pe_str (nomark _)) pss_never pss_nil)
  (pss_cons (ps_if (pt_not (pt_val (pv 4))) pss_never pss_nil)
  (pss_one (ps_ret (pe_meth (pv 0) (CF.cls (K := K) (n := "Judge") (by decide +kernel)) (CF.me (K := K) (n := "Judge") (m := "plainly") (by decide +kernel)) G_Judge_plainly (hr.mono (by omega)) b_Judge_plainly .nil pass0 (pa_cons (pv 2) (pa_cons (pv 3) (pa_cons (pv 5) (pa_cons (pv 6) pa_nil)))))))))))), ?_⟩
  fail "b"
  fail "g"
  refine ⟨sf, dx, ch, lf, sn, kn, nd, dxn, il, e, ve, m, mk, _, rfl, hs, hnd, hwf, j.kp j.ch0 rfl, fun l H1 hl s1 => ?_⟩
  fail "g"
  refine i_f hkq ?_
  fail "g"
  exact ⟨H0, sf, dx, ch, lf, sn, kn, plc, dxp, nd, pd, m, xs, _, sv, ρ, kvs, sc, e, pl, rfl, j.same s1, hxl, jc.fix (Fix.of_same s1), fun new m' H' j2 i2 z2 f2 => k new m' H' j2 i2 z2 ((Fix.of_same s1).trans f2)⟩
theorem ok_Judge_run (hd : Dd K d_Judge_run) (g_Judge_fits : Ok P w K mg base 6 d_Judge_fits ["self", "pair"] (spJFi K)) : Ok P w K mg base 7 d_Judge_run ["self"] (spJRn K) := by
  obtain ⟨⟨_, G_Judge_fits, b_Judge_fits⟩, k_Judge_fits⟩ := id g_Judge_fits
  refine ok_mk hd sc_Judge_run bd_Judge_run (fun vs H Q X h => ?_) (fun cdv A outer s0 H vs Q X hr h => ?_)
  · obtain ⟨_, _, _, _, _, _, _, _, _, _, rfl, _⟩ := h
    rfl
  obtain ⟨H0, sf, dx, ch, lf, sn, kn, m, t, pl, rfl, j, i, hsz, k⟩ := h
  refine ⟨_, (pss_cons (ps_while PassesOwn.never (pt_truth1 (pe_fld (pv 0) rfl) (by intro _; rfl)) (pss_one (ps_if (pt_not (pt_val (pe_meth (pv 0) (CF.cls (K := K) (n := "Judge") (by decide +kernel)) (CF.me (K := K) (n := "Judge") (m := "fits") (by decide +kernel)) G_Judge_fits (hr.mono (by omega)) b_Judge_fits .nil pass0 (pa_cons (pe_bm0 PySem.F.plainAttrs_list PySem.F.slot_list_pop PySem.F.type_list_pop mt_pop (pe_fld (pv 0) rfl)) pa_nil)))) (pss_one (ps_ret pe_bl)) pss_nil)))
  (pss_one (ps_ret pe_bl))), ?_⟩
  fail "b"
  fail "g"
  refine s_while (fun n σ H1 => ∃ (zs : List (V × Pl)) (m : Int), σ = [some (.ref sf)] ∧ JB K H0 H1 sf dx ch lf sn kn m (zs.map fun z : V × Pl => z.1) ∧ (∀ z ∈ zs, JI K H0 H1 z.1 z.2) ∧ n = qsz zs ∧ qsz zs ≤ pl.size ∧ Fix H H1) pl.size
    ⟨[(t, pl)], m, rfl, j, fun z hz => by cases List.mem_singleton.mp hz; exact i, by simp [qsz_cons, qsz_nil], by simp [qsz_cons, qsz_nil], Fix.refl _⟩ ?_
  rintro n σ H1 ⟨zs, m1, rfl, j1, i1, rfl, hz1, f1⟩
  have hs := j1.sfh
  have hl := j1.lfh
  fail "g"
  rcases List.eq_nil_or_concat zs with rfl | ⟨ys, y, rfl⟩
  · refine i_f rfl ?_
    fail "g"
    exact k _ _ j1 f1
  · refine i_t (by simp) ?_
    rw [List.concat_eq_append] at j1 i1 hz1 ⊢
    rw [List.map_append] at j1
    have hl := j1.lfh
    have hl : H1 lf = some (.lst (ys.map (·.1) ++ [y.1])) := hl
    rw [qsz_app] at hz1
    simp only [qsz_cons, qsz_nil] at hz1
    have hln := len_qsz ys
    fail "g"
    rename_i H2 w2
    have w2 : Wr H1 H2 lf (.lst (ys.map (·.1))) := w2
    refine ⟨H0, sf, dx, ch, lf, sn, kn, m1, ys.map (·.1), y.1, y.2, rfl, j1.put w2, by rw [List.length_map]; omega, (i1 y (by simp)).fix w2.fx, fun new m3 H3 j3 i3 z3 f3 => ?_⟩
    fail "g"
    refine ⟨qsz (ys ++ new), by rw [qsz_app, qsz_app]; simp only [qsz_cons, qsz_nil]; omega, ys ++ new, m3, rfl, by rw [List.map_append]; exact j3, fun z hz => ?_, rfl, by rw [qsz_app]; omega, (f1.trans w2.fx).trans f3⟩
    rcases List.mem_append.mp hz with q | q
    · exact ((i1 z (by simp [q])).fix w2.fx).fix f3
    · exact i3 z q
theorem ok_Judge_init (hd : Dd K d_Judge_init) (g_nodes_of : Ok P w K mg base 3 d_nodes_of ["program"] (spNds K)) (g_Place_init : Ok P w K mg base 1 d_Place_init ["self", "node", "names", "about"] (spPlI K)) : Ok P w K mg base 4 d_Judge_init ["self", "program", "plain"] (spJIn K) := by
  obtain ⟨⟨_, G_nodes_of, b_nodes_of⟩, k_nodes_of⟩ := id g_nodes_of
  obtain ⟨⟨_, G_Place_init, b_Place_init⟩, k_Place_init⟩ := id g_Place_init
  refine ok_mk hd sc_Judge_init bd_Judge_init (fun vs H Q X h => ?_) (fun cdv A outer s0 H vs Q X hr h => ?_)
  · obtain ⟨_, _, _, _, _, _, rfl, _⟩ := h
    rfl
  obtain ⟨sf, dx, ve, vq, e, pl, rfl, hs, hee, hq, hrn, hsz, k⟩ := h
  have hwf := hrn.wf
  refine ⟨_, (pss_cons (ps_asg (pe_call G_nodes_of (hr.mono (by omega)) rfl (Tx.gl (K := K) "nodes_of" (by decide +kernel)) k_nodes_of b_nodes_of .nil pass0 (pa_cons (pv 1) pa_nil)) (pg_tup (by rfl) (pgs_cons (pg_name (i := 3) sc_Judge_init.nd rfl (Or.inl rfl)) (pgs_cons (pg_fld (pv 0)) pgs_nil))))
  (pss_cons (ps_fld (pv 0) (pe_lst (pa_cons (pe_tup (pa_cons (pv 2) (pa_cons (pe_make (CF.mk (K := K) (by decide +kernel)) G_Place_init (hr.mono (by omega)) rfl (Tx.gl (K := K) "Place" (by decide +kernel)) b_Place_init .nil pass0 (pa_cons (pv 3) (pa_cons pe_dnewK (pa_cons pe_non pa_nil)))) (pa_cons pe_bl (pa_cons pe_non (pa_cons pe_non pa_nil)))))) pa_nil)) rfl)
  (pss_cons (ps_fld (pv 0) pe_dnewK rfl)
  (pss_cons (ps_fld (pv 0) pe_int rfl)
  (pss_one (ps_fld (pv 0) pe_dnewK rfl)))))), ?_⟩
  fail "b"
  fail "g"
  refine ⟨ve, e, _, rfl, hee, hwf, hsz, fun t r ch lfn dn H1 ht hch hnd s1 => ?_⟩
  have hs1 : H1 sf = some (.ins (He.ga K "Judge") dx []) := s1 _ _ hs
  fail "g"
  rename_i H2 w2 pd H3 a3
  refine make_whole (fs := [("node", .ref r), ("names", .ref pd), ("about", .non)]) (fun x dx H0 R h0 s0 h1 => ⟨x, dx, r, pd, rfl, h0, h1⟩) fun plc dxp H4 a4 => ?_
  fail "g"
  rename_i t H5 a5 lf H6 a6 H7 w7 sn H8 a8 H9 w9 H10 w10 kn H11 a11 H12 w12
  have hlf0 : H1 lf = none := by kspl_open nw
  have hls : lf ≠ sf := Ne.symm (ne_of_none hs1 hlf0)
  have hmu : Mu2 sf lf H1 H12 := (Mu2.refl sf lf H1).wrA w2 |>.sm a3.sm |>.sm a4.sm |>.sm a5.sm |>.sm a6.sm |>.wrA w7 |>.sm a8.sm |>.wrA w9 |>.wrA w10 |>.sm a11.sm |>.wrA w12
  have hlf : H12 lf = some (.lst [.ref t]) := by w_dflts lk
  have f5 : Fix H5 H12 := by kspl_open fx
  refine k H1 ch lf sn kn (.ref t) H12 ⟨w12.at_, hlf, hmu, hch, ⟨_, _, hs1⟩, hlf0⟩ ⟨t, vq, plc, .non, e, dxp, r, pd, [], [], [], rfl, f5 _ _ a5.at_ rfl, ?_⟩ (But.of_same s1)
  exact ⟨(hq.fix (Fix.of_same s1)).fix hmu.fx, f5 _ _ (a5.sm _ _ a4.at_) rfl, ⟨lfn, dn, hnd⟩, f5 _ _ (a5.sm _ _ (a4.sm _ _ a3.at_)) rfl, .nil, hrn, Cn.nil, by simpa using hsz⟩
theorem ok_is_collapse (hd : Dd K d_is_collapse) (g_is_plain : Ok P w K mg base 3 d_is_plain ["plain"] spIsP) (g_Judge_init : Ok P w K mg base 4 d_Judge_init ["self", "program", "plain"] (spJIn K)) (g_Judge_run : Ok P w K mg base 7 d_Judge_run ["self"] (spJRn K)) : Ok P w K mg base 8 d_is_collapse ["program", "plain"] spIsC := by
  obtain ⟨⟨_, G_is_plain, b_is_plain⟩, k_is_plain⟩ := id g_is_plain
  obtain ⟨⟨_, G_Judge_init, b_Judge_init⟩, k_Judge_init⟩ := id g_Judge_init
  obtain ⟨⟨_, G_Judge_run, b_Judge_run⟩, k_Judge_run⟩ := id g_Judge_run
  refine ok_mk hd sc_is_collapse bd_is_collapse (fun vs H Q X h => ?_) (fun cdv A outer s0 H vs Q X hr h => ?_)
  · obtain ⟨_, _, _, _, rfl, _⟩ := h
    rfl
  obtain ⟨ve, vq, e, pl, rfl, hee, hq, hrn, hsz, k⟩ := h
  have hps : pl.size ≤ 10000 := by rw [hrn.size]; exact hsz
  refine ⟨_, (pss_one (ps_ret (pe_and (pe_call G_is_plain (hr.mono (by omega)) rfl (Tx.gl (K := K) "is_plain" (by decide +kernel)) k_is_plain b_is_plain .nil pass0 (pa_cons (pv 1) pa_nil)) (pe_one (pe_meth0 (pe_make (CF.mk (K := K) (by decide +kernel)) G_Judge_init (hr.mono (by omega)) rfl (Tx.gl (K := K) "Judge" (by decide +kernel)) b_Judge_init .nil pass0 (pa_cons (pv 0) (pa_cons (pv 1) pa_nil))) (CF.cls (K := K) (n := "Judge") (by decide +kernel)) (CF.me (K := K) (n := "Judge") (m := "run") (by decide +kernel)) G_Judge_run (hr.mono (by omega)) b_Judge_run .nil pass0))))), ?_⟩
  fail "b"
  fail "g"
  refine ⟨vq, pl, rfl, hq, hps, fun H1 s1 => ?_⟩
  fail "g"
  intro x dx hx hdx hne
  have sm0 : Same H (upd (upd H1 dx (.own x)) x (.ins (He.ga K "Judge") dx [])) := fun b u hb => by rw [upd_ne (ne_of_none (s1 _ _ hb) hx), upd_ne (ne_of_none (s1 _ _ hb) hdx)]; exact s1 _ _ hb
  refine ⟨x, dx, ve, vq, e, pl, rfl, upd_same, hee.fix (Fix.of_same sm0), hq.fix (Fix.of_same sm0), hrn, hsz, fun H0 ch lf sn kn t H3 j i b0 => ⟨rfl, ?_⟩⟩
  have hs := j.sfh
  fail "g"
  refine ⟨H0, x, dx, ch, lf, sn, kn, 0, t, pl, rfl, j, i, hps, fun m' H4 j4 f4 => ?_⟩
  refine k H4 fun b u hb => ?_
  have hbx : b ≠ x := ne_of_none (s1 _ _ hb) hx
  have h0 := b0 _ _ (sm0 _ _ hb) hbx
  exact j4.mu.bt _ _ h0 hbx (ne_of_none h0 j4.lf0)
end
/-! ## Ztw0 -/
open PySem PySem.Spec PyProof.Rows L2
/-! ### the tower, as a machine -/
inductive Va where
  | int (n : Int) | clo (x : Str) (b : E) (ρ : List (Str × Int))
/-- settings: of level 0; of level 1, in a rule about e of level 0 -/
inductive Se where
  | s0 (ρ : List (Str × Int)) | s1 (n : List (Str × Va)) (e : E) (ρ : List (Str × Int))
inductive Fr where
  | fr (e : E) (s : Se) | second (kd : Str) (v : Va) | back (kd : Str) (old : Option E) | doF (e : E) (s : Se) (vs : List Va)
/-- the rules of level 0 -/
abbrev Ru := Str → Option E
structure TS where
  R : Ru
  rn : Nat
  f : Nat
  w : List Fr
  o : List (Int × Int)
/-- begin is due; resume with a value is due; ended: none for "more" -/
inductive Cf where
  | bg (e : E) (s : Se) (b : Bool) (t : TS) | rv (v : Va) (t : TS) | xx (v : Option Int) (t : TS)
def TS.push (t : TS) (f : Fr) : TS := { t with w := f :: t.w }
def TS.put (t : TS) (k : Str) (r : Option E) : TS := { t with R := fun x => if x = k then r else t.R x, rn := t.rn + 1 }
/-- changeable, and with a first part -/
def fstE : E → Option E
  | .call a _ => some a | .sum a _ => some a | .less a _ => some a | .iff a _ _ => some a | .lett _ a _ => some a | .say a => some a | _ => none
def sndE : E → Option E
  | .call _ b => some b | .sum _ b => some b | .less _ b => some b | _ => none
/-- the parts that a rule may ask for -/
def ptsE : E → List E
  | .call a b => [a, b] | .sum a b => [a, b] | .less a b => [a, b] | .iff a b c => [a, b, c] | .lett _ a _ => [a] | .say a => [a] | _ => []
def chgE : E → Bool
  | .num _ => true | .name _ => true | .fn _ _ => true | .call _ _ => true | .sum _ _ => true | .less _ _ => true | .iff _ _ _ => true | .lett _ _ _ => true | .say _ => true | _ => false
/-- no rule is met -/
def noR (s : Se) (b : Bool) (e : E) (t : TS) : Prop := match s with
  | .s0 _ => b = true ∨ t.R e.kd = none
  | .s1 _ _ _ => True
def doE : E → List E
  | .do1 a => [a] | .do2 a b => [a, b] | _ => []
inductive Step : Cf → Cf → Prop where
  | rule {e ρ r t} : chgE e = true → t.R e.kd = some r → Step (.bg e (.s0 ρ) false t) (.bg r (.s1 [] e ρ) false t)
  | num {n s b t} : noR s b (.num n) t → Step (.bg (.num n) s b t) (.rv (.int n) t)
  | name0 {x v ρ b t} : noR (.s0 ρ) b (.name x) t → ρ.lookup x = some v → Step (.bg (.name x) (.s0 ρ) b t) (.rv (.int v) t)
  | name1 {x v n e ρ b t} : n.lookup x = some v → Step (.bg (.name x) (.s1 n e ρ) b t) (.rv v t)
  | fn {x c ρ b t} : noR (.s0 ρ) b (.fn x c) t → Step (.bg (.fn x c) (.s0 ρ) b t) (.rv (.clo x c ρ) t)
  | fst {e a s b t} : noR s b e t → fstE e = some a → t.w.length < 10000 → Step (.bg e s b t) (.bg a s false (t.push (.fr e s)))
  | keep {k r ρ b t} : t.rn < 10000 → Step (.bg (.keep k r) (.s0 ρ) b t) (.rv (.int 0) (t.put k (some r)))
  | ruleE {k r c ρ b t} : t.rn < 10000 → t.w.length < 10000 → Step (.bg (.rule k r c) (.s0 ρ) b t) (.bg c (.s0 ρ) false ((t.push (.back k (t.R k))).put k (some r)))
  | withh {a n e ρ b t} : t.w.length < 10000 → Step (.bg (.withh a) (.s1 n e ρ) b t) (.bg a (.s1 n e ρ) false (t.push (.fr (.withh a) (.s1 n e ρ))))
  | doo {d a r n e ρ b t} : doE d = a :: r → t.w.length < 10000 → Step (.bg d (.s1 n e ρ) b t) (.bg a (.s1 n e ρ) false (t.push (.doF d (.s1 n e ρ) [])))
  | part {i a n e ρ b t f} : t.f = f + 1 → (ptsE e)[i]? = some a → Step (.bg (.part i) (.s1 n e ρ) b t) (.bg a (.s0 ρ) false { t with f := f })
  | part0 {i n e ρ b t} : t.f = 0 → Step (.bg (.part i) (.s1 n e ρ) b t) (.xx none t)
  | usual {n e ρ b t f} : t.f = f + 1 → Step (.bg .usual (.s1 n e ρ) b t) (.bg e (.s0 ρ) true { t with f := f })
  | usual0 {n e ρ b t} : t.f = 0 → Step (.bg .usual (.s1 n e ρ) b t) (.xx none t)
  | fin {v t} : t.w = [] → Step (.rv (.int v) t) (.xx (some v) t)
  | back {v k old w t} : t.w = .back k old :: w → t.rn < 10000 → Step (.rv v t) (.rv v ({ t with w := w }.put k old))
  | snd {v e a ρ w t} : t.w = .fr e (.s0 ρ) :: w → sndE e = some a → w.length < 10000 → Step (.rv v t) (.bg a (.s0 ρ) false { t with w := .second e.kd v :: w })
  | say {v a ρ w t} : t.w = .fr (.say a) (.s0 ρ) :: w → t.o.length < 10000 → Step (.rv (.int v) t) (.rv (.int v) { t with w := w, o := t.o ++ [(0, v)] })
  | let0 {v x a c ρ w t} : t.w = .fr (.lett x a c) (.s0 ρ) :: w → ρ.length < 10000 → Step (.rv (.int v) t) (.bg c (.s0 ((x, v) :: ρ)) false { t with w := w })
  | let1 {v x a c n e ρ w t} : t.w = .fr (.lett x a c) (.s1 n e ρ) :: w → n.length < 10000 → Step (.rv v t) (.bg c (.s1 ((x, v) :: n) e ρ) false { t with w := w })
  | iff {v c a b s w t} : t.w = .fr (.iff c a b) s :: w → Step (.rv (.int v) t) (.bg (if v = 0 then b else a) s false { t with w := w })
  | withR {v a n x p c ρ w t f} : t.w = .fr (.withh a) (.s1 n (.lett x p c) ρ) :: w → ρ.length < 10000 → t.f = f + 1 → Step (.rv (.int v) t) (.bg c (.s0 ((x, v) :: ρ)) false { t with w := w, f := f })
  | withR0 {v a n x p c ρ w t} : t.w = .fr (.withh a) (.s1 n (.lett x p c) ρ) :: w → t.f = 0 → Step (.rv (.int v) t) (.xx none { t with w := w })
  | sum {v u w t} : t.w = .second "sum" (.int u) :: w → Step (.rv (.int v) t) (.rv (.int (u + v)) { t with w := w })
  | less {v u w t} : t.w = .second "less" (.int u) :: w → Step (.rv (.int v) t) (.rv (.int (if u < v then 1 else 0)) { t with w := w })
  | call {v x c ρ w t f} : t.w = .second "call" (.clo x c ρ) :: w → ρ.length < 10000 → t.f = f + 1 → Step (.rv (.int v) t) (.bg c (.s0 ((x, v) :: ρ)) false { t with w := w, f := f })
  | call0 {v x c ρ w t} : t.w = .second "call" (.clo x c ρ) :: w → t.f = 0 → Step (.rv (.int v) t) (.xx none { t with w := w })
  | doN {v u d a n e ρ w t} : t.w = .doF d (.s1 n e ρ) [] :: w → doE d = [u, a] → w.length < 10000 → Step (.rv v t) (.bg a (.s1 n e ρ) false { t with w := .doF d (.s1 n e ρ) [v] :: w })
  | doM {v d n e ρ vs w t} : t.w = .doF d (.s1 n e ρ) vs :: w → (doE d).length = vs.length + 1 → t.f = 0 → Step (.rv v t) (.xx none { t with w := w })
  | doSay {v u a n ρ w t f} : t.w = .doF (.do1 u) (.s1 n (.say a) ρ) [] :: w → t.f = f + 1 → t.o.length < 10000 → Step (.rv (.int v) t) (.rv (.int v) { t with w := w, f := f, o := t.o ++ [(0, v)] })
  | doSum {v u d1 d2 a b n ρ w t f} : t.w = .doF (.do2 d1 d2) (.s1 n (.sum a b) ρ) [.int u] :: w → t.f = f + 1 → Step (.rv (.int v) t) (.rv (.int (u + v)) { t with w := w, f := f })
  | doLess {v u d1 d2 a b n ρ w t f} : t.w = .doF (.do2 d1 d2) (.s1 n (.less a b) ρ) [.int u] :: w → t.f = f + 1 → Step (.rv (.int v) t) (.rv (.int (if u < v then 1 else 0)) { t with w := w, f := f })
  | doCall {v x c ρ' d1 d2 a b n ρ w t f} : t.w = .doF (.do2 d1 d2) (.s1 n (.call a b) ρ) [.clo x c ρ'] :: w → ρ'.length < 10000 → t.f = f + 2 → Step (.rv (.int v) t) (.bg c (.s0 ((x, v) :: ρ')) false { t with w := w, f := f })
  | doCall1 {v x c ρ' d1 d2 a b n ρ w t} : t.w = .doF (.do2 d1 d2) (.s1 n (.call a b) ρ) [.clo x c ρ'] :: w → t.f = 1 → Step (.rv (.int v) t) (.xx none { t with w := w, f := 0 })
/-- the machine comes to an end of which Pv holds, in n steps -/
inductive FinN (Pv : Option Int → List (Int × Int) → Prop) : Nat → Cf → Prop where
  | done {v t} : Pv v t.o → FinN Pv 0 (.xx v t)
  | step {c c' n} : Step c c' → FinN Pv n c' → FinN Pv (n + 1) c
def Fin (Pv : Option Int → List (Int × Int) → Prop) (c : Cf) : Prop := ∃ n, FinN Pv n c
theorem Fin.step {Pv : Option Int → List (Int × Int) → Prop} {c c' : Cf} (h : Step c c') (f : Fin Pv c') : Fin Pv c := let ⟨n, q⟩ := f; ⟨n + 1, .step h q⟩
/-! ## Ztw1 -/
open PySem PySem.Spec PyProof.Rows L2
/-! ### the machine in the heap -/
def RI (v : V) (n : Int) : Prop := v = .int n
abbrev oSt (K : PySem.W.Frag) (dx : Addr) (l : Int) (nm : Addr) (ab : V) : HO := .ins (He.ga K "Setting") dx [("level", .int l), ("names", .ref nm), ("about", ab)]
/-- a setting of level 0 -/
def S0 (K : PySem.W.Frag) (H : Hp) (sa : Addr) (ρ : List (Str × Int)) : Prop := ∃ dx nm, H sa = some (oSt K dx 0 nm .non) ∧ EnvAt RI H (.ref nm) ρ
theorem S0.fix {K : PySem.W.Frag} {H H' : Hp} (f : Fix H H') {sa : Addr} {ρ : List (Str × Int)} (h : S0 K H sa ρ) : S0 K H' sa ρ :=
  let ⟨dx, nm, h1, h2⟩ := h
  ⟨dx, nm, f _ _ h1 rfl, h2.fix0 f⟩
def VaAt (K : PySem.W.Frag) (H : Hp) (v : V) : Va → Prop
  | .int n => v = .int n
  | .clo x b ρ => ∃ p vb sa, v = .ref p ∧ H p = some (.tup [.str "fn", .int 0, .str x, vb, .ref sa]) ∧ EAt H vb b ∧ S0 K H sa ρ
theorem VaAt.fix {K : PySem.W.Frag} {H H' : Hp} (f : Fix H H') {v : V} {a : Va} (h : VaAt K H v a) : VaAt K H' v a := by
  cases a with
  | int n => exact h
  | clo x b ρ =>
    obtain ⟨p, vb, sa, h1, h2, h3, h4⟩ := h
    exact ⟨p, vb, sa, h1, f _ _ h2 rfl, h3.fix f, h4.fix f⟩
def SeAt (K : PySem.W.Frag) (H : Hp) (sa : Addr) : Se → Prop
  | .s0 ρ => S0 K H sa ρ
  | .s1 n e ρ => ∃ dx nm ab ve sb, H sa = some (oSt K dx 1 nm (.ref ab)) ∧ EnvAt (VaAt K H) H (.ref nm) n ∧ H ab = some (.tup [ve, .ref sb]) ∧ EAt H ve e ∧ S0 K H sb ρ
theorem SeAt.fix {K : PySem.W.Frag} {H H' : Hp} (f : Fix H H') {sa : Addr} {s : Se} (h : SeAt K H sa s) : SeAt K H' sa s := by
  cases s with
  | s0 ρ => exact S0.fix f h
  | s1 n e ρ =>
    obtain ⟨dx, nm, ab, ve, sb, h1, h2, h3, h4, h5⟩ := h
    exact ⟨dx, nm, ab, ve, sb, f _ _ h1 rfl, EnvAt.fix h2 f fun v a q => q.fix f, f _ _ h3 rfl, h4.fix f, h5.fix f⟩
def OlAt (H : Hp) (v : V) : Option E → Prop
  | none => v = .non
  | some r => EAt H v r
theorem OlAt.fix {H H' : Hp} (f : Fix H H') {v : V} {o : Option E} (h : OlAt H v o) : OlAt H' v o := by
  cases o with
  | none => exact h
  | some r => exact EAt.fix f h
inductive VasAt (K : PySem.W.Frag) (H : Hp) : List V → List Va → Prop where
  | nil : VasAt K H [] []
  | cons {v a vs as} : VaAt K H v a → VasAt K H vs as → VasAt K H (v :: vs) (a :: as)
theorem VasAt.fix {K : PySem.W.Frag} {H H' : Hp} (f : Fix H H') {vs : List V} {as : List Va} (h : VasAt K H vs as) : VasAt K H' vs as := by
  induction h with
  | nil => exact .nil
  | cons h _ i => exact .cons (h.fix f) i
def FrAt (K : PySem.W.Frag) (H : Hp) (v : V) : Fr → Prop
  | .fr e s => ∃ p ve sa, v = .ref p ∧ H p = some (.tup [.str e.kd, ve, .ref sa]) ∧ EAt H ve e ∧ SeAt K H sa s
  | .second kd a => ∃ p va, v = .ref p ∧ H p = some (.tup [.str "second", .str kd, .int 0, va]) ∧ VaAt K H va a
  | .back kd old => ∃ p pl vo, v = .ref p ∧ H p = some (.tup [.str "back", .ref pl, vo]) ∧ H pl = some (.tup [.int 0, .str kd]) ∧ OlAt H vo old
  | .doF e s as => ∃ p ve sa vp vs, v = .ref p ∧ H p = some (.tup [.str "do", ve, .ref sa, .ref vp]) ∧ EAt H ve e ∧ SeAt K H sa s ∧ H vp = some (.tup vs) ∧ VasAt K H vs as
theorem FrAt.fix {K : PySem.W.Frag} {H H' : Hp} (f : Fix H H') {v : V} {r : Fr} (h : FrAt K H v r) : FrAt K H' v r := by
  cases r with
  | fr e s =>
    obtain ⟨p, ve, sa, h1, h2, h3, h4⟩ := h
    exact ⟨p, ve, sa, h1, f _ _ h2 rfl, h3.fix f, h4.fix f⟩
  | second kd a =>
    obtain ⟨p, va, h1, h2, h3⟩ := h
    exact ⟨p, va, h1, f _ _ h2 rfl, h3.fix f⟩
  | back kd old =>
    obtain ⟨p, pl, vo, h1, h2, h3, h4⟩ := h
    exact ⟨p, pl, vo, h1, f _ _ h2 rfl, f _ _ h3 rfl, h4.fix f⟩
  | doF e s as =>
    obtain ⟨p, ve, sa, vp, vs, h1, h2, h3, h4, h5, h6⟩ := h
    exact ⟨p, ve, sa, vp, vs, h1, f _ _ h2 rfl, h3.fix f, h4.fix f, f _ _ h5 rfl, h6.fix f⟩
/-- the waiting list: its top is the last item -/
inductive WtAt (K : PySem.W.Frag) (H : Hp) : List V → List Fr → Prop where
  | nil : WtAt K H [] []
  | cons {v r vs rs} : FrAt K H v r → WtAt K H vs rs → WtAt K H (vs ++ [v]) (r :: rs)
theorem WtAt.fix {K : PySem.W.Frag} {H H' : Hp} (f : Fix H H') {vs : List V} {rs : List Fr} (h : WtAt K H vs rs) : WtAt K H' vs rs := by
  induction h with
  | nil => exact .nil
  | cons h _ i => exact .cons (h.fix f) i
theorem WtAt.len {K : PySem.W.Frag} {H : Hp} {vs : List V} {rs : List Fr} (h : WtAt K H vs rs) : vs.length = rs.length := by
  induction h with
  | nil => rfl
  | cons _ _ i => rw [List.length_append, i]; rfl
/-- the outputs -/
inductive OuAt (H : Hp) : List V → List (Int × Int) → Prop where
  | nil : OuAt H [] []
  | cons {p n m vs o} : H p = some (.tup [.int n, .int m]) → OuAt H vs o → OuAt H (.ref p :: vs) ((n, m) :: o)
theorem OuAt.fix {H H' : Hp} (f : Fix H H') {vs : List V} {o : List (Int × Int)} (h : OuAt H vs o) : OuAt H' vs o := by
  induction h with
  | nil => exact .nil
  | cons h _ i => exact .cons (f _ _ h rfl) i
theorem OuAt.len {H : Hp} {vs : List V} {o : List (Int × Int)} (h : OuAt H vs o) : vs.length = o.length := by
  induction h with
  | nil => rfl
  | cons _ _ i => rw [List.length_cons, List.length_cons, i]
theorem OuAt.snoc {H : Hp} {vs : List V} {o : List (Int × Int)} (h : OuAt H vs o) {p : Addr} {n m : Int} (hp : H p = some (.tup [.int n, .int m])) : OuAt H (vs ++ [.ref p]) (o ++ [(n, m)]) := by
  induction h with
  | nil => exact .cons hp .nil
  | cons h _ i => exact .cons h i
/-- the rules -/
structure RuAt (H : Hp) (kvs : List (List Key × V)) (R : Ru) (rn : Nat) : Prop where
  len : kvs.length ≤ rn
  at_ : ∀ k, OlAt H ((valV kvs [.inl 0, .inr k]).getD .non) (R k)
  no1 : ∀ k, valV kvs [.inl 1, .inr k] = none
  nn : ∀ k, R k = none → valV kvs [.inl 0, .inr k] = none
theorem RuAt.fix {H H' : Hp} (f : Fix H H') {kvs : List (List Key × V)} {R : Ru} {rn : Nat} (h : RuAt H kvs R rn) : RuAt H' kvs R rn := ⟨h.len, fun k => (h.at_ k).fix f, h.no1, h.nn⟩
abbrev oTw (K : PySem.W.Frag) (dx : Addr) (ve : V) (st : Addr) (b : Bool) (fu : Nat) (rl wt ou : Addr) (en : V) : HO :=
  .ins (He.ga K "Tower") dx [("e", ve), ("setting", .ref st), ("built_in", .bl b), ("fuel", .int (fu : Nat)), ("rules", .ref rl), ("waiting", .ref wt), ("outputs", .ref ou), ("end", en)]
/-- the tower at sf: its lists, its rules -/
structure TwA (K : PySem.W.Frag) (H : Hp) (sf dx : Addr) (ve : V) (st : Addr) (b : Bool) (rl wt ou : Addr) (en : V) (t : TS) : Prop where
  sfh : H sf = some (oTw K dx ve st b t.f rl wt ou en)
  ru : ∃ kvs, H rl = some (.dT kvs) ∧ RuAt H kvs t.R t.rn
  wa : ∃ vs, H wt = some (.lst vs) ∧ WtAt K H vs t.w
  oa : ∃ vs, H ou = some (.lst vs) ∧ OuAt H vs t.o
  ne : wt ≠ ou
/-! ## Ztw2 -/
open PySem PySem.Spec PyProof.Rows L2
theorem make_whole' {C : Addr} {sp : Sp} {X : XK} {Q : VK} {vs : List V} {H : Hp} {fs : List (Str × V)} (hs : ∀ x dx H0 (R : VK), H0 x = some (.ins C dx []) → Same H H0 → (∀ H', H' x = some (.ins C dx fs) → But x H0 H' → R .non H') → sp (.ref x :: (vs ++ [])) H0 R X)
    (q : ∀ x dx H', Al H H' x (.ins C dx fs) → Q (.ref x) H') : kMake C sp X Q vs H := by
  intro x dx hx hdx hne
  have sm0 : Same H (upd (upd H dx (.own x)) x (.ins C dx [])) := fun b u hb => by rw [upd_ne (ne_of_none hb hx), upd_ne (ne_of_none hb hdx)]; exact hb
  exact hs x dx _ _ upd_same sm0 fun H' e k => ⟨rfl, q x dx H' ⟨hx, e, Same.made hx hdx fun b o e1 n => k b o e1 n⟩⟩
def spShow : Sp := fun vs H Q _ => ∃ (n : Int), vs = [.int n] ∧ Q (.int n) H
def spStI (K : PySem.W.Frag) : Sp := fun vs H Q _ => ∃ (sf dx : Addr) (l : Int) (nm : Addr) (ab : V), vs = [.ref sf, .int l, .ref nm, ab] ∧ H sf = some (.ins (He.ga K "Setting") dx []) ∧ ∀ H', H' sf = some (oSt K dx l nm ab) → But sf H H' → Q .non H'
def spStW (K : PySem.W.Frag) : Sp := fun vs H Q _ => ∃ (sa dx nm : Addr) (l : Int) (ab v : V) (x : Str) (kvs : List (Key × V)), vs = [.ref sa, .str x, v] ∧ H sa = some (oSt K dx l nm ab) ∧ H nm = some (.dK kvs) ∧ kvs.length < 100000 ∧ ∀ p dx' nm' H', H' p = some (oSt K dx' l nm' ab) → H' nm' = some (.dK (putK kvs (.inr x) v)) → Same H H' → Q (.ref p) H'
def spGo (K : PySem.W.Frag) (b2 : Bool) : Sp := fun vs H Q _ => ∃ (sf dx : Addr) (ve ve2 : V) (st st2 : Addr) (b : Bool) (fu : Nat) (rl wt ou : Addr) (en : V), vs = [.ref sf, ve2, .ref st2] ∧ H sf = some (oTw K dx ve st b fu rl wt ou en) ∧ ∀ H', H' sf = some (oTw K dx ve2 st2 b2 fu rl wt ou en) → Mu sf H H' → Q .non H'
def spStp (K : PySem.W.Frag) : Sp := fun vs H Q _ => ∃ (sf dx : Addr) (ve : V) (st : Addr) (b : Bool) (fu : Nat) (rl wt ou : Addr) (en : V), vs = [.ref sf] ∧ H sf = some (oTw K dx ve st b fu rl wt ou en) ∧
  (fu = 0 → ∀ m H', H' sf = some (oTw K dx ve st b 0 rl wt ou (.ref m)) → H' m = some (.tup [.str "more"]) → Mu sf H H' → Q (.bl false) H') ∧ (∀ f, fu = f + 1 → ∀ H', H' sf = some (oTw K dx ve st b f rl wt ou en) → Mu sf H H' → Q (.bl true) H')
/-- parts_of: a new tuple that begins with the parts -/
inductive EsAt (H : Hp) : List V → List E → Prop where
  | nil : EsAt H [] []
  | cons {v e vs es} : EAt H v e → EsAt H vs es → EsAt H (v :: vs) (e :: es)
def spPts : Sp := fun vs H Q _ => ∃ (v : V) (e : E), vs = [v] ∧ EAt H v e ∧ ptsE e ≠ [] ∧ ∀ p xs H', H' p = some (.tup xs) → EsAt H' xs (ptsE e) → Same H H' → Q (.ref p) H'
section
variable {P : Program} {w : World} {K : PySem.W.Frag} {mg : Str → Option Value} {base : Heap} [Tx w K mg]
theorem ok_shown (hd : Dd K d_shown) : Ok P w K mg base 1 d_shown ["value"] spShow := by
  refine ok_mk hd sc_shown bd_shown (fun vs H Q X h => ?_) (fun cdv A outer s0 H vs Q X hr h => ?_)
  · obtain ⟨_, rfl, _⟩ := h
    rfl
  obtain ⟨n, rfl, k⟩ := h
  refine ⟨_, (pss_one (ps_ret (pe_ifExp (pt_val (pe_callB call_isI rfl (Tx.fr (K := K) "isinstance" (by decide +kernel)) (by decide +kernel) (pa_cons (pv 0) (pa_cons (pe_bltn (v := .ty "int") rfl (Tx.fr (K := K) "int" (by decide +kernel)) (by decide +kernel) rfl) pa_nil)))) (pv 0) (pe_tup (pa_cons pe_str (pa_cons (pe_ix ix_tup (pv 0) pe_int (fun _ _ => rfl)) pa_nil)))))), ?_⟩
  fail "b"
  fail "g"
  exact k
theorem ok_Setting_init (hd : Dd K d_Setting_init) : Ok P w K mg base 1 d_Setting_init ["self", "level", "names", "about"] (spStI K) := by
  refine ok_mk hd sc_Setting_init bd_Setting_init (fun vs H Q X h => ?_) (fun cdv A outer s0 H vs Q X hr h => ?_)
  · obtain ⟨_, _, _, _, _, rfl, _⟩ := h
    rfl
  obtain ⟨sf, dx, l, nm, ab, rfl, hs, k⟩ := h
  refine ⟨_, (pss_cons (ps_fld (pv 0) (pv 1) rfl)
  (pss_cons (ps_fld (pv 0) (pv 2) rfl)
  (pss_one (ps_fld (pv 0) (pv 3) rfl)))), ?_⟩
  fail "b"
  fail "g"
  rename_i H1 w1 H2 w2 H3 w3
  exact k _ w3.at_ ((w1.bt.trans w2.bt).trans w3.bt)
theorem ok_Setting_with_name (hd : Dd K d_Setting_with_name) (g_Setting_init : Ok P w K mg base 1 d_Setting_init ["self", "level", "names", "about"] (spStI K)) : Ok P w K mg base 3 d_Setting_with_name ["self", "x", "value"] (spStW K) := by
  obtain ⟨⟨_, G_Setting_init, b_Setting_init⟩, k_Setting_init⟩ := id g_Setting_init
  refine ok_mk hd sc_Setting_with_name bd_Setting_with_name (fun vs H Q X h => ?_) (fun cdv A outer s0 H vs Q X hr h => ?_)
  · obtain ⟨_, _, _, _, _, _, _, _, rfl, _⟩ := h
    rfl
  obtain ⟨sa, dx, nm, l, ab, v, x, kvs, rfl, hs, hn, hl, k⟩ := h
  have hz : kvs.length < sizeLine := Nat.lt_of_lt_of_le hl (by decide)
  refine ⟨_, (pss_cons (ps_set (i := 3) sc_Setting_with_name.nd rfl (Or.inl rfl) (pe_callTy call_dictD1 rfl (Tx.fr (K := K) "dict" (by decide +kernel)) (by decide +kernel) (pa_cons (pe_fld (pv 0) rfl) pa_nil)))
  (pss_cons (ps_dput (hu_of hr) (pv 3) (pv 1) (pv 2) rfl)
  (pss_one (ps_ret (pe_make (CF.mk (K := K) (by decide +kernel)) G_Setting_init (hr.mono (by omega)) rfl (Tx.gl (K := K) "Setting" (by decide +kernel)) b_Setting_init .nil pass0 (pa_cons (pe_fld (pv 0) rfl) (pa_cons (pv 3) (pa_cons (pe_fld (pv 0) rfl) pa_nil)))))))), ?_⟩
  fail "b"
  fail "g"
  rename_i d H0a a0 H1 a1
  refine make_whole' (fs := [("level", .int l), ("names", .ref d), ("about", ab)]) (fun x dx H0 R h0 s0 h1 => ⟨x, dx, l, d, ab, rfl, h0, h1⟩) fun x dx H2 a2 => ?_
  exact k _ _ _ _ a2.at_ (by w_dflts lk) (by kspl_open sm)
theorem ok_Tower_go (hd : Dd K d_Tower_go) : Ok P w K mg base 1 d_Tower_go ["self", "e", "setting"] (spGo K false) := by
  refine ok_mk hd sc_Tower_go bd_Tower_go (fun vs H Q X h => ?_) (fun cdv A outer s0 H vs Q X hr h => ?_)
  · obtain ⟨_, _, _, _, _, _, _, _, _, _, _, _, rfl, _⟩ := h
    rfl
  obtain ⟨sf, dx, ve, ve2, st, st2, b, fu, rl, wt, ou, en, rfl, hs, k⟩ := h
  refine ⟨_, (pss_cons (ps_fld (pv 0) (pv 1) rfl)
  (pss_cons (ps_fld (pv 0) (pv 2) rfl)
  (pss_one (ps_fld (pv 0) pe_bl rfl)))), ?_⟩
  fail "b"
  fail "g"
  exact k _ (by w_dflts lk) (by kspl_open mu)
theorem ok_Tower_go_built_in (hd : Dd K d_Tower_go_built_in) (g_Tower_go : Ok P w K mg base 1 d_Tower_go ["self", "e", "setting"] (spGo K false)) : Ok P w K mg base 2 d_Tower_go_built_in ["self", "e", "setting"] (spGo K true) := by
  obtain ⟨⟨_, G_Tower_go, b_Tower_go⟩, k_Tower_go⟩ := id g_Tower_go
  refine ok_mk hd sc_Tower_go_built_in bd_Tower_go_built_in (fun vs H Q X h => ?_) (fun cdv A outer s0 H vs Q X hr h => ?_)
  · obtain ⟨_, _, _, _, _, _, _, _, _, _, _, _, rfl, _⟩ := h
    rfl
  obtain ⟨sf, dx, ve, ve2, st, st2, b, fu, rl, wt, ou, en, rfl, hs, k⟩ := h
  refine ⟨_, (pss_cons (ps_expr (pe_meth (pv 0) (CF.cls (K := K) (n := "Tower") (by decide +kernel)) (CF.me (K := K) (n := "Tower") (m := "go") (by decide +kernel)) G_Tower_go (hr.mono (by omega)) b_Tower_go .nil pass0 (pa_cons (pv 1) (pa_cons (pv 2) pa_nil))))
  (pss_one (ps_fld (pv 0) pe_bl rfl))), ?_⟩
  fail "b"
  fail "g"
  refine ⟨sf, dx, ve, ve2, st, st2, b, fu, rl, wt, ou, en, rfl, hs, fun H1 h1 m1 => ?_⟩
  fail "g"
  exact k _ (by w_dflts lk) (by kspl_open mu)
theorem ok_Tower_step (hd : Dd K d_Tower_step) : Ok P w K mg base 1 d_Tower_step ["self"] (spStp K) := by
  refine ok_mk hd sc_Tower_step bd_Tower_step (fun vs H Q X h => ?_) (fun cdv A outer s0 H vs Q X hr h => ?_)
  · obtain ⟨_, _, _, _, _, _, _, _, _, _, rfl, _⟩ := h
    rfl
  obtain ⟨sf, dx, ve, st, b, fu, rl, wt, ou, en, rfl, hs, k1, k2⟩ := h
  refine ⟨_, (pss_cons (ps_if (pt_cmpR op_eq (pe_fld (pv 0) rfl) pe_int (nomark _)) (pss_cons (ps_fld (pv 0) (pe_tup (pa_cons pe_str pa_nil)) rfl)
  (pss_one (ps_ret pe_bl))) pss_nil)
  (pss_cons (ps_fldaug (pv 0) pe_int in_sub)
  (pss_one (ps_ret pe_bl)))), ?_⟩
  fail "b"
  fail "g"
  cases fu with
  | zero =>
    refine i_t rfl ?_
    fail "g"
    exact k1 rfl _ _ (by w_dflts lk) (by w_dflts lk) (by kspl_open mu)
  | succ f =>
    refine i_f (decide_eq_false (fun h => by injection h with h; omega)) ?_
    fail "g"
    rename_i H1 w1
    refine k2 f rfl _ ?_ (by kspl_open mu)
    have q := w1.at_
    rw [show (((f + 1 : Nat) : Int) - 1) = (f : Int) by omega] at q
    exact q
theorem ok_parts_of (hd : Dd K d_parts_of) : Ok P w K mg base 1 d_parts_of ["e"] spPts := by
  refine ok_mk hd sc_parts_of bd_parts_of (fun vs H Q X h => ?_) (fun cdv A outer s0 H vs Q X hr h => ?_)
  · obtain ⟨_, _, rfl, _⟩ := h
    rfl
  obtain ⟨v, e, rfl, he, hne, k⟩ := h
  refine ⟨_, (pss_cons (ps_if (pt_cmpR op_in_seq (pe_ix ix_tup (pv 0) pe_int (fun _ _ => rfl)) (pe_tup (pa_cons pe_str (pa_cons pe_str (pa_cons pe_str (pa_cons pe_str (pa_cons pe_str pa_nil)))))) (by with_unfolding_all rfl)) (pss_one (ps_ret (pe_slice sl_tup (pv 0) (po_some pe_int) po_none))) pss_nil)
  (pss_one (ps_ret (pe_ifExp (pt_cmpR op_eq (pe_ix ix_tup (pv 0) pe_int (fun _ _ => rfl)) pe_str (nomark _)) (pe_tup (pa_cons (pe_ix ix_tup (pv 0) pe_int (fun _ _ => rfl)) pa_nil)) (pe_tup pa_nil))))), ?_⟩
  fail "b"
  cases he with
  | call hp ha hb =>
    fail "g"
    exact k _ _ _ (by w_dflts lk) (.cons (by fail "e") (.cons (by fail "e") .nil)) (by kspl_open sm)
  | sum hp ha hb =>
    fail "g"
    exact k _ _ _ (by w_dflts lk) (.cons (by fail "e") (.cons (by fail "e") .nil)) (by kspl_open sm)
  | less hp ha hb =>
    fail "g"
    exact k _ _ _ (by w_dflts lk) (.cons (by fail "e") (.cons (by fail "e") .nil)) (by kspl_open sm)
  | iff hp hc ha hb =>
    fail "g"
    exact k _ _ _ (by w_dflts lk) (.cons (by fail "e") (.cons (by fail "e") (.cons (by fail "e") .nil))) (by kspl_open sm)
  | lett hp ha hb =>
    fail "g"
    exact k _ _ _ (by w_dflts lk) (.cons (by fail "e") .nil) (by kspl_open sm)
  | say hp ha =>
    fail "g"
    exact k _ _ _ (by w_dflts lk) (.cons (by fail "e") .nil) (by kspl_open sm)
  | _ => exact absurd rfl hne
end
/-! ## Ztw3 -/
open PySem PySem.Spec PyProof.Rows L2
structure M4 (sf rl wt ou : Addr) (H H' : Hp) : Prop where
  bt : ∀ b u, H b = some u → b ≠ sf → b ≠ rl → b ≠ wt → b ≠ ou → H' b = some u
  fx : Fix H H'
section
variable {sf rl wt ou p : Addr} {H H1 H2 : Hp} {o : HO}
theorem M4.refl : M4 sf rl wt ou H H := ⟨fun _ _ h _ _ _ _ => h, Fix.refl H⟩
theorem M4.trans (a : M4 sf rl wt ou H H1) (b : M4 sf rl wt ou H1 H2) : M4 sf rl wt ou H H2 := ⟨fun c u h n1 n2 n3 n4 => b.bt c u (a.bt c u h n1 n2 n3 n4) n1 n2 n3 n4, a.fx.trans b.fx⟩
theorem M4.sm (a : M4 sf rl wt ou H H1) (b : Same H1 H2) : M4 sf rl wt ou H H2 := a.trans ⟨fun c u h _ _ _ _ => b c u h, Fix.of_same b⟩
theorem M4.muS (a : M4 sf rl wt ou H H1) (b : Mu sf H1 H2) : M4 sf rl wt ou H H2 := a.trans ⟨fun c u h n1 _ _ _ => b.bt c u h n1, b.fx⟩
theorem M4.wrW (a : M4 sf rl wt ou H H1) (b : Wr H1 H2 wt o) : M4 sf rl wt ou H H2 := a.trans ⟨fun c u h _ _ n3 _ => b.bt c u h n3, b.fx⟩
theorem M4.wrO (a : M4 sf rl wt ou H H1) (b : Wr H1 H2 ou o) : M4 sf rl wt ou H H2 := a.trans ⟨fun c u h _ _ _ n4 => b.bt c u h n4, b.fx⟩
theorem M4.wrR (a : M4 sf rl wt ou H H1) (b : Wr H1 H2 rl o) : M4 sf rl wt ou H H2 := a.trans ⟨fun c u h _ n2 _ _ => b.bt c u h n2, b.fx⟩
theorem M4.wrS (a : M4 sf rl wt ou H H1) (b : Wr H1 H2 sf o) : M4 sf rl wt ou H H2 := a.trans ⟨fun c u h n1 _ _ _ => b.bt c u h n1, b.fx⟩
end
theorem kx {C d : Addr} {fs : List (Str × V)} {o : HO} (h : knd o < 10) : Nat.beq (knd o) (knd (.ins C d fs)) = false := by
  cases q : Nat.beq (knd o) (knd (.ins C d fs)) with
  | false => rfl
  | true =>
    have e := Nat.eq_of_beq_eq_true q
    have e2 : knd o = 10 + fs.length := e
    omega
/-- the tower's lists and rules, apart from the tower itself -/
structure TwL (K : PySem.W.Frag) (H : Hp) (rl wt ou : Addr) (t : TS) : Prop where
  ru : ∃ kvs, H rl = some (.dT kvs) ∧ RuAt H kvs t.R t.rn
  wa : ∃ vs, H wt = some (.lst vs) ∧ WtAt K H vs t.w
  oa : ∃ vs, H ou = some (.lst vs) ∧ OuAt H vs t.o
  ne : wt ≠ ou
section
variable {K : PySem.W.Frag} {H H' : Hp} {sf rl wt ou : Addr} {t : TS} {C d : Addr} {fs : List (Str × V)}
/-- kept where only the tower itself changes -/
theorem TwL.mu (h : TwL K H rl wt ou t) (hs : H sf = some (.ins C d fs)) (m : Mu sf H H') : TwL K H' rl wt ou t := by
  obtain ⟨⟨k, a1, a2⟩, ⟨v, b1, b2⟩, ⟨u, c1, c2⟩, n⟩ := h
  exact ⟨⟨k, m.bt _ _ a1 (ne_k a1 hs (kx (by show (3 : Nat) < 10; decide))), a2.fix m.fx⟩, ⟨v, m.bt _ _ b1 (ne_k b1 hs (kx (by show (0 : Nat) < 10; decide))), b2.fix m.fx⟩, ⟨u, m.bt _ _ c1 (ne_k c1 hs (kx (by show (0 : Nat) < 10; decide))), c2.fix m.fx⟩, n⟩
theorem TwL.same (h : TwL K H rl wt ou t) (m : Same H H') : TwL K H' rl wt ou t := by
  obtain ⟨⟨k, a1, a2⟩, ⟨v, b1, b2⟩, ⟨u, c1, c2⟩, n⟩ := h
  exact ⟨⟨k, m _ _ a1, a2.fix (Fix.of_same m)⟩, ⟨v, m _ _ b1, b2.fix (Fix.of_same m)⟩, ⟨u, m _ _ c1, c2.fix (Fix.of_same m)⟩, n⟩
/-- a frame pushed -/
theorem TwL.push (h : TwL K H rl wt ou t) {vs : List V} (hw : H wt = some (.lst vs)) {x : V} {f : Fr} (w : Wr H H' wt (.lst (vs ++ [x]))) (hf : FrAt K H' x f) : TwL K H' rl wt ou (t.push f) := by
  obtain ⟨⟨k, a1, a2⟩, ⟨v, b1, b2⟩, ⟨u, c1, c2⟩, n⟩ := h
  rw [hw] at b1
  cases b1
  exact ⟨⟨k, w.bt _ _ a1 (ne_k a1 hw rfl), a2.fix w.fx⟩, ⟨_, w.at_, .cons hf (b2.fix w.fx)⟩, ⟨u, w.bt _ _ c1 (Ne.symm n), c2.fix w.fx⟩, n⟩
/-- the top frame taken -/
theorem TwL.pop (h : TwL K H rl wt ou t) {f : Fr} {w : List Fr} (hw : t.w = f :: w) : ∃ vs x, H wt = some (.lst (vs ++ [x])) ∧ FrAt K H x f ∧ ∀ H', Wr H H' wt (.lst vs) → TwL K H' rl wt ou { t with w := w } := by
  obtain ⟨⟨k, a1, a2⟩, ⟨v, b1, b2⟩, ⟨u, c1, c2⟩, n⟩ := h
  rw [hw] at b2
  cases b2 with
  | @cons x _ vs _ hf hr => exact ⟨vs, x, b1, hf, fun H' ww => ⟨⟨k, ww.bt _ _ a1 (ne_k a1 b1 rfl), a2.fix ww.fx⟩, ⟨_, ww.at_, hr.fix ww.fx⟩, ⟨u, ww.bt _ _ c1 (Ne.symm n), c2.fix ww.fx⟩, n⟩⟩
/-- an output -/
theorem TwL.out (h : TwL K H rl wt ou t) {us : List V} (ho : H ou = some (.lst us)) {p : Addr} {v : Int} (w : Wr H H' ou (.lst (us ++ [.ref p]))) (hp : H' p = some (.tup [.int 0, .int v])) : TwL K H' rl wt ou { t with o := t.o ++ [(0, v)] } := by
  obtain ⟨⟨k, a1, a2⟩, ⟨vs, b1, b2⟩, ⟨u, c1, c2⟩, n⟩ := h
  rw [ho] at c1
  cases c1
  exact ⟨⟨k, w.bt _ _ a1 (ne_k a1 ho rfl), a2.fix w.fx⟩, ⟨_, w.bt _ _ b1 n, b2.fix w.fx⟩, ⟨_, w.at_, (c2.fix w.fx).snoc hp⟩, n⟩
/-- a rule set -/
theorem TwL.put (h : TwL K H rl wt ou t) {kvs : List (List Key × V)} (hr : H rl = some (.dT kvs)) {k : Str} {v : V} {e : E} (w : Wr H H' rl (.dT (putK kvs [.inl 0, .inr k] v))) (he : EAt H v e) : TwL K H' rl wt ou (t.put k (some e)) := by
  obtain ⟨⟨k0, a1, a2⟩, ⟨vs, b1, b2⟩, ⟨u, c1, c2⟩, n⟩ := h
  rw [hr] at a1
  cases a1
  refine ⟨⟨_, w.at_, ⟨?_, fun x => ?_, fun x => ?_, fun x hx => ?_⟩⟩, ⟨_, w.bt _ _ b1 (ne_k b1 hr rfl), b2.fix w.fx⟩, ⟨_, w.bt _ _ c1 (ne_k c1 hr rfl), c2.fix w.fx⟩, n⟩
  · have := putK_len kvs [Sum.inl 0, Sum.inr k] v
    have := a2.len
    show _ ≤ t.rn + 1
    omega
  · show OlAt H' _ (if x = k then some e else t.R x)
    rw [valV_put]
    by_cases z : x = k
    · rw [if_pos z, if_pos (by rw [z])]
      exact EAt.fix w.fx he
    · rw [if_neg z, if_neg (fun q => z (by cases q; rfl))]
      exact (a2.at_ x).fix w.fx
  · rw [valV_put, if_neg (fun q => by cases q)]
    exact a2.no1 x
  · have hx : (if x = k then some e else t.R x) = none := hx
    rw [valV_put]
    by_cases z : x = k
    · rw [if_pos z] at hx
      cases hx
    · rw [if_neg z] at hx
      rw [if_neg (fun q => z (by cases q; rfl))]
      exact a2.nn x hx
end
/-- the tower stands at a configuration -/
def TwC (K : PySem.W.Frag) (H : Hp) (sf dx rl wt ou : Addr) : Cf → Prop
  | .bg e s b t => ∃ ve st, H sf = some (oTw K dx ve st b t.f rl wt ou .non) ∧ EAt H ve e ∧ SeAt K H st s ∧ TwL K H rl wt ou t
  | .rv _ t => ∃ ve st b, H sf = some (oTw K dx ve st b t.f rl wt ou .non) ∧ TwL K H rl wt ou t
  | .xx v t => ∃ ve st b m, H sf = some (oTw K dx ve st b t.f rl wt ou (.ref m)) ∧ TwL K H rl wt ou t ∧ H m = some (.tup (match v with | none => [.str "more"] | some n => [.str "value", .int n]))
def RetAt (K : PySem.W.Frag) (H : Hp) (v : V) : Cf → Prop
  | .rv a _ => VaAt K H v a
  | _ => v = .non
/-! ## Ztw9 -/
open PySem PySem.Spec PyProof.Rows L2
/-! ### the plain law: what the machine ends with -/
inductive Ev : List (Str × Int) → E → Int → List (Int × Int) → Prop where
  | num {ρ} (n : Int) : Ev ρ (.num n) n []
  | name {ρ x v} : ρ.lookup x = some v → Ev ρ (.name x) v []
  | app {ρ x b a va oa v ob} : Ev ρ a va oa → Ev ((x, va) :: ρ) b v ob → Ev ρ (.call (.fn x b) a) v (oa ++ ob)
  | sum {ρ a b va oa vb ob} : Ev ρ a va oa → Ev ρ b vb ob → Ev ρ (.sum a b) (va + vb) (oa ++ ob)
  | less {ρ a b va oa vb ob} : Ev ρ a va oa → Ev ρ b vb ob → Ev ρ (.less a b) (if va < vb then 1 else 0) (oa ++ ob)
  | iff {ρ c a b vc oc v o} : Ev ρ c vc oc → Ev ρ (if vc = 0 then b else a) v o → Ev ρ (.iff c a b) v (oc ++ o)
  | lett {ρ x a b va oa v ob} : Ev ρ a va oa → Ev ((x, va) :: ρ) b v ob → Ev ρ (.lett x a b) v (oa ++ ob)
  | say {ρ a v o} : Ev ρ a v o → Ev ρ (.say a) v (o ++ [(0, v)])
theorem Pg.ev {ns : List Str} {e : E} (h : Pg ns e) : ∀ ρ : List (Str × Int), (∀ x ∈ ns, ∃ v, ρ.lookup x = some v) → ∃ v o, Ev ρ e v o := by
  have ext : ∀ (ns : List Str) (x : Str) (v : Int) (ρ : List (Str × Int)), (∀ y ∈ ns, ∃ v, ρ.lookup y = some v) → ∀ y ∈ ns ++ [x], ∃ w, ((x, v) :: ρ).lookup y = some w := by
    intro ns x v ρ hr y hy
    rw [lookup_cons']
    by_cases q : y = x
    · exact ⟨v, by rw [if_pos q]⟩
    · rw [if_neg q]
      rcases List.mem_append.mp hy with z | z
      · exact hr y z
      · exact absurd (List.mem_singleton.mp z) q
  induction h with
  | leaf h =>
    intro ρ hr
    cases h with
    | num n => exact ⟨n, [], .num n⟩
    | name h =>
      obtain ⟨v, hv⟩ := hr _ h
      exact ⟨v, [], .name hv⟩
  | call _ _ i j =>
    intro ρ hr
    obtain ⟨va, oa, ha⟩ := j ρ hr
    obtain ⟨vb, ob, hb⟩ := i _ (ext _ _ va ρ hr)
    exact ⟨vb, _, .app ha hb⟩
  | lett _ _ i j =>
    intro ρ hr
    obtain ⟨va, oa, ha⟩ := i ρ hr
    obtain ⟨vb, ob, hb⟩ := j _ (ext _ _ va ρ hr)
    exact ⟨vb, _, .lett ha hb⟩
  | say _ i =>
    intro ρ hr
    obtain ⟨v, o, h⟩ := i ρ hr
    exact ⟨v, _, .say h⟩
  | iff _ _ _ i j l =>
    intro ρ hr
    obtain ⟨vc, oc, hc⟩ := i ρ hr
    by_cases z : vc = 0
    · obtain ⟨v, o, h⟩ := l ρ hr
      exact ⟨v, _, .iff hc (by rw [if_pos z]; exact h)⟩
    · obtain ⟨v, o, h⟩ := j ρ hr
      exact ⟨v, _, .iff hc (by rw [if_neg z]; exact h)⟩
  | sum _ _ i j =>
    intro ρ hr
    obtain ⟨va, oa, ha⟩ := i ρ hr
    obtain ⟨vb, ob, hb⟩ := j ρ hr
    exact ⟨_, _, .sum ha hb⟩
  | less _ _ i j =>
    intro ρ hr
    obtain ⟨va, oa, ha⟩ := i ρ hr
    obtain ⟨vb, ob, hb⟩ := j ρ hr
    exact ⟨_, _, .less ha hb⟩
theorem Ev.olen {ρ : List (Str × Int)} {e : E} {v : Int} {o : List (Int × Int)} (h : Ev ρ e v o) : o.length ≤ e.size := by
  induction h with
  | @iff ρ c a b vc oc v o _ _ i j =>
    have q : (if vc = 0 then b else a).size ≤ a.size + b.size := by split <;> omega
    simp only [List.length_append, E.size]
    omega
  | _ => simp only [List.length_nil, List.length_append, List.length_cons, E.size] <;> omega
/-- rules that change nothing -/
inductive Idr : Str → E → Prop where
  | usual {k} : Idr k .usual
  | lett {k} : Idr k (.lett "Vv1" .usual (.name "Vv1"))
  | iff : Idr "if" (.iff (.num 1) .usual (.part 0))
  | do2 {k : Str} : k = "call" ∨ k = "sum" ∨ k = "less" → Idr k (.do2 (.part 0) (.part 1))
  | do1 : Idr "say" (.do1 (.part 0))
  | withh : Idr "let" (.withh (.part 0))
def RO (R : Ru) : Prop := ∀ k r, R k = some r → Idr k r
abbrev PV := Option Int → List (Int × Int) → Prop
structure Sz (m : Nat) (t : TS) (e : E) (ρ : List (Str × Int)) : Prop where
  ro : RO t.R
  w : t.w.length + 5 * e.size ≤ m
  o : t.o.length + e.size ≤ 9000
  r : ρ.length + e.size ≤ 9000
def TS.at (t : TS) (f : Nat) (o : List (Int × Int)) : TS := { t with f := f, o := t.o ++ o }
def GoodB (Pv : PV) (e : E) (ρ : List (Str × Int)) (v : Va) (o : List (Int × Int)) : Prop := ∀ t b, noR (.s0 ρ) b e t → Sz 9002 t e ρ → (∀ f, Fin Pv (.rv v (t.at f o))) → Fin Pv (.bg e (.s0 ρ) b t)
def Good (Pv : PV) (e : E) (ρ : List (Str × Int)) (v : Va) (o : List (Int × Int)) : Prop := ∀ t, Sz 9000 t e ρ → (∀ f, Fin Pv (.rv v (t.at f o))) → Fin Pv (.bg e (.s0 ρ) false t)
section
variable {Pv : PV} (hP : ∀ o, Pv none o)
include hP
theorem more {t : TS} : Fin Pv (.xx none t) := ⟨0, .done (hP _)⟩
theorem via_usual {e : E} {ρ : List (Str × Int)} {v : Va} {o : List (Int × Int)} (hB : GoodB Pv e ρ v o) {t : TS} {b : Bool} {n : List (Str × Va)} (z : Sz 9002 t e ρ) (k : ∀ f, Fin Pv (.rv v (t.at f o))) : Fin Pv (.bg .usual (.s1 n e ρ) b t) := by
  cases hf : t.f with
  | zero => exact .step (.usual0 hf) (more hP)
  | succ f => exact .step (.usual hf) (hB { t with f := f } true (.inl rfl) ⟨z.ro, z.w, z.o, z.r⟩ k)
theorem via_part {e a : E} {i : Nat} {ρ : List (Str × Int)} {v : Va} {o : List (Int × Int)} (hi : (ptsE e)[i]? = some a) (hG : Good Pv a ρ v o) {t : TS} {b : Bool} {n : List (Str × Va)} (z : Sz 9000 t a ρ) (k : ∀ f, Fin Pv (.rv v (t.at f o))) : Fin Pv (.bg (.part i) (.s1 n e ρ) b t) := by
  cases hf : t.f with
  | zero => exact .step (.part0 hf) (more hP)
  | succ f => exact .step (.part hf hi) (hG { t with f := f } ⟨z.ro, z.w, z.o, z.r⟩ k)
/-- rules that ask otherwise than by usual alone -/
def spec (k : Str) (r : E) : Prop := (k = "if" ∧ r = .iff (.num 1) .usual (.part 0)) ∨ ((k = "call" ∨ k = "sum" ∨ k = "less") ∧ r = .do2 (.part 0) (.part 1)) ∨ (k = "say" ∧ r = .do1 (.part 0)) ∨ (k = "let" ∧ r = .withh (.part 0))
omit hP in
theorem Idr.cases {k : Str} {r : E} (h : Idr k r) : r = .usual ∨ r = .lett "Vv1" .usual (.name "Vv1") ∨ spec k r := by
  cases h with
  | usual => exact .inl rfl
  | lett => exact .inr (.inl rfl)
  | iff => exact .inr (.inr (.inl ⟨rfl, rfl⟩))
  | do2 h => exact .inr (.inr (.inr (.inl ⟨h, rfl⟩)))
  | do1 => exact .inr (.inr (.inr (.inr (.inl ⟨rfl, rfl⟩))))
  | withh => exact .inr (.inr (.inr (.inr (.inr ⟨rfl, rfl⟩))))
theorem good_std {e : E} {ρ : List (Str × Int)} {v : Va} {o : List (Int × Int)} (hc : chgE e = true) (hB : GoodB Pv e ρ v o) (hs : ∀ r t, spec e.kd r → t.R e.kd = some r → Sz 9000 t e ρ → (∀ f, Fin Pv (.rv v (t.at f o))) → Fin Pv (.bg r (.s1 [] e ρ) false t)) : Good Pv e ρ v o := by
  intro t z k
  cases hr : t.R e.kd with
  | none => exact hB t false (.inr hr) ⟨z.ro, by have := z.w; omega, z.o, z.r⟩ k
  | some r =>
    refine .step (.rule hc hr) ?_
    rcases (z.ro _ _ hr).cases with rfl | rfl | h
    · exact via_usual hP hB ⟨z.ro, by have := z.w; omega, z.o, z.r⟩ k
    · have hw := z.w
      have hsz := e.size_pos
      refine .step (.fst (a := .usual) True.intro rfl (by omega)) ?_
      refine via_usual hP hB (t := t.push _) ⟨z.ro, by show t.w.length + 1 + _ ≤ _; omega, z.o, z.r⟩ fun f => ?_
      refine .step (.let1 rfl (by simp)) ?_
      exact .step (.name1 rfl) (k f)
    · exact hs r t h hr z k
omit hP in
theorem spec_no {k : Str} {r : E} (h1 : k ≠ "if") (h2 : k ≠ "call") (h3 : k ≠ "sum") (h4 : k ≠ "less") (h5 : k ≠ "say") (h6 : k ≠ "let") : ¬ spec k r := by
  rintro (⟨h, _⟩ | ⟨h | h | h, _⟩ | ⟨h, _⟩ | ⟨h, _⟩)
  · exact h1 h
  · exact h2 h
  · exact h3 h
  · exact h4 h
  · exact h5 h
  · exact h6 h
omit hP in
theorem spec_num {r : E} : ¬ spec "num" r := spec_no (by decide +kernel) (by decide +kernel) (by decide +kernel) (by decide +kernel) (by decide +kernel) (by decide +kernel)
omit hP in
theorem spec_name {r : E} : ¬ spec "name" r := spec_no (by decide +kernel) (by decide +kernel) (by decide +kernel) (by decide +kernel) (by decide +kernel) (by decide +kernel)
omit hP in
theorem spec_fn {r : E} : ¬ spec "fn" r := spec_no (by decide +kernel) (by decide +kernel) (by decide +kernel) (by decide +kernel) (by decide +kernel) (by decide +kernel)
omit hP in
theorem at_nil {t : TS} : t.at t.f [] = t := by
  unfold TS.at
  rw [List.append_nil]
theorem good_num {ρ : List (Str × Int)} (n : Int) : Good Pv (.num n) ρ (.int n) [] :=
  good_std hP rfl (fun t b hn z k => .step (.num hn) (by have q := k t.f; rwa [at_nil] at q)) fun r t h => absurd h spec_num
theorem good_name {ρ : List (Str × Int)} {x : Str} {v : Int} (hx : ρ.lookup x = some v) : Good Pv (.name x) ρ (.int v) [] :=
  good_std hP rfl (fun t b hn z k => .step (.name0 hn hx) (by have q := k t.f; rwa [at_nil] at q)) fun r t h => absurd h spec_name
theorem good_fn {ρ : List (Str × Int)} {x : Str} {c : E} : Good Pv (.fn x c) ρ (.clo x c ρ) [] :=
  good_std hP rfl (fun t b hn z k => .step (.fn hn) (by have q := k t.f; rwa [at_nil] at q)) fun r t h => absurd h spec_fn
/-- kinds of two parts -/
theorem good_pair {e a b : E} {ρ : List (Str × Int)} {va vb v : Va} {oa ob oc : List (Int × Int)} (hc : chgE e = true) (hf : fstE e = some a) (hsn : sndE e = some b) (hp : ptsE e = [a, b]) (hz : e.size = a.size + b.size + 1)
    (hsp : ∀ r, spec e.kd r → r = .do2 (.part 0) (.part 1)) (hA : Good Pv a ρ va oa) (hB : Good Pv b ρ vb ob) (la : oa.length ≤ a.size) (lb : ob.length ≤ b.size)
    (h1 : ∀ t w o0, t.w = .second e.kd va :: w → RO t.R → w.length + 5 * e.size ≤ 9002 → t.o = o0 ++ oa ++ ob → o0.length + e.size ≤ 9000 → ρ.length + e.size ≤ 9000 → (∀ f, Fin Pv (.rv v ({ t with w := w }.at f oc))) → Fin Pv (.rv vb t))
    (h2 : ∀ t n w o0, t.w = .doF (.do2 (.part 0) (.part 1)) (.s1 n e ρ) [va] :: w → RO t.R → w.length + 5 * e.size ≤ 9002 → t.o = o0 ++ oa ++ ob → o0.length + e.size ≤ 9000 → ρ.length + e.size ≤ 9000 → (∀ f, Fin Pv (.rv v ({ t with w := w }.at f oc))) → Fin Pv (.rv vb t)) :
    Good Pv e ρ v (oa ++ ob ++ oc) := by
  have pa := a.size_pos
  have pb := b.size_pos
  refine good_std hP hc (fun t bb hn z k => ?_) fun r t h hr z k => ?_
  · obtain ⟨z1, z2, z3, z4⟩ := z
    refine .step (.fst hn hf (by omega)) (hA _ ⟨z1, by show t.w.length + 1 + _ ≤ _; omega, by show t.o.length + _ ≤ _; omega, by omega⟩ fun f => ?_)
    refine .step (.snd (w := t.w) rfl hsn (by omega)) (hB _ ⟨z1, by show t.w.length + 1 + _ ≤ _; omega, by show (t.o ++ oa).length + _ ≤ _; rw [List.length_append]; omega, by omega⟩ fun f2 => ?_)
    refine h1 _ t.w t.o rfl z1 (by omega) rfl z3 z4 fun f3 => ?_
    have q := k f3
    unfold TS.at at q ⊢
    rw [← List.append_assoc, ← List.append_assoc] at q
    exact q
  · cases hsp r h
    obtain ⟨z1, z2, z3, z4⟩ := z
    refine .step (.doo rfl (by omega)) ?_
    refine via_part hP (by rw [hp]; rfl) hA ⟨z1, by show t.w.length + 1 + _ ≤ _; omega, by show t.o.length + _ ≤ _; omega, by omega⟩ fun f => ?_
    refine .step (.doN (w := t.w) rfl rfl (by omega)) ?_
    refine via_part hP (by rw [hp]; rfl) hB ⟨z1, by show t.w.length + 1 + _ ≤ _; omega, by show (t.o ++ oa).length + _ ≤ _; rw [List.length_append]; omega, by omega⟩ fun f2 => ?_
    refine h2 _ [] t.w t.o rfl z1 (by omega) rfl z3 z4 fun f3 => ?_
    have q := k f3
    unfold TS.at at q ⊢
    rw [← List.append_assoc, ← List.append_assoc] at q
    exact q
omit hP in
theorem spec_pair {k : Str} {r : E} (hk : k = "call" ∨ k = "sum" ∨ k = "less") (h : spec k r) : r = .do2 (.part 0) (.part 1) := by
  rcases h with ⟨h, _⟩ | ⟨_, h⟩ | ⟨h, _⟩ | ⟨h, _⟩
  · subst h
    rcases hk with h | h | h <;> exact absurd h (by decide +kernel)
  · exact h
  · subst h
    rcases hk with h | h | h <;> exact absurd h (by decide +kernel)
  · subst h
    rcases hk with h | h | h <;> exact absurd h (by decide +kernel)
omit hP in
theorem at_eq {t : TS} {w : List Fr} {f : Nat} : ({ t with w := w } : TS).at f [] = { t with w := w, f := f } := by
  unfold TS.at
  show ({ t with w := w, f := f, o := t.o ++ [] } : TS) = _
  rw [List.append_nil]
theorem good_sum {a b : E} {ρ : List (Str × Int)} {va vb : Int} {oa ob : List (Int × Int)} (hA : Good Pv a ρ (.int va) oa) (hB : Good Pv b ρ (.int vb) ob) (la : oa.length ≤ a.size) (lb : ob.length ≤ b.size) : Good Pv (.sum a b) ρ (.int (va + vb)) (oa ++ ob) := by
  have q := good_pair hP (e := .sum a b) (v := .int (va + vb)) (oc := []) rfl rfl rfl rfl rfl (fun r h => spec_pair (.inr (.inl rfl)) h) hA hB la lb (fun t w o0 hw _ _ _ _ _ k => .step (.sum hw) (by have z := k t.f; rwa [at_eq] at z))
    (fun t n w o0 hw _ _ _ _ _ k => by
      cases hf : t.f with
      | zero => exact .step (.doM hw rfl hf) (more hP)
      | succ f => exact .step (.doSum hw hf) (by have z := k f; rwa [at_eq] at z))
  rwa [List.append_nil] at q
theorem good_less {a b : E} {ρ : List (Str × Int)} {va vb : Int} {oa ob : List (Int × Int)} (hA : Good Pv a ρ (.int va) oa) (hB : Good Pv b ρ (.int vb) ob) (la : oa.length ≤ a.size) (lb : ob.length ≤ b.size) : Good Pv (.less a b) ρ (.int (if va < vb then 1 else 0)) (oa ++ ob) := by
  have q := good_pair hP (e := .less a b) (v := .int (if va < vb then 1 else 0)) (oc := []) rfl rfl rfl rfl rfl (fun r h => spec_pair (.inr (.inr rfl)) h) hA hB la lb (fun t w o0 hw _ _ _ _ _ k => .step (.less hw) (by have z := k t.f; rwa [at_eq] at z))
    (fun t n w o0 hw _ _ _ _ _ k => by
      cases hf : t.f with
      | zero => exact .step (.doM hw rfl hf) (more hP)
      | succ f => exact .step (.doLess hw hf) (by have z := k f; rwa [at_eq] at z))
  rwa [List.append_nil] at q
theorem good_app {x : Str} {c b : E} {ρ : List (Str × Int)} {vb v : Int} {ob oc : List (Int × Int)} (hB : Good Pv b ρ (.int vb) ob) (hC : Good Pv c ((x, vb) :: ρ) (.int v) oc) (lb : ob.length ≤ b.size) : Good Pv (.call (.fn x c) b) ρ (.int v) (ob ++ oc) := by
  have q := good_pair hP (e := .call (.fn x c) b) (v := .int v) (oa := []) (oc := oc) rfl rfl rfl rfl rfl (fun r h => spec_pair (.inl rfl) h) (good_fn hP) hB (Nat.zero_le _) lb
    (fun t w o0 hw h1 h2 h3 h4 h5 k => by
      simp only [E.size] at h2 h4 h5
      cases hf : t.f with
      | zero => exact .step (.call0 hw hf) (more hP)
      | succ f => exact .step (.call hw (by omega) hf) (hC _ ⟨h1, by show w.length + _ ≤ _; omega, by show t.o.length + _ ≤ _; rw [h3]; simp only [List.length_append, List.length_nil]; omega, by simp only [List.length_cons]; omega⟩ k))
    (fun t n w o0 hw h1 h2 h3 h4 h5 k => by
      simp only [E.size] at h2 h4 h5
      match hf : t.f with
      | 0 => exact .step (.doM hw rfl hf) (more hP)
      | 1 => exact .step (.doCall1 hw hf) (more hP)
      | f + 2 => exact .step (.doCall hw (by omega) hf) (hC _ ⟨h1, by show w.length + _ ≤ _; omega, by show t.o.length + _ ≤ _; rw [h3]; simp only [List.length_append, List.length_nil]; omega, by simp only [List.length_cons]; omega⟩ k))
  exact q
omit hP in
theorem spec_if {r : E} (h : spec "if" r) : r = .iff (.num 1) .usual (.part 0) := by
  rcases h with ⟨_, h⟩ | ⟨h | h | h, _⟩ | ⟨h, _⟩ | ⟨h, _⟩
  · exact h
  all_goals exact absurd h (by decide +kernel)
omit hP in
theorem spec_say {r : E} (h : spec "say" r) : r = .do1 (.part 0) := by
  rcases h with ⟨h, _⟩ | ⟨h | h | h, _⟩ | ⟨_, h⟩ | ⟨h, _⟩
  all_goals first | exact h | exact absurd h (by decide +kernel)
omit hP in
theorem spec_let {r : E} (h : spec "let" r) : r = .withh (.part 0) := by
  rcases h with ⟨h, _⟩ | ⟨h | h | h, _⟩ | ⟨h, _⟩ | ⟨_, h⟩
  all_goals first | exact h | exact absurd h (by decide +kernel)
theorem good_iff {c a b : E} {ρ : List (Str × Int)} {vc v : Int} {oc o : List (Int × Int)} (hC : Good Pv c ρ (.int vc) oc) (hX : Good Pv (if vc = 0 then b else a) ρ (.int v) o) (lc : oc.length ≤ c.size) : Good Pv (.iff c a b) ρ (.int v) (oc ++ o) := by
  have pa := a.size_pos
  have pb := b.size_pos
  have pc := c.size_pos
  have hx : (if vc = 0 then b else a).size ≤ a.size + b.size := by split <;> omega
  have hB : GoodB Pv (.iff c a b) ρ (.int v) (oc ++ o) := fun t bb hn z k => by
    obtain ⟨z1, z2, z3, z4⟩ := z
    simp only [E.size] at z2 z3 z4
    refine .step (.fst hn rfl (by omega)) (hC _ ⟨z1, by show t.w.length + 1 + _ ≤ _; omega, by show t.o.length + _ ≤ _; omega, by omega⟩ fun f => ?_)
    refine .step (.iff (w := t.w) rfl) (hX _ ⟨z1, by show t.w.length + _ ≤ _; omega, by show (t.o ++ oc).length + _ ≤ _; rw [List.length_append]; omega, by omega⟩ fun f2 => ?_)
    have q := k f2
    unfold TS.at at q ⊢
    rw [← List.append_assoc] at q
    exact q
  refine good_std hP rfl hB fun r t h hr z k => ?_
  cases spec_if h
  have z2 := z.w
  simp only [E.size] at z2
  refine .step (.fst (a := .num 1) True.intro rfl (by omega)) (.step (.num True.intro) (.step (.iff (w := t.w) rfl) ?_))
  exact via_usual hP hB ⟨z.ro, by have := z.w; show t.w.length + _ ≤ _; omega, z.o, z.r⟩ k
theorem good_lett {x : Str} {a c : E} {ρ : List (Str × Int)} {va v : Int} {oa oc : List (Int × Int)} (hA : Good Pv a ρ (.int va) oa) (hC : Good Pv c ((x, va) :: ρ) (.int v) oc) (la : oa.length ≤ a.size) : Good Pv (.lett x a c) ρ (.int v) (oa ++ oc) := by
  have pa := a.size_pos
  have pc := c.size_pos
  have hB : GoodB Pv (.lett x a c) ρ (.int v) (oa ++ oc) := fun t bb hn z k => by
    obtain ⟨z1, z2, z3, z4⟩ := z
    simp only [E.size] at z2 z3 z4
    refine .step (.fst hn rfl (by omega)) (hA _ ⟨z1, by show t.w.length + 1 + _ ≤ _; omega, by show t.o.length + _ ≤ _; omega, by omega⟩ fun f => ?_)
    refine .step (.let0 (w := t.w) rfl (by omega)) (hC _ ⟨z1, by show t.w.length + _ ≤ _; omega, by show (t.o ++ oa).length + _ ≤ _; rw [List.length_append]; omega, by simp only [List.length_cons]; omega⟩ fun f2 => ?_)
    have q := k f2
    unfold TS.at at q ⊢
    rw [← List.append_assoc] at q
    exact q
  refine good_std hP rfl hB fun r t h hr z k => ?_
  cases spec_let h
  obtain ⟨z1, z2, z3, z4⟩ := z
  simp only [E.size] at z2 z3 z4
  refine .step (.withh (by omega)) (via_part hP rfl hA ⟨z1, by show t.w.length + 1 + _ ≤ _; omega, by show t.o.length + _ ≤ _; omega, by omega⟩ fun f => ?_)
  cases f with
  | zero => exact .step (.withR0 (w := t.w) rfl rfl) (more hP)
  | succ f =>
    refine .step (.withR (w := t.w) (f := f) rfl (by omega) rfl) (hC _ ⟨z1, by show t.w.length + _ ≤ _; omega, by show (t.o ++ oa).length + _ ≤ _; rw [List.length_append]; omega, by simp only [List.length_cons]; omega⟩ fun f2 => ?_)
    have q := k f2
    unfold TS.at at q ⊢
    rw [← List.append_assoc] at q
    exact q
theorem good_say {a : E} {ρ : List (Str × Int)} {v : Int} {o : List (Int × Int)} (hA : Good Pv a ρ (.int v) o) (la : o.length ≤ a.size) : Good Pv (.say a) ρ (.int v) (o ++ [(0, v)]) := by
  have pa := a.size_pos
  have hB : GoodB Pv (.say a) ρ (.int v) (o ++ [(0, v)]) := fun t bb hn z k => by
    obtain ⟨z1, z2, z3, z4⟩ := z
    simp only [E.size] at z2 z3 z4
    refine .step (.fst hn rfl (by omega)) (hA _ ⟨z1, by show t.w.length + 1 + _ ≤ _; omega, by show t.o.length + _ ≤ _; omega, by omega⟩ fun f => ?_)
    refine .step (.say (w := t.w) rfl (by show (t.o ++ o).length < _; rw [List.length_append]; omega)) ?_
    have q := k f
    unfold TS.at at q ⊢
    rw [← List.append_assoc] at q
    exact q
  refine good_std hP rfl hB fun r t h hr z k => ?_
  cases spec_say h
  obtain ⟨z1, z2, z3, z4⟩ := z
  simp only [E.size] at z2 z3 z4
  refine .step (.doo rfl (by omega)) (via_part hP rfl hA ⟨z1, by show t.w.length + 1 + _ ≤ _; omega, by show t.o.length + _ ≤ _; omega, by omega⟩ fun f => ?_)
  cases f with
  | zero => exact .step (.doM (w := t.w) rfl rfl rfl) (more hP)
  | succ f =>
    refine .step (.doSay (w := t.w) (f := f) rfl rfl (by show (t.o ++ o).length < _; rw [List.length_append]; omega)) ?_
    have q := k f
    unfold TS.at at q ⊢
    rw [← List.append_assoc] at q
    exact q
theorem Ev.good {ρ : List (Str × Int)} {e : E} {v : Int} {o : List (Int × Int)} (h : Ev ρ e v o) : Good Pv e ρ (.int v) o := by
  induction h with
  | num n => exact good_num hP n
  | name h => exact good_name hP h
  | app h1 h2 i j => exact good_app hP i j h1.olen
  | sum h1 h2 i j => exact good_sum hP i j h1.olen h2.olen
  | less h1 h2 i j => exact good_less hP i j h1.olen h2.olen
  | iff h1 h2 i j => exact good_iff hP i j h1.olen
  | lett h1 h2 i j => exact good_lett hP i j h1.olen
  | say h1 i => exact good_say hP i h1.olen
/-! wrappers: rules set around, or kept ahead -/
omit hP in
theorem RO.put {t : TS} {k : Str} {r : Option E} (h : RO t.R) (hr : ∀ e, r = some e → Idr k e) : RO (t.put k r).R := fun k2 e q => by
  have q : (if k2 = k then r else t.R k2) = some e := q
  by_cases z : k2 = k
  · rw [if_pos z] at q
    rw [z]
    exact hr e q
  · rw [if_neg z] at q
    exact h _ _ q
structure Sw (m : Nat) (t : TS) (e : E) (ρ : List (Str × Int)) : Prop where
  ro : RO t.R
  w : t.w.length + 5 * e.size ≤ m
  o : t.o.length + e.size ≤ 9000
  r : ρ.length + e.size ≤ 9000
  rn : t.rn + 2 * e.size ≤ 9000
def GoodW (Pv : PV) (e : E) (ρ : List (Str × Int)) (v : Int) (o : List (Int × Int)) : Prop := ∀ t, Sw 9000 t e ρ → (∀ t', RO t'.R → t'.w = t.w → t'.o = t.o ++ o → t'.rn ≤ t.rn + 2 * e.size → Fin Pv (.rv (.int v) t')) → Fin Pv (.bg e (.s0 ρ) false t)
theorem goodW_of {e : E} {ρ : List (Str × Int)} {v : Int} {o : List (Int × Int)} (h : Good Pv e ρ (.int v) o) : GoodW Pv e ρ v o := fun t z k =>
  h t ⟨z.ro, z.w, z.o, z.r⟩ fun f => k _ z.ro rfl rfl (Nat.le_add_right _ _)
theorem goodW_rule {c r : E} {k : Str} {ρ : List (Str × Int)} {v : Int} {o : List (Int × Int)} (hr : Idr k r) (h : GoodW Pv c ρ v o) : GoodW Pv (.rule k r c) ρ v o := fun t z q => by
  obtain ⟨z1, z2, z3, z4, z5⟩ := z
  have pr := r.size_pos
  simp only [E.size] at z2 z3 z4 z5 q
  refine .step (.ruleE (by omega) (by omega)) (h _ ⟨RO.put (t := t.push _) z1 (fun e he => by cases he; exact hr), by show t.w.length + 1 + _ ≤ _; omega, by show t.o.length + _ ≤ _; omega, by omega, by show t.rn + 1 + _ ≤ _; omega⟩ fun t' h1 h2 h3 h4 => ?_)
  have h4 : t'.rn ≤ t.rn + 1 + 2 * c.size := h4
  refine .step (.back (w := t.w) h2 (by omega)) (q _ (RO.put (t := { t' with w := t.w }) h1 fun e he => z1 _ _ he) rfl h3 ?_)
  show t'.rn + 1 ≤ _
  omega
theorem goodW_keep {c r : E} {k : Str} {ρ : List (Str × Int)} {v : Int} {o : List (Int × Int)} (hr : Idr k r) (h : GoodW Pv c (("k", 0) :: ρ) v o) : GoodW Pv (.lett "k" (.keep k r) c) ρ v o := by
  have pr := r.size_pos
  have hB : ∀ t b, noR (.s0 ρ) b (.lett "k" (.keep k r) c) t → Sw 9002 t (.lett "k" (.keep k r) c) ρ → (∀ t', RO t'.R → t'.w = t.w → t'.o = t.o ++ o → t'.rn ≤ t.rn + 2 * (E.lett "k" (.keep k r) c).size → Fin Pv (.rv (.int v) t')) → Fin Pv (.bg (.lett "k" (.keep k r) c) (.s0 ρ) b t) := fun t b hn z q => by
    obtain ⟨z1, z2, z3, z4, z5⟩ := z
    simp only [E.size] at z2 z3 z4 z5 q
    refine .step (.fst hn rfl (by omega)) (.step (.keep (by show t.rn < _; omega)) (.step (.let0 (w := t.w) rfl (by omega)) ?_))
    refine h _ ⟨RO.put (t := t.push _) z1 (fun e he => by cases he; exact hr), by show t.w.length + _ ≤ _; omega, by show t.o.length + _ ≤ _; omega, by simp only [List.length_cons]; omega, by show t.rn + 1 + _ ≤ _; omega⟩ fun t' h1 h2 h3 h4 => q t' h1 h2 h3 ?_
    have h4 : t'.rn ≤ t.rn + 1 + 2 * c.size := h4
    omega
  intro t z q
  have zw := z.w
  simp only [E.size] at zw
  have usl : ∀ (t2 : TS) (n : List (Str × Va)), Sw 9002 t2 (.lett "k" (.keep k r) c) ρ → (∀ t', RO t'.R → t'.w = t2.w → t'.o = t2.o ++ o → t'.rn ≤ t2.rn + 2 * (E.lett "k" (.keep k r) c).size → Fin Pv (.rv (.int v) t')) → Fin Pv (.bg .usual (.s1 n (.lett "k" (.keep k r) c) ρ) false t2) := fun t2 n z2 q2 => by
    cases hf : t2.f with
    | zero => exact .step (.usual0 hf) (more hP)
    | succ f => exact .step (.usual hf) (hB { t2 with f := f } true (.inl rfl) ⟨z2.ro, z2.w, z2.o, z2.r, z2.rn⟩ q2)
  cases hr2 : t.R (E.lett "k" (.keep k r) c).kd with
  | none => exact hB t false (.inr hr2) ⟨z.ro, by have := z.w; omega, z.o, z.r, z.rn⟩ q
  | some r2 =>
    refine .step (.rule rfl hr2) ?_
    rcases (z.ro _ _ hr2).cases with rfl | rfl | hs
    · exact usl t [] ⟨z.ro, by have := z.w; omega, z.o, z.r, z.rn⟩ q
    · refine .step (.fst (a := .usual) True.intro rfl (by omega)) (usl (t.push _) [] ⟨z.ro, by have := z.w; show t.w.length + 1 + _ ≤ _; omega, z.o, z.r, z.rn⟩ fun t' h1 h2 h3 h4 => ?_)
      exact .step (.let1 (w := t.w) h2 (by simp)) (.step (.name1 rfl) (q _ h1 rfl h3 h4))
    · cases spec_let hs
      obtain ⟨z1, z2, z3, z4, z5⟩ := z
      simp only [E.size] at z2 z3 z4 z5 q
      refine .step (.withh (by omega)) ?_
      cases hf : t.f with
      | zero => exact .step (.part0 hf) (more hP)
      | succ f =>
        refine .step (.part (f := f) hf rfl) (.step (.keep (by show t.rn < _; omega)) ?_)
        cases f with
        | zero => exact .step (.withR0 (w := t.w) rfl rfl) (more hP)
        | succ f =>
          refine .step (.withR (w := t.w) (f := f) rfl (by omega) rfl) ?_
          refine h _ ⟨RO.put (t := { t.push _ with f := f + 1 }) z1 (fun e he => by cases he; exact hr), by show t.w.length + _ ≤ _; omega, by show t.o.length + _ ≤ _; omega, by simp only [List.length_cons]; omega, by show t.rn + 1 + _ ≤ _; omega⟩ fun t' h1 h2 h3 h4 => q t' h1 h2 h3 ?_
          have h4 : t'.rn ≤ t.rn + 1 + 2 * c.size := h4
          omega
end
end Zg
/-! ## Ztw4 -/
set_option Elab.async false
set_option linter.all false
set_option maxRecDepth 100000
set_option maxHeartbeats 4000000
namespace Zg
open PySem PySem.Spec PyProof.Rows L2
local macro_rules | `(tactic| w_dflts lk) => `(tactic| first | (exact Wr.at_ (by assumption)) | done)
local macro_rules | `(tactic| w_dflts lk) => `(tactic| first | (exact Al.at_ (by assumption)) | done)
local macro_rules | `(tactic| w_dflts lk) => `(tactic| first | (assumption) | done)
local macro_rules | `(tactic| w_dflts lk) => `(tactic| first | (((with_reducible refine' lk_fix (by with_reducible assumption) ?a ?b); (case b => exact rfl); (case a => w_dflts lk))) | done)
local macro_rules | `(tactic| w_dflts lk) => `(tactic| first | (((with_reducible refine' lk_wrk (by with_reducible assumption) ?a ?b ?c); (case a => w_dflts lk); (case b => w_dflts lk); (case c => exact rfl))) | done)
local macro_rules | `(tactic| w_dflts lk) => `(tactic| first | (((with_reducible refine' lk_wr (by with_reducible assumption) ?a ?b); (case b => kspl_open ne); (case a => w_dflts lk))) | done)
local macro_rules | `(tactic| w_dflts lk) => `(tactic| first | (((with_reducible refine' lk_muk (by with_reducible assumption) ?a ?b ?c); (case a => w_dflts lk); (case b => w_dflts lk); (case c => exact rfl))) | done)
local macro_rules | `(tactic| w_dflts lk) => `(tactic| first | (((with_reducible refine' lk_mu (by with_reducible assumption) ?a ?b); (case b => kspl_open ne); (case a => w_dflts lk))) | done)
local macro_rules | `(tactic| w_dflts lk) => `(tactic| first | (((with_reducible refine' lk_muf (by with_reducible assumption) ?a ?b); (case b => exact rfl); (case a => w_dflts lk))) | done)
local macro_rules | `(tactic| w_dflts lk) => `(tactic| first | (((with_reducible refine' lk_same (by with_reducible assumption) ?a); (case a => w_dflts lk))) | done)
local macro_rules | `(tactic| w_dflts lk) => `(tactic| first | (((with_reducible refine' lk_al (by with_reducible assumption) ?a); (case a => w_dflts lk))) | done)
local macro_rules | `(tactic| w_dflts lk) => `(tactic| first | (((with_reducible refine' Wr.at_ ?a); (case a => with_reducible assumption))) | done)
local macro_rules | `(tactic| w_dflts lk) => `(tactic| first | (((with_reducible refine' Al.at_ ?a); (case a => with_reducible assumption))) | done)
local macro_rules | `(tactic| w_dflts lk) => `(tactic| first | (with_reducible assumption) | done)
local macro_rules | `(tactic| kspl_open ne) => `(tactic| first | (assumption) | done)
local macro_rules | `(tactic| kspl_open ne) => `(tactic| first | ((apply Ne.symm; refine' ne_of_none ?a (Al.nw (by with_reducible assumption)); (case a => w_dflts lk))) | done)
local macro_rules | `(tactic| kspl_open ne) => `(tactic| first | ((refine' ne_of_none ?a (Al.nw (by with_reducible assumption)); (case a => w_dflts lk))) | done)
local macro_rules | `(tactic| kspl_open ne) => `(tactic| first | ((apply Ne.symm; assumption)) | done)
local macro_rules | `(tactic| kspl_open ne) => `(tactic| first | (with_reducible assumption) | done)
local macro_rules | `(tactic| kspl_open fx) => `(tactic| first | (assumption) | done)
local macro_rules | `(tactic| kspl_open fx) => `(tactic| first | ((refine' Fix.trans ?a (by with_reducible assumption); (case a => kspl_open fx))) | done)
local macro_rules | `(tactic| kspl_open fx) => `(tactic| first | ((refine' Fix.trans ?a (Fix.of_same (by with_reducible assumption)); (case a => kspl_open fx))) | done)
local macro_rules | `(tactic| kspl_open fx) => `(tactic| first | ((refine' Fix.trans ?a (Mu.fx (by with_reducible assumption)); (case a => kspl_open fx))) | done)
local macro_rules | `(tactic| kspl_open fx) => `(tactic| first | ((refine' Fix.trans ?a (Wr.fx (by with_reducible assumption)); (case a => kspl_open fx))) | done)
local macro_rules | `(tactic| kspl_open fx) => `(tactic| first | ((refine' Fix.trans ?a (Al.fx (by with_reducible assumption)); (case a => kspl_open fx))) | done)
local macro_rules | `(tactic| kspl_open fx) => `(tactic| first | (with_reducible assumption) | done)
local macro_rules | `(tactic| kspl_open fx) => `(tactic| first | ((with_reducible exact Fix.refl _)) | done)
local macro_rules | `(tactic| kspl_open sm) => `(tactic| first | (assumption) | done)
local macro_rules | `(tactic| kspl_open sm) => `(tactic| first | ((intro _ _ _; w_dflts lk)) | done)
local macro_rules | `(tactic| kspl_open sm) => `(tactic| first | ((refine' Same.trans ?a (by with_reducible assumption); (case a => kspl_open sm))) | done)
local macro_rules | `(tactic| kspl_open sm) => `(tactic| first | ((refine' Same.trans ?a (Al.sm (by with_reducible assumption)); (case a => kspl_open sm))) | done)
local macro_rules | `(tactic| kspl_open sm) => `(tactic| first | (with_reducible assumption) | done)
local macro_rules | `(tactic| kspl_open sm) => `(tactic| first | ((with_reducible exact Same.refl _)) | done)
local macro_rules | `(tactic| kspl_open mu) => `(tactic| first | (assumption) | done)
local macro_rules | `(tactic| kspl_open mu) => `(tactic| first | ((refine' Mu.mk ?a ?b; (case a => intro _ _ _ _; w_dflts lk); (case b => kspl_open fx))) | done)
local macro_rules | `(tactic| kspl_open mu) => `(tactic| first | ((refine' Mu.trans ?a (by with_reducible assumption); (case a => kspl_open mu))) | done)
local macro_rules | `(tactic| kspl_open mu) => `(tactic| first | ((refine' Mu.trans ?a (Mu.of_same (by with_reducible assumption)); (case a => kspl_open mu))) | done)
local macro_rules | `(tactic| kspl_open mu) => `(tactic| first | ((refine' Mu.trans ?a (Mu.of_wr (by with_reducible assumption)); (case a => kspl_open mu))) | done)
local macro_rules | `(tactic| kspl_open mu) => `(tactic| first | ((refine' Mu.trans ?a (Mu.of_al (by with_reducible assumption)); (case a => kspl_open mu))) | done)
local macro_rules | `(tactic| kspl_open mu) => `(tactic| first | (with_reducible assumption) | done)
local macro_rules | `(tactic| kspl_open mu) => `(tactic| first | ((with_reducible exact Mu.refl _ _)) | done)
local macro_rules | `(tactic| fail "e") => `(tactic| first | (assumption) | done)
local macro_rules | `(tactic| fail "e") => `(tactic| first | ((refine' EAt.fix (by with_reducible assumption) ?a; (case a => fail "e"))) | done)
local macro_rules | `(tactic| fail "e") => `(tactic| first | ((refine' EAt.fix (Fix.of_same (by with_reducible assumption)) ?a; (case a => fail "e"))) | done)
local macro_rules | `(tactic| fail "e") => `(tactic| first | ((refine' EAt.fix (Mu.fx (by with_reducible assumption)) ?a; (case a => fail "e"))) | done)
local macro_rules | `(tactic| fail "e") => `(tactic| first | ((refine' EAt.fix (Wr.fx (by with_reducible assumption)) ?a; (case a => fail "e"))) | done)
local macro_rules | `(tactic| fail "e") => `(tactic| first | ((refine' EAt.fix (Al.fx (by with_reducible assumption)) ?a; (case a => fail "e"))) | done)
local macro_rules | `(tactic| fail "e") => `(tactic| first | (((with_reducible refine' EAt.do2 ?a ?b ?c ?d); (case a => w_dflts lk); (case b => w_dflts lk); (case c => fail "e"); (case d => fail "e"))) | done)
local macro_rules | `(tactic| fail "e") => `(tactic| first | (((with_reducible refine' EAt.do1 ?a ?b ?c); (case a => w_dflts lk); (case b => w_dflts lk); (case c => fail "e"))) | done)
local macro_rules | `(tactic| fail "e") => `(tactic| first | (((with_reducible refine' EAt.withh ?a ?b); (case a => w_dflts lk); (case b => fail "e"))) | done)
local macro_rules | `(tactic| fail "e") => `(tactic| first | (((with_reducible refine' EAt.keep ?a ?b); (case a => w_dflts lk); (case b => fail "e"))) | done)
local macro_rules | `(tactic| fail "e") => `(tactic| first | (((with_reducible refine' EAt.rule ?a ?b ?c); (case a => w_dflts lk); (case b => fail "e"); (case c => fail "e"))) | done)
local macro_rules | `(tactic| fail "e") => `(tactic| first | (((with_reducible refine' EAt.iff ?a ?b ?c ?d); (case a => w_dflts lk); (case b => fail "e"); (case c => fail "e"); (case d => fail "e"))) | done)
local macro_rules | `(tactic| fail "e") => `(tactic| first | (((with_reducible refine' EAt.lett ?a ?b ?c); (case a => w_dflts lk); (case b => fail "e"); (case c => fail "e"))) | done)
local macro_rules | `(tactic| fail "e") => `(tactic| first | (((with_reducible refine' EAt.less ?a ?b ?c); (case a => w_dflts lk); (case b => fail "e"); (case c => fail "e"))) | done)
local macro_rules | `(tactic| fail "e") => `(tactic| first | (((with_reducible refine' EAt.sum ?a ?b ?c); (case a => w_dflts lk); (case b => fail "e"); (case c => fail "e"))) | done)
local macro_rules | `(tactic| fail "e") => `(tactic| first | (((with_reducible refine' EAt.call ?a ?b ?c); (case a => w_dflts lk); (case b => fail "e"); (case c => fail "e"))) | done)
local macro_rules | `(tactic| fail "e") => `(tactic| first | (((with_reducible refine' EAt.say ?a ?b); (case a => w_dflts lk); (case b => fail "e"))) | done)
local macro_rules | `(tactic| fail "e") => `(tactic| first | (((with_reducible refine' EAt.fn ?a ?b); (case a => w_dflts lk); (case b => fail "e"))) | done)
local macro_rules | `(tactic| fail "e") => `(tactic| first | (((with_reducible refine' EAt.part ?a); (case a => w_dflts lk))) | done)
local macro_rules | `(tactic| fail "e") => `(tactic| first | (((with_reducible refine' EAt.usual ?a); (case a => w_dflts lk))) | done)
local macro_rules | `(tactic| fail "e") => `(tactic| first | (((with_reducible refine' EAt.name ?a); (case a => w_dflts lk))) | done)
local macro_rules | `(tactic| fail "e") => `(tactic| first | (((with_reducible refine' EAt.num ?a); (case a => w_dflts lk))) | done)
local macro_rules | `(tactic| fail "e") => `(tactic| first | (with_reducible assumption) | done)
local macro_rules | `(tactic| fail "fl") => `(tactic| first
  | (with_reducible exact lk_eq)
  | (with_reducible exact lk_nil)
  | ((with_reducible refine' lk_ne ?a ?b); (case a => decide +kernel); (case b => fail "fl")))
local macro_rules | `(tactic| fail "pf") => `(tactic| first
  | (with_reducible exact pf_eq)
  | (with_reducible exact pf_nil)
  | ((with_reducible refine' pf_ne ?a ?b); (case a => decide +kernel); (case b => fail "pf")))
local macro_rules | `(tactic| fail "im") => `(tactic| first | ((with_reducible refine' im_3 ?a); (case a => decide +kernel)) | exact rfl)
local macro_rules | `(tactic| fail "sq") => `(tactic| first | assumption | (refine' SqT.of ?a; (case a => w_dflts lk)) | (refine' SqL.of ?a; (case a => w_dflts lk)))
local macro_rules | `(tactic| fail "dk") => `(tactic| first | decide +kernel | exact rfl)
local macro_rules | `(tactic| fail "g") => `(tactic| repeat fail "g1")
local macro_rules | `(tactic| fail "b") => `(tactic| try dsimp only [cxOf, Cx.nox, Cx.wish])
local macro_rules | `(tactic| fail "un") => `(tactic| first
  | ((with_reducible refine' s_forTu ?a ?b); (case a => fail "sq"))
  | ((with_reducible refine' s_klcTu ?a ?b); (case a => fail "sq"); intro _ _ _))
local macro_rules | `(tactic| fail "ar") => `(tactic| first | exact Or.inr ⟨by decide, by decide⟩ | exact ⟨by decide, by decide⟩ | exact ⟨by decide, by decide, by decide⟩ | omega | (show (0 : Int) < _; omega) | exact Or.inl ⟨by omega, by omega⟩ | exact ⟨by omega, by omega⟩)
local macro_rules | `(tactic| fail "slc") => `(tactic| first | assumption | (intro h; exact absurd h.1 (by decide)))
local macro_rules | `(tactic| fail "len") => `(tactic| first | assumption | omega | exact Nat.le_of_ble_eq_true rfl)
local macro_rules | `(tactic| kspl_open cs) => `(tactic| first
  | with_reducible assumption
  | (refine' CS.sm (Al.sm (by with_reducible assumption)) ?a; (case a => kspl_open cs))
  | (refine' CS.sm (by with_reducible assumption) ?a; (case a => kspl_open cs))
  | assumption)
local macro_rules | `(tactic| fail "qa") => `(tactic| first | (assumption) | done)
local macro_rules | `(tactic| fail "qa") => `(tactic| first | ((refine' QAt.fix (by with_reducible assumption) ?a; (case a => fail "qa"))) | done)
local macro_rules | `(tactic| fail "qa") => `(tactic| first | ((refine' QAt.fix (Fix.of_same (by with_reducible assumption)) ?a; (case a => fail "qa"))) | done)
local macro_rules | `(tactic| fail "qa") => `(tactic| first | ((refine' QAt.fix (Mu.fx (by with_reducible assumption)) ?a; (case a => fail "qa"))) | done)
local macro_rules | `(tactic| fail "qa") => `(tactic| first | ((refine' QAt.fix (Wr.fx (by with_reducible assumption)) ?a; (case a => fail "qa"))) | done)
local macro_rules | `(tactic| fail "qa") => `(tactic| first | ((refine' QAt.fix (Al.fx (by with_reducible assumption)) ?a; (case a => fail "qa"))) | done)
local macro_rules | `(tactic| fail "qa") => `(tactic| first | (((with_reducible refine' QAt.iff ?a ?b ?c ?d); (case a => w_dflts lk); (case b => fail "qa"); (case c => fail "qa"); (case d => fail "qa"))) | done)
local macro_rules | `(tactic| fail "qa") => `(tactic| first | (((with_reducible refine' QAt.lett ?a ?b ?c); (case a => w_dflts lk); (case b => fail "qa"); (case c => fail "qa"))) | done)
local macro_rules | `(tactic| fail "qa") => `(tactic| first | (((with_reducible refine' QAt.less ?a ?b ?c); (case a => w_dflts lk); (case b => fail "qa"); (case c => fail "qa"))) | done)
local macro_rules | `(tactic| fail "qa") => `(tactic| first | (((with_reducible refine' QAt.sum ?a ?b ?c); (case a => w_dflts lk); (case b => fail "qa"); (case c => fail "qa"))) | done)
local macro_rules | `(tactic| fail "qa") => `(tactic| first | (((with_reducible refine' QAt.call ?a ?b ?c); (case a => w_dflts lk); (case b => fail "qa"); (case c => fail "qa"))) | done)
local macro_rules | `(tactic| fail "qa") => `(tactic| first | (((with_reducible refine' QAt.say ?a ?b); (case a => w_dflts lk); (case b => fail "qa"))) | done)
local macro_rules | `(tactic| fail "qa") => `(tactic| first | (((with_reducible refine' QAt.fn ?a ?b); (case a => w_dflts lk); (case b => fail "qa"))) | done)
local macro_rules | `(tactic| fail "qa") => `(tactic| first | (((with_reducible refine' QAt.name ?a); (case a => w_dflts lk))) | done)
local macro_rules | `(tactic| fail "qa") => `(tactic| first | (((with_reducible refine' QAt.num ?a); (case a => w_dflts lk))) | done)
local macro_rules | `(tactic| fail "qa") => `(tactic| first | (with_reducible assumption) | done)
local macro_rules | `(tactic| kspl_open env) => `(tactic| first | (assumption) | done)
local macro_rules | `(tactic| kspl_open env) => `(tactic| first | ((refine' EnvAt.fix0 (by with_reducible assumption) ?a; (case a => kspl_open env))) | done)
local macro_rules | `(tactic| kspl_open env) => `(tactic| first | ((refine' EnvAt.fix0 (Fix.of_same (by with_reducible assumption)) ?a; (case a => kspl_open env))) | done)
local macro_rules | `(tactic| kspl_open env) => `(tactic| first | ((refine' EnvAt.fix0 (Mu.fx (by with_reducible assumption)) ?a; (case a => kspl_open env))) | done)
local macro_rules | `(tactic| kspl_open env) => `(tactic| first | ((refine' EnvAt.fix0 (Wr.fx (by with_reducible assumption)) ?a; (case a => kspl_open env))) | done)
local macro_rules | `(tactic| kspl_open env) => `(tactic| first | ((refine' EnvAt.fix0 (Al.fx (by with_reducible assumption)) ?a; (case a => kspl_open env))) | done)
local macro_rules | `(tactic| kspl_open env) => `(tactic| first | (with_reducible assumption) | done)
local macro_rules | `(tactic| fail "sqA") => `(tactic| first | fail "sq" | (refine' sq_all ?a; (case a => assumption)))
local macro_rules | `(tactic| fail "un") => `(tactic| first | (((with_reducible refine' s_forEW ?a ?b); (case a => exact rfl))) | done)
local macro_rules | `(tactic| fail "un") => `(tactic| first | (((with_reducible refine' s_forEL ?a ?b); (case a => fail "sq"))) | done)
local macro_rules | `(tactic| fail "un") => `(tactic| first | (((with_reducible refine' s_forET ?a ?b); (case a => fail "sqA"))) | done)
local macro_rules | `(tactic| fail "un") => `(tactic| first | (((with_reducible refine' s_klcLu ?a ?b); (case a => w_dflts lk); intro _ _ _)) | done)
local macro_rules | `(tactic| fail "un") => `(tactic| first | (((with_reducible refine' s_klcTu ?a ?b); (case a => fail "sqA"); intro _ _ _)) | done)
local macro_rules | `(tactic| fail "un") => `(tactic| first | (((with_reducible refine' s_forTu ?a ?b); (case a => fail "sqA"))) | done)
local macro_rules | `(tactic| kspl_open nw) => `(tactic| first | ((refine' fr_wr (by assumption) ?a; (case a => kspl_open nw))) | done)
local macro_rules | `(tactic| kspl_open nw) => `(tactic| first | ((refine' fr_same (by assumption) ?a; (case a => kspl_open nw))) | done)
local macro_rules | `(tactic| kspl_open nw) => `(tactic| first | ((refine' fr_al (by assumption) ?a; (case a => kspl_open nw))) | done)
local macro_rules | `(tactic| kspl_open nw) => `(tactic| first | (exact Al.nw (by assumption)) | done)
local macro_rules | `(tactic| kspl_open nw) => `(tactic| first | (assumption) | done)
local macro_rules | `(tactic| kspl_open m4) => `(tactic| first | ((refine' M4.trans ?a (by with_reducible assumption); (case a => kspl_open m4))) | done)
local macro_rules | `(tactic| kspl_open m4) => `(tactic| first | ((refine' M4.wrS ?a (by with_reducible assumption); (case a => kspl_open m4))) | done)
local macro_rules | `(tactic| kspl_open m4) => `(tactic| first | ((refine' M4.wrR ?a (by with_reducible assumption); (case a => kspl_open m4))) | done)
local macro_rules | `(tactic| kspl_open m4) => `(tactic| first | ((refine' M4.wrO ?a (by with_reducible assumption); (case a => kspl_open m4))) | done)
local macro_rules | `(tactic| kspl_open m4) => `(tactic| first | ((refine' M4.wrW ?a (by with_reducible assumption); (case a => kspl_open m4))) | done)
local macro_rules | `(tactic| kspl_open m4) => `(tactic| first | ((refine' M4.muS ?a (by with_reducible assumption); (case a => kspl_open m4))) | done)
local macro_rules | `(tactic| kspl_open m4) => `(tactic| first | ((refine' M4.sm ?a (by with_reducible assumption); (case a => kspl_open m4))) | done)
local macro_rules | `(tactic| kspl_open m4) => `(tactic| first | ((refine' M4.sm ?a (Al.sm (by with_reducible assumption)); (case a => kspl_open m4))) | done)
local macro_rules | `(tactic| kspl_open m4) => `(tactic| first | (with_reducible assumption) | done)
local macro_rules | `(tactic| kspl_open m4) => `(tactic| first | ((with_reducible exact M4.refl)) | done)
local macro_rules | `(tactic| fail "g1") => `(tactic| first
  | dsimp only
  | done)
local macro_rules | `(tactic| fail "g1") => `(tactic| first
  | (with_reducible refine' s_tdnotin ?_)
  | ((with_reducible refine' s_kdinI ?a ?b); (case a => w_dflts lk))
  | ((with_reducible refine' s_kdinP ?a ?c ?b); (case a => w_dflts lk); (case c => w_dflts lk))
  | ((with_reducible refine' s_catA ?a ?c ?d ?b); (case a => fail "sq"); (case c => fail "sq"); (case d => fail "len"); intro _ _ _)
  | (with_reducible refine' s_tdget1 ?_)
  | (with_reducible refine' s_tdget2 ?_)
  | ((with_reducible refine' s_kget1T ?a ?b); (case a => w_dflts lk))
  | ((with_reducible refine' s_kget2T ?a ?b); (case a => w_dflts lk))
  | ((with_reducible refine' s_kgoP ?a ?c ?b); (case a => w_dflts lk); (case c => w_dflts lk))
  | ((with_reducible refine' s_kdputP ?a ?c ?l ?b); (case a => w_dflts lk); (case c => w_dflts lk); (case l => fail "len"); intro _ _)
  | done)
local macro_rules | `(tactic| fail "g1") => `(tactic| first
  | (with_reducible refine' s_ienT ?_)
  | (with_reducible refine' s_ienL ?_)
  | (with_reducible refine' s_ienS ?_)
  | ((with_reducible refine' s_kenT ?a ?b); (case a => fail "sqA"))
  | ((with_reducible refine' s_kenL ?a ?b); (case a => fail "sq"))
  | (with_reducible refine' s_kenS ?_)
  | ((with_reducible refine' s_gtup ?a ?c ?b); (case a => fail "sq"); (case c => exact rfl))
  | (with_reducible refine' s_gcons ?_)
  | (with_reducible refine' s_gnil ?_)
  | (with_reducible refine' s_tdin ?_)
  | done)
local macro_rules | `(tactic| fail "g1") => `(tactic| first
  | (with_reducible refine' s_knotV ?_)
  | ((with_reducible refine' s_taug ?a ?b); (case a => exact rfl))
  | (with_reducible refine' s_ipI ?_)
  | (with_reducible refine' s_trevL ?_)
  | ((with_reducible refine' s_krevL ?a ?b); (case a => w_dflts lk); intro _ _ _)
  | (with_reducible refine' s_wen ?_)
  | ((with_reducible refine' s_wec ?_); intro _ _ _)
  | ((with_reducible refine' s_weaT ?a ?b); (case a => fail "sqA"))
  | ((with_reducible refine' s_weaL ?a ?b); (case a => fail "sq"))
  | (with_reducible refine' s_weaS ?_)
  | done)
local macro_rules | `(tactic| fail "g1") => `(tactic| first
  | (with_reducible refine' s_wln ?_)
  | (with_reducible refine' s_wlc ?_)
  | ((with_reducible refine' s_wla ?a ?b); (case a => fail "sq"))
  | (with_reducible refine' s_bm0 ?_)
  | ((with_reducible refine' s_lenZ ?a ?b); (case a => exact Nat.le_of_ble_eq_true rfl))
  | (with_reducible refine' s_tandV ?_)
  | (with_reducible refine' s_torV ?_)
  | (with_reducible refine' s_tnotV ?_)
  | (with_reducible refine' s_kandV ?_)
  | (with_reducible refine' s_korV ?_)
  | done)
local macro_rules | `(tactic| fail "g1") => `(tactic| first
  | ((with_reducible refine' s_kgetS ?a ?b); (case a => exact rfl))
  | ((with_reducible refine' s_knotS ?a ?b); (case a => exact rfl))
  | ((with_reducible refine' s_kgetP ?a ?b); (case a => exact rfl); intro _ _)
  | ((with_reducible refine' s_popS ?a ?b); (case a => w_dflts lk); intro _ _)
  | ((with_reducible refine' s_ext ?a ?c ?l ?b); (case a => w_dflts lk); (case c => w_dflts lk); (case l => fail "len"); intro _ _)
  | (with_reducible refine' s_kturn ?_)
  | (with_reducible refine' s_asgG ?_)
  | (with_reducible refine' s_gfld ?_)
  | ((with_reducible refine' s_kgfld ?a ?c ?n ?i ?l ?f ?b); (case a => w_dflts lk); (case c => exact CF.cls (by decide +kernel)); (case n => exact CF.na (by decide +kernel)); (case i => fail "im"); (case l => exact rfl); (case f => fail "pf"); intro _ _)
  | (with_reducible refine' s_tnotT ?_)
  | done)
local macro_rules | `(tactic| fail "g1") => `(tactic| first
  | (with_reducible refine' s_iT ?_)
  | ((with_reducible refine' s_kiL ?a ?b); (case a => fail "sq"))
  | ((with_reducible refine' s_kiT ?a ?b); (case a => fail "sq"))
  | (with_reducible refine' s_for ?_)
  | (with_reducible refine' s_lc ?_)
  | ((with_reducible refine' s_truL ?a ?b); (case a => w_dflts lk))
  | ((with_reducible refine' s_truT ?a ?b); (case a => w_dflts lk))
  | (with_reducible refine' s_truN ?_)
  | (with_reducible refine' s_u ?_)
  | (with_reducible refine' s_un ?_)
  | done)
local macro_rules | `(tactic| fail "g1") => `(tactic| first
  | (with_reducible refine' s_wfn ?_)
  | ((with_reducible refine' s_wfa ?a ?b); (case a => fail "sq"))
  | (with_reducible refine' s_wcn ?_)
  | ((with_reducible refine' s_wca ?a ?b); (case a => fail "sq"))
  | (with_reducible refine' s_sdput ?_)
  | ((with_reducible refine' s_kdputA ?a ?l ?b); (case a => assumption); (case l => fail "len"); intro _ _)
  | (with_reducible refine' s_tdget ?_)
  | ((with_reducible refine' s_kdgetK ?a ?e ?b); (case a => w_dflts lk); (case e => assumption))
  | ((with_reducible refine' s_addStr ?a ?b); (case a => fail "len"))
  | (with_reducible refine' s_iL ?_)
  | done)
local macro_rules | `(tactic| fail "g1") => `(tactic| first
  | (with_reducible refine' s_kpart ?_)
  | ((with_reducible refine' s_slT1 ?a ?b); (case a => fail "sq"); intro _ _ _)
  | ((with_reducible refine' s_slT ?a ?c ?b); (case a => fail "sq"); (case c => fail "slc"); intro _ _ _)
  | ((with_reducible refine' s_slL ?a ?b); (case a => fail "sq"); intro _ _ _)
  | ((with_reducible refine' s_cat ?a ?c ?d ?b); (case a => w_dflts lk); (case c => w_dflts lk); (case d => fail "len"); intro _ _ _)
  | ((with_reducible refine' s_addStr ?a ?b); (case a => fail "len"))
  | ((with_reducible refine' s_pop ?a ?c ?b); (case a => w_dflts lk); (case c => exact rfl); intro _ _)
  | ((with_reducible refine' s_bm0L ?a ?b); (case a => w_dflts lk))
  | ((with_reducible refine' s_i ?a ?b); (case a => fail "ar"))
  | (with_reducible refine' s_tru ?_)
  | done)
local macro_rules | `(tactic| fail "g1") => `(tactic| first
  | (with_reducible refine' s_isStrT ?_)
  | ((with_reducible refine' s_isTup ?a ?b); (case a => w_dflts lk))
  | ((with_reducible refine' s_isE ?a ?b); (case a => fail "e"))
  | ((with_reducible refine' s_isTupI ?a ?b); (case a => w_dflts lk))
  | ((with_reducible refine' s_inT ?a ?c ?d ?b); (case a => w_dflts lk); (case c => exact rfl); (case d => exact rfl))
  | ((with_reducible refine' s_inL ?a ?c ?d ?b); (case a => w_dflts lk); (case c => exact rfl); (case d => exact rfl))
  | ((with_reducible refine' s_inK ?a ?c ?d ?b); (case a => assumption); (case c => exact rfl); (case d => exact rfl))
  | (with_reducible refine' s_sl ?_)
  | (with_reducible refine' s_noPart ?_)
  | (with_reducible refine' s_part ?_)
  | done)
local macro_rules | `(tactic| fail "g1") => `(tactic| first
  | ((with_reducible refine' s_lenL ?a ?b); (case a => fail "sq"))
  | ((with_reducible refine' s_lenT ?a ?b); (case a => fail "sq"))
  | ((with_reducible refine' s_isN ?_))
  | ((with_reducible refine' s_notN ?_))
  | ((with_reducible refine' s_dictD ?a ?b); (case a => w_dflts lk); intro _ _ _)
  | ((with_reducible refine' s_tupOf ?a ?b); (case a => fail "sq"); intro _ _ _)
  | (with_reducible refine' s_isInt ?_)
  | (with_reducible refine' s_isStr ?_)
  | (with_reducible refine' s_isIntB ?_)
  | (with_reducible refine' s_isIntT ?_)
  | done)
local macro_rules | `(tactic| fail "g1") => `(tactic| first
  | (with_reducible refine' s_retN ?_)
  | (with_reducible refine' s_ifx ?_)
  | ((with_reducible refine' s_setL ?a ?l ?b); (case a => w_dflts lk); (case l => exact rfl); intro _ _)
  | (with_reducible refine' s_asgS ?_)
  | (with_reducible refine' s_sfld ?_)
  | ((with_reducible refine' s_ksfld ?a ?c ?n ?i ?l ?f ?b); (case a => w_dflts lk); (case c => exact CF.cls (by decide +kernel)); (case n => exact CF.na (by decide +kernel)); (case i => fail "im"); (case l => exact rfl); (case f => fail "pf"); intro _ _)
  | (with_reducible refine' s_aug ?_)
  | ((with_reducible refine' s_kaugI ?a ?c ?n ?k ?i ?l ?r ?f ?b); (case a => w_dflts lk); (case c => exact CF.cls (by decide +kernel)); (case n => exact CF.na (by decide +kernel)); (case k => fail "fl"); (case i => fail "im"); (case l => exact rfl); (case r => first | exact r_add | exact r_sub); (case f => fail "pf"); intro _ _)
  | (with_reducible refine' s_intI ?_)
  | (with_reducible refine' s_intB ?_)
  | done)
local macro_rules | `(tactic| fail "g1") => `(tactic| first
  | ((with_reducible refine' s_ne ?a ?b); (case a => exact rfl))
  | (with_reducible refine' s_tlst ?_)
  | ((with_reducible refine' s_klst ?a ?b); (case a => exact Nat.le_of_ble_eq_true rfl); intro _ _ _)
  | (with_reducible refine' s_yes ?_)
  | (with_reducible refine' s_wcc ?_)
  | (with_reducible refine' s_wfc ?_)
  | ((with_reducible refine' s_ixL ?a ?c ?b); (case a => fail "sq"); (case c => first | exact rfl | exact at0 | assumption))
  | ((with_reducible refine' s_dnK ?_); intro _ _ _)
  | ((with_reducible refine' s_dnT ?_); intro _ _ _)
  | (with_reducible refine' s_make ?_)
  | done)
local macro_rules | `(tactic| fail "g1") => `(tactic| first
  | (with_reducible refine' s_ttup ?_)
  | ((with_reducible refine' s_ktup ?a ?b); (case a => exact Nat.le_of_ble_eq_true rfl); intro _ _ _)
  | (with_reducible refine' s_tfld ?_)
  | ((with_reducible refine' s_kfld ?a ?c ?n ?l ?b); (case a => w_dflts lk); (case c => exact CF.cls (by decide +kernel)); (case n => exact CF.na (by decide +kernel)); (case l => fail "fl"))
  | (with_reducible refine' s_gName ?_)
  | ((with_reducible refine' s_klct ?a ?b); (case a => exact rfl))
  | ((with_reducible refine' s_kapp ?a ?l ?b); (case a => w_dflts lk); (case l => fail "len"); intro _ _)
  | (with_reducible refine' s_or ?_)
  | (with_reducible refine' s_and ?_)
  | (with_reducible refine' s_not ?_)
  | done)
local macro_rules | `(tactic| fail "g1") => `(tactic| first
  | (with_reducible refine' s_ret ?_)
  | (with_reducible refine' s_tb ?_)
  | (with_reducible refine' s_cb ?_)
  | (with_reducible refine' s_call ?_)
  | (with_reducible refine' s_drop ?_)
  | (with_reducible refine' s_bm ?_)
  | ((with_reducible refine' s_kbmL ?a ?b); (case a => w_dflts lk))
  | ((with_reducible refine' s_append ?a ?l ?b); (case a => w_dflts lk); (case l => fail "len"); intro _ _)
  | (with_reducible refine' s_meth ?_)
  | ((with_reducible refine' s_kmeth ?a ?l ?b); (case a => w_dflts lk); (case l => fail "fl"))
  | done)
local macro_rules | `(tactic| fail "g1") => `(tactic| first | ((with_reducible refine' s_i0 ?_)) | done)
local macro_rules | `(tactic| fail "g1") => `(tactic| first | (((with_reducible refine' s_ixT ?a ?c ?b); (case a => fail "sq"); (case c => first | exact rfl | exact at0 | assumption))) | done)
local macro_rules | `(tactic| fail "g1") => `(tactic| first | ((with_reducible refine' s_asg ?_)) | done)
local macro_rules | `(tactic| fail "g1") => `(tactic| first | ((with_reducible refine' s_seq ?_)) | done)
local macro_rules | `(tactic| fail "g1") => `(tactic| first | ((with_reducible refine' s_next ?_)) | done)
local macro_rules | `(tactic| fail "g1") => `(tactic| first | ((with_reducible refine' s_ifs ?_)) | done)
local macro_rules | `(tactic| fail "g1") => `(tactic| first | (((with_reducible refine' i_t ?a ?b); (case a => fail "dk"))) | done)
local macro_rules | `(tactic| fail "g1") => `(tactic| first | (((with_reducible refine' i_f ?a ?b); (case a => fail "dk"))) | done)
local macro_rules | `(tactic| fail "g1") => `(tactic| first | (((with_reducible refine' s_eq ?a ?b); (case a => exact rfl))) | done)
local macro_rules | `(tactic| fail "g1") => `(tactic| first | ((with_reducible refine' s_test ?_)) | done)
local macro_rules | `(tactic| fail "g1") => `(tactic| first | ((with_reducible refine' s_kb ?_)) | done)
local macro_rules | `(tactic| fail "g1") => `(tactic| first | ((with_reducible refine' s_op ?_)) | done)
local macro_rules | `(tactic| fail "g1") => `(tactic| first | ((with_reducible refine' s_nil ?_)) | done)
local macro_rules | `(tactic| fail "g1") => `(tactic| first | ((with_reducible refine' s_c ?_)) | done)
local macro_rules | `(tactic| fail "g1") => `(tactic| first | (((with_reducible refine' s_var ?a ?b); (case a => exact rfl))) | done)
local macro_rules | `(tactic| fail "g1") => `(tactic| first | ((with_reducible refine' s_cons ?_)) | done)
theorem EAt.hd {H : Hp} {v : V} {e : E} (h : EAt H v e) : ∃ p xs, v = .ref p ∧ H p = some (.tup (.str e.kd :: xs)) := by
  cases h <;> exact ⟨_, _, rfl, by assumption⟩
theorem valV_drop (kvs : List (List Key × V)) (k j : List Key) : valV (dropK kvs k) j = if j = k then none else valV kvs j := by
  unfold valV dropK
  induction kvs with
  | nil => split <;> rfl
  | cons a r ih =>
    by_cases h : a.1 = k
    · rw [List.filter_cons_of_neg (by simp [h]), ih]
      by_cases z : j = k
      · rw [if_pos z, if_pos z]
      · rw [if_neg z, if_neg z, List.find?_cons_of_neg (by simp only [decide_eq_true_eq]; intro q; exact z (q.symm.trans h))]
    · rw [List.filter_cons_of_pos (by simp [h])]
      by_cases z : a.1 = j
      · rw [List.find?_cons_of_pos (by simp [z]), List.find?_cons_of_pos (by simp [z]), if_neg (fun q => h (z.trans q))]
      · rw [List.find?_cons_of_neg (by simp [z]), List.find?_cons_of_neg (by simp [z]), ih]
theorem TwL.drop {K : PySem.W.Frag} {H H' : Hp} {rl wt ou : Addr} {t : TS} (h : TwL K H rl wt ou t) {kvs : List (List Key × V)} (hr : H rl = some (.dT kvs)) {k : Str} (w : Wr H H' rl (.dT (dropK kvs [.inl 0, .inr k]))) : TwL K H' rl wt ou (t.put k none) := by
  obtain ⟨⟨k0, a1, a2⟩, ⟨vs, b1, b2⟩, ⟨u, c1, c2⟩, n⟩ := h
  rw [hr] at a1
  cases a1
  refine ⟨⟨_, w.at_, ⟨?_, fun x => ?_, fun x => ?_, fun x hx => ?_⟩⟩, ⟨_, w.bt _ _ b1 (ne_k b1 hr rfl), b2.fix w.fx⟩, ⟨_, w.bt _ _ c1 (ne_k c1 hr rfl), c2.fix w.fx⟩, n⟩
  · have := dropK_le kvs [Sum.inl 0, Sum.inr k]
    have := a2.len
    show _ ≤ t.rn + 1
    omega
  · show OlAt H' _ (if x = k then none else t.R x)
    rw [valV_drop]
    by_cases z : x = k
    · rw [if_pos z, if_pos (by rw [z])]
      rfl
    · rw [if_neg z, if_neg (fun q => z (by cases q; rfl))]
      exact (a2.at_ x).fix w.fx
  · rw [valV_drop, if_neg (fun q => by cases q)]
    exact a2.no1 x
  · have hx : (if x = k then none else t.R x) = none := hx
    rw [valV_drop]
    by_cases z : x = k
    · rw [if_pos (by rw [z])]
    · rw [if_neg z] at hx
      rw [if_neg (fun q => z (by cases q; rfl))]
      exact a2.nn x hx
theorem TwL.putN {K : PySem.W.Frag} {H : Hp} {rl wt ou : Addr} {t : TS} (h : TwL K H rl wt ou t) {kvs : List (List Key × V)} (hr : H rl = some (.dT kvs)) {k : Str} (hv : valV kvs [.inl 0, .inr k] = none) : TwL K H rl wt ou (t.put k none) := by
  obtain ⟨⟨k0, a1, a2⟩, b, c, n⟩ := h
  rw [hr] at a1
  cases a1
  refine ⟨⟨_, hr, ⟨Nat.le_succ_of_le a2.len, fun x => ?_, a2.no1, fun x hx => ?_⟩⟩, b, c, n⟩
  · show OlAt H _ (if x = k then none else t.R x)
    by_cases z : x = k
    · rw [if_pos z, z, hv]
      rfl
    · rw [if_neg z]
      exact a2.at_ x
  · have hx : (if x = k then none else t.R x) = none := hx
    by_cases z : x = k
    · rw [z]
      exact hv
    · rw [if_neg z] at hx
      exact a2.nn x hx
section
variable {K : PySem.W.Frag} {σ : L2.St} {H : Hp} {Q : VK} {p t : Addr} {z : Str} {n : Int} {d : V} {kvs : List (List Key × V)}
theorem s_rpopT (h : H p = some (.dT kvs)) (ht : H t = some (.tup [.int n, .str z])) (q1 : ∀ v H', valV kvs [.inl n, .inr z] = some v → Wr H H' p (.dT (dropK kvs [.inl n, .inr z])) → Q v H') (q2 : valV kvs [.inl n, .inr z] = none → Q d H) : L2.DX.rPopT (.ref p) [.ref t, d] H Q :=
  ⟨p, kvs, [.inl n, .inr z], t, d, rfl, rfl, h, ht, fun v e => q1 v _ e (Wr.mk0 h rfl), q2⟩
theorem s_kbmD {r : V → List V → Hp → VK → Prop} {s : TA} (h : H p = some (.dT kvs)) (q : s σ H fun ys H2 => r (.ref p) ys H2 Q) : kBM K "dict" r σ s (.ref p) H Q := ⟨.inr (.inr (.inl ⟨rfl, .inr ⟨_, h⟩⟩)), q⟩
end
section
variable {K : PySem.W.Frag} {H : Hp} {Q : VK} {X : XK} {sf dx rl wt ou st st2 sa : Addr} {ve ve2 : V} {b : Bool} {f : Nat} {t : TS} {e : E} {s : Se} {ρ : List (Str × Int)} {x : Str} {v : Int}
theorem u_go (hs : H sf = some (oTw K dx ve st b f rl wt ou .non)) (hf : f = t.f) (L : TwL K H rl wt ou t) (he : EAt H ve2 e) (hse : SeAt K H st2 s) (q : ∀ H', TwC K H' sf dx rl wt ou (.bg e s false t) → M4 sf rl wt ou H H' → Q .non H') : spGo K false (.ref sf :: ([ve2, .ref st2] ++ [])) H Q X := by
  subst hf
  exact ⟨sf, dx, ve, ve2, st, st2, b, t.f, rl, wt, ou, .non, rfl, hs, fun H' h1 m => q H' ⟨ve2, st2, h1, he.fix m.fx, hse.fix m.fx, L.mu hs m⟩ (M4.refl.muS m)⟩
theorem u_gob (hs : H sf = some (oTw K dx ve st b f rl wt ou .non)) (hf : f = t.f) (L : TwL K H rl wt ou t) (he : EAt H ve2 e) (hse : SeAt K H st2 s) (q : ∀ H', TwC K H' sf dx rl wt ou (.bg e s true t) → M4 sf rl wt ou H H' → Q .non H') : spGo K true (.ref sf :: ([ve2, .ref st2] ++ [])) H Q X := by
  subst hf
  exact ⟨sf, dx, ve, ve2, st, st2, b, t.f, rl, wt, ou, .non, rfl, hs, fun H' h1 m => q H' ⟨ve2, st2, h1, he.fix m.fx, hse.fix m.fx, L.mu hs m⟩ (M4.refl.muS m)⟩
theorem u_stp (hs : H sf = some (oTw K dx ve st b f rl wt ou .non)) (hf : f = t.f) (L : TwL K H rl wt ou t) (q0 : t.f = 0 → ∀ H', TwC K H' sf dx rl wt ou (.xx none t) → M4 sf rl wt ou H H' → Q (.bl false) H')
    (q1 : ∀ g, t.f = g + 1 → ∀ H', H' sf = some (oTw K dx ve st b g rl wt ou .non) → TwL K H' rl wt ou { t with f := g } → M4 sf rl wt ou H H' → Q (.bl true) H') : spStp K (.ref sf :: ([] ++ [])) H Q X := by
  subst hf
  refine ⟨sf, dx, ve, st, b, t.f, rl, wt, ou, .non, rfl, hs, fun e0 m H' h1 h2 mu => q0 e0 H' ⟨ve, st, b, m, by rw [e0]; exact h1, L.mu hs mu, h2⟩ (M4.refl.muS mu), fun g eg H' h1 mu => q1 g eg H' h1 ?_ (M4.refl.muS mu)⟩
  have l := L.mu hs mu
  exact ⟨l.ru, l.wa, l.oa, l.ne⟩
theorem u_stw0 (h : S0 K H sa ρ) (l : ρ.length < 10000) (q : ∀ p H', S0 K H' p ((x, v) :: ρ) → Same H H' → Q (.ref p) H') : spStW K (.ref sa :: ([.str x, .int v] ++ [])) H Q X := by
  obtain ⟨dx, nm, h1, d, kvs, hd, h2, er⟩ := h
  cases hd
  have hl := er.len
  exact ⟨sa, dx, nm, 0, .non, .int v, x, kvs, rfl, h1, h2, by omega, fun p dx' nm' H' h3 h4 s => q p H' ⟨dx', nm', h3, nm', _, rfl, h4, er.put x rfl⟩ s⟩
theorem u_stw1 {n : List (Str × Va)} {va : V} {a : Va} (h : SeAt K H sa (.s1 n e ρ)) (hv : VaAt K H va a) (l : n.length < 10000) (q : ∀ p H', SeAt K H' p (.s1 ((x, a) :: n) e ρ) → Same H H' → Q (.ref p) H') : spStW K (.ref sa :: ([.str x, va] ++ [])) H Q X := by
  obtain ⟨dx, nm, ab, vb, sb, h1, ⟨d, kvs, hd, h2, er⟩, h3, h4, h5⟩ := h
  cases hd
  have hl := er.len
  refine ⟨sa, dx, nm, 1, .ref ab, va, x, kvs, rfl, h1, h2, by omega, fun p dx' nm' H' g1 g2 s => q p H' ?_ s⟩
  have f := Fix.of_same s
  exact ⟨dx', nm', ab, vb, sb, g1, ⟨nm', _, rfl, g2, (er.put x hv).imp fun v a z => z.fix f⟩, s _ _ h3, h4.fix f, h5.fix f⟩
end
def spPb (K : PySem.W.Frag) : Sp := fun vs H Q _ => ∃ (sf dx : Addr) (ve : V) (st : Addr) (b : Bool) (rl wt ou pl : Addr) (t : TS) (vo : V) (kd : Str) (old : Option E), vs = [.ref sf, .ref pl, vo] ∧ H sf = some (oTw K dx ve st b t.f rl wt ou .non) ∧ TwL K H rl wt ou t ∧
  H pl = some (.tup [.int 0, .str kd]) ∧ OlAt H vo old ∧ t.rn < 10000 ∧ ∀ H', H' sf = some (oTw K dx ve st b t.f rl wt ou .non) → TwL K H' rl wt ou (t.put kd old) → M4 sf rl wt ou H H' → Q .non H'
/-- operations -/
inductive OpS : Str → List Va → TS → Cf → Prop where
  | say {v t} : t.o.length < 10000 → OpS "say" [.int v] t (.rv (.int v) { t with o := t.o ++ [(0, v)] })
  | sum {u v t} : OpS "sum" [.int u, .int v] t (.rv (.int (u + v)) t)
  | less {u v t} : OpS "less" [.int u, .int v] t (.rv (.int (if u < v then 1 else 0)) t)
  | call {x c ρ v t f} : ρ.length < 10000 → t.f = f + 1 → OpS "call" [.clo x c ρ, .int v] t (.bg c (.s0 ((x, v) :: ρ)) false { t with f := f })
  | call0 {x c ρ v t} : t.f = 0 → OpS "call" [.clo x c ρ, .int v] t (.xx none t)
def spEnt (K : PySem.W.Frag) : Sp := fun vs H Q _ => ∃ (sf dx : Addr) (ve : V) (st : Addr) (b : Bool) (rl wt ou : Addr) (t : TS) (vf : V) (x : Str) (c : E) (ρ : List (Str × Int)) (v : Int) (c' : Cf), vs = [.ref sf, .int 0, vf, .int v] ∧ H sf = some (oTw K dx ve st b t.f rl wt ou .non) ∧ TwL K H rl wt ou t ∧
  VaAt K H vf (.clo x c ρ) ∧ OpS "call" [.clo x c ρ, .int v] t c' ∧ ∀ H', TwC K H' sf dx rl wt ou c' → M4 sf rl wt ou H H' → Q .non H'
def spOper (K : PySem.W.Frag) : Sp := fun vs H Q _ => ∃ (sf dx : Addr) (ve : V) (st : Addr) (b : Bool) (rl wt ou vp : Addr) (t : TS) (kd : Str) (ws : List V) (as : List Va) (c' : Cf), vs = [.ref sf, .str kd, .int 0, .ref vp] ∧ H sf = some (oTw K dx ve st b t.f rl wt ou .non) ∧ TwL K H rl wt ou t ∧
  H vp = some (.tup ws) ∧ VasAt K H ws as ∧ OpS kd as t c' ∧ ∀ v H', RetAt K H' v c' → TwC K H' sf dx rl wt ou c' → M4 sf rl wt ou H H' → Q v H'
def spBL (K : PySem.W.Frag) : Sp := fun vs H Q _ => ∃ (sf dx : Addr) (ve : V) (st : Addr) (b : Bool) (rl wt ou ab sb : Addr) (t : TS) (vo : V) (x : Str) (p c : E) (ρ : List (Str × Int)) (v : Int), vs = [.ref sf, .ref ab, .int v] ∧ H sf = some (oTw K dx ve st b t.f rl wt ou .non) ∧ TwL K H rl wt ou t ∧
  H ab = some (.tup [vo, .ref sb]) ∧ EAt H vo (.lett x p c) ∧ S0 K H sb ρ ∧ (t.f = 0 → ∀ H', TwC K H' sf dx rl wt ou (.xx none t) → M4 sf rl wt ou H H' → Q .non H') ∧
  (∀ f, t.f = f + 1 → ρ.length < 10000 ∧ ∀ H', TwC K H' sf dx rl wt ou (.bg c (.s0 ((x, v) :: ρ)) false { t with f := f }) → M4 sf rl wt ou H H' → Q .non H')
def spDec (K : PySem.W.Frag) : Sp := fun vs H Q _ => ∃ (sf dx : Addr) (ve : V) (st : Addr) (b : Bool) (rl wt ou sa : Addr) (t : TS) (vi : V) (c a d : E) (s : Se) (v : Int), vs = [.ref sf, vi, .ref sa, .int v] ∧ H sf = some (oTw K dx ve st b t.f rl wt ou .non) ∧ TwL K H rl wt ou t ∧
  EAt H vi (.iff c a d) ∧ SeAt K H sa s ∧ ∀ H', TwC K H' sf dx rl wt ou (.bg (if v = 0 then d else a) s false t) → M4 sf rl wt ou H H' → Q .non H'
section
variable {P : Program} {w : World} {K : PySem.W.Frag} {mg : Str → Option Value} {base : Heap} [Tx w K mg]
theorem ok_Tower_put_back (hd : Dd K d_Tower_put_back) : Ok P w K mg base 1 d_Tower_put_back ["self", "place", "rule"] (spPb K) := by
  refine ok_mk hd sc_Tower_put_back bd_Tower_put_back (fun vs H Q X h => ?_) (fun cdv A outer s0 H vs Q X hr h => ?_)
  · obtain ⟨_, _, _, _, _, _, _, _, _, _, _, _, _, rfl, _⟩ := h
    rfl
  obtain ⟨sf, dx, ve, st, b, rl, wt, ou, pl, t, vo, kd, old, rfl, hs, L, hpl, ho, hrn, k⟩ := h
  obtain ⟨kvs, hrl, hru⟩ := L.ru
  have hln := hru.len
  have hlz : kvs.length < sizeLine := Nat.lt_of_le_of_lt hln (Nat.lt_trans hrn (by decide))
  refine ⟨_, (pss_one (ps_if (pt_cmpR op_isN1 (pv 2) pe_non (nomark _)) (pss_one (ps_expr (pe_bm PySem.F.plainAttrs_dict PySem.F.slot_dict_pop PySem.F.type_dict_pop (L2.DX.mt_popT (hu_of hr)) (pe_fld (pv 0) rfl) (pa_cons (pv 1) (pa_cons pe_non pa_nil))))) (pss_one (ps_dput (hu_of hr) (pe_fld (pv 0) rfl) (pv 1) (pv 2) rfl)))), ?_⟩
  fail "b"
  cases old with
  | none =>
    obtain rfl : vo = .non := ho
    fail "g"
    refine s_kbmD (by w_dflts lk) ?_
    fail "g"
    refine s_rpopT (by w_dflts lk) (by w_dflts lk) (fun v H1 hv w1 => ?_) fun hv => ?_
    · fail "g"
      exact k _ (by w_dflts lk) (L.drop hrl w1) (by kspl_open m4)
    · fail "g"
      exact k _ hs (L.putN hrl hv) (by kspl_open m4)
  | some r =>
    have ho2 : EAt H vo r := ho
    obtain ⟨pr, xs, rfl, hpr⟩ := ho2.tup
    fail "g"
    rename_i H1 w1
    exact k _ (by w_dflts lk) (L.put hrl w1 ho2) (by kspl_open m4)
theorem ok_Tower_enter (hd : Dd K d_Tower_enter) (g_Tower_step : Ok P w K mg base 1 d_Tower_step ["self"] (spStp K)) (g_Tower_go : Ok P w K mg base 1 d_Tower_go ["self", "e", "setting"] (spGo K false)) (g_Setting_with_name : Ok P w K mg base 3 d_Setting_with_name ["self", "x", "value"] (spStW K)) : Ok P w K mg base 4 d_Tower_enter ["self", "level", "function", "argument"] (spEnt K) := by
  obtain ⟨⟨_, G_Tower_step, b_Tower_step⟩, k_Tower_step⟩ := id g_Tower_step
  obtain ⟨⟨_, G_Tower_go, b_Tower_go⟩, k_Tower_go⟩ := id g_Tower_go
  obtain ⟨⟨_, G_Setting_with_name, b_Setting_with_name⟩, k_Setting_with_name⟩ := id g_Setting_with_name
  refine ok_mk hd sc_Tower_enter bd_Tower_enter (fun vs H Q X h => ?_) (fun cdv A outer s0 H vs Q X hr h => ?_)
  · obtain ⟨_, _, _, _, _, _, _, _, _, _, _, _, _, _, _, rfl, _⟩ := h
    rfl
  obtain ⟨sf, dx, ve, st, b, rl, wt, ou, t, vf, x, c, ρ, v, c', rfl, hs, L, ⟨pf, vb, sa, rfl, hpf, hb, hsa⟩, hop, k⟩ := h
  refine ⟨_, (pss_one (ps_if (PW.pt (pw_or (pt_val (pe_callB call_isI rfl (Tx.fr (K := K) "isinstance" (by decide +kernel)) (by decide +kernel) (pa_cons (pv 2) (pa_cons (pe_bltn (v := .ty "int") rfl (Tx.fr (K := K) "int" (by decide +kernel)) (by decide +kernel) rfl) pa_nil)))) (pw_or1 (pt_cmpR op_ne (pe_ix ix_tup (pv 2) pe_int (fun _ _ => rfl)) (pv 1) (nomark _))))) pss_never (pss_one (ps_if (pt_val (pe_meth0 (pv 0) (CF.cls (K := K) (n := "Tower") (by decide +kernel)) (CF.me (K := K) (n := "Tower") (m := "step") (by decide +kernel)) G_Tower_step (hr.mono (by omega)) b_Tower_step .nil pass0)) (pss_one (ps_expr (pe_meth (pv 0) (CF.cls (K := K) (n := "Tower") (by decide +kernel)) (CF.me (K := K) (n := "Tower") (m := "go") (by decide +kernel)) G_Tower_go (hr.mono (by omega)) b_Tower_go .nil pass0 (pa_cons (pe_ix ix_tup (pv 2) pe_int (fun _ _ => rfl)) (pa_cons (pe_meth (pe_ix ix_tup (pv 2) pe_int (fun _ _ => rfl)) (CF.cls (K := K) (n := "Setting") (by decide +kernel)) (CF.me (K := K) (n := "Setting") (m := "with_name") (by decide +kernel)) G_Setting_with_name (hr.mono (by omega)) b_Setting_with_name .nil pass0 (pa_cons (pe_ix ix_tup (pv 2) pe_int (fun _ _ => rfl)) (pa_cons (pv 3) pa_nil))) pa_nil))))) pss_nil)))), ?_⟩
  fail "b"
  fail "g"
  refine u_stp hs rfl L (fun e0 H1 c1 m1 => ?_) fun g eg H1 h1 L1 m1 => ?_
  · fail "g"
    cases hop with
    | call _ h2 => rw [e0] at h2; cases h2
    | call0 h2 => exact k _ c1 m1
  · cases hop with
    | call0 h2 => rw [eg] at h2; cases h2
    | call hl h2 =>
      rw [eg] at h2
      cases h2
      have f1 := m1.fx
      have kpf := f1 _ _ hpf rfl
      obtain ⟨dxs, nm, ks, _⟩ := S0.fix f1 hsa
      fail "g"
      refine u_stw0 (hsa.fix f1) hl fun p2 H2 h2 s2 => ?_
      fail "g"
      refine u_go (t := { t with f := g }) (by w_dflts lk) rfl (L1.same s2) (by fail "e") (s := .s0 ((x, v) :: ρ)) h2 fun H3 c3 m3 => ?_
      fail "g"
      exact k _ c3 (by kspl_open m4)
end
/-! ## Ztw5 -/
open PySem PySem.Spec PyProof.Rows L2
theorem TwL.push1 {K : PySem.W.Frag} {H H' : Hp} {rl wt ou : Addr} {t : TS} (h : TwL K H rl wt ou t) {vs : List V} (hw : H wt = some (.lst vs)) {x : V} {f : Fr} (w : Wr H H' wt (.lst (vs ++ [x]))) (hf : FrAt K H x f) : TwL K H' rl wt ou (t.push f) := h.push hw w (hf.fix w.fx)
def spGath (K : PySem.W.Frag) : Sp := fun vs H Q _ => ∃ (sf dx : Addr) (ve : V) (st : Addr) (b : Bool) (rl wt ou sa vp : Addr) (t : TS) (vd : V) (d : E) (n : List (Str × Va)) (e : E) (ρ : List (Str × Int)) (ws : List V) (as : List Va) (c' : Cf), vs = [.ref sf, vd, .ref sa, .ref vp] ∧
  H sf = some (oTw K dx ve st b t.f rl wt ou .non) ∧ TwL K H rl wt ou t ∧ EAt H vd d ∧ SeAt K H sa (.s1 n e ρ) ∧ H vp = some (.tup ws) ∧ VasAt K H ws as ∧
  ((∃ u a z, doE d = [u, a] ∧ as = [z] ∧ t.w.length < 10000 ∧ c' = .bg a (.s1 n e ρ) false (t.push (.doF d (.s1 n e ρ) [z]))) ∨
   ((doE d).length = as.length ∧ as ≠ [] ∧ ((t.f = 0 ∧ c' = .xx none t) ∨ ∃ f, t.f = f + 1 ∧ OpS e.kd as { t with f := f } c'))) ∧
  ∀ v H', RetAt K H' v c' → TwC K H' sf dx rl wt ou c' → M4 sf rl wt ou H H' → Q v H'
section
variable {P : Program} {w : World} {K : PySem.W.Frag} {mg : Str → Option Value} {base : Heap} [Tx w K mg]
theorem ok_Tower_bind_let (hd : Dd K d_Tower_bind_let) (g_Tower_step : Ok P w K mg base 1 d_Tower_step ["self"] (spStp K)) (g_Tower_go : Ok P w K mg base 1 d_Tower_go ["self", "e", "setting"] (spGo K false)) (g_Setting_with_name : Ok P w K mg base 3 d_Setting_with_name ["self", "x", "value"] (spStW K)) : Ok P w K mg base 4 d_Tower_bind_let ["self", "about", "value"] (spBL K) := by
  obtain ⟨⟨_, G_Tower_step, b_Tower_step⟩, k_Tower_step⟩ := id g_Tower_step
  obtain ⟨⟨_, G_Tower_go, b_Tower_go⟩, k_Tower_go⟩ := id g_Tower_go
  obtain ⟨⟨_, G_Setting_with_name, b_Setting_with_name⟩, k_Setting_with_name⟩ := id g_Setting_with_name
  refine ok_mk hd sc_Tower_bind_let bd_Tower_bind_let (fun vs H Q X h => ?_) (fun cdv A outer s0 H vs Q X hr h => ?_)
  · obtain ⟨_, _, _, _, _, _, _, _, _, _, _, _, _, _, _, _, _, rfl, _⟩ := h
    rfl
  obtain ⟨sf, dx, ve, st, b, rl, wt, ou, ab, sb, t, vo, x, p, c, ρ, v, rfl, hs, L, hab, ho, hsb, k0, k1⟩ := h
  refine ⟨_, (pss_one (ps_if (pt_val (pe_meth0 (pv 0) (CF.cls (K := K) (n := "Tower") (by decide +kernel)) (CF.me (K := K) (n := "Tower") (m := "step") (by decide +kernel)) G_Tower_step (hr.mono (by omega)) b_Tower_step .nil pass0)) (pss_cons (ps_asg (pv 1) (pg_tup (by rfl) (pgs_cons (pg_name (i := 3) sc_Tower_bind_let.nd rfl (Or.inl rfl)) (pgs_cons (pg_name (i := 4) sc_Tower_bind_let.nd rfl (Or.inl rfl)) pgs_nil))))
  (pss_one (ps_expr (pe_meth (pv 0) (CF.cls (K := K) (n := "Tower") (by decide +kernel)) (CF.me (K := K) (n := "Tower") (m := "go") (by decide +kernel)) G_Tower_go (hr.mono (by omega)) b_Tower_go .nil pass0 (pa_cons (pe_ix ix_tup (pv 3) pe_int (fun _ _ => rfl)) (pa_cons (pe_meth (pv 4) (CF.cls (K := K) (n := "Setting") (by decide +kernel)) (CF.me (K := K) (n := "Setting") (m := "with_name") (by decide +kernel)) G_Setting_with_name (hr.mono (by omega)) b_Setting_with_name .nil pass0 (pa_cons (pe_ix ix_tup (pv 3) pe_int (fun _ _ => rfl)) (pa_cons (pv 2) pa_nil))) pa_nil)))))) pss_nil)), ?_⟩
  fail "b"
  fail "g"
  refine u_stp hs rfl L (fun e0 H1 c1 m1 => ?_) fun g eg H1 h1 L1 m1 => ?_
  · fail "g"
    exact k0 e0 _ c1 m1
  · have f1 := m1.fx
    have hab1 : H1 ab = some (.tup [vo, .ref sb]) := f1 _ _ hab rfl
    have ho1 := ho.fix f1
    obtain ⟨dxs, nm, ks, _⟩ := S0.fix f1 hsb
    cases ho1 with
    | lett hp ha hb =>
      fail "g"
      refine u_stw0 (hsb.fix f1) (k1 g eg).1 fun p2 H2 h2 s2 => ?_
      fail "g"
      refine u_go (t := { t with f := g }) (by w_dflts lk) rfl (L1.same s2) (by fail "e") (s := .s0 ((x, v) :: ρ)) h2 fun H3 c3 m3 => ?_
      fail "g"
      exact (k1 g eg).2 _ c3 (by kspl_open m4)
theorem ok_Tower_decide (hd : Dd K d_Tower_decide) (g_Tower_go : Ok P w K mg base 1 d_Tower_go ["self", "e", "setting"] (spGo K false)) : Ok P w K mg base 2 d_Tower_decide ["self", "e", "setting", "value"] (spDec K) := by
  obtain ⟨⟨_, G_Tower_go, b_Tower_go⟩, k_Tower_go⟩ := id g_Tower_go
  refine ok_mk hd sc_Tower_decide bd_Tower_decide (fun vs H Q X h => ?_) (fun cdv A outer s0 H vs Q X hr h => ?_)
  · obtain ⟨_, _, _, _, _, _, _, _, _, _, _, _, _, _, _, _, rfl, _⟩ := h
    rfl
  obtain ⟨sf, dx, ve, st, b, rl, wt, ou, sa, t, vi, c, a, d, s, v, rfl, hs, L, hi, hsa, k⟩ := h
  refine ⟨_, (pss_one (ps_if (pt_not (pt_val (pe_callB call_isI rfl (Tx.fr (K := K) "isinstance" (by decide +kernel)) (by decide +kernel) (pa_cons (pv 3) (pa_cons (pe_bltn (v := .ty "int") rfl (Tx.fr (K := K) "int" (by decide +kernel)) (by decide +kernel) rfl) pa_nil))))) pss_never (pss_one (ps_expr (pe_meth (pv 0) (CF.cls (K := K) (n := "Tower") (by decide +kernel)) (CF.me (K := K) (n := "Tower") (m := "go") (by decide +kernel)) G_Tower_go (hr.mono (by omega)) b_Tower_go .nil pass0 (pa_cons (pe_ifExp (pt_cmpR op_ne (pv 3) pe_int (nomark _)) (pe_ix ix_tup (pv 1) pe_int (fun _ _ => rfl)) (pe_ix ix_tup (pv 1) pe_int (fun _ _ => rfl))) (pa_cons (pv 2) pa_nil))))))), ?_⟩
  fail "b"
  cases hi with
  | iff hp hc ha hb =>
    by_cases hv : v = 0
    · subst hv
      fail "g"
      refine u_go (t := t) (e := d) (s := s) hs rfl L (by fail "e") hsa fun H3 c3 m3 => ?_
      fail "g"
      exact k _ c3 m3
    · have hdv : (!decide (V.int v = V.int 0)) = true := by
        rw [decide_eq_false (fun h => hv (by injection h))]
        rfl
      rw [if_neg hv] at k
      fail "g"
      refine i_t hdv ?_
      fail "g"
      refine u_go (t := t) (e := a) (s := s) hs rfl L (by fail "e") hsa fun H3 c3 m3 => ?_
      fail "g"
      exact k _ c3 m3
theorem ok_Tower_operate (hd : Dd K d_Tower_operate) (g_shown : Ok P w K mg base 1 d_shown ["value"] spShow) (g_Tower_enter : Ok P w K mg base 4 d_Tower_enter ["self", "level", "function", "argument"] (spEnt K)) : Ok P w K mg base 5 d_Tower_operate ["self", "kind", "level", "values"] (spOper K) := by
  obtain ⟨⟨_, G_shown, b_shown⟩, k_shown⟩ := id g_shown
  obtain ⟨⟨_, G_Tower_enter, b_Tower_enter⟩, k_Tower_enter⟩ := id g_Tower_enter
  refine ok_mk hd sc_Tower_operate bd_Tower_operate (fun vs H Q X h => ?_) (fun cdv A outer s0 H vs Q X hr h => ?_)
  · obtain ⟨_, _, _, _, _, _, _, _, _, _, _, _, _, _, rfl, _⟩ := h
    rfl
  obtain ⟨sf, dx, ve, st, b, rl, wt, ou, vp, t, kd, ws, as, c', rfl, hs, L, hvp, hva, hop, k⟩ := h
  obtain ⟨us, hou, hua⟩ := L.oa
  have hul := hua.len
  refine ⟨_, (pss_cons (ps_if (pt_cmpR op_eq (pv 1) pe_str (nomark _)) (pss_cons (ps_expr (pe_bm PySem.F.plainAttrs_list PySem.F.slot_list_append PySem.F.type_list_append mt_append (pe_fld (pv 0) rfl) (pa_cons (pe_tup (pa_cons (pv 2) (pa_cons (pe_call G_shown (hr.mono (by omega)) rfl (Tx.gl (K := K) "shown" (by decide +kernel)) k_shown b_shown .nil pass0 (pa_cons (pe_ix ix_tup (pv 3) pe_int (fun _ _ => rfl)) pa_nil)) pa_nil))) pa_nil)))
  (pss_one (ps_ret (pe_ix ix_tup (pv 3) pe_int (fun _ _ => rfl))))) pss_nil)
  (pss_cons (ps_asg (pv 3) (pg_tup (by rfl) (pgs_cons (pg_name (i := 4) sc_Tower_operate.nd rfl (Or.inl rfl)) (pgs_cons (pg_name (i := 5) sc_Tower_operate.nd rfl (Or.inl rfl)) pgs_nil))))
  (pss_cons (ps_if (pt_cmpR op_eq (pv 1) pe_str (nomark _)) (pss_cons (ps_expr (pe_meth (pv 0) (CF.cls (K := K) (n := "Tower") (by decide +kernel)) (CF.me (K := K) (n := "Tower") (m := "enter") (by decide +kernel)) G_Tower_enter (hr.mono (by omega)) b_Tower_enter .nil pass0 (pa_cons (pv 2) (pa_cons (pv 4) (pa_cons (pv 5) pa_nil)))))
  (pss_one (ps_ret pe_non))) pss_nil)
  (pss_cons (ps_if (PW.pt (pw_or (pt_not (pt_val (pe_callB call_isI rfl (Tx.fr (K := K) "isinstance" (by decide +kernel)) (by decide +kernel) (pa_cons (pv 4) (pa_cons (pe_bltn (v := .ty "int") rfl (Tx.fr (K := K) "int" (by decide +kernel)) (by decide +kernel) rfl) pa_nil))))) (pw_or1 (pt_not (pt_val (pe_callB call_isI rfl (Tx.fr (K := K) "isinstance" (by decide +kernel)) (by decide +kernel) (pa_cons (pv 5) (pa_cons (pe_bltn (v := .ty "int") rfl (Tx.fr (K := K) "int" (by decide +kernel)) (by decide +kernel) rfl) pa_nil)))))))) pss_never pss_nil)
  (pss_one (ps_ret (pe_ifExp (pt_cmpR op_eq (pv 1) pe_str (nomark _)) (pe_op op_add (pv 4) (pv 5)) (pe_callTy call_intI rfl (Tx.fr (K := K) "int" (by decide +kernel)) (by decide +kernel) (pa_cons (pe_cmpR op_lt (pv 4) (pv 5) (nomark _)) pa_nil))))))))), ?_⟩
  fail "b"
  cases hop with
  | @say v t hl =>
    have hlz : us.length < sizeLine := Nat.lt_of_le_of_lt (Nat.le_of_eq hul) (Nat.lt_trans hl (by decide))
    obtain ⟨h1, hva⟩ : (∃ q, ws = [q] ∧ q = .int v) ∧ True := by
      cases hva with
      | cons a r => cases r; exact ⟨⟨_, rfl, a⟩, True.intro⟩
    obtain ⟨q, rfl, rfl⟩ := h1
    fail "g"
    refine ⟨v, rfl, ?_⟩
    fail "g"
    rename_i p1 H1 a1 H2 w2
    exact k _ _ rfl ⟨ve, st, b, by w_dflts lk, (L.same a1.sm).out (by w_dflts lk) w2 (by w_dflts lk)⟩ (by kspl_open m4)
  | @sum u v t =>
    obtain rfl : ws = [.int u, .int v] := by
      cases hva with
      | cons a r =>
        cases r with
        | cons a2 r => cases r; cases a; cases a2; rfl
    fail "g"
    exact k _ _ rfl ⟨ve, st, b, hs, L⟩ (by kspl_open m4)
  | @less u v t =>
    obtain rfl : ws = [.int u, .int v] := by
      cases hva with
      | cons a r =>
        cases r with
        | cons a2 r => cases r; cases a; cases a2; rfl
    fail "g"
    refine k _ _ ?_ ⟨ve, st, b, hs, L⟩ (by kspl_open m4)
    show V.int _ = V.int _
    by_cases h : u < v <;> simp [h]
  | @call x c ρ v t f hl hf =>
    obtain ⟨vf, rfl, hvf⟩ : ∃ vf, ws = [vf, .int v] ∧ VaAt K H vf (.clo x c ρ) := by
      cases hva with
      | cons a r =>
        cases r with
        | cons a2 r => cases r; cases a2; exact ⟨_, rfl, a⟩
    fail "g"
    refine ⟨sf, dx, ve, st, b, rl, wt, ou, t, vf, x, c, ρ, v, _, rfl, hs, L, hvf, .call hl hf, fun H3 c3 m3 => ?_⟩
    fail "g"
    exact k _ _ rfl c3 m3
  | @call0 x c ρ v t hf =>
    obtain ⟨vf, rfl, hvf⟩ : ∃ vf, ws = [vf, .int v] ∧ VaAt K H vf (.clo x c ρ) := by
      cases hva with
      | cons a r =>
        cases r with
        | cons a2 r => cases r; cases a2; exact ⟨_, rfl, a⟩
    fail "g"
    refine ⟨sf, dx, ve, st, b, rl, wt, ou, t, vf, x, c, ρ, v, _, rfl, hs, L, hvf, .call0 hf, fun H3 c3 m3 => ?_⟩
    fail "g"
    exact k _ _ rfl c3 m3
theorem ok_Tower_gathered (hd : Dd K d_Tower_gathered) (g_Tower_step : Ok P w K mg base 1 d_Tower_step ["self"] (spStp K)) (g_Tower_go : Ok P w K mg base 1 d_Tower_go ["self", "e", "setting"] (spGo K false)) (g_Tower_operate : Ok P w K mg base 5 d_Tower_operate ["self", "kind", "level", "values"] (spOper K)) : Ok P w K mg base 6 d_Tower_gathered ["self", "e", "setting", "values"] (spGath K) := by
  obtain ⟨⟨_, G_Tower_step, b_Tower_step⟩, k_Tower_step⟩ := id g_Tower_step
  obtain ⟨⟨_, G_Tower_go, b_Tower_go⟩, k_Tower_go⟩ := id g_Tower_go
  obtain ⟨⟨_, G_Tower_operate, b_Tower_operate⟩, k_Tower_operate⟩ := id g_Tower_operate
  refine ok_mk hd sc_Tower_gathered bd_Tower_gathered (fun vs H Q X h => ?_) (fun cdv A outer s0 H vs Q X hr h => ?_)
  · obtain ⟨_, _, _, _, _, _, _, _, _, _, _, _, _, _, _, _, _, _, _, rfl, _⟩ := h
    rfl
  obtain ⟨sf, dx, ve, st, b, rl, wt, ou, sa, vp, t, vd, d, n, e, ρ, ws, as, c', rfl, hs, L, hd0, hsa, hvp, hva, hc, k⟩ := h
  obtain ⟨vs, hwt, hwa⟩ := L.wa
  have hwl := hwa.len
  have hal : ws.length = as.length := by
    clear hvp hc
    induction hva with
    | nil => rfl
    | cons _ _ i => rw [List.length_cons, List.length_cons, i]
  refine ⟨_, (pss_cons (ps_if (pt_cmpR op_lt (pe_callB call_lenS rfl (Tx.fr (K := K) "len" (by decide +kernel)) (by decide +kernel) (pa_cons (pv 3) pa_nil)) (pe_callB call_lenS rfl (Tx.fr (K := K) "len" (by decide +kernel)) (by decide +kernel) (pa_cons (pe_ix ix_tup (pv 1) pe_int (fun _ _ => rfl)) pa_nil)) (nomark _)) (pss_cons (ps_expr (pe_bm PySem.F.plainAttrs_list PySem.F.slot_list_append PySem.F.type_list_append mt_append (pe_fld (pv 0) rfl) (pa_cons (pe_tup (pa_cons pe_str (pa_cons (pv 1) (pa_cons (pv 2) (pa_cons (pv 3) pa_nil))))) pa_nil)))
  (pss_cons (ps_expr (pe_meth (pv 0) (CF.cls (K := K) (n := "Tower") (by decide +kernel)) (CF.me (K := K) (n := "Tower") (m := "go") (by decide +kernel)) G_Tower_go (hr.mono (by omega)) b_Tower_go .nil pass0 (pa_cons (pe_ix ix_tup (pe_ix ix_tup (pv 1) pe_int (fun _ _ => rfl)) (pe_callB call_lenS rfl (Tx.fr (K := K) "len" (by decide +kernel)) (by decide +kernel) (pa_cons (pv 3) pa_nil)) (fun _ _ => rfl)) (pa_cons (pv 2) pa_nil))))
  (pss_one (ps_ret pe_non)))) pss_nil)
  (pss_cons (ps_if (pt_not (pt_val (pe_meth0 (pv 0) (CF.cls (K := K) (n := "Tower") (by decide +kernel)) (CF.me (K := K) (n := "Tower") (m := "step") (by decide +kernel)) G_Tower_step (hr.mono (by omega)) b_Tower_step .nil pass0))) (pss_one (ps_ret pe_non)) pss_nil)
  (pss_cons (ps_asg (pe_fld (pv 2) rfl) (pg_tup (by rfl) (pgs_cons (pg_name (i := 4) sc_Tower_gathered.nd rfl (Or.inl rfl)) (pgs_cons (pg_name (i := 5) sc_Tower_gathered.nd rfl (Or.inl rfl)) pgs_nil))))
  (pss_one (ps_ret (pe_meth (pv 0) (CF.cls (K := K) (n := "Tower") (by decide +kernel)) (CF.me (K := K) (n := "Tower") (m := "operate") (by decide +kernel)) G_Tower_operate (hr.mono (by omega)) b_Tower_operate .nil pass0 (pa_cons (pe_ix ix_tup (pv 4) pe_int (fun _ _ => rfl)) (pa_cons (pe_fld (pv 5) rfl) (pa_cons (pv 3) pa_nil))))))))), ?_⟩
  fail "b"
  rcases hc with ⟨u, a, z, hde, rfl, hwn, rfl⟩ | ⟨hde, hne, hc⟩
  · have hlz : vs.length < sizeLine := Nat.lt_of_le_of_lt (Nat.le_of_eq hwl) (Nat.lt_trans hwn (by decide))
    obtain ⟨wz, rfl⟩ : ∃ wz, ws = [wz] := by
      cases hva with
      | cons a r => cases r; exact ⟨_, rfl⟩
    have hd1 := hd0
    cases hd0 with
    | do1 => cases hde
    | do2 hp hq ha hb =>
      cases hde
      fail "g"
      rename_i p1 H1 a1 H2 w2
      have f2 : Fix H1 H2 := w2.fx
      have hf : FrAt K H1 (.ref p1) (.doF (.do2 u a) (.s1 n e ρ) [z]) := ⟨p1, _, sa, vp, _, rfl, a1.at_, hd1.fix a1.fx, hsa.fix a1.fx, a1.sm _ _ hvp, hva.fix a1.fx⟩
      have L2 := ((L.same a1.sm).push1 (by w_dflts lk) w2 hf)
      refine u_go (t := t.push _) (by w_dflts lk) rfl L2 (by fail "e") (s := .s1 n e ρ) ((hsa.fix a1.fx).fix f2) fun H3 c3 m3 => ?_
      fail "g"
      exact k _ _ rfl c3 (by kspl_open m4)
    | _ => cases hde
  · obtain ⟨dxs, nm, ab, ve0, sb, hs1, hs2, hs3, hs4, hs5⟩ := hsa
    obtain ⟨dxb, nmb, hb1, hb2⟩ := hs5
    obtain ⟨p, pq, r, rfl, hp, hpq, hrl⟩ : ∃ p pq r, vd = .ref p ∧ H p = some (.tup [.str "do", .ref pq]) ∧ H pq = some (.tup r) ∧ r.length = as.length := by
      cases hd0 with
      | do1 hp hq ha => exact ⟨_, _, _, rfl, hp, hq, hde⟩
      | do2 hp hq ha hb => exact ⟨_, _, _, rfl, hp, hq, hde⟩
      | _ => exact absurd (List.length_eq_zero_iff.mp hde.symm) hne
    fail "g"
    refine i_f (decide_eq_false (by rw [hal, hrl]; omega)) ?_
    fail "g"
    refine u_stp hs rfl L (fun e0 H1 c1 m1 => ?_) fun g eg H1 h1 L1 m1 => ?_
    · fail "g"
      rcases hc with ⟨_, rfl⟩ | ⟨f, hf, _⟩
      · exact k _ _ rfl c1 m1
      · rw [e0] at hf
        cases hf
    · rcases hc with ⟨hf, _⟩ | ⟨f, hf, hop⟩
      · rw [eg] at hf
        cases hf
      · rw [eg] at hf
        cases hf
        have f1 := m1.fx
        have k1 := f1 _ _ hs1 rfl
        have k3 := f1 _ _ hs3 rfl
        have kb := f1 _ _ hb1 rfl
        obtain ⟨po, xs, rfl, hpo⟩ := (hs4.fix f1).hd
        fail "g"
        refine ⟨sf, dx, ve, st, b, rl, wt, ou, vp, { t with f := g }, e.kd, ws, as, c', rfl, h1, L1, f1 _ _ hvp rfl, hva.fix f1, hop, fun v H2 r2 c2 m2 => ?_⟩
        fail "g"
        exact k _ _ r2 c2 (by kspl_open m4)
end
/-! ## Ztw6 -/
open PySem PySem.Spec PyProof.Rows L2
def spCh (K : PySem.W.Frag) : Sp := fun vs H Q _ => ∃ (sf dx : Addr) (ve ve0 : V) (st st0 : Addr) (b b0 : Bool) (rl wt ou : Addr) (t : TS) (e : E) (s : Se) (c' : Cf), vs = [.ref sf, ve, .ref st] ∧ H sf = some (oTw K dx ve0 st0 b0 t.f rl wt ou .non) ∧ TwL K H rl wt ou t ∧ EAt H ve e ∧ SeAt K H st s ∧
  chgE e = false ∧ (∀ k r, e ≠ .keep k r) ∧ Step (.bg e s b t) c' ∧ ∀ H', RetAt K H' .non c' → TwC K H' sf dx rl wt ou c' → M4 sf rl wt ou H H' → Q .non H'
theorem fst_chg {e a : E} (h : fstE e = some a) : chgE e = true := by
  cases e <;> first | rfl | cases h
theorem EsAt.nth {H : Hp} {vs : List V} {es : List E} (h : EsAt H vs es) : ∀ {i : Nat} {a : E}, es[i]? = some a → ∃ v, vs[i]? = some v ∧ EAt H v a := by
  induction h with
  | nil => intro i a q; cases q
  | cons h _ ih =>
    intro i a q
    cases i with
    | zero => cases q; exact ⟨_, rfl, h⟩
    | succ i => exact ih q
section
variable {P : Program} {w : World} {K : PySem.W.Frag} {mg : Str → Option Value} {base : Heap} [Tx w K mg]
theorem ok_Tower_change_or_ask (hd : Dd K d_Tower_change_or_ask) (g_parts_of : Ok P w K mg base 1 d_parts_of ["e"] spPts) (g_Tower_step : Ok P w K mg base 1 d_Tower_step ["self"] (spStp K)) (g_Tower_go : Ok P w K mg base 1 d_Tower_go ["self", "e", "setting"] (spGo K false))
    (g_Tower_go_built_in : Ok P w K mg base 2 d_Tower_go_built_in ["self", "e", "setting"] (spGo K true)) : Ok P w K mg base 3 d_Tower_change_or_ask ["self", "e", "setting"] (spCh K) := by
  obtain ⟨⟨_, G_parts_of, b_parts_of⟩, k_parts_of⟩ := id g_parts_of
  obtain ⟨⟨_, G_Tower_step, b_Tower_step⟩, k_Tower_step⟩ := id g_Tower_step
  obtain ⟨⟨_, G_Tower_go, b_Tower_go⟩, k_Tower_go⟩ := id g_Tower_go
  obtain ⟨⟨_, G_Tower_go_built_in, b_Tower_go_built_in⟩, k_Tower_go_built_in⟩ := id g_Tower_go_built_in
  refine ok_mk hd sc_Tower_change_or_ask bd_Tower_change_or_ask (fun vs H Q X h => ?_) (fun cdv A outer s0 H vs Q X hr h => ?_)
  · obtain ⟨_, _, _, _, _, _, _, _, _, _, _, _, _, _, _, rfl, _⟩ := h
    rfl
  obtain ⟨sf, dx, ve, ve0, st, st0, b, b0, rl, wt, ou, t, e, s, c', rfl, hs, L, he, hse, hc, hk, hst, k⟩ := h
  obtain ⟨kvs, hrl, hru⟩ := L.ru
  obtain ⟨vs, hwt, hwa⟩ := L.wa
  have hwl := hwa.len
  have hln := hru.len
  refine ⟨_, (pss_cons (ps_set (i := 3) sc_Tower_change_or_ask.nd rfl (Or.inl rfl) (pe_ix ix_tup (pv 1) pe_int (fun _ _ => rfl)))
  (pss_one (ps_if (pt_cmpR op_eq (pv 3) pe_str (nomark _)) (pss_cons (ps_set (i := 4) sc_Tower_change_or_ask.nd rfl (Or.inl rfl) (pe_tup (pa_cons (pe_fld (pv 2) rfl) (pa_cons (pe_ix ix_tup (pv 1) pe_int (fun _ _ => rfl)) pa_nil))))
  (pss_cons (ps_expr (pe_bm PySem.F.plainAttrs_list PySem.F.slot_list_append PySem.F.type_list_append mt_append (pe_fld (pv 0) rfl) (pa_cons (pe_tup (pa_cons pe_str (pa_cons (pv 4) (pa_cons (pe_dget1 (hu_of hr) (pe_fld (pv 0) rfl) (pv 4) ⟨rfl, rfl, rfl, rfl⟩) pa_nil)))) pa_nil)))
  (pss_cons (ps_dput (hu_of hr) (pe_fld (pv 0) rfl) (pv 4) (pe_ix ix_tup (pv 1) pe_int (fun _ _ => rfl)) rfl)
  (pss_one (ps_expr (pe_meth (pv 0) (CF.cls (K := K) (n := "Tower") (by decide +kernel)) (CF.me (K := K) (n := "Tower") (m := "go") (by decide +kernel)) G_Tower_go (hr.mono (by omega)) b_Tower_go .nil pass0 (pa_cons (pe_ix ix_tup (pv 1) pe_int (fun _ _ => rfl)) (pa_cons (pv 2) pa_nil)))))))) (pss_one (ps_if (pt_cmpR op_eq (pv 3) pe_str (nomark _)) (pss_cons (ps_expr (pe_bm PySem.F.plainAttrs_list PySem.F.slot_list_append PySem.F.type_list_append mt_append (pe_fld (pv 0) rfl) (pa_cons (pe_tup (pa_cons pe_str (pa_cons (pv 1) (pa_cons (pv 2) pa_nil)))) pa_nil)))
  (pss_one (ps_expr (pe_meth (pv 0) (CF.cls (K := K) (n := "Tower") (by decide +kernel)) (CF.me (K := K) (n := "Tower") (m := "go") (by decide +kernel)) G_Tower_go (hr.mono (by omega)) b_Tower_go .nil pass0 (pa_cons (pe_ix ix_tup (pv 1) pe_int (fun _ _ => rfl)) (pa_cons (pv 2) pa_nil)))))) (pss_one (ps_if (pt_cmpR op_eq (pv 3) pe_str (nomark _)) (pss_cons (ps_expr (pe_bm PySem.F.plainAttrs_list PySem.F.slot_list_append PySem.F.type_list_append mt_append (pe_fld (pv 0) rfl) (pa_cons (pe_tup (pa_cons pe_str (pa_cons (pv 1) (pa_cons (pv 2) (pa_cons (pe_tup pa_nil) pa_nil))))) pa_nil)))
  (pss_one (ps_expr (pe_meth (pv 0) (CF.cls (K := K) (n := "Tower") (by decide +kernel)) (CF.me (K := K) (n := "Tower") (m := "go") (by decide +kernel)) G_Tower_go (hr.mono (by omega)) b_Tower_go .nil pass0 (pa_cons (pe_ix ix_tup (pe_ix ix_tup (pv 1) pe_int (fun _ _ => rfl)) pe_int (fun _ _ => rfl)) (pa_cons (pv 2) pa_nil)))))) (pss_one (ps_if (pt_val (pe_meth0 (pv 0) (CF.cls (K := K) (n := "Tower") (by decide +kernel)) (CF.me (K := K) (n := "Tower") (m := "step") (by decide +kernel)) G_Tower_step (hr.mono (by omega)) b_Tower_step .nil pass0)) (pss_cons (ps_asg (pe_fld (pv 2) rfl) (pg_tup (by rfl) (pgs_cons (pg_name (i := 5) sc_Tower_change_or_ask.nd rfl (Or.inl rfl)) (pgs_cons (pg_name (i := 6) sc_Tower_change_or_ask.nd rfl (Or.inl rfl)) pgs_nil))))
  (pss_one (ps_if (pt_cmpR op_eq (pv 3) pe_str (nomark _)) (pss_one (ps_expr (pe_meth (pv 0) (CF.cls (K := K) (n := "Tower") (by decide +kernel)) (CF.me (K := K) (n := "Tower") (m := "go") (by decide +kernel)) G_Tower_go (hr.mono (by omega)) b_Tower_go .nil pass0 (pa_cons (pe_ix ix_tup (pe_call G_parts_of (hr.mono (by omega)) rfl (Tx.gl (K := K) "parts_of_tower" (by decide +kernel)) k_parts_of b_parts_of .nil pass0 (pa_cons (pv 5) pa_nil)) (pe_ix ix_tup (pv 1) pe_int (fun _ _ => rfl)) (fun _ _ => rfl)) (pa_cons (pv 6) pa_nil))))) (pss_one (ps_expr (pe_meth (pv 0) (CF.cls (K := K) (n := "Tower") (by decide +kernel)) (CF.me (K := K) (n := "Tower") (m := "go_built_in") (by decide +kernel)) G_Tower_go_built_in (hr.mono (by omega)) b_Tower_go_built_in .nil pass0 (pa_cons (pv 5) (pa_cons (pv 6) pa_nil)))))))) pss_nil))))))))), ?_⟩
  fail "b"
  cases hst with
  | rule h => rw [hc] at h; cases h
  | num => cases hc
  | name0 => cases hc
  | name1 => cases hc
  | fn => cases hc
  | fst _ h => rw [fst_chg h] at hc; cases hc
  | keep => exact absurd rfl (hk _ _)
  | @ruleE kd r c ρ b t h1 h2 =>
    have hlz : vs.length < sizeLine := Nat.lt_of_le_of_lt (Nat.le_of_eq hwl) (Nat.lt_trans h2 (by decide))
    have hlr : kvs.length < sizeLine := Nat.lt_of_le_of_lt hln (Nat.lt_trans h1 (by decide))
    have hol := hru.at_ kd
    obtain ⟨dxs, nm, h3, h4⟩ := id hse
    cases he with
    | rule hp hr hb =>
      fail "g"
      rename_i p1 H1 a1 p2 H2 a2 H3 w3 H4 w4
      have s2 : Same H H2 := by kspl_open sm
      have L3 := (L.same s2).push1 (by w_dflts lk) w3 (f := .back kd (t.R kd)) ⟨p2, p1, _, rfl, a2.at_, a2.sm _ _ a1.at_, hol.fix (Fix.of_same s2)⟩
      have L4 := L3.put (w3.bt _ _ (s2 _ _ hrl) (ne_k hrl hwt rfl)) w4 (hr.fix ((Fix.of_same s2).trans w3.fx))
      refine u_go (t := (t.push _).put kd (some r)) (by w_dflts lk) rfl L4 (by fail "e") (s := .s0 ρ) (hse.fix (((Fix.of_same s2).trans w3.fx).trans w4.fx)) fun H5 c5 m5 => ?_
      fail "g"
      exact k _ rfl c5 (by kspl_open m4)
  | @withh a n e1 ρ b t h1 =>
    have hlz : vs.length < sizeLine := Nat.lt_of_le_of_lt (Nat.le_of_eq hwl) (Nat.lt_trans h1 (by decide))
    have he0 := he
    cases he with
    | withh hp ha =>
      fail "g"
      rename_i p1 H1 a1 H2 w2
      have L2 := (L.same a1.sm).push1 (by w_dflts lk) w2 (f := .fr (.withh a) (.s1 n e1 ρ)) ⟨p1, _, st, rfl, a1.at_, he0.fix a1.fx, hse.fix a1.fx⟩
      refine u_go (t := t.push _) (by w_dflts lk) rfl L2 (by fail "e") (s := .s1 n e1 ρ) (hse.fix (a1.fx.trans w2.fx)) fun H5 c5 m5 => ?_
      fail "g"
      exact k _ rfl c5 (by kspl_open m4)
  | @doo _ a r n e1 ρ b t hde h1 =>
    have hlz : vs.length < sizeLine := Nat.lt_of_le_of_lt (Nat.le_of_eq hwl) (Nat.lt_trans h1 (by decide))
    have he0 := he
    obtain ⟨p, q, va, xs, rfl, hp, hq, ha⟩ : ∃ p q va xs, ve = .ref p ∧ H p = some (.tup [.str "do", .ref q]) ∧ H q = some (.tup (va :: xs)) ∧ EAt H va a := by
      cases he with
      | do1 hp hq ha => cases hde; exact ⟨_, _, _, _, rfl, hp, hq, ha⟩
      | do2 hp hq ha hb => cases hde; exact ⟨_, _, _, _, rfl, hp, hq, ha⟩
      | _ => cases hde
    have hkd : e.kd = "do" := by
      cases e <;> first | rfl | cases hde
    fail "g"
    rename_i p0 H0 a0 p1 H1 a1 H2 w2
    have s1 : Same H H1 := by kspl_open sm
    have L2 := (L.same s1).push1 (by w_dflts lk) w2 (f := .doF e (.s1 n e1 ρ) []) ⟨p1, _, st, p0, [], rfl, a1.at_, he0.fix (Fix.of_same s1), hse.fix (Fix.of_same s1), a1.sm _ _ a0.at_, .nil⟩
    refine u_go (t := t.push _) (by w_dflts lk) rfl L2 (by fail "e") (s := .s1 n e1 ρ) (hse.fix ((Fix.of_same s1).trans w2.fx)) fun H5 c5 m5 => ?_
    fail "g"
    exact k _ rfl c5 (by kspl_open m4)
  | @part i a n e1 ρ b t f hf ha =>
    obtain ⟨dxs, nm, ab, vo, sb, hs1, hs2, hs3, hs4, hs5⟩ := hse
    cases he with
    | part hp =>
      fail "g"
      refine u_stp hs rfl L (fun e0 H1 c1 m1 => ?_) fun g eg H1 h1 L1 m1 => ?_
      · rw [e0] at hf
        cases hf
      · rw [hf] at eg
        cases eg
        have f1 := m1.fx
        have k1 := f1 _ _ hs1 rfl
        have k3 := f1 _ _ hs3 rfl
        have kp := f1 _ _ hp rfl
        fail "g"
        refine ⟨vo, e1, rfl, hs4.fix f1, (fun z => by rw [z] at ha; cases ha), fun pq xs H2 h2 hx2 s2 => ?_⟩
        obtain ⟨va, hxa, hea⟩ := hx2.nth ha
        have hat : atI xs (i : Int) = some va := atI_nat hxa
        fail "g"
        refine u_go (t := { t with f := f }) (by w_dflts lk) rfl (L1.same s2) hea (s := .s0 ρ) (S0.fix (f1.trans (Fix.of_same s2)) hs5) fun H5 c5 m5 => ?_
        fail "g"
        exact k _ rfl c5 (by kspl_open m4)
  | @part0 i n e1 ρ b t hf =>
    cases he with
    | part hp =>
      fail "g"
      refine u_stp hs rfl L (fun e0 H1 c1 m1 => ?_) fun g eg H1 h1 L1 m1 => ?_
      · fail "g"
        exact k _ rfl c1 m1
      · rw [hf] at eg
        cases eg
  | @usual n e1 ρ b t f hf =>
    obtain ⟨dxs, nm, ab, vo, sb, hs1, hs2, hs3, hs4, hs5⟩ := hse
    cases he with
    | usual hp =>
      fail "g"
      refine u_stp hs rfl L (fun e0 H1 c1 m1 => ?_) fun g eg H1 h1 L1 m1 => ?_
      · rw [e0] at hf
        cases hf
      · rw [hf] at eg
        cases eg
        have f1 := m1.fx
        have k1 := f1 _ _ hs1 rfl
        have k3 := f1 _ _ hs3 rfl
        have kp := f1 _ _ hp rfl
        fail "g"
        refine u_gob (t := { t with f := f }) h1 rfl L1 (hs4.fix f1) (s := .s0 ρ) (S0.fix f1 hs5) fun H5 c5 m5 => ?_
        fail "g"
        exact k _ rfl c5 (by kspl_open m4)
  | @usual0 n e1 ρ b t hf =>
    cases he with
    | usual hp =>
      fail "g"
      refine u_stp hs rfl L (fun e0 H1 c1 m1 => ?_) fun g eg H1 h1 L1 m1 => ?_
      · fail "g"
        exact k _ rfl c1 m1
      · rw [hf] at eg
        cases eg
end
/-! ## Ztw7 -/
open PySem PySem.Spec PyProof.Rows L2
def spBg (K : PySem.W.Frag) : Sp := fun vs H Q _ => ∃ (sf dx : Addr) (ve : V) (st : Addr) (b : Bool) (rl wt ou : Addr) (t : TS) (e : E) (s : Se) (c' : Cf), vs = [.ref sf] ∧ H sf = some (oTw K dx ve st b t.f rl wt ou .non) ∧ TwL K H rl wt ou t ∧ EAt H ve e ∧ SeAt K H st s ∧
  Step (.bg e s b t) c' ∧ ∀ v H', RetAt K H' v c' → TwC K H' sf dx rl wt ou c' → M4 sf rl wt ou H H' → Q v H'
def Se.lvl : Se → Int
  | .s0 _ => 0 | .s1 _ _ _ => 1
theorem SeAt.lv {K : PySem.W.Frag} {H : Hp} {sa : Addr} {s : Se} (h : SeAt K H sa s) : ∃ dx nm ab, H sa = some (oSt K dx s.lvl nm ab) := by
  cases s with
  | s0 ρ => obtain ⟨dx, nm, h, _⟩ := h; exact ⟨_, _, _, h⟩
  | s1 n e ρ => obtain ⟨dx, nm, ab, _, _, h, _⟩ := h; exact ⟨_, _, _, h⟩
theorem noR_get {H : Hp} {kvs : List (List Key × V)} {t : TS} {s : Se} {b : Bool} {e : E} (hru : RuAt H kvs t.R t.rn) (hn : noR s b e t) : b = true ∨ (b = false ∧ valV kvs [.inl s.lvl, .inr e.kd] = none) := by
  cases b with
  | true => exact .inl rfl
  | false =>
    refine .inr ⟨rfl, ?_⟩
    cases s with
    | s0 ρ =>
      rcases hn with h | h
      · cases h
      · exact hru.nn _ h
    | s1 n e ρ => exact hru.no1 _
theorem kd_neK {ks : List Str} {z : Str} (h : ks.all (fun k => !decide (V.str k = V.str z)) = true) {e : E} (m : e.kd ∈ ks) : decide (V.str e.kd = V.str z) = false := by
  have := List.all_eq_true.mp h _ m
  simpa using this
theorem kd_inK {b : Bool} {ks : List Str} (h : ks.all (fun k => decide (inV (.str k) kindsW = b)) = true) {e : E} (m : e.kd ∈ ks) : inV (.str e.kd) kindsW = b := by
  have := List.all_eq_true.mp h _ m
  exact of_decide_eq_true this
theorem chg_in {e : E} : inV (.str e.kd) kindsW = chgE e := by
  cases hc : chgE e with
  | true => exact kd_inK (ks := ["num", "name", "fn", "call", "sum", "less", "if", "let", "say"]) (by decide +kernel) (by cases e <;> first | (cases hc; done) | simp [E.kd])
  | false => exact kd_inK (ks := ["rule", "keep", "part", "with", "usual", "do"]) (by decide +kernel) (by cases e <;> first | (cases hc; done) | simp [E.kd])
theorem fst_kd {e a : E} (h : fstE e = some a) : decide (V.str e.kd = V.str "num") = false ∧ decide (V.str e.kd = V.str "name") = false ∧ decide (V.str e.kd = V.str "fn") = false := by
  have m : e.kd ∈ (["call", "sum", "less", "if", "let", "say"] : List Str) := by cases e <;> first | (cases h; done) | simp [E.kd]
  exact ⟨kd_neK (by decide +kernel) m, kd_neK (by decide +kernel) m, kd_neK (by decide +kernel) m⟩
theorem oth_kd {e : E} (h : chgE e = false) (hk : ∀ k r, e ≠ .keep k r) : decide (V.str e.kd = V.str "num") = false ∧ decide (V.str e.kd = V.str "name") = false ∧ decide (V.str e.kd = V.str "fn") = false ∧ decide (V.str e.kd = V.str "keep") = false := by
  have m : e.kd ∈ (["rule", "part", "with", "usual", "do"] : List Str) := by cases e <;> first | (cases h; done) | exact absurd rfl (hk _ _) | simp [E.kd]
  exact ⟨kd_neK (by decide +kernel) m, kd_neK (by decide +kernel) m, kd_neK (by decide +kernel) m, kd_neK (by decide +kernel) m⟩
theorem fst_pts {e a : E} (h : fstE e = some a) : ∃ r, ptsE e = a :: r := by
  cases e <;> cases h <;> exact ⟨_, rfl⟩
theorem EsAt.c1 {H : Hp} {vs : List V} {a : E} {r : List E} (h : EsAt H vs (a :: r)) : ∃ v us, vs = v :: us ∧ EAt H v a := by
  cases h with
  | cons h _ => exact ⟨_, _, rfl, h⟩
section
variable {P : Program} {w : World} {K : PySem.W.Frag} {mg : Str → Option Value} {base : Heap} [Tx w K mg]
theorem ok_Tower_begin (hd : Dd K d_Tower_begin) (g_Setting_init : Ok P w K mg base 1 d_Setting_init ["self", "level", "names", "about"] (spStI K)) (g_parts_of : Ok P w K mg base 1 d_parts_of ["e"] spPts) (g_Tower_go : Ok P w K mg base 1 d_Tower_go ["self", "e", "setting"] (spGo K false))
    (g_Tower_change_or_ask : Ok P w K mg base 3 d_Tower_change_or_ask ["self", "e", "setting"] (spCh K)) : Ok P w K mg base 4 d_Tower_begin ["self"] (spBg K) := by
  obtain ⟨⟨_, G_Setting_init, b_Setting_init⟩, k_Setting_init⟩ := id g_Setting_init
  obtain ⟨⟨_, G_parts_of, b_parts_of⟩, k_parts_of⟩ := id g_parts_of
  obtain ⟨⟨_, G_Tower_go, b_Tower_go⟩, k_Tower_go⟩ := id g_Tower_go
  obtain ⟨⟨_, G_Tower_change_or_ask, b_Tower_change_or_ask⟩, k_Tower_change_or_ask⟩ := id g_Tower_change_or_ask
  refine ok_mk hd sc_Tower_begin bd_Tower_begin (fun vs H Q X h => ?_) (fun cdv A outer s0 H vs Q X hr h => ?_)
  · obtain ⟨_, _, _, _, _, _, _, _, _, _, _, _, rfl, _⟩ := h
    rfl
  obtain ⟨sf, dx, ve, st, b, rl, wt, ou, t, e, s, c', rfl, hs, L, he, hse, hst, k⟩ := h
  have hchg := (knd_at (Tx.ex (w := w) (mg := mg) (K := K))).1
  obtain ⟨kvs, hrl, hru⟩ := L.ru
  obtain ⟨vs, hwt, hwa⟩ := L.wa
  have hwl := hwa.len
  have hln := hru.len
  obtain ⟨dxs, nm, ab, hsl⟩ := hse.lv
  refine ⟨_, (pss_cons (ps_set (i := 1) sc_Tower_begin.nd rfl (Or.inl rfl) (pe_fld (pv 0) rfl))
  (pss_cons (ps_set (i := 2) sc_Tower_begin.nd rfl (Or.inl rfl) (pe_fld (pv 0) rfl))
  (pss_cons (ps_if (PW.pt (pw_and (pt_cmpR op_in_seq (pe_ix ix_tup (pv 1) pe_int (fun _ _ => rfl)) (pe_glob (v := .ref (He.ga K "CHANGEABLE")) rfl (Tx.chg (K := K)) rfl) (by with_unfolding_all rfl)) (pw_and1 (pt_not (pt_val (pe_fld (pv 0) rfl)))))) (pss_cons (ps_set (i := 3) sc_Tower_begin.nd rfl (Or.inl rfl) (pe_dget1 (hu_of hr) (pe_fld (pv 0) rfl) (pe_tup (pa_cons (pe_fld (pv 2) rfl) (pa_cons (pe_ix ix_tup (pv 1) pe_int (fun _ _ => rfl)) pa_nil))) ⟨rfl, rfl, rfl, rfl⟩))
  (pss_one (ps_if (pt_cmpR op_notN1 (pv 3) pe_non (nomark _)) (pss_cons (ps_expr (pe_meth (pv 0) (CF.cls (K := K) (n := "Tower") (by decide +kernel)) (CF.me (K := K) (n := "Tower") (m := "go") (by decide +kernel)) G_Tower_go (hr.mono (by omega)) b_Tower_go .nil pass0 (pa_cons (pv 3) (pa_cons (pe_make (CF.mk (K := K) (by decide +kernel)) G_Setting_init (hr.mono (by omega)) rfl (Tx.gl (K := K) "Setting" (by decide +kernel)) b_Setting_init .nil pass0 (pa_cons (pe_op op_add (pe_fld (pv 2) rfl) pe_int) (pa_cons pe_dnewK (pa_cons (pe_tup (pa_cons (pv 1) (pa_cons (pv 2) pa_nil))) pa_nil)))) pa_nil))))
  (pss_one (ps_ret pe_non))) pss_nil))) pss_nil)
  (pss_cons (ps_if (pt_cmpR op_eq (pe_ix ix_tup (pv 1) pe_int (fun _ _ => rfl)) pe_str (nomark _)) (pss_one (ps_ret (pe_ix ix_tup (pv 1) pe_int (fun _ _ => rfl)))) pss_nil)
  (pss_cons (ps_if (pt_cmpR op_eq (pe_ix ix_tup (pv 1) pe_int (fun _ _ => rfl)) pe_str (nomark _)) (pss_one (ps_ret (pe_dget (hu_of hr) (pe_fld (pv 2) rfl) (pe_ix ix_tup (pv 1) pe_int (fun _ _ => rfl)) (fun _ _ => rfl)))) pss_nil)
  (pss_cons (ps_if (pt_cmpR op_eq (pe_ix ix_tup (pv 1) pe_int (fun _ _ => rfl)) pe_str (nomark _)) (pss_one (ps_ret (pe_tup (pa_cons pe_str (pa_cons (pe_fld (pv 2) rfl) (pa_cons (pe_ix ix_tup (pv 1) pe_int (fun _ _ => rfl)) (pa_cons (pe_ix ix_tup (pv 1) pe_int (fun _ _ => rfl)) (pa_cons (pv 2) pa_nil)))))))) pss_nil)
  (pss_cons (ps_if (pt_cmpR op_in_seq (pe_ix ix_tup (pv 1) pe_int (fun _ _ => rfl)) (pe_glob (v := .ref (He.ga K "CHANGEABLE")) rfl (Tx.chg (K := K)) rfl) (by with_unfolding_all rfl)) (pss_cons (ps_expr (pe_bm PySem.F.plainAttrs_list PySem.F.slot_list_append PySem.F.type_list_append mt_append (pe_fld (pv 0) rfl) (pa_cons (pe_tup (pa_cons (pe_ix ix_tup (pv 1) pe_int (fun _ _ => rfl)) (pa_cons (pv 1) (pa_cons (pv 2) pa_nil)))) pa_nil)))
  (pss_cons (ps_expr (pe_meth (pv 0) (CF.cls (K := K) (n := "Tower") (by decide +kernel)) (CF.me (K := K) (n := "Tower") (m := "go") (by decide +kernel)) G_Tower_go (hr.mono (by omega)) b_Tower_go .nil pass0 (pa_cons (pe_ix ix_tup (pe_call G_parts_of (hr.mono (by omega)) rfl (Tx.gl (K := K) "parts_of_tower" (by decide +kernel)) k_parts_of b_parts_of .nil pass0 (pa_cons (pv 1) pa_nil)) pe_int (fun _ _ => rfl)) (pa_cons (pv 2) pa_nil))))
  (pss_one (ps_ret pe_non)))) pss_nil)
  (pss_cons (ps_if (pt_cmpR op_eq (pe_ix ix_tup (pv 1) pe_int (fun _ _ => rfl)) pe_str (nomark _)) (pss_cons (ps_dput (hu_of hr) (pe_fld (pv 0) rfl) (pe_tup (pa_cons (pe_fld (pv 2) rfl) (pa_cons (pe_ix ix_tup (pv 1) pe_int (fun _ _ => rfl)) pa_nil))) (pe_ix ix_tup (pv 1) pe_int (fun _ _ => rfl)) rfl)
  (pss_one (ps_ret pe_int))) pss_nil)
  (pss_cons (ps_expr (pe_meth (pv 0) (CF.cls (K := K) (n := "Tower") (by decide +kernel)) (CF.me (K := K) (n := "Tower") (m := "change_or_ask") (by decide +kernel)) G_Tower_change_or_ask (hr.mono (by omega)) b_Tower_change_or_ask .nil pass0 (pa_cons (pv 1) (pa_cons (pv 2) pa_nil))))
  (pss_one (ps_ret pe_non))))))))))), ?_⟩
  fail "b"
  by_cases ho : chgE e = false ∧ ∀ k r, e ≠ .keep k r
  · obtain ⟨pe, xs, rfl, hp⟩ := he.hd
    have hin : inV (.str e.kd) kindsW = false := by rw [chg_in, ho.1]
    obtain ⟨f1, f2, f3, f4⟩ := oth_kd ho.1 ho.2
    fail "g"
    refine i_f hin ?_
    fail "g"
    refine i_f f1 ?_
    fail "g"
    refine i_f f2 ?_
    fail "g"
    refine i_f f3 ?_
    fail "g"
    refine i_f hin ?_
    fail "g"
    refine i_f f4 ?_
    fail "g"
    refine ⟨sf, dx, _, _, st, st, b, b, rl, wt, ou, t, e, s, c', rfl, hs, L, he, hse, ho.1, ho.2, hst, fun H5 r5 c5 m5 => ?_⟩
    fail "g"
    exact k _ _ r5 c5 m5
  cases hst with
  | @rule _ ρ r t hc hr =>
    obtain ⟨pe, xs, rfl, hp⟩ := he.hd
    have hol := hru.at_ e.kd
    rw [hr] at hol
    obtain ⟨pr, ys, hv, hpr⟩ := EAt.tup hol
    have hsl : H st = some (oSt K dxs 0 nm ab) := hsl
    have hin : inV (.str e.kd) kindsW = true := by rw [chg_in, hc]
    fail "g"
    refine i_t hin ?_
    fail "g"
    rw [hv] at hol ⊢
    fail "g"
    rename_i p1 H1 a1 d2 H2 a2 p3 H3 a3
    refine make_whole' (fs := [("level", .int 1), ("names", .ref d2), ("about", .ref p3)]) (fun x dx H0 R h0 s0 h1 => ⟨x, dx, 1, d2, .ref p3, rfl, h0, h1⟩) fun sx dx4 H4 a4 => ?_
    fail "g"
    have s4 : Same H H4 := by kspl_open sm
    refine u_go (t := t) (e := r) (s := .s1 [] e ρ) (s4 _ _ hs) rfl (L.same s4) (hol.fix (Fix.of_same s4)) ⟨dx4, d2, p3, .ref pe, st, a4.at_, ⟨d2, [], rfl, by w_dflts lk, .nil⟩, by w_dflts lk, he.fix (Fix.of_same s4), S0.fix (Fix.of_same s4) hse⟩ fun H5 c5 m5 => ?_
    fail "g"
    exact k _ _ rfl c5 (by kspl_open m4)
  | @num n s b t hn =>
    have hv := noR_get hru hn
    cases he with
    | num hp =>
      rcases hv with rfl | ⟨rfl, hv⟩
      · fail "g"
        exact k _ _ rfl ⟨_, _, _, hs, L⟩ (by kspl_open m4)
      · have hv : valV kvs [.inl s.lvl, .inr "num"] = none := hv
        fail "g"
        rw [hv]
        fail "g"
        exact k _ _ rfl ⟨_, _, _, by w_dflts lk, L.same (by kspl_open sm)⟩ (by kspl_open m4)
  | @name0 x v ρ b t hn hx =>
    have hv := noR_get hru hn
    obtain ⟨dx1, nm1, h1, d, kv2, hd2, h2, er⟩ := hse
    cases hd2
    obtain ⟨va, h3, h4⟩ := er.at_ _ _ hx
    cases he with
    | name hp =>
      rcases hv with rfl | ⟨rfl, hv⟩
      · fail "g"
        exact k _ _ h4 ⟨_, _, _, hs, L⟩ (by kspl_open m4)
      · have hv : valV kvs [.inl 0, .inr "name"] = none := hv
        fail "g"
        rw [hv]
        fail "g"
        exact k _ _ h4 ⟨_, _, _, by w_dflts lk, L.same (by kspl_open sm)⟩ (by kspl_open m4)
  | @name1 x v n e1 ρ b t hx =>
    have hv := noR_get (s := .s1 n e1 ρ) (b := b) (e := .name x) hru trivial
    obtain ⟨dx1, nm1, ab1, vo, sb, h1, ⟨d, kv2, hd2, h2, er⟩, h5, h6, h7⟩ := hse
    cases hd2
    obtain ⟨va, h3, h4⟩ := er.at_ _ _ hx
    cases he with
    | name hp =>
      rcases hv with rfl | ⟨rfl, hv⟩
      · fail "g"
        exact k _ _ h4 ⟨_, _, _, hs, L⟩ (by kspl_open m4)
      · have hv : valV kvs [.inl 1, .inr "name"] = none := hv
        fail "g"
        rw [hv]
        fail "g"
        rename_i p1 H1 a1
        exact k _ _ (VaAt.fix a1.fx h4) ⟨_, _, _, by w_dflts lk, L.same a1.sm⟩ (by kspl_open m4)
  | @fn x c ρ b t hn =>
    have hv := noR_get hru hn
    have hsl : H st = some (oSt K dxs 0 nm ab) := hsl
    cases he with
    | fn hp hb =>
      rcases hv with rfl | ⟨rfl, hv⟩
      · fail "g"
        rename_i p1 H1 a1
        exact k _ _ ⟨p1, _, st, rfl, a1.at_, hb.fix a1.fx, S0.fix a1.fx hse⟩ ⟨_, _, _, by w_dflts lk, L.same a1.sm⟩ (by kspl_open m4)
      · have hv : valV kvs [.inl 0, .inr "fn"] = none := hv
        fail "g"
        rw [hv]
        fail "g"
        rename_i p0 H0 a0 p1 H1 a1
        have s1 : Same H H1 := by kspl_open sm
        exact k _ _ ⟨p1, _, st, rfl, a1.at_, hb.fix (Fix.of_same s1), S0.fix (Fix.of_same s1) hse⟩ ⟨_, _, _, by w_dflts lk, L.same s1⟩ (by kspl_open m4)
  | @fst e a s b t hn hf hl =>
    have hv := noR_get hru hn
    have hlz : vs.length < sizeLine := Nat.lt_of_le_of_lt (Nat.le_of_eq hwl) (Nat.lt_trans hl (by decide))
    have he0 := he
    obtain ⟨pe, xs, rfl, hp⟩ := he.hd
    obtain ⟨f1, f2, f3⟩ := fst_kd hf
    have hin : inV (.str e.kd) kindsW = true := by rw [chg_in, fst_chg hf]
    obtain ⟨r, hpt⟩ := fst_pts hf
    rcases hv with rfl | ⟨rfl, hv⟩
    · fail "g"
      refine i_t hin ?_
      fail "g"
      refine i_f f1 ?_
      fail "g"
      refine i_f f2 ?_
      fail "g"
      refine i_f f3 ?_
      fail "g"
      refine i_t hin ?_
      fail "g"
      rename_i p1 H1 a1 H2 w2
      have s1 : Same H H1 := by kspl_open sm
      have L2 := (L.same s1).push1 (by w_dflts lk) w2 (f := .fr e s) ⟨p1, _, st, rfl, a1.at_, he0.fix (Fix.of_same s1), hse.fix (Fix.of_same s1)⟩
      have fx2 : Fix H H2 := (Fix.of_same s1).trans w2.fx
      refine ⟨_, e, rfl, he0.fix fx2, by rw [hpt]; exact List.cons_ne_nil _ _, fun pq zs H3 h3 hx3 s3 => ?_⟩
      rw [hpt] at hx3
      obtain ⟨va, us, rfl, hva⟩ := hx3.c1
      fail "g"
      refine u_go (t := t.push _) (by w_dflts lk) rfl (L2.same s3) hva (s := s) (hse.fix (fx2.trans (Fix.of_same s3))) fun H5 c5 m5 => ?_
      fail "g"
      exact k _ _ rfl c5 (by kspl_open m4)
    · fail "g"
      refine i_t hin ?_
      fail "g"
      rw [hv]
      fail "g"
      refine i_f f1 ?_
      fail "g"
      refine i_f f2 ?_
      fail "g"
      refine i_f f3 ?_
      fail "g"
      refine i_t hin ?_
      fail "g"
      rename_i p1 H1 a1 H2 w2
      have s1 : Same H H1 := by kspl_open sm
      have L2 := (L.same s1).push1 (by w_dflts lk) w2 (f := .fr e s) ⟨p1, _, st, rfl, a1.at_, he0.fix (Fix.of_same s1), hse.fix (Fix.of_same s1)⟩
      have fx2 : Fix H H2 := (Fix.of_same s1).trans w2.fx
      refine ⟨_, e, rfl, he0.fix fx2, by rw [hpt]; exact List.cons_ne_nil _ _, fun pq zs H3 h3 hx3 s3 => ?_⟩
      rw [hpt] at hx3
      obtain ⟨va, us, rfl, hva⟩ := hx3.c1
      fail "g"
      refine u_go (t := t.push _) (by w_dflts lk) rfl (L2.same s3) hva (s := s) (hse.fix (fx2.trans (Fix.of_same s3))) fun H5 c5 m5 => ?_
      fail "g"
      exact k _ _ rfl c5 (by kspl_open m4)
  | @keep kd r ρ b t hl =>
    have hlr : kvs.length < sizeLine := Nat.lt_of_le_of_lt hln (Nat.lt_trans hl (by decide))
    have hsl : H st = some (oSt K dxs 0 nm ab) := hsl
    cases he with
    | keep hp hr =>
      fail "g"
      rename_i p1 H1 a1 H2 w2
      exact k _ _ rfl ⟨_, _, _, by w_dflts lk, (L.same a1.sm).put (by w_dflts lk) w2 (hr.fix a1.fx)⟩ (by kspl_open m4)
  | ruleE => exact absurd ⟨rfl, fun _ _ h => by cases h⟩ ho
  | withh => exact absurd ⟨rfl, fun _ _ h => by cases h⟩ ho
  | part => exact absurd ⟨rfl, fun _ _ h => by cases h⟩ ho
  | part0 => exact absurd ⟨rfl, fun _ _ h => by cases h⟩ ho
  | usual => exact absurd ⟨rfl, fun _ _ h => by cases h⟩ ho
  | usual0 => exact absurd ⟨rfl, fun _ _ h => by cases h⟩ ho
  | doo h _ =>
    refine absurd ⟨?_, fun _ _ q => ?_⟩ ho
    · cases e <;> first | rfl | cases h
    · subst q
      cases h
end
/-! ## Ztw8 -/
open PySem PySem.Spec PyProof.Rows L2
def spRs (K : PySem.W.Frag) : Sp := fun vs H Q _ => ∃ (sf dx : Addr) (ve : V) (st : Addr) (b : Bool) (rl wt ou : Addr) (t : TS) (v : V) (a : Va) (c' : Cf), vs = [.ref sf, v] ∧ H sf = some (oTw K dx ve st b t.f rl wt ou .non) ∧ TwL K H rl wt ou t ∧ VaAt K H v a ∧
  Step (.rv a t) c' ∧ ∀ v H', RetAt K H' v c' → TwC K H' sf dx rl wt ou c' → M4 sf rl wt ou H H' → Q v H'
theorem snd_kd {e a : E} (h : sndE e = some a) : decide (V.str e.kd = V.str "back") = false ∧ decide (V.str e.kd = V.str "second") = false ∧ decide (V.str e.kd = V.str "do") = false ∧ decide (V.str e.kd = V.str "say") = false ∧ decide (V.str e.kd = V.str "let") = false ∧ decide (V.str e.kd = V.str "with") = false ∧ decide (V.str e.kd = V.str "if") = false := by
  have m : e.kd ∈ (["call", "sum", "less"] : List Str) := by cases e <;> first | (cases h; done) | simp [E.kd]
  exact ⟨kd_neK (by decide +kernel) m, kd_neK (by decide +kernel) m, kd_neK (by decide +kernel) m, kd_neK (by decide +kernel) m, kd_neK (by decide +kernel) m, kd_neK (by decide +kernel) m, kd_neK (by decide +kernel) m⟩
theorem snd_at {H : Hp} {v : V} {e a : E} (he : EAt H v e) (h : sndE e = some a) : ∃ p va vb, v = .ref p ∧ H p = some (.tup [.str e.kd, va, vb]) ∧ EAt H vb a := by
  cases he <;> cases h <;> exact ⟨_, _, _, rfl, by assumption, by assumption⟩
theorem rv_back {a : Va} {t : TS} {c' : Cf} {kd : Str} {old : Option E} {w : List Fr} (hw : t.w = .back kd old :: w) (hst : Step (.rv a t) c') : c' = .rv a ({ t with w := w }.put kd old) ∧ t.rn < 10000 := by
  cases hst with
  | fin h => rw [hw] at h; cases h
  | back h h2 => rw [hw] at h; cases h; exact ⟨rfl, h2⟩
  | snd h => rw [hw] at h; cases h
  | say h => rw [hw] at h; cases h
  | let0 h => rw [hw] at h; cases h
  | let1 h => rw [hw] at h; cases h
  | iff h => rw [hw] at h; cases h
  | withR h => rw [hw] at h; cases h
  | withR0 h => rw [hw] at h; cases h
  | sum h => rw [hw] at h; cases h
  | less h => rw [hw] at h; cases h
  | call h => rw [hw] at h; cases h
  | call0 h => rw [hw] at h; cases h
  | doN h => rw [hw] at h; cases h
  | doM h => rw [hw] at h; cases h
  | doSay h => rw [hw] at h; cases h
  | doSum h => rw [hw] at h; cases h
  | doLess h => rw [hw] at h; cases h
  | doCall h => rw [hw] at h; cases h
  | doCall1 h => rw [hw] at h; cases h
theorem rv_second {a u : Va} {t : TS} {c' : Cf} {kd : Str} {w : List Fr} (hw : t.w = .second kd u :: w) (hst : Step (.rv a t) c') : OpS kd [u, a] { t with w := w } c' := by
  cases hst with
  | fin h => rw [hw] at h; cases h
  | back h => rw [hw] at h; cases h
  | snd h => rw [hw] at h; cases h
  | say h => rw [hw] at h; cases h
  | let0 h => rw [hw] at h; cases h
  | let1 h => rw [hw] at h; cases h
  | iff h => rw [hw] at h; cases h
  | withR h => rw [hw] at h; cases h
  | withR0 h => rw [hw] at h; cases h
  | sum h => rw [hw] at h; cases h; exact .sum
  | less h => rw [hw] at h; cases h; exact .less
  | call h h2 h3 => rw [hw] at h; cases h; exact .call (t := { t with w := w }) h2 h3
  | call0 h h2 => rw [hw] at h; cases h; exact .call0 h2
  | doN h => rw [hw] at h; cases h
  | doM h => rw [hw] at h; cases h
  | doSay h => rw [hw] at h; cases h
  | doSum h => rw [hw] at h; cases h
  | doLess h => rw [hw] at h; cases h
  | doCall h => rw [hw] at h; cases h
  | doCall1 h => rw [hw] at h; cases h
theorem rv_do {a : Va} {t : TS} {c' : Cf} {d : E} {s : Se} {vs : List Va} {w : List Fr} (hw : t.w = .doF d s vs :: w) (hst : Step (.rv a t) c') : ∃ n e ρ, s = .s1 n e ρ ∧ vs.length < 2 ∧
    ((∃ u a2 z, doE d = [u, a2] ∧ vs ++ [a] = [z] ∧ w.length < 10000 ∧ c' = .bg a2 (.s1 n e ρ) false (({ t with w := w } : TS).push (.doF d (.s1 n e ρ) [z]))) ∨
     ((doE d).length = (vs ++ [a]).length ∧ vs ++ [a] ≠ [] ∧ ((t.f = 0 ∧ c' = .xx none { t with w := w }) ∨ ∃ f, t.f = f + 1 ∧ OpS e.kd (vs ++ [a]) { t with w := w, f := f } c'))) := by
  have dl : ∀ d : E, (doE d).length ≤ 2 := fun d => by cases d <;> simp [doE]
  have ne : vs ++ [a] ≠ [] := by simp
  cases hst with
  | fin h => rw [hw] at h; cases h
  | back h => rw [hw] at h; cases h
  | snd h => rw [hw] at h; cases h
  | say h => rw [hw] at h; cases h
  | let0 h => rw [hw] at h; cases h
  | let1 h => rw [hw] at h; cases h
  | iff h => rw [hw] at h; cases h
  | withR h => rw [hw] at h; cases h
  | withR0 h => rw [hw] at h; cases h
  | sum h => rw [hw] at h; cases h
  | less h => rw [hw] at h; cases h
  | call h => rw [hw] at h; cases h
  | call0 h => rw [hw] at h; cases h
  | doN h h2 h3 => rw [hw] at h; cases h; exact ⟨_, _, _, rfl, (by simp), .inl ⟨_, _, _, h2, rfl, h3, rfl⟩⟩
  | doM h h2 h3 => rw [hw] at h; cases h; exact ⟨_, _, _, rfl, (by have := dl d; omega), .inr ⟨by rw [h2, List.length_append]; rfl, ne, .inl ⟨h3, rfl⟩⟩⟩
  | doSay h h2 h3 => rw [hw] at h; cases h; exact ⟨_, _, _, rfl, (by simp), .inr ⟨rfl, ne, .inr ⟨_, h2, OpS.say h3⟩⟩⟩
  | doSum h h2 => rw [hw] at h; cases h; exact ⟨_, _, _, rfl, (by simp), .inr ⟨rfl, ne, .inr ⟨_, h2, .sum⟩⟩⟩
  | doLess h h2 => rw [hw] at h; cases h; exact ⟨_, _, _, rfl, (by simp), .inr ⟨rfl, ne, .inr ⟨_, h2, .less⟩⟩⟩
  | doCall h h2 h3 => rw [hw] at h; cases h; exact ⟨_, _, _, rfl, (by simp), .inr ⟨rfl, ne, .inr ⟨_, h3, OpS.call h2 rfl⟩⟩⟩
  | doCall1 h h2 => rw [hw] at h; cases h; exact ⟨_, _, _, rfl, (by simp), .inr ⟨rfl, ne, .inr ⟨0, h2, OpS.call0 rfl⟩⟩⟩
def kPar (i j : Nat) (D : Ends) (σ : L2.St) (vs : List V) (H1 : Hp) : Prop := ∃ v w, vs = [v, w] ∧ D.nx ((σ.set i (some v)).set j (some w)) H1
section
variable {K : PySem.W.Frag} {H : Hp} {Q : VK} {c : Addr} {y : V} {r : List V} {p : Addr}
theorem s_par {i j : Nat} {ta : TA} {D : Ends} {σ : L2.St} (q : ta σ H fun vs H1 => kPar i j D σ vs H1) : tPar i j ta D σ H := q
theorem s_kpar {i j : Nat} {D : Ends} {σ : L2.St} {v w : V} (q : D.nx ((σ.set i (some v)).set j (some w)) H) : kPar i j D σ [v, w] H := ⟨v, w, rfl, q⟩
theorem s_catN (h : H p = some (.tup [])) (h2 : H c = some (.tup [y])) (q : Q (.ref c) H) : rCatA K (.ref p) (.ref c) H Q :=
  ⟨p, c, [], [y], rfl, rfl, SqT.of h, SqT.of h2, Nat.le_of_ble_eq_true rfl, fun _ => q, fun h => absurd rfl h, fun h => absurd rfl h⟩
end
local macro_rules | `(tactic| fail "g1") => `(tactic| first | ((with_reducible refine' s_catN ?a ?c ?b); (case a => w_dflts lk); (case c => w_dflts lk)) | done)
local macro_rules | `(tactic| fail "g1") => `(tactic| first | (with_reducible refine' s_kpar ?_) | done)
local macro_rules | `(tactic| fail "g1") => `(tactic| first | (with_reducible refine' s_par ?_) | done)
theorem VasAt.app {K : PySem.W.Frag} {H : Hp} {vs ws : List V} {as bs : List Va} (h : VasAt K H vs as) (h2 : VasAt K H ws bs) : VasAt K H (vs ++ ws) (as ++ bs) := by
  induction h with
  | nil => exact h2
  | cons h _ i => exact .cons h i
section
variable {P : Program} {w : World} {K : PySem.W.Frag} {mg : Str → Option Value} {base : Heap} [Tx w K mg]
theorem ok_Tower_resume (hd : Dd K d_Tower_resume) (g_shown : Ok P w K mg base 1 d_shown ["value"] spShow) (g_Setting_with_name : Ok P w K mg base 3 d_Setting_with_name ["self", "x", "value"] (spStW K)) (g_Tower_go : Ok P w K mg base 1 d_Tower_go ["self", "e", "setting"] (spGo K false))
    (g_Tower_put_back : Ok P w K mg base 1 d_Tower_put_back ["self", "place", "rule"] (spPb K)) (g_Tower_operate : Ok P w K mg base 5 d_Tower_operate ["self", "kind", "level", "values"] (spOper K)) (g_Tower_gathered : Ok P w K mg base 6 d_Tower_gathered ["self", "e", "setting", "values"] (spGath K))
    (g_Tower_bind_let : Ok P w K mg base 4 d_Tower_bind_let ["self", "about", "value"] (spBL K)) (g_Tower_decide : Ok P w K mg base 2 d_Tower_decide ["self", "e", "setting", "value"] (spDec K)) : Ok P w K mg base 7 d_Tower_resume ["self", "value"] (spRs K) := by
  obtain ⟨⟨_, G_shown, b_shown⟩, k_shown⟩ := id g_shown
  obtain ⟨⟨_, G_Setting_with_name, b_Setting_with_name⟩, k_Setting_with_name⟩ := id g_Setting_with_name
  obtain ⟨⟨_, G_Tower_go, b_Tower_go⟩, k_Tower_go⟩ := id g_Tower_go
  obtain ⟨⟨_, G_Tower_put_back, b_Tower_put_back⟩, k_Tower_put_back⟩ := id g_Tower_put_back
  obtain ⟨⟨_, G_Tower_operate, b_Tower_operate⟩, k_Tower_operate⟩ := id g_Tower_operate
  obtain ⟨⟨_, G_Tower_gathered, b_Tower_gathered⟩, k_Tower_gathered⟩ := id g_Tower_gathered
  obtain ⟨⟨_, G_Tower_bind_let, b_Tower_bind_let⟩, k_Tower_bind_let⟩ := id g_Tower_bind_let
  obtain ⟨⟨_, G_Tower_decide, b_Tower_decide⟩, k_Tower_decide⟩ := id g_Tower_decide
  refine ok_mk hd sc_Tower_resume bd_Tower_resume (fun vs H Q X h => ?_) (fun cdv A outer s0 H vs Q X hr h => ?_)
  · obtain ⟨_, _, _, _, _, _, _, _, _, _, _, _, rfl, _⟩ := h
    rfl
  obtain ⟨sf, dx, ve, st, b, rl, wt, ou, t, v, a, c', rfl, hs, L, hva, hst, k⟩ := h
  refine ⟨_, (pss_cons (ps_if (pt_not (pt_truth1 (pe_fld (pv 0) rfl) (by intro _; rfl))) (pss_cons (ps_fld (pv 0) (pe_tup (pa_cons pe_str (pa_cons (pe_call G_shown (hr.mono (by omega)) rfl (Tx.gl (K := K) "shown" (by decide +kernel)) k_shown b_shown .nil pass0 (pa_cons (pv 1) pa_nil)) pa_nil))) rfl)
  (pss_one (ps_ret pe_non))) pss_nil)
  (pss_cons (ps_set (i := 2) sc_Tower_resume.nd rfl (Or.inl rfl) (pe_bm0 PySem.F.plainAttrs_list PySem.F.slot_list_pop PySem.F.type_list_pop mt_pop (pe_fld (pv 0) rfl)))
  (pss_cons (ps_set (i := 3) sc_Tower_resume.nd rfl (Or.inl rfl) (pe_ix ix_tup (pv 2) pe_int (fun _ _ => rfl)))
  (pss_cons (ps_if (pt_cmpR op_eq (pv 3) pe_str (nomark _)) (pss_cons (ps_expr (pe_meth (pv 0) (CF.cls (K := K) (n := "Tower") (by decide +kernel)) (CF.me (K := K) (n := "Tower") (m := "put_back") (by decide +kernel)) G_Tower_put_back (hr.mono (by omega)) b_Tower_put_back .nil pass0 (pa_cons (pe_ix ix_tup (pv 2) pe_int (fun _ _ => rfl)) (pa_cons (pe_ix ix_tup (pv 2) pe_int (fun _ _ => rfl)) pa_nil))))
  (pss_one (ps_ret (pv 1)))) pss_nil)
  (pss_cons (ps_if (pt_cmpR op_eq (pv 3) pe_str (nomark _)) (pss_one (ps_ret (pe_meth (pv 0) (CF.cls (K := K) (n := "Tower") (by decide +kernel)) (CF.me (K := K) (n := "Tower") (m := "operate") (by decide +kernel)) G_Tower_operate (hr.mono (by omega)) b_Tower_operate .nil pass0 (pa_cons (pe_ix ix_tup (pv 2) pe_int (fun _ _ => rfl)) (pa_cons (pe_ix ix_tup (pv 2) pe_int (fun _ _ => rfl)) (pa_cons (pe_tup (pa_cons (pe_ix ix_tup (pv 2) pe_int (fun _ _ => rfl)) (pa_cons (pv 1) pa_nil))) pa_nil)))))) pss_nil)
  (pss_cons (ps_par (i := 4) (j := 5) rfl sc_Tower_resume.nd rfl rfl (by decide) rfl rfl (pa_cons (pe_ix ix_tup (pv 2) pe_int (fun _ _ => rfl)) (pa_cons (pe_ix ix_tup (pv 2) pe_int (fun _ _ => rfl)) pa_nil)) (by rfl))
  (pss_cons (ps_if (pt_cmpR op_eq (pv 3) pe_str (nomark _)) (pss_one (ps_ret (pe_meth (pv 0) (CF.cls (K := K) (n := "Tower") (by decide +kernel)) (CF.me (K := K) (n := "Tower") (m := "gathered") (by decide +kernel)) G_Tower_gathered (hr.mono (by omega)) b_Tower_gathered .nil pass0 (pa_cons (pv 4) (pa_cons (pv 5) (pa_cons (pe_op op_catA (pe_ix ix_tup (pv 2) pe_int (fun _ _ => rfl)) (pe_tup (pa_cons (pv 1) pa_nil))) pa_nil)))))) pss_nil)
  (pss_cons (ps_if (pt_cmpR op_eq (pv 3) pe_str (nomark _)) (pss_one (ps_ret (pe_meth (pv 0) (CF.cls (K := K) (n := "Tower") (by decide +kernel)) (CF.me (K := K) (n := "Tower") (m := "operate") (by decide +kernel)) G_Tower_operate (hr.mono (by omega)) b_Tower_operate .nil pass0 (pa_cons pe_str (pa_cons (pe_fld (pv 5) rfl) (pa_cons (pe_tup (pa_cons (pv 1) pa_nil)) pa_nil)))))) pss_nil)
  (pss_cons (ps_if (pt_cmpR op_eq (pv 3) pe_str (nomark _)) (pss_one (ps_expr (pe_meth (pv 0) (CF.cls (K := K) (n := "Tower") (by decide +kernel)) (CF.me (K := K) (n := "Tower") (m := "go") (by decide +kernel)) G_Tower_go (hr.mono (by omega)) b_Tower_go .nil pass0 (pa_cons (pe_ix ix_tup (pv 4) pe_int (fun _ _ => rfl)) (pa_cons (pe_meth (pv 5) (CF.cls (K := K) (n := "Setting") (by decide +kernel)) (CF.me (K := K) (n := "Setting") (m := "with_name") (by decide +kernel)) G_Setting_with_name (hr.mono (by omega)) b_Setting_with_name .nil pass0 (pa_cons (pe_ix ix_tup (pv 4) pe_int (fun _ _ => rfl)) (pa_cons (pv 1) pa_nil))) pa_nil))))) (pss_one (ps_if (pt_cmpR op_eq (pv 3) pe_str (nomark _)) (pss_one (ps_expr (pe_meth (pv 0) (CF.cls (K := K) (n := "Tower") (by decide +kernel)) (CF.me (K := K) (n := "Tower") (m := "bind_let") (by decide +kernel)) G_Tower_bind_let (hr.mono (by omega)) b_Tower_bind_let .nil pass0 (pa_cons (pe_fld (pv 5) rfl) (pa_cons (pv 1) pa_nil))))) (pss_one (ps_if (pt_cmpR op_eq (pv 3) pe_str (nomark _)) (pss_one (ps_expr (pe_meth (pv 0) (CF.cls (K := K) (n := "Tower") (by decide +kernel)) (CF.me (K := K) (n := "Tower") (m := "decide") (by decide +kernel)) G_Tower_decide (hr.mono (by omega)) b_Tower_decide .nil pass0 (pa_cons (pv 4) (pa_cons (pv 5) (pa_cons (pv 1) pa_nil)))))) (pss_cons (ps_expr (pe_bm PySem.F.plainAttrs_list PySem.F.slot_list_append PySem.F.type_list_append mt_append (pe_fld (pv 0) rfl) (pa_cons (pe_tup (pa_cons pe_str (pa_cons (pv 3) (pa_cons (pe_fld (pv 5) rfl) (pa_cons (pv 1) pa_nil))))) pa_nil)))
  (pss_one (ps_expr (pe_meth (pv 0) (CF.cls (K := K) (n := "Tower") (by decide +kernel)) (CF.me (K := K) (n := "Tower") (m := "go") (by decide +kernel)) G_Tower_go (hr.mono (by omega)) b_Tower_go .nil pass0 (pa_cons (pe_ix ix_tup (pv 4) pe_int (fun _ _ => rfl)) (pa_cons (pv 5) pa_nil)))))))))))
  (pss_one (ps_ret pe_non))))))))))), ?_⟩
  fail "b"
  cases hw : t.w with
  | nil =>
    obtain ⟨vs, hwt, hwa⟩ := L.wa
    have hwl := hwa.len
    rw [hw] at hwl
    obtain rfl : vs = [] := List.length_eq_zero_iff.mp hwl
    cases hst with
    | fin h =>
      obtain rfl : v = .int _ := hva
      fail "g"
      refine ⟨_, rfl, ?_⟩
      fail "g"
      rename_i p1 H1 a1 H2 w2
      exact k _ _ rfl ⟨_, _, _, p1, w2.at_, (L.same a1.sm).mu (a1.sm _ _ hs) (Mu.of_wr w2), by w_dflts lk⟩ (by kspl_open m4)
    | back h => rw [hw] at h; cases h
    | snd h => rw [hw] at h; cases h
    | say h => rw [hw] at h; cases h
    | let0 h => rw [hw] at h; cases h
    | let1 h => rw [hw] at h; cases h
    | iff h => rw [hw] at h; cases h
    | withR h => rw [hw] at h; cases h
    | withR0 h => rw [hw] at h; cases h
    | sum h => rw [hw] at h; cases h
    | less h => rw [hw] at h; cases h
    | call h => rw [hw] at h; cases h
    | call0 h => rw [hw] at h; cases h
    | doN h => rw [hw] at h; cases h
    | doM h => rw [hw] at h; cases h
    | doSay h => rw [hw] at h; cases h
    | doSum h => rw [hw] at h; cases h
    | doLess h => rw [hw] at h; cases h
    | doCall h => rw [hw] at h; cases h
    | doCall1 h => rw [hw] at h; cases h
  | cons f w =>
    obtain ⟨vs, x, hwt, hfr, hpop⟩ := L.pop hw
    have hne : (!(vs ++ [x]).isEmpty) = true := by simp
    have hnn : (!(!(vs ++ [x]).isEmpty)) = false := by simp
    have hlw : vs.length = w.length := by
      obtain ⟨v2, h1, h2⟩ := L.wa
      rw [hwt] at h1
      cases h1
      have := h2.len
      rw [hw] at this
      simpa using this
    cases f with
    | back kd old =>
      obtain ⟨rfl, hrn⟩ := rv_back hw hst
      obtain ⟨p, pl, vo, rfl, h1, h2, h3⟩ := hfr
      fail "g"
      refine i_f hnn ?_
      fail "g"
      rename_i H1 w1
      have f1 : Fix H H1 := w1.fx
      refine ⟨sf, dx, ve, st, b, rl, wt, ou, pl, { t with w := w }, vo, kd, old, rfl, by w_dflts lk, hpop _ w1, by w_dflts lk, h3.fix f1, hrn, fun H2 h2 L2 m2 => ?_⟩
      fail "g"
      exact k _ _ (hva.fix (f1.trans m2.fx)) ⟨_, _, _, h2, L2⟩ (by kspl_open m4)
    | second kd u =>
      have hop := rv_second hw hst
      obtain ⟨p, vu, rfl, h1, h2⟩ := hfr
      fail "g"
      refine i_f hnn ?_
      fail "g"
      rename_i H1 w1 p2 H2 a2
      have f2 : Fix H H2 := w1.fx.trans a2.fx
      refine ⟨sf, dx, ve, st, b, rl, wt, ou, p2, { t with w := w }, kd, _, _, c', rfl, by w_dflts lk, (hpop _ w1).same a2.sm, a2.at_, .cons (h2.fix f2) (.cons (hva.fix f2) .nil), hop, fun v2 H3 r3 c3 m3 => ?_⟩
      fail "g"
      exact k _ _ r3 c3 (by kspl_open m4)
    | doF d s as =>
      obtain ⟨n, e, ρ, rfl, hl2, hg⟩ := rv_do hw hst
      obtain ⟨p, vd, sa, vp, ws, rfl, h1, h2, h3, h4, h5⟩ := hfr
      cases h5 with
      | nil =>
        fail "g"
        refine i_f hnn ?_
        fail "g"
        rename_i H1 w1 p2 H2 a2
        have f2 : Fix H H2 := w1.fx.trans a2.fx
        refine ⟨sf, dx, ve, st, b, rl, wt, ou, sa, p2, { t with w := w }, vd, d, n, e, ρ, [v], [a], c', rfl, by w_dflts lk, (hpop _ w1).same a2.sm, h2.fix f2, SeAt.fix f2 h3, a2.at_, .cons (hva.fix f2) .nil, hg, fun v2 H3 r3 c3 m3 => ?_⟩
        fail "g"
        exact k _ _ r3 c3 (by kspl_open m4)
      | cons hz hy =>
        cases hy with
        | cons => simp only [List.length_cons] at hl2; omega
        | nil =>
          fail "g"
          refine i_f hnn ?_
          fail "g"
          rename_i H1 w1 p2 H2 a2 p3 H3 a3
          have f3 : Fix H H3 := (w1.fx.trans a2.fx).trans a3.fx
          refine ⟨sf, dx, ve, st, b, rl, wt, ou, sa, p3, { t with w := w }, vd, d, n, e, ρ, _, _, c', rfl, by w_dflts lk, ((hpop _ w1).same a2.sm).same a3.sm, h2.fix f3, SeAt.fix f3 h3, a3.at_, .cons (hz.fix f3) (.cons (hva.fix f3) .nil), hg, fun v2 H4 r4 c4 m4 => ?_⟩
          fail "g"
          exact k _ _ r4 c4 (by kspl_open m4)
    | fr e0 s0 =>
      obtain ⟨p, vi, sa, rfl, h1, h2, h3⟩ := hfr
      cases hst with
      | fin h => rw [hw] at h; cases h
      | back h => rw [hw] at h; cases h
      | snd h hsn hl =>
        rw [hw] at h; cases h
        have hlz : vs.length < sizeLine := Nat.lt_of_le_of_lt (Nat.le_of_eq hlw) (Nat.lt_trans hl (by decide))
        obtain ⟨f1, f2, f3, f4, f5, f6, f7⟩ := snd_kd hsn
        obtain ⟨pe, v1, v2, rfl, h4, h5⟩ := snd_at h2 hsn
        obtain ⟨dxs, nm, hs1, hs2⟩ := id h3
        fail "g"
        refine i_f hnn ?_
        fail "g"
        refine i_f f1 ?_
        fail "g"
        refine i_f f2 ?_
        fail "g"
        refine i_f f3 ?_
        fail "g"
        refine i_f f4 ?_
        fail "g"
        refine i_f f5 ?_
        fail "g"
        refine i_f f6 ?_
        fail "g"
        refine i_f f7 ?_
        fail "g"
        rename_i H1 w1 p2 H2 a2 H3 w3
        have f2 : Fix H H2 := w1.fx.trans a2.fx
        have L3 := ((hpop _ w1).same a2.sm).push1 (by w_dflts lk) w3 (f := .second e0.kd a) ⟨p2, v, rfl, a2.at_, hva.fix f2⟩
        refine u_go (by w_dflts lk) rfl L3 (by fail "e") (s := .s0 _) (S0.fix (f2.trans w3.fx) h3) fun H5 c5 m5 => ?_
        fail "g"
        exact k _ _ rfl c5 (by kspl_open m4)
      | say h hl =>
        rw [hw] at h; cases h
        obtain rfl : v = .int _ := hva
        obtain ⟨dxs, nm, hs1, hs2⟩ := id h3
        fail "g"
        refine i_f hnn ?_
        fail "g"
        rename_i H1 w1 p2 H2 a2
        refine ⟨sf, dx, ve, st, b, rl, wt, ou, p2, { t with w := w }, "say", _, [.int _], _, rfl, by w_dflts lk, (hpop _ w1).same a2.sm, a2.at_, .cons rfl .nil, .say hl, fun v2 H3 r3 c3 m3 => ?_⟩
        fail "g"
        exact k _ _ r3 c3 (by kspl_open m4)
      | let0 h hl =>
        rw [hw] at h; cases h
        obtain rfl : v = .int _ := hva
        obtain ⟨dxs, nm, hs1, hs2⟩ := id h3
        cases h2 with
        | lett hp ha hb =>
          fail "g"
          refine i_f hnn ?_
          fail "g"
          rename_i H1 w1
          refine u_stw0 (S0.fix w1.fx h3) hl fun p2 H2 h2 s2 => ?_
          fail "g"
          refine u_go (t := { t with w := w }) (by w_dflts lk) rfl ((hpop _ w1).same s2) (by fail "e") (s := .s0 _) h2 fun H5 c5 m5 => ?_
          fail "g"
          exact k _ _ rfl c5 (by kspl_open m4)
      | let1 h hl =>
        rw [hw] at h; cases h
        obtain ⟨dxs, nm, ab, vo, sb, g1, g2, g3, g4, g5⟩ := id h3
        cases h2 with
        | lett hp ha hb =>
          fail "g"
          refine i_f hnn ?_
          fail "g"
          rename_i H1 w1
          refine u_stw1 (h3.fix w1.fx) (hva.fix w1.fx) hl fun p2 H2 h2 s2 => ?_
          fail "g"
          refine u_go (t := { t with w := w }) (by w_dflts lk) rfl ((hpop _ w1).same s2) (by fail "e") h2 fun H5 c5 m5 => ?_
          fail "g"
          exact k _ _ rfl c5 (by kspl_open m4)
      | iff h =>
        rw [hw] at h; cases h
        obtain rfl : v = .int _ := hva
        fail "g"
        refine i_f hnn ?_
        fail "g"
        rename_i H1 w1
        refine ⟨sf, dx, ve, st, b, rl, wt, ou, sa, { t with w := w }, vi, _, _, _, s0, _, rfl, by w_dflts lk, hpop _ w1, h2.fix w1.fx, h3.fix w1.fx, fun H2 c2 m2 => ?_⟩
        fail "g"
        exact k _ _ rfl c2 (by kspl_open m4)
      | withR h hl hf =>
        rw [hw] at h; cases h
        obtain rfl : v = .int _ := hva
        obtain ⟨dxs, nm, ab, vo, sb, g1, g2, g3, g4, g5⟩ := h3
        fail "g"
        refine i_f hnn ?_
        fail "g"
        rename_i H1 w1
        refine ⟨sf, dx, ve, st, b, rl, wt, ou, ab, sb, { t with w := w }, vo, _, _, _, _, _, rfl, by w_dflts lk, hpop _ w1, by w_dflts lk, g4.fix w1.fx, g5.fix w1.fx, fun e0 H2 c2 m2 => ?_, fun g eg => ⟨hl, fun H2 c2 m2 => ?_⟩⟩
        · have e0 : t.f = 0 := e0
          rw [e0] at hf
          cases hf
        · have eg : t.f = g + 1 := eg
          rw [hf] at eg
          cases eg
          fail "g"
          exact k _ _ rfl c2 (by kspl_open m4)
      | withR0 h hf =>
        rw [hw] at h; cases h
        obtain rfl : v = .int _ := hva
        obtain ⟨dxs, nm, ab, vo, sb, g1, g2, g3, g4, g5⟩ := h3
        fail "g"
        refine i_f hnn ?_
        fail "g"
        rename_i H1 w1
        refine ⟨sf, dx, ve, st, b, rl, wt, ou, ab, sb, { t with w := w }, vo, _, _, _, _, _, rfl, by w_dflts lk, hpop _ w1, by w_dflts lk, g4.fix w1.fx, g5.fix w1.fx, fun e0 H2 c2 m2 => ?_, fun g eg => ?_⟩
        · fail "g"
          exact k _ _ rfl c2 (by kspl_open m4)
        · have eg : t.f = g + 1 := eg
          rw [hf] at eg
          cases eg
      | sum h => rw [hw] at h; cases h
      | less h => rw [hw] at h; cases h
      | call h => rw [hw] at h; cases h
      | call0 h => rw [hw] at h; cases h
      | doN h => rw [hw] at h; cases h
      | doM h => rw [hw] at h; cases h
      | doSay h => rw [hw] at h; cases h
      | doSum h => rw [hw] at h; cases h
      | doLess h => rw [hw] at h; cases h
      | doCall h => rw [hw] at h; cases h
      | doCall1 h => rw [hw] at h; cases h
end
/-! ## Ztwa -/
open PySem PySem.Spec PyProof.Rows L2
/-! ### runs -/
def t0 (f : Nat) : TS := ⟨fun _ => none, 0, f, [], []⟩
def spTwI (K : PySem.W.Frag) : Sp := fun vs H Q _ => ∃ (sf dx : Addr) (ve : V) (e : E) (f : Nat), vs = [.ref sf, ve, .int (f : Nat)] ∧ H sf = some (.ins (He.ga K "Tower") dx []) ∧ EAt H ve e ∧ ∀ H' rl wt ou, TwC K H' sf dx rl wt ou (.bg e (.s0 []) false (t0 f)) → H rl = none → H wt = none → H ou = none → But sf H H' → Q .non H'
def spTwR (K : PySem.W.Frag) : Sp := fun vs H Q _ => ∃ (sf dx rl wt ou : Addr) (c : Cf) (Pv : Option Int → List (Int × Int) → Prop), vs = [.ref sf] ∧ TwC K H sf dx rl wt ou c ∧ (∀ v t, c ≠ .rv v t) ∧ Fin Pv c ∧ ∀ v t H', TwC K H' sf dx rl wt ou (.xx v t) → Pv v t.o → M4 sf rl wt ou H H' → Q .non H'
/-- the value of a run -/
def RunAt (H : Hp) (p : Addr) (v : Option Int) (o : List (Int × Int)) : Prop := ∃ po m us, H p = some (.tup [.ref po, .ref m]) ∧ H po = some (.tup us) ∧ OuAt H us o ∧ H m = some (.tup (match v with | none => [.str "more"] | some n => [.str "value", .int n]))
def spRun : Sp := fun vs H Q _ => ∃ (ve : V) (e : E) (f : Nat) (Pv : Option Int → List (Int × Int) → Prop), vs = [ve, .int (f : Nat)] ∧ EAt H ve e ∧ Fin Pv (.bg e (.s0 []) false (t0 f)) ∧ ∀ p v o H', RunAt H' p v o → Pv v o → Same H H' → Q (.ref p) H'
section
variable {P : Program} {w : World} {K : PySem.W.Frag} {mg : Str → Option Value} {base : Heap} [Tx w K mg]
theorem ok_Tower_init (hd : Dd K d_Tower_init) (g_Setting_init : Ok P w K mg base 1 d_Setting_init ["self", "level", "names", "about"] (spStI K)) : Ok P w K mg base 3 d_Tower_init ["self", "program", "fuel"] (spTwI K) := by
  obtain ⟨⟨_, G_Setting_init, b_Setting_init⟩, k_Setting_init⟩ := id g_Setting_init
  refine ok_mk hd sc_Tower_init bd_Tower_init (fun vs H Q X h => ?_) (fun cdv A outer s0 H vs Q X hr h => ?_)
  · obtain ⟨_, _, _, _, _, rfl, _⟩ := h
    rfl
  obtain ⟨sf, dx, ve, e, f, rfl, hs, he, k⟩ := h
  refine ⟨_, (pss_cons (ps_fld (pv 0) (pv 1) rfl)
  (pss_cons (ps_fld (pv 0) (pe_make (CF.mk (K := K) (by decide +kernel)) G_Setting_init (hr.mono (by omega)) rfl (Tx.gl (K := K) "Setting" (by decide +kernel)) b_Setting_init .nil pass0 (pa_cons pe_int (pa_cons pe_dnewK (pa_cons pe_non pa_nil)))) rfl)
  (pss_cons (ps_fld (pv 0) pe_bl rfl)
  (pss_cons (ps_fld (pv 0) (pv 2) rfl)
  (pss_cons (ps_fld (pv 0) pe_dnewT rfl)
  (pss_cons (ps_fld (pv 0) (pe_lst pa_nil) rfl)
  (pss_cons (ps_fld (pv 0) (pe_lst pa_nil) rfl)
  (pss_one (ps_fld (pv 0) pe_non rfl))))))))), ?_⟩
  fail "b"
  fail "g"
  rename_i H1 w1 d H2 a2
  refine make_whole' (fs := [("level", .int 0), ("names", .ref d), ("about", .non)]) (fun x dx H0 R h0 s0 h1 => ⟨x, dx, 0, d, .non, rfl, h0, h1⟩) fun sx dx3 H3 a3 => ?_
  fail "g"
  rename_i H4 w4 H5 w5 H6 w6 rl H7 a7 H8 w8 wt H9 a9 H10 w10 ou H11 a11 H12 w12 H13 w13
  have fx : Fix H H13 := by kspl_open fx
  have f3 : Fix H3 H13 := by kspl_open fx
  have hwl : H8 rl ≠ none := fun z => by
    have : H8 rl = some (.dT []) := by w_dflts lk
    rw [this] at z
    cases z
  refine k _ rl wt ou ⟨ve, sx, w13.at_, he.fix fx, ⟨dx3, d, f3 _ _ a3.at_ rfl, d, [], rfl, f3 _ _ (a3.sm _ _ a2.at_) rfl, .nil⟩, ⟨⟨[], by w_dflts lk, Nat.zero_le _, fun _ => rfl, fun _ => rfl, fun _ _ => rfl⟩, ⟨[], by w_dflts lk, .nil⟩, ⟨[], by w_dflts lk, .nil⟩, by kspl_open ne⟩⟩ (by kspl_open nw) (by kspl_open nw) (by kspl_open nw) ?_
  exact (((((((((((w1.bt.trans (But.of_same a2.sm)).trans (But.of_same a3.sm)).trans w4.bt).trans w5.bt).trans w6.bt).trans (But.of_same a7.sm)).trans w8.bt).trans (But.of_same a9.sm)).trans w10.bt).trans (But.of_same a11.sm)).trans w12.bt).trans w13.bt
theorem FinN.bg {Pv : Option Int → List (Int × Int) → Prop} {n : Nat} {e : E} {s : Se} {b : Bool} {t : TS} (h : FinN Pv n (.bg e s b t)) : ∃ m c', n = m + 1 ∧ Step (.bg e s b t) c' ∧ FinN Pv m c' := by
  cases h with
  | step h f => exact ⟨_, _, rfl, h, f⟩
theorem FinN.rv {Pv : Option Int → List (Int × Int) → Prop} {n : Nat} {a : Va} {t : TS} (h : FinN Pv n (.rv a t)) : ∃ m c', n = m + 1 ∧ Step (.rv a t) c' ∧ FinN Pv m c' := by
  cases h with
  | step h f => exact ⟨_, _, rfl, h, f⟩
theorem FinN.xx {Pv : Option Int → List (Int × Int) → Prop} {n : Nat} {v : Option Int} {t : TS} (h : FinN Pv n (.xx v t)) : Pv v t.o := by
  cases h with
  | done h => exact h
  | step h f => cases h
theorem ok_Tower_run (hd : Dd K d_Tower_run) (g_Tower_begin : Ok P w K mg base 4 d_Tower_begin ["self"] (spBg K)) (g_Tower_resume : Ok P w K mg base 7 d_Tower_resume ["self", "value"] (spRs K)) : Ok P w K mg base 8 d_Tower_run ["self"] (spTwR K) := by
  obtain ⟨⟨_, G_Tower_begin, b_Tower_begin⟩, k_Tower_begin⟩ := id g_Tower_begin
  obtain ⟨⟨_, G_Tower_resume, b_Tower_resume⟩, k_Tower_resume⟩ := id g_Tower_resume
  refine ok_mk hd sc_Tower_run bd_Tower_run (fun vs H Q X h => ?_) (fun cdv A outer s0 H vs Q X hr h => ?_)
  · obtain ⟨_, _, _, _, _, _, _, rfl, _⟩ := h
    rfl
  obtain ⟨sf, dx, rl, wt, ou, c, Pv, rfl, hc, hnr, ⟨n0, hf⟩, k⟩ := h
  refine ⟨_, (pss_one (ps_while PassesOwn.never (pt_cmpR op_isN1 (pe_fld (pv 0) rfl) pe_non (nomark _)) (pss_cons (ps_set (i := 1) sc_Tower_run.nd rfl (Or.inl rfl) (pe_meth0 (pv 0) (CF.cls (K := K) (n := "Tower") (by decide +kernel)) (CF.me (K := K) (n := "Tower") (m := "begin") (by decide +kernel)) G_Tower_begin (hr.mono (by omega)) b_Tower_begin .nil pass0))
  (pss_one (ps_while PassesOwn.never (PW.pt (pw_and (pt_cmpR op_notN1 (pv 1) pe_non (nomark _)) (pw_and1 (pt_cmpR op_isN1 (pe_fld (pv 0) rfl) pe_non (nomark _))))) (pss_one (ps_set (i := 1) sc_Tower_run.nd rfl (Or.inl rfl) (pe_meth (pv 0) (CF.cls (K := K) (n := "Tower") (by decide +kernel)) (CF.me (K := K) (n := "Tower") (m := "resume") (by decide +kernel)) G_Tower_resume (hr.mono (by omega)) b_Tower_resume .nil pass0 (pa_cons (pv 1) pa_nil))))))))), ?_⟩
  fail "b"
  fail "g"
  refine s_while (fun n σ H1 => ∃ x c, σ = [some (.ref sf), x] ∧ TwC K H1 sf dx rl wt ou c ∧ (∀ v t, c ≠ .rv v t) ∧ FinN Pv n c ∧ M4 sf rl wt ou H H1) n0 ⟨_, c, rfl, hc, hnr, hf, M4.refl⟩ ?_
  rintro n σ H1 ⟨x, c, rfl, hc, hnr, hf, m1⟩
  cases c with
  | rv v t => exact absurd rfl (hnr v t)
  | xx v t =>
    have hp := hf.xx
    have hc0 := hc
    obtain ⟨ve, st, b, m, hs, L, hm⟩ := hc
    fail "g"
    exact k v t _ hc0 hp m1
  | bg e s b t =>
    obtain ⟨n1, c1, rfl, hst, hf1⟩ := hf.bg
    obtain ⟨ve, st, hs, he, hse, L⟩ := hc
    fail "g"
    refine ⟨sf, dx, ve, st, b, rl, wt, ou, t, e, s, c1, rfl, hs, L, he, hse, hst, fun v H2 r2 c2 m2 => ?_⟩
    fail "g"
    refine s_while (fun n σ H3 => ∃ v c, σ = [some (.ref sf), some v] ∧ TwC K H3 sf dx rl wt ou c ∧ RetAt K H3 v c ∧ FinN Pv n c ∧ n ≤ n1 ∧ M4 sf rl wt ou H1 H3) n1 ⟨v, c1, rfl, c2, r2, hf1, Nat.le_refl _, m2⟩ ?_
    rintro n3 σ H3 ⟨v3, c3, rfl, hc3, r3, hf3, hn3, m3⟩
    cases c3 with
    | bg e3 s3 b3 t3 =>
      obtain rfl : v3 = .non := r3
      fail "g"
      exact ⟨n3, by omega, _, _, rfl, hc3, (fun _ _ h => by cases h), hf3, m1.trans m3⟩
    | xx v4 t3 =>
      obtain rfl : v3 = .non := r3
      fail "g"
      exact ⟨n3, by omega, _, _, rfl, hc3, (fun _ _ h => by cases h), hf3, m1.trans m3⟩
    | rv a t3 =>
      obtain ⟨n4, c4, rfl, hst4, hf4⟩ := hf3.rv
      obtain ⟨ve3, st3, b3, hs3, L3⟩ := hc3
      have r3 : VaAt K H3 v3 a := r3
      have hnn : (!decide (v3 = .non)) = true := by
        cases a with
        | int i => cases r3; rfl
        | clo x b ρ => obtain ⟨p, vb, sa, rfl, _⟩ := r3; rfl
      fail "g"
      refine i_t hnn ?_
      fail "g"
      refine ⟨sf, dx, ve3, st3, b3, rl, wt, ou, t3, v3, a, c4, rfl, hs3, L3, r3, hst4, fun v5 H5 r5 c5 m5 => ?_⟩
      fail "g"
      exact ⟨n4, by omega, v5, c4, rfl, c5, r5, hf4, by omega, m3.trans m5⟩
theorem ok_run (hd : Dd K d_run) (g_Tower_init : Ok P w K mg base 3 d_Tower_init ["self", "program", "fuel"] (spTwI K)) (g_Tower_run : Ok P w K mg base 8 d_Tower_run ["self"] (spTwR K)) : Ok P w K mg base 9 d_run ["program", "fuel"] spRun := by
  obtain ⟨⟨_, G_Tower_init, b_Tower_init⟩, k_Tower_init⟩ := id g_Tower_init
  obtain ⟨⟨_, G_Tower_run, b_Tower_run⟩, k_Tower_run⟩ := id g_Tower_run
  refine ok_mk hd sc_run bd_run (fun vs H Q X h => ?_) (fun cdv A outer s0 H vs Q X hr h => ?_)
  · obtain ⟨_, _, _, _, rfl, _⟩ := h
    rfl
  obtain ⟨ve, e, f, Pv, rfl, he, hf, k⟩ := h
  refine ⟨_, (pss_cons (ps_set (i := 2) sc_run.nd rfl (Or.inl rfl) (pe_make (CF.mk (K := K) (by decide +kernel)) G_Tower_init (hr.mono (by omega)) rfl (Tx.gl (K := K) "Tower" (by decide +kernel)) b_Tower_init .nil pass0 (pa_cons (pv 0) (pa_cons (pv 1) pa_nil))))
  (pss_cons (ps_expr (pe_meth0 (pv 2) (CF.cls (K := K) (n := "Tower") (by decide +kernel)) (CF.me (K := K) (n := "Tower") (m := "run") (by decide +kernel)) G_Tower_run (hr.mono (by omega)) b_Tower_run .nil pass0))
  (pss_one (ps_ret (pe_tup (pa_cons (pe_callTy call_tupleOf1 rfl (Tx.fr (K := K) "tuple" (by decide +kernel)) (by decide +kernel) (pa_cons (pe_fld (pv 2) rfl) pa_nil)) (pa_cons (pe_fld (pv 2) rfl) pa_nil))))))), ?_⟩
  fail "b"
  fail "g"
  intro x dx hx hdx hne
  have sm0 : Same H (upd (upd H dx (.own x)) x (.ins (He.ga K "Tower") dx [])) := fun b u hb => by rw [upd_ne (ne_of_none hb hx), upd_ne (ne_of_none hb hdx)]; exact hb
  refine ⟨x, dx, ve, e, f, rfl, upd_same, he.fix (Fix.of_same sm0), fun H1 rl wt ou c1 hrl hwt hou b1 => ⟨rfl, ?_⟩⟩
  obtain ⟨ve1, st1, hs1, _⟩ := id c1
  fail "g"
  refine ⟨x, dx, rl, wt, ou, _, Pv, rfl, c1, (fun _ _ h => by cases h), hf, fun v t H2 c2 hp m2 => ?_⟩
  obtain ⟨ve2, st2, b2, m, hs2, L2, hm⟩ := c2
  obtain ⟨us, hou2, hua⟩ := L2.oa
  fail "g"
  rename_i p3 H3 a3 p4 H4 a4
  have s24 : Same H2 H4 := by kspl_open sm
  refine k p4 v t.o _ ⟨p3, m, us, a4.at_, a4.sm _ _ a3.at_, hua.fix (Fix.of_same s24), s24 _ _ hm⟩ hp fun b u hb => ?_
  have hbx : b ≠ x := ne_of_none hb hx
  have h0 := sm0 _ _ hb
  have h1 := b1 _ _ h0 hbx
  exact s24 _ _ (m2.bt _ _ h1 hbx (ne_of_none h0 hrl) (ne_of_none h0 hwt) (ne_of_none h0 hou))
end
/-! ## Zlb3 -/
open PySem PySem.Spec PyProof.Rows L2
/-! ### depth and size, for the limits -/
def kdX : E → List E
  | .fn _ b => [b] | .call a b => [a, b] | .sum a b => [a, b] | .less a b => [a, b] | .iff c a b => [c, a, b] | .lett _ a b => [a, b] | .say a => [a] | .rule _ r b => [r, b] | .keep _ r => [r] | .withh a => [a] | .do1 a => [a] | .do2 a b => [a, b] | _ => []
def isDo : E → Bool
  | .do1 _ => true | .do2 _ _ => true | _ => false
theorem EsAt.len {H : Hp} {vs : List V} {es : List E} (h : EsAt H vs es) : vs.length = es.length := by
  induction h with
  | nil => rfl
  | cons _ _ i => rw [List.length_cons, List.length_cons, i]
theorem EsAt.fix {H H' : Hp} (f : Fix H H') {vs : List V} {es : List E} (h : EsAt H vs es) : EsAt H' vs es := by
  induction h with
  | nil => exact .nil
  | cons h _ i => exact .cons (h.fix f) i
theorem EsAt.ith {H : Hp} {vs : List V} {es : List E} (h : EsAt H vs es) : ∀ {i : Nat} {v : V}, vs[i]? = some v → ∃ e, e ∈ es ∧ EAt H v e := by
  induction h with
  | nil => intro i a q; cases q
  | cons h _ ih =>
    intro i a q
    cases i with
    | zero => cases q; exact ⟨_, List.mem_cons_self, h⟩
    | succ i => let ⟨e, m, z⟩ := ih q; exact ⟨e, List.mem_cons_of_mem _ m, z⟩
theorem kdX_dp {e x : E} (h : x ∈ kdX e) : x.depth + 1 ≤ e.depth := by
  cases e <;> simp only [kdX, List.mem_cons, List.not_mem_nil, or_false] at h <;> first
    | (rcases h with h | h | h <;> subst h <;> simp only [E.depth] <;> omega)
    | (rcases h with h | h <;> subst h <;> simp only [E.depth] <;> omega)
    | (subst h; simp only [E.depth]; omega)
theorem kdX_len (e : E) : (kdX e).length ≤ 3 := by cases e <;> simp [kdX]
def spInn : Sp := fun vs H Q _ => ∃ (v : V) (e : E), vs = [v] ∧ EAt H v e ∧ (isDo e = true → ∀ p xs H', H' p = some (.tup xs) → EsAt H' xs (kdX e) → Same H H' → Q (.ref p) H') ∧ (isDo e = false → ∀ p xs H', H' p = some (.lst xs) → EsAt H' xs (kdX e) → Same H H' → Q (.ref p) H')
def spDpt (d : Nat) : Sp := fun vs H Q _ => ∃ (v : V) (e : E), vs = [v] ∧ EAt H v e ∧ e.depth ≤ d ∧ ∀ n H', Same H H' → Q (.int n) H'
def spDp : Nat → Sp
  | 0 => spNo
  | d + 1 => spDpt (d + 1)
theorem E.depth_pos (e : E) : 1 ≤ e.depth := by cases e <;> simp only [E.depth] <;> omega
theorem u_dp {d : Nat} {v : V} {e : E} {H : Hp} {Q : VK} {X : XK} (he : EAt H v e) (hd : e.depth ≤ d) (q : ∀ n H', Same H H' → Q (.int n) H') : spDp d ([v] ++ []) H Q X := by
  cases d with
  | zero => have := e.depth_pos; omega
  | succ d => exact ⟨v, e, rfl, he, hd, q⟩
section
variable {P : Program} {w : World} {K : PySem.W.Frag} {mg : Str → Option Value} {base : Heap} [Tx w K mg]
theorem ok_law_inner (hd : Dd K d_law_inner) : Ok P w K mg base 1 d_law_inner ["_law_e"] spInn := by
  refine ok_mk hd sc_law_inner bd_law_inner (fun vs H Q X h => ?_) (fun cdv A outer s0 H vs Q X hr h => ?_)
  · obtain ⟨_, _, rfl, _⟩ := h
    rfl
  obtain ⟨v, e, rfl, he, k1, k2⟩ := h
  refine ⟨_, (pss_cons (ps_if (pt_cmpR op_eq (pe_ix ix_tup (pv 0) pe_int (fun _ _ => rfl)) pe_str (nomark _)) (pss_one (ps_ret (pe_ix ix_tup (pv 0) pe_int (fun _ _ => rfl)))) pss_nil)
  (pss_one (ps_ret (pe_lc (own := [("_law_part", 1)]) (g := (gName 1)) rfl sc_law_inner.nd (pi_tup (pe_slice sl_tup (pv 0) (po_some pe_int) po_none)) (blkOk_by (N := ["_law_e", "_law_part"]) (sc := defScope s_law_inner) (by decide +kernel)) (fun _ _ _ _ _ => pg_name (i := 1) sc_law_inner.nd rfl (Or.inl rfl)) (fun _ _ _ _ _ => pts_one (pt_val (pe_callB (show CallR _ _ (rIsI K) from call_isI) rfl (Tx.fr (K := K) "isinstance" (by decide +kernel)) (by decide +kernel) (pa_cons (pv 1) (pa_cons (pe_bltn (v := .ty "tuple") rfl (Tx.fr (K := K) "tuple" (by decide +kernel)) (by decide +kernel) rfl) pa_nil))))) (fun _ _ _ _ _ => (pv 1)))))), ?_⟩
  fail "b"
  cases he with
  | do1 hp hq ha =>
    fail "g"
    exact k1 rfl _ _ _ (by w_dflts lk) (.cons (by fail "e") .nil) (by kspl_open sm)
  | do2 hp hq ha hb =>
    fail "g"
    exact k1 rfl _ _ _ (by w_dflts lk) (.cons (by fail "e") (.cons (by fail "e") .nil)) (by kspl_open sm)
  | _ =>
    fail "g"
    fail "un"
    fail "g"
    refine k2 rfl _ _ _ (by w_dflts lk) ?_ (by kspl_open sm)
    first
    | exact .nil
    | exact .cons (by fail "e") .nil
    | exact .cons (by fail "e") (.cons (by fail "e") .nil)
    | exact .cons (by fail "e") (.cons (by fail "e") (.cons (by fail "e") .nil))
theorem ok_law_depth1 (hd : Dd K d_law_depth) (g_law_inner : Ok P w K mg base 1 d_law_inner ["_law_e"] spInn) (d k0 : Nat) (hk0 : 1 ≤ k0) (g_law_depth : Ok P w K mg base k0 d_law_depth ["_law_e"] (spDp d)) : Ok P w K mg base (k0 + 1) d_law_depth ["_law_e"] (spDp (d + 1)) := by
  obtain ⟨⟨_, G_law_inner, b_law_inner⟩, k_law_inner⟩ := id g_law_inner
  obtain ⟨⟨_, G_law_depth, b_law_depth⟩, k_law_depth⟩ := id g_law_depth
  refine ok_mk hd sc_law_depth bd_law_depth (fun vs H Q X h => ?_) (fun cdv A outer s0 H vs Q X hr h => ?_)
  · obtain ⟨_, _, rfl, _⟩ := h
    rfl
  obtain ⟨v, e, rfl, he, hdp, k⟩ := h
  have fin : ∀ (l0 : Addr) (H1 H2 H3 : Hp) (D : Addr) (xs : List V) (Q2 : VK) (σ : L2.St), (∀ n H', Same H H' → Q2 (.int n) H') → Same H H1 → H1 l0 = some (.lst [.int 0]) → Same H1 H2 → (H2 D = none) → Same H2 H3 → EsAt H2 xs (kdX e) → (∃ ns : List Int, ns.length = xs.length ∧ H3 D = some (.lst (ns.map V.int))) →
      rCat (.ref l0) (.ref D) H3 fun x H4 => tNil σ H4 fun ys H5 => rMax K (x :: ys) H5 Q2 := fun l0 H1 H2 H3 D xs Q2 σ kk s1 h1 s2 hD s3 hx ⟨ns, hn, h3⟩ => by
    have hl := hx.len
    have hl3 := kdX_len e
    refine s_cat (s3 _ _ (s2 _ _ h1)) h3 (by rw [List.length_map, hn, hl]; exact Nat.le_trans (Nat.add_le_add_left hl3 _) (by decide)) fun l H4 a4 => ?_
    exact ⟨l, 0 :: ns, rfl, SqL.of a4.at_, Nat.succ_pos _, fun m _ _ => kk _ _ (((s1.trans s2).trans s3).trans a4.sm)⟩
  cases hdo : isDo e with
  | true =>
    refine ⟨_, (pss_one (ps_ret (pe_op op_add pe_int (pe_callB (cr_max rfl) rfl (Tx.fr (K := K) "max" (by decide +kernel)) (by decide +kernel) (pa_cons (pe_op op_cat (pe_lst (pa_cons pe_int pa_nil)) (pe_lc (own := [("_law_part", 1)]) (g := (gName 1)) (tt := tYes) rfl sc_law_depth.nd (pi_tup (pe_call G_law_inner (hr.mono (by omega)) rfl (Tx.gl (K := K) "_law_inner" (by decide +kernel)) k_law_inner b_law_inner .nil pass0 (pa_cons (pv 0) pa_nil))) (blkOk_by (N := ["_law_e", "_law_part"]) (sc := defScope s_law_depth) (by decide +kernel)) (fun _ _ _ _ _ => pg_name (i := 1) sc_law_depth.nd rfl (Or.inl rfl)) (fun _ _ _ _ _ => pts_nil) (fun _ _ _ _ _ => (pe_call G_law_depth (hr.mono (by omega)) rfl (Tx.gl (K := K) "_law_depth" (by decide +kernel)) k_law_depth b_law_depth .nil pass0 (pa_cons (pv 1) pa_nil))))) pa_nil))))), ?_⟩
    fail "b"
    fail "g"
    rename_i l0 H1 a1
    refine ⟨v, e, rfl, he.fix a1.fx, fun _ p xs H2 h2 hx2 s2 => ?_, fun h => by rw [hdo] at h; cases h⟩
    fail "g"
    refine s_klcT (p := p) (xs := xs) (fun D i H3 => H2 D = none ∧ Same H2 H3 ∧ ∃ ns : List Int, ns.length = i ∧ H3 D = some (.lst (ns.map V.int))) (fun D H3 a3 => ⟨a3.nw, a3.sm, [], rfl, a3.at_⟩) (fun D i H3 _ ⟨_, s3, _⟩ => SqT.of (s3 _ _ h2)) ?_ ?_
    · rintro D i x H3 hx ⟨n3, s3, ns, hn, h3⟩
      obtain ⟨y, hy, hey⟩ := hx2.ith hx
      have hi := (List.getElem?_eq_some_iff.mp hx).1
      have hl := hx2.len
      have hl3 := kdX_len e
      fail "g"
      refine u_dp (hey.fix (Fix.of_same s3)) (by have := kdX_dp hy; omega) fun n H4 s4 => ?_
      refine s_kapp (s4 _ _ h3) (by rw [List.length_map, hn]; exact Nat.lt_of_lt_of_le (show i < 3 by omega) (by decide)) fun H5 w5 => ?_
      exact ⟨n3, fun b u hb => w5.bt _ _ ((s3.trans s4) _ _ hb) (ne_of_none hb n3), ns ++ [n], by rw [List.length_append, hn]; rfl, by rw [List.map_append]; exact w5.at_⟩
    · rintro D H3 ⟨n3, s3, hns⟩
      refine fin l0 H1 H2 H3 D xs _ _ ?_ a1.sm a1.at_ s2 n3 s3 hx2 hns
      intro n H' s
      fail "g"
      exact k _ _ s
  | false =>
    refine ⟨_, (pss_one (ps_ret (pe_op op_add pe_int (pe_callB (cr_max rfl) rfl (Tx.fr (K := K) "max" (by decide +kernel)) (by decide +kernel) (pa_cons (pe_op op_cat (pe_lst (pa_cons pe_int pa_nil)) (pe_lc (own := [("_law_part", 1)]) (g := (gName 1)) (tt := tYes) rfl sc_law_depth.nd (pi_list (pe_call G_law_inner (hr.mono (by omega)) rfl (Tx.gl (K := K) "_law_inner" (by decide +kernel)) k_law_inner b_law_inner .nil pass0 (pa_cons (pv 0) pa_nil))) (blkOk_by (N := ["_law_e", "_law_part"]) (sc := defScope s_law_depth) (by decide +kernel)) (fun _ _ _ _ _ => pg_name (i := 1) sc_law_depth.nd rfl (Or.inl rfl)) (fun _ _ _ _ _ => pts_nil) (fun _ _ _ _ _ => (pe_call G_law_depth (hr.mono (by omega)) rfl (Tx.gl (K := K) "_law_depth" (by decide +kernel)) k_law_depth b_law_depth .nil pass0 (pa_cons (pv 1) pa_nil))))) pa_nil))))), ?_⟩
    fail "b"
    fail "g"
    rename_i l0 H1 a1
    refine ⟨v, e, rfl, he.fix a1.fx, (fun h => by rw [hdo] at h; cases h), fun _ p xs H2 h2 hx2 s2 => ?_⟩
    fail "g"
    refine s_klcL (p := p) (xs := xs) (fun D i H3 => H2 D = none ∧ Same H2 H3 ∧ ∃ ns : List Int, ns.length = i ∧ H3 D = some (.lst (ns.map V.int))) (fun D H3 a3 => ⟨a3.nw, a3.sm, [], rfl, a3.at_⟩) (fun D i H3 _ ⟨_, s3, _⟩ => SqL.of (s3 _ _ h2)) ?_ ?_
    · rintro D i x H3 hx ⟨n3, s3, ns, hn, h3⟩
      obtain ⟨y, hy, hey⟩ := hx2.ith hx
      have hi := (List.getElem?_eq_some_iff.mp hx).1
      have hl := hx2.len
      have hl3 := kdX_len e
      fail "g"
      refine u_dp (hey.fix (Fix.of_same s3)) (by have := kdX_dp hy; omega) fun n H4 s4 => ?_
      refine s_kapp (s4 _ _ h3) (by rw [List.length_map, hn]; exact Nat.lt_of_lt_of_le (show i < 3 by omega) (by decide)) fun H5 w5 => ?_
      exact ⟨n3, fun b u hb => w5.bt _ _ ((s3.trans s4) _ _ hb) (ne_of_none hb n3), ns ++ [n], by rw [List.length_append, hn]; rfl, by rw [List.map_append]; exact w5.at_⟩
    · rintro D H3 ⟨n3, s3, hns⟩
      refine fin l0 H1 H2 H3 D xs _ _ ?_ a1.sm a1.at_ s2 n3 s3 hx2 hns
      intro n H' s
      fail "g"
      exact k _ _ s
theorem ok_law_size1 (hd : Dd K d_law_size) (g_law_inner : Ok P w K mg base 1 d_law_inner ["_law_e"] spInn) (d k0 : Nat) (hk0 : 1 ≤ k0) (g_law_size : Ok P w K mg base k0 d_law_size ["_law_e"] (spDp d)) : Ok P w K mg base (k0 + 1) d_law_size ["_law_e"] (spDp (d + 1)) := by
  obtain ⟨⟨_, G_law_inner, b_law_inner⟩, k_law_inner⟩ := id g_law_inner
  obtain ⟨⟨_, G_law_size, b_law_size⟩, k_law_size⟩ := id g_law_size
  refine ok_mk hd sc_law_size bd_law_size (fun vs H Q X h => ?_) (fun cdv A outer s0 H vs Q X hr h => ?_)
  · obtain ⟨_, _, rfl, _⟩ := h
    rfl
  obtain ⟨v, e, rfl, he, hdp, k⟩ := h
  cases hdo : isDo e with
  | true =>
    refine ⟨_, (pss_one (ps_ret (pe_op op_add pe_int (pe_callB (cr_sum rfl) rfl (Tx.fr (K := K) "sum" (by decide +kernel)) (by decide +kernel) (pa_cons (pe_lc (own := [("_law_part", 1)]) (g := (gName 1)) (tt := tYes) rfl sc_law_size.nd (pi_tup (pe_call G_law_inner (hr.mono (by omega)) rfl (Tx.gl (K := K) "_law_inner" (by decide +kernel)) k_law_inner b_law_inner .nil pass0 (pa_cons (pv 0) pa_nil))) (blkOk_by (N := ["_law_e", "_law_part"]) (sc := defScope s_law_size) (by decide +kernel)) (fun _ _ _ _ _ => pg_name (i := 1) sc_law_size.nd rfl (Or.inl rfl)) (fun _ _ _ _ _ => pts_nil) (fun _ _ _ _ _ => (pe_call G_law_size (hr.mono (by omega)) rfl (Tx.gl (K := K) "_law_size" (by decide +kernel)) k_law_size b_law_size .nil pass0 (pa_cons (pv 1) pa_nil)))) pa_nil))))), ?_⟩
    fail "b"
    fail "g"
    refine ⟨v, e, rfl, he, fun _ p xs H2 h2 hx2 s2 => ?_, fun h => by rw [hdo] at h; cases h⟩
    fail "g"
    refine s_klcT (p := p) (xs := xs) (fun D i H3 => H2 D = none ∧ Same H2 H3 ∧ ∃ ns : List Int, ns.length = i ∧ H3 D = some (.lst (ns.map V.int))) (fun D H3 a3 => ⟨a3.nw, a3.sm, [], rfl, a3.at_⟩) (fun D i H3 _ ⟨_, s3, _⟩ => SqT.of (s3 _ _ h2)) ?_ ?_
    · rintro D i x H3 hx ⟨n3, s3, ns, hn, h3⟩
      obtain ⟨y, hy, hey⟩ := hx2.ith hx
      have hi := (List.getElem?_eq_some_iff.mp hx).1
      have hl := hx2.len
      have hl3 := kdX_len e
      fail "g"
      refine u_dp (hey.fix (Fix.of_same s3)) (by have := kdX_dp hy; omega) fun n H4 s4 => ?_
      refine s_kapp (s4 _ _ h3) (by rw [List.length_map, hn]; exact Nat.lt_of_lt_of_le (show i < 3 by omega) (by decide)) fun H5 w5 => ?_
      exact ⟨n3, fun b u hb => w5.bt _ _ ((s3.trans s4) _ _ hb) (ne_of_none hb n3), ns ++ [n], by rw [List.length_append, hn]; rfl, by rw [List.map_append]; exact w5.at_⟩
    · rintro D H3 ⟨n3, s3, ns, hn, h3⟩
      refine ⟨D, ns, rfl, SqL.of h3, ?_⟩
      fail "g"
      exact k _ _ (s2.trans s3)
  | false =>
    refine ⟨_, (pss_one (ps_ret (pe_op op_add pe_int (pe_callB (cr_sum rfl) rfl (Tx.fr (K := K) "sum" (by decide +kernel)) (by decide +kernel) (pa_cons (pe_lc (own := [("_law_part", 1)]) (g := (gName 1)) (tt := tYes) rfl sc_law_size.nd (pi_list (pe_call G_law_inner (hr.mono (by omega)) rfl (Tx.gl (K := K) "_law_inner" (by decide +kernel)) k_law_inner b_law_inner .nil pass0 (pa_cons (pv 0) pa_nil))) (blkOk_by (N := ["_law_e", "_law_part"]) (sc := defScope s_law_size) (by decide +kernel)) (fun _ _ _ _ _ => pg_name (i := 1) sc_law_size.nd rfl (Or.inl rfl)) (fun _ _ _ _ _ => pts_nil) (fun _ _ _ _ _ => (pe_call G_law_size (hr.mono (by omega)) rfl (Tx.gl (K := K) "_law_size" (by decide +kernel)) k_law_size b_law_size .nil pass0 (pa_cons (pv 1) pa_nil)))) pa_nil))))), ?_⟩
    fail "b"
    fail "g"
    refine ⟨v, e, rfl, he, (fun h => by rw [hdo] at h; cases h), fun _ p xs H2 h2 hx2 s2 => ?_⟩
    fail "g"
    refine s_klcL (p := p) (xs := xs) (fun D i H3 => H2 D = none ∧ Same H2 H3 ∧ ∃ ns : List Int, ns.length = i ∧ H3 D = some (.lst (ns.map V.int))) (fun D H3 a3 => ⟨a3.nw, a3.sm, [], rfl, a3.at_⟩) (fun D i H3 _ ⟨_, s3, _⟩ => SqL.of (s3 _ _ h2)) ?_ ?_
    · rintro D i x H3 hx ⟨n3, s3, ns, hn, h3⟩
      obtain ⟨y, hy, hey⟩ := hx2.ith hx
      have hi := (List.getElem?_eq_some_iff.mp hx).1
      have hl := hx2.len
      have hl3 := kdX_len e
      fail "g"
      refine u_dp (hey.fix (Fix.of_same s3)) (by have := kdX_dp hy; omega) fun n H4 s4 => ?_
      refine s_kapp (s4 _ _ h3) (by rw [List.length_map, hn]; exact Nat.lt_of_lt_of_le (show i < 3 by omega) (by decide)) fun H5 w5 => ?_
      exact ⟨n3, fun b u hb => w5.bt _ _ ((s3.trans s4) _ _ hb) (ne_of_none hb n3), ns ++ [n], by rw [List.length_append, hn]; rfl, by rw [List.map_append]; exact w5.at_⟩
    · rintro D H3 ⟨n3, s3, ns, hn, h3⟩
      refine ⟨D, ns, rfl, SqL.of h3, ?_⟩
      fail "g"
      exact k _ _ (s2.trans s3)
end
/-! ## Zlb4 -/
open PySem PySem.Spec PyProof.Rows L2
def spCold (d : Nat) : Sp := fun vs H Q _ => ∃ (g v : V) (e : E), vs = [g, v, .int 300, .bl false] ∧ EAt H v e ∧ Wf [] e ∧ e.depth ≤ d ∧ e.size ≤ 300 ∧ d ≤ 900 ∧ ∀ p pl H', QAt H' (.ref p) pl → RenOf [] e pl → Same H H' → Q (.ref p) H'
def spIdn : Sp := fun vs H Q _ => ∃ (c : Addr) (bud : Int) (vn : V) (kd : Str), vs = [.ref c, .str kd] ∧ CS H c bud vn ∧ kd ∈ kindsL ∧ ∀ p r H', EAt H' (.ref p) r → Idr kd r → r.size ≤ 4 → r.depth ≤ 3 → CS H' c bud vn → Mu c H H' → Q (.ref p) H'
def spLev : Sp := fun vs H Q _ => ∃ (po : Addr) (us : List V) (o : List (Int × Int)), vs = [.ref po] ∧ H po = some (.tup us) ∧ OuAt H us o ∧ (∀ z ∈ o, z.1 = 0) ∧ o.length ≤ 9000 ∧ ∀ l H', H' l = some (.lst us) → Same H H' → Q (.ref l) H'
theorem OuAt.ith {H : Hp} {us : List V} {o : List (Int × Int)} (h : OuAt H us o) : ∀ {i : Nat} {x : V}, us[i]? = some x → ∃ p n m, x = .ref p ∧ H p = some (.tup [.int n, .int m]) ∧ (n, m) ∈ o := by
  induction h with
  | nil => intro i x q; cases q
  | cons h _ ih =>
    intro i x q
    cases i with
    | zero => cases q; exact ⟨_, _, _, rfl, h, List.mem_cons_self⟩
    | succ i => let ⟨p, n, m, a, b, z⟩ := ih q; exact ⟨p, n, m, a, b, List.mem_cons_of_mem _ z⟩
section
variable {P : Program} {w : World} {K : PySem.W.Frag} {mg : Str → Option Value} {base : Heap} [Tx w K mg]
theorem ok_law_collapsed (hd : Dd K d_law_collapsed) (d k0 : Nat) (g_law_noted : Ok P w K mg base k0 d_law_noted ["_law_e", "_law_k", "_law_rules"] (spNt d)) (g_law_made : Ok P w K mg base k0 d_law_made ["_law_e", "_law_k", "_law_env", "_law_about", "_law_rules", "_law_box"] (spMd d)) : Ok P w K mg base (k0 + 1) d_law_collapsed ["_law_c", "_law_program_here", "_law_most", "_law_delayed"] (spCold d) := by
  obtain ⟨⟨_, G_law_noted, b_law_noted⟩, k_law_noted⟩ := id g_law_noted
  obtain ⟨⟨_, G_law_made, b_law_made⟩, k_law_made⟩ := id g_law_made
  refine ok_mk hd sc_law_collapsed bd_law_collapsed (fun vs H Q X h => ?_) (fun cdv A outer s0 H vs Q X hr h => ?_)
  · obtain ⟨_, _, _, rfl, _⟩ := h
    rfl
  obtain ⟨g, v, e, rfl, he, hwf, hdp, hsz, hd9, k⟩ := h
  refine ⟨_, (pss_cons (ps_set (i := 4) sc_law_collapsed.nd rfl (Or.inl rfl) (pe_lst pa_nil))
  (pss_cons (ps_set (i := 5) sc_law_collapsed.nd rfl (Or.inl rfl) (pe_call G_law_noted (hr.mono (by omega)) rfl (Tx.gl (K := K) "_law_noted" (by decide +kernel)) k_law_noted b_law_noted .nil pass0 (pa_cons (pv 1) (pa_cons pe_int (pa_cons (pv 4) pa_nil)))))
  (pss_cons (ps_set (i := 6) sc_law_collapsed.nd rfl (Or.inl rfl) (pe_lst (pa_cons pe_int (pa_cons (pv 2) (pa_cons (pv 3) (pa_cons (pv 0) pa_nil))))))
  (pss_cons (ps_set (i := 7) sc_law_collapsed.nd rfl (Or.inl rfl) (pe_call G_law_made (hr.mono (by omega)) rfl (Tx.gl (K := K) "_law_made" (by decide +kernel)) k_law_made b_law_made .nil pass0 (pa_cons (pv 5) (pa_cons pe_int (pa_cons pe_dnewK (pa_cons pe_non (pa_cons (pv 4) (pa_cons (pv 6) pa_nil))))))))
  (pss_cons (ps_if (pt_cmpR op_lt (pe_ix ix_list (pv 6) pe_int (fun _ _ => rfl)) pe_int (nomark _)) pss_never pss_nil)
  (pss_one (ps_ret (pv 7)))))))), ?_⟩
  fail "b"
  fail "g"
  rename_i rl H1 a1
  refine u_noted (e := e) (he.fix a1.fx) hwf hdp fun p2 H2 he2 s2 => ?_
  fail "g"
  rename_i bx H3 a3 ev H4 a4
  have hne : rl ≠ bx := ne_of_none (s2 _ _ a1.at_) a3.nw
  refine u_made (d := d) (e := e) (ρ := []) (n := 0) (m := 300) ⟨by w_dflts lk, by w_dflts lk, hne, by fail "e", hwf, hdp, ⟨_, [], rfl, by w_dflts lk, EnvR.nil⟩, (fun p hp => by cases hp), by omega, by omega, by simp only [List.length_nil]; omega⟩ (by omega) fun p5 pl n5 H5 z5 => ?_
  have h5 := z5.bxh
  fail "g"
  refine i_f (decide_eq_false (by omega)) ?_
  fail "g"
  refine k _ pl _ z5.qq z5.rn fun b u hb => ?_
  have hb2 : H2 b = some u := s2 _ _ (a1.sm _ _ hb)
  exact z5.mu.bt _ _ (a4.sm _ _ (a3.sm _ _ hb2)) (ne_of_none hb2 a3.nw)
theorem ok_law_level (hd : Dd K d_law_level) : Ok P w K mg base 1 d_law_level ["_law_outputs"] spLev := by
  refine ok_mk hd sc_law_level bd_law_level (fun vs H Q X h => ?_) (fun cdv A outer s0 H vs Q X hr h => ?_)
  · obtain ⟨_, _, _, rfl, _⟩ := h
    rfl
  obtain ⟨po, us, o, rfl, hpo, hou, ho, hl, k⟩ := h
  have hul := hou.len
  refine ⟨_, (pss_one (ps_ret (pe_lc (own := [("_law_one", 1)]) (g := (gName 1)) rfl sc_law_level.nd (pi_tup (pv 0)) (blkOk_by (N := ["_law_outputs", "_law_one"]) (sc := defScope s_law_level) (by decide +kernel)) (fun _ _ _ _ _ => pg_name (i := 1) sc_law_level.nd rfl (Or.inl rfl)) (fun _ _ _ _ _ => pts_one (pt_cmpR op_eq (pe_ix (show IxR _ (rIxT K) from ix_tup) (pv 1) pe_int (fun _ _ => rfl)) pe_int (nomark _))) (fun _ _ _ _ _ => (pv 1))))), ?_⟩
  fail "b"
  fail "g"
  refine s_klcT (p := po) (xs := us) (fun D i H3 => H D = none ∧ Same H H3 ∧ H3 D = some (.lst (us.take i))) (fun D H3 a3 => ⟨a3.nw, a3.sm, a3.at_⟩) (fun D i H3 _ ⟨_, s3, _⟩ => SqT.of (s3 _ _ hpo)) ?_ ?_
  · rintro D i x H3 hx ⟨n3, s3, h3⟩
    obtain ⟨p, n, m, rfl, hp, hm⟩ := hou.ith hx
    obtain rfl : n = 0 := ho _ hm
    have hp3 := s3 _ _ hp
    have hi := (List.getElem?_eq_some_iff.mp hx).1
    fail "g"
    refine s_kapp h3 (by rw [List.length_take]; exact Nat.lt_of_le_of_lt (Nat.min_le_right _ _) (Nat.lt_of_le_of_lt (by omega : us.length ≤ 9000) (by decide))) fun H5 w5 => ?_
    refine ⟨n3, fun b u hb => w5.bt _ _ (s3 _ _ hb) (ne_of_none hb n3), ?_⟩
    rw [w5.at_, List.take_add_one, hx]
    rfl
  · rintro D H3 ⟨n3, s3, h3⟩
    rw [List.take_length] at h3
    fail "g"
    exact k _ _ h3 s3
theorem ok_law_identity (hd : Dd K d_law_identity) (g_law_take : Ok P w K mg base 2 d_law_take ["_law_c", "_law_many"] spTake) : Ok P w K mg base 3 d_law_identity ["_law_c", "_law_kind"] spIdn := by
  obtain ⟨⟨_, G_law_take, b_law_take⟩, k_law_take⟩ := id g_law_take
  refine ok_mk hd sc_law_identity bd_law_identity (fun vs H Q X h => ?_) (fun cdv A outer s0 H vs Q X hr h => ?_)
  · obtain ⟨_, _, _, _, rfl, _⟩ := h
    rfl
  obtain ⟨c, bud, vn, kd, rfl, hc, hk, k⟩ := h
  refine ⟨_, (pss_cons (ps_set (i := 2) sc_law_identity.nd rfl (Or.inl rfl) (pe_call G_law_take (hr.mono (by omega)) rfl (Tx.gl (K := K) "_law_take" (by decide +kernel)) k_law_take b_law_take .nil pass0 (pa_cons (pv 0) (pa_cons pe_int pa_nil))))
  (pss_cons (ps_if (PW.pt (pw_and (pt_cmpR op_eq (pv 2) pe_int (nomark _)) (pw_and1 (pt_cmpR op_in_seq (pv 1) (pe_lst (pa_cons pe_str (pa_cons pe_str (pa_cons pe_str pa_nil)))) (by with_unfolding_all rfl))))) (pss_one (ps_ret (pe_tup (pa_cons pe_str (pa_cons (pe_tup (pa_cons (pe_tup (pa_cons pe_str (pa_cons pe_int pa_nil))) (pa_cons (pe_tup (pa_cons pe_str (pa_cons pe_int pa_nil))) pa_nil))) pa_nil))))) pss_nil)
  (pss_cons (ps_if (PW.pt (pw_and (pt_cmpR op_eq (pv 2) pe_int (nomark _)) (pw_and1 (pt_cmpR op_eq (pv 1) pe_str (nomark _))))) (pss_one (ps_ret (pe_tup (pa_cons pe_str (pa_cons (pe_tup (pa_cons (pe_tup (pa_cons pe_str (pa_cons pe_int pa_nil))) pa_nil)) pa_nil))))) pss_nil)
  (pss_cons (ps_if (PW.pt (pw_and (pt_cmpR op_eq (pv 2) pe_int (nomark _)) (pw_and1 (pt_cmpR op_eq (pv 1) pe_str (nomark _))))) (pss_one (ps_ret (pe_tup (pa_cons pe_str (pa_cons (pe_tup (pa_cons pe_str (pa_cons pe_int pa_nil))) pa_nil))))) pss_nil)
  (pss_cons (ps_if (PW.pt (pw_and (pt_cmpR op_eq (pv 2) pe_int (nomark _)) (pw_and1 (pt_cmpR op_eq (pv 1) pe_str (nomark _))))) (pss_one (ps_ret (pe_tup (pa_cons pe_str (pa_cons (pe_tup (pa_cons pe_str (pa_cons pe_int pa_nil))) (pa_cons (pe_tup (pa_cons pe_str pa_nil)) (pa_cons (pe_tup (pa_cons pe_str (pa_cons pe_int pa_nil))) pa_nil))))))) pss_nil)
  (pss_cons (ps_if (pt_cmpR op_eq (pv 2) pe_int (nomark _)) (pss_one (ps_ret (pe_tup (pa_cons pe_str (pa_cons pe_str (pa_cons (pe_tup (pa_cons pe_str pa_nil)) (pa_cons (pe_tup (pa_cons pe_str (pa_cons pe_str pa_nil))) pa_nil))))))) pss_nil)
  (pss_one (ps_ret (pe_tup (pa_cons pe_str pa_nil)))))))))), ?_⟩
  fail "b"
  fail "g"
  refine u_take hc (by decide) (by decide) fun r1 H1 l1 u1 c1 m1 => ?_
  have fin : ∀ p r H', Same H1 H' → EAt H' (.ref p) r → Idr kd r → r.size ≤ 4 → r.depth ≤ 3 → Q (.ref p) H' := fun p r H' s h1 h2 h3 h4 => k p r H' h1 h2 h3 h4 (c1.sm s) (m1.trans (Mu.of_same s))
  rcases (show r1 = 0 ∨ r1 = 1 ∨ r1 = 2 ∨ r1 = 3 by omega) with rfl | rfl | rfl | rfl
  · have hk := hk
    simp only [kindsL, List.mem_cons, List.not_mem_nil, or_false] at hk
    rcases hk with rfl | rfl | rfl | rfl | rfl | rfl | rfl | rfl | rfl
    · fail "g"
      exact fin _ .usual _ (by kspl_open sm) (by fail "e") .usual (by decide) (by decide)
    · fail "g"
      exact fin _ .usual _ (by kspl_open sm) (by fail "e") .usual (by decide) (by decide)
    · fail "g"
      exact fin _ .usual _ (by kspl_open sm) (by fail "e") .usual (by decide) (by decide)
    · fail "g"
      exact fin _ (.do2 (.part 0) (.part 1)) _ (by kspl_open sm) (by fail "e") (.do2 (.inl rfl)) (by decide) (by decide)
    · fail "g"
      exact fin _ (.do2 (.part 0) (.part 1)) _ (by kspl_open sm) (by fail "e") (.do2 (.inr (.inl rfl))) (by decide) (by decide)
    · fail "g"
      exact fin _ (.do2 (.part 0) (.part 1)) _ (by kspl_open sm) (by fail "e") (.do2 (.inr (.inr rfl))) (by decide) (by decide)
    · fail "g"
      exact fin _ .usual _ (by kspl_open sm) (by fail "e") .usual (by decide) (by decide)
    · fail "g"
      exact fin _ (.withh (.part 0)) _ (by kspl_open sm) (by fail "e") .withh (by decide) (by decide)
    · fail "g"
      exact fin _ (.do1 (.part 0)) _ (by kspl_open sm) (by fail "e") .do1 (by decide) (by decide)
  · by_cases hif : kd = "if"
    · subst hif
      fail "g"
      exact fin _ (.iff (.num 1) .usual (.part 0)) _ (by kspl_open sm) (by fail "e") .iff (by decide) (by decide)
    · have hn : decide (V.str kd = V.str "if") = false := decide_eq_false fun h => hif (by injection h)
      fail "g"
      refine i_f hn ?_
      fail "g"
      exact fin _ .usual _ (by kspl_open sm) (by fail "e") .usual (by decide) (by decide)
  · fail "g"
    exact fin _ (.lett "Vv1" .usual (.name "Vv1")) _ (by kspl_open sm) (by fail "e") .lett (by decide +kernel) (by decide +kernel)
  · fail "g"
    exact fin _ .usual _ (by kspl_open sm) (by fail "e") .usual (by decide) (by decide)
end
/-! ## Zlb5 -/
open PySem PySem.Spec PyProof.Rows L2
/-! ### values of runs as data; runs of programs and of programs within rules -/
def endD : Option Int → PyData
  | none => .tuple [.str "more"] | some n => .tuple [.str "value", .int n]
def outD (o : List (Int × Int)) : List PyData := o.map fun z => .tuple [.int z.1, .int z.2]
theorem strOk_more : PyData.canLay0 (.tuple [.str "more"]) = true := by decide +kernel
theorem strOk_value : PyData.canLay0 (.str "value") = true := by decide +kernel
theorem endD_ok : ∀ v, SeqAt.shaped (endD v) = true
  | none => by decide +kernel
  | some n => by
    have h : PyData.canLay0 (.tuple [.str "value", .int n]) = true := by
      have := strOk_value
      simp only [PyData.canLay0, PyData.canLayAll0] at this ⊢
      rw [this]
      rfl
    unfold SeqAt.shaped endD
    rw [h]
    simp [PyData.depth, PyData.depthAll]
theorem outD_ok (o : List (Int × Int)) : SeqAt.shaped (.list (outD o)) = true := by
  have h : PyData.canLayAll0 (outD o) = true := by
    induction o with
    | nil => rfl
    | cons z r i =>
      show PyData.canLayAll0 (.tuple [.int z.1, .int z.2] :: outD r) = true
      simp only [PyData.canLayAll0, PyData.canLay0, i, Bool.and_true, Bool.and_self]
  have hd : PyData.depthAll (outD o) ≤ 1 := by
    induction o with
    | nil => simp [outD, PyData.depthAll]
    | cons z r i =>
      have i := i (by
        have h' : PyData.canLayAll0 (.tuple [.int z.1, .int z.2] :: outD r) = true := h
        simp only [PyData.canLayAll0, Bool.and_eq_true] at h'
        exact h'.2)
      show PyData.depthAll (.tuple [.int z.1, .int z.2] :: outD r) ≤ 1
      simp only [PyData.depthAll, PyData.depth]
      omega
  unfold SeqAt.shaped
  have h2 : PyData.canLay0 (.list (outD o)) = true := by
    simp only [PyData.canLay0]
    exact h
  rw [h2]
  have h3 : PyData.depth (.list (outD o)) ≤ 64 := by
    simp only [PyData.depth]
    omega
  simp [h3]
theorem eq_more (v : Option Int) : PyData.eqv (endD v) (.tuple [.str "more"]) = decide (v = none) := by
  cases v with
  | none => decide +kernel
  | some n => simp [endD, PyData.eqv, PyData.eqvAll]
theorem eq_same {d : PyData} (h : SeqAt.shaped d = true) : PyData.eqv d d = true := SeqAt.eqv_refl d (SeqAt.canLay_of_shaped h)
section
variable {K : PySem.W.Frag} {H : Hp} {Q : VK}
theorem s_eqD {x y : V} {d e : PyData} (hd : Dp K H x d) (he : Dp K H y e) (sd : SeqAt.shaped d = true) (se : SeqAt.shaped e = true) (q : Q (.bl (PyData.eqv d e)) H) : rEqD K x y H Q := ⟨d, e, hd, he, sd, se, q⟩
theorem dp_end {m : Addr} {v : Option Int} (h : H m = some (.tup (match v with | none => [.str "more"] | some n => [.str "value", .int n]))) : Dp K H (.ref m) (endD v) := by
  cases v with
  | none => exact .tup (SqT.of h) (.cons (.str _) .nil)
  | some n => exact .tup (SqT.of h) (.cons (.str _) (.cons (.int _) .nil))
theorem dp_more {m : Addr} (h : H m = some (.tup [.str "more"])) : Dp K H (.ref m) (.tuple [.str "more"]) := .tup (SqT.of h) (.cons (.str _) .nil)
theorem dp_outs {us : List V} {o : List (Int × Int)} (h : OuAt H us o) : DpAll K H us (outD o) := by
  induction h with
  | nil => exact .nil
  | cons h _ i => exact .cons (.tup (SqT.of h) (.cons (.int _) (.cons (.int _) .nil))) i
theorem dp_lst {l : Addr} {us : List V} {o : List (Int × Int)} (hl : H l = some (.lst us)) (h : OuAt H us o) : Dp K H (.ref l) (.list (outD o)) := .lst (SqL.of hl) (dp_outs h)
end
/-- a run ends for more fuel, or as it is due -/
def PvOf (v : Int) (o : List (Int × Int)) : PV := fun x os => x = none ∨ (x = some v ∧ os = o)
theorem Ev.ext {ρ : List (Str × Int)} {e : E} {v : Int} {o : List (Int × Int)} (h : Ev ρ e v o) : ∀ ρ' : List (Str × Int), (∀ x w, ρ.lookup x = some w → ρ'.lookup x = some w) → Ev ρ' e v o := by
  have up : ∀ {ρ ρ' : List (Str × Int)} (x : Str) (va : Int), (∀ y w, ρ.lookup y = some w → ρ'.lookup y = some w) → ∀ y w, ((x, va) :: ρ).lookup y = some w → ((x, va) :: ρ').lookup y = some w := fun x va h y w q => by
    rw [lookup_cons'] at q ⊢
    by_cases z : y = x
    · rw [if_pos z] at q ⊢
      exact q
    · rw [if_neg z] at q ⊢
      exact h y w q
  induction h with
  | num n => exact fun ρ' _ => .num n
  | name h => exact fun ρ' r => .name (r _ _ h)
  | app _ _ i j => exact fun ρ' r => .app (i ρ' r) (j _ (up _ _ r))
  | sum _ _ i j => exact fun ρ' r => .sum (i ρ' r) (j ρ' r)
  | less _ _ i j => exact fun ρ' r => .less (i ρ' r) (j ρ' r)
  | iff _ _ i j => exact fun ρ' r => .iff (i ρ' r) (j ρ' r)
  | lett _ _ i j => exact fun ρ' r => .lett (i ρ' r) (j _ (up _ _ r))
  | say _ i => exact fun ρ' r => .say (i ρ' r)
theorem Ev.zero {ρ : List (Str × Int)} {e : E} {v : Int} {o : List (Int × Int)} (h : Ev ρ e v o) : ∀ z ∈ o, z.1 = 0 := by
  induction h with
  | num n => intro z hz; cases hz
  | name h => intro z hz; cases hz
  | say _ i =>
    intro z hz
    rcases List.mem_append.mp hz with q | q
    · exact i z q
    · rw [List.mem_singleton.mp q]
  | app _ _ i j => intro z hz; exact (List.mem_append.mp hz).elim (i z) (j z)
  | sum _ _ i j => intro z hz; exact (List.mem_append.mp hz).elim (i z) (j z)
  | less _ _ i j => intro z hz; exact (List.mem_append.mp hz).elim (i z) (j z)
  | iff _ _ i j => intro z hz; exact (List.mem_append.mp hz).elim (i z) (j z)
  | lett _ _ i j => intro z hz; exact (List.mem_append.mp hz).elim (i z) (j z)
/-- a program within rules, behind keeps -/
inductive Wrp (e : E) : Nat → E → Prop where
  | base : Wrp e 0 e
  | rule {i k r c} : Idr k r → r.size ≤ 4 → r.depth ≤ 3 → Wrp e i c → Wrp e (i + 1) (.rule k r c)
  | keep {i k r c} : Idr k r → r.size ≤ 4 → r.depth ≤ 3 → Wrp e i c → Wrp e (i + 1) (.lett "k" (.keep k r) c)
theorem Wrp.size {e c : E} {i : Nat} (h : Wrp e i c) : c.size ≤ e.size + 6 * i := by
  induction h with
  | base => omega
  | rule _ h _ _ i => simp only [E.size]; omega
  | keep _ h _ _ i => simp only [E.size]; omega
theorem Wrp.depth {e c : E} {i : Nat} (h : Wrp e i c) : c.depth ≤ e.depth + 4 + i := by
  induction h with
  | base => omega
  | rule _ _ h _ i => simp only [E.depth]; omega
  | keep _ _ h _ i => simp only [E.depth]; omega
theorem Wrp.good {e c : E} {i : Nat} {v : Int} {o : List (Int × Int)} (he : Ev [] e v o) (h : Wrp e i c) : ∀ ρ, GoodW (PvOf v o) c ρ v o := by
  have hP : ∀ o', PvOf v o none o' := fun _ => .inl rfl
  induction h with
  | base => exact fun ρ => goodW_of hP ((he.ext ρ (fun x w h => by cases h)).good hP)
  | rule hr _ _ _ i => exact fun ρ => goodW_rule hP hr (i ρ)
  | keep hr _ _ _ i => exact fun ρ => goodW_keep hP hr (i _)
theorem Wrp.fin {e c : E} {i : Nat} {v : Int} {o : List (Int × Int)} (he : Ev [] e v o) (h : Wrp e i c) (hs : e.size + 6 * i ≤ 1000) (f : Nat) : Fin (PvOf v o) (.bg c (.s0 []) false (t0 f)) := by
  have hz := h.size
  refine h.good he [] (t0 f) ⟨(fun k r q => by cases q), ?_, ?_, ?_, ?_⟩ fun t' h1 h2 h3 h4 => ?_
  · show 0 + _ ≤ _
    omega
  · show 0 + _ ≤ _
    omega
  · show 0 + _ ≤ _
    omega
  · show 0 + _ ≤ _
    omega
  · exact .step (.fin h2) ⟨0, .done (.inr ⟨rfl, h3⟩)⟩
/-! ## Zlb6 -/
open PySem PySem.Spec PyProof.Rows L2
def spLaw (K : PySem.W.Frag) : Sp := fun vs H Q _ => ∃ (a : Addr) (ns : List Int), vs = [.ref a] ∧ SqL K H a (ns.map V.int) ∧ ns.length ≤ 63 ∧ ∀ H', Q (.bl true) H'
theorem at_kind {r : Int} (h0 : 0 ≤ r) (h1 : r < 9) : ∃ kd, atI kindsV r = some (.str kd) ∧ kd ∈ kindsL := by
  rcases (show r = 0 ∨ r = 1 ∨ r = 2 ∨ r = 3 ∨ r = 4 ∨ r = 5 ∨ r = 6 ∨ r = 7 ∨ r = 8 by omega) with rfl | rfl | rfl | rfl | rfl | rfl | rfl | rfl | rfl <;> exact ⟨_, rfl, by simp [kindsL]⟩
theorem fn_mk {P : Program} {w : World} {K : PySem.W.Frag} {mg : Str → Option Value} {base : Heap} {k : Nat} {d : He.DefD} {N ps : List Str} {sp : Sp} {fd : FuncData} (F : FunD K d.name d.qual d.params d.body d.scope [] [] (He.fAd K d.at_) fd) (S : FnScope N ps d.scope)
    (len : ∀ vs H Q E, sp vs H Q E → vs.length = ps.length)
    (hbody : ∀ (cdv : Value) (A : Around) (outer : List Env) (s : Shared) (H : Hp) (vs : List V) (Q : VK) (E : XK), Room k (A.deeper (envOfC d.qual d.scope s.heap.objs.size (He.fAd K d.at_) cdv)) → sp vs H Q E →
      ∃ t, PSs (cxOf CX0 P w K mg base N d.qual d.scope (He.fAd K d.at_) cdv A outer s H E).nox d.body t ∧ t { nx := fun _ H' => Q .non H', rt := Q } (start N vs) H) : FnOk P w K mg base CX0 (k + 1) (He.fAd K d.at_) fd ps sp :=
  F.ok S len fun cdv A outer s H vs Q E hr hsp => let ⟨t, ht, hq⟩ := hbody cdv A outer s H vs Q E hr hsp; ⟨t, PSs.nox ht, hq⟩
section
variable {P : Program} {w : World} {K : PySem.W.Frag} {mg : Str → Option Value} {base : Heap} [Tx w K mg]
theorem ok_law {fd : FuncData} (F : FunD K d_law.name d_law.qual d_law.params d_law.body d_law.scope [] [] (He.fAd K d_law.at_) fd) (g_law_start : Ok P w K mg base 60 d_law_start ["_law_script"] (spStart K)) (g_law_names : Ok P w K mg base 60 d_law_names ["_law_c"] spNames) (g_law_take : Ok P w K mg base 60 d_law_take ["_law_c", "_law_many"] spTake) (g_law_kinds : Ok P w K mg base 60 d_law_kinds [] spKinds)
    (g_law_plainly : Ok P w K mg base 60 d_law_plainly ["_law_c", "_law_names_here", "_law_depth_here"] (spPl 7)) (g_law_collapsed : Ok P w K mg base 60 d_law_collapsed ["_law_c", "_law_program_here", "_law_most", "_law_delayed"] (spCold 13)) (g_collapse : Ok P w K mg base 60 d_collapse ["program"] (spColl 13)) (g_is_collapse : Ok P w K mg base 60 d_is_collapse ["program", "plain"] spIsC)
    (g_plain_size : Ok P w K mg base 60 d_plain_size ["plain"] spPsz) (g_run : Ok P w K mg base 60 d_run ["program", "fuel"] spRun) (g_law_identity : Ok P w K mg base 60 d_law_identity ["_law_c", "_law_kind"] spIdn) (g_law_depth : Ok P w K mg base 60 d_law_depth ["_law_e"] (spDp 24)) (g_law_size : Ok P w K mg base 60 d_law_size ["_law_e"] (spDp 24))
    (g_law_level : Ok P w K mg base 60 d_law_level ["_law_outputs"] spLev) : FnOk P w K mg base CX0 61 (He.fAd K d_law.at_) fd ["_law_script"] (spLaw K) := by
  obtain ⟨⟨_, G_law_start, b_law_start⟩, k_law_start⟩ := id g_law_start
  obtain ⟨⟨_, G_law_names, b_law_names⟩, k_law_names⟩ := id g_law_names
  obtain ⟨⟨_, G_law_take, b_law_take⟩, k_law_take⟩ := id g_law_take
  obtain ⟨⟨_, G_law_kinds, b_law_kinds⟩, k_law_kinds⟩ := id g_law_kinds
  obtain ⟨⟨_, G_law_plainly, b_law_plainly⟩, k_law_plainly⟩ := id g_law_plainly
  obtain ⟨⟨_, G_law_collapsed, b_law_collapsed⟩, k_law_collapsed⟩ := id g_law_collapsed
  obtain ⟨⟨_, G_collapse, b_collapse⟩, k_collapse⟩ := id g_collapse
  obtain ⟨⟨_, G_is_collapse, b_is_collapse⟩, k_is_collapse⟩ := id g_is_collapse
  obtain ⟨⟨_, G_plain_size, b_plain_size⟩, k_plain_size⟩ := id g_plain_size
  obtain ⟨⟨_, G_run, b_run⟩, k_run⟩ := id g_run
  obtain ⟨⟨_, G_law_identity, b_law_identity⟩, k_law_identity⟩ := id g_law_identity
  obtain ⟨⟨_, G_law_depth, b_law_depth⟩, k_law_depth⟩ := id g_law_depth
  obtain ⟨⟨_, G_law_size, b_law_size⟩, k_law_size⟩ := id g_law_size
  obtain ⟨⟨_, G_law_level, b_law_level⟩, k_law_level⟩ := id g_law_level
  refine fn_mk F sc_law (fun vs H Q X h => ?_) (fun cdv A outer s0 H vs Q X hr h => ?_)
  · obtain ⟨_, _, rfl, _⟩ := h
    rfl
  obtain ⟨a, ns, rfl, hS, hl, k⟩ := h
  refine ⟨_, (pss_cons (ps_set (i := 1) sc_law.nd rfl (Or.inl rfl) (pe_call G_law_start (hr.mono (by omega)) rfl (Tx.gl (K := K) "_law_start" (by decide +kernel)) k_law_start b_law_start .nil pass0 (pa_cons (pv 0) pa_nil)))
  (pss_cons (ps_asg (pe_call G_law_names (hr.mono (by omega)) rfl (Tx.gl (K := K) "_law_names" (by decide +kernel)) k_law_names b_law_names .nil pass0 (pa_cons (pv 1) pa_nil)) (pg_sub (pv 1) pe_int set_list))
  (pss_cons (ps_asg (pe_op op_add pe_int (pe_call G_law_take (hr.mono (by omega)) rfl (Tx.gl (K := K) "_law_take" (by decide +kernel)) k_law_take b_law_take .nil pass0 (pa_cons (pv 1) (pa_cons pe_int pa_nil)))) (pg_sub (pv 1) pe_int set_list))
  (pss_cons (ps_set (i := 2) sc_law.nd rfl (Or.inl rfl) (pe_call G_law_plainly (hr.mono (by omega)) rfl (Tx.gl (K := K) "_law_plainly" (by decide +kernel)) k_law_plainly b_law_plainly .nil pass0 (pa_cons (pv 1) (pa_cons (pe_lst pa_nil) (pa_cons pe_int pa_nil)))))
  (pss_cons (ps_set (i := 3) sc_law.nd rfl (Or.inl rfl) (pe_call G_law_collapsed (hr.mono (by omega)) rfl (Tx.gl (K := K) "_law_collapsed" (by decide +kernel)) k_law_collapsed b_law_collapsed .nil pass0 (pa_cons (pv 1) (pa_cons (pv 2) (pa_cons pe_int (pa_cons pe_bl pa_nil))))))
  (pss_cons (ps_set (i := 4) sc_law.nd rfl (Or.inl rfl) (pe_call G_collapse (hr.mono (by omega)) rfl (Tx.gl (K := K) "collapse" (by decide +kernel)) k_collapse b_collapse .nil pass0 (pa_cons (pv 2) pa_nil)))
  (pss_cons (ps_if (PW.pt (pw_or (pt_cmpR op_isN1 (pv 3) pe_non (nomark _)) (pw_or (pt_cmpR op_isnot_bl (pe_call G_is_collapse (hr.mono (by omega)) rfl (Tx.gl (K := K) "is_collapse" (by decide +kernel)) k_is_collapse b_is_collapse .nil pass0 (pa_cons (pv 2) (pa_cons (pv 3) pa_nil))) pe_bl (nomark _)) (pw_or1 (pt_cmpR op_ne (pe_call G_plain_size (hr.mono (by omega)) rfl (Tx.gl (K := K) "plain_size" (by decide +kernel)) k_plain_size b_plain_size .nil pass0 (pa_cons (pv 4) pa_nil)) (pe_call G_plain_size (hr.mono (by omega)) rfl (Tx.gl (K := K) "plain_size" (by decide +kernel)) k_plain_size b_plain_size .nil pass0 (pa_cons (pv 3) pa_nil)) (nomark _)))))) pss_never pss_nil)
  (pss_cons (ps_set (i := 5) sc_law.nd rfl (Or.inl rfl) (pe_call G_run (hr.mono (by omega)) rfl (Tx.gl (K := K) "run" (by decide +kernel)) k_run b_run .nil pass0 (pa_cons (pv 2) (pa_cons pe_int pa_nil))))
  (pss_cons (ps_set (i := 6) sc_law.nd rfl (Or.inl rfl) (pv 2))
  (pss_cons (ps_for PassesOwn.never rfl (pi_range1 rfl (Tx.fr (K := K) "range" (by decide +kernel)) (pa_cons (pe_call G_law_take (hr.mono (by omega)) rfl (Tx.gl (K := K) "_law_take" (by decide +kernel)) k_law_take b_law_take .nil pass0 (pa_cons (pv 1) (pa_cons pe_int pa_nil))) pa_nil)) (pg_name (i := 7) sc_law.nd rfl (Or.inl rfl))
  (pss_cons (ps_set (i := 8) sc_law.nd rfl (Or.inl rfl) (pe_ix ix_list (pe_call0 G_law_kinds (hr.mono (by omega)) rfl (Tx.gl (K := K) "_law_kinds" (by decide +kernel)) k_law_kinds b_law_kinds .nil pass0) (pe_call G_law_take (hr.mono (by omega)) rfl (Tx.gl (K := K) "_law_take" (by decide +kernel)) k_law_take b_law_take .nil pass0 (pa_cons (pv 1) (pa_cons pe_int pa_nil))) (fun _ _ => rfl)))
  (pss_cons (ps_set (i := 9) sc_law.nd rfl (Or.inl rfl) (pe_call G_law_identity (hr.mono (by omega)) rfl (Tx.gl (K := K) "_law_identity" (by decide +kernel)) k_law_identity b_law_identity .nil pass0 (pa_cons (pv 1) (pa_cons (pv 8) pa_nil))))
  (pss_one (ps_if (pt_cmpR op_eq (pe_call G_law_take (hr.mono (by omega)) rfl (Tx.gl (K := K) "_law_take" (by decide +kernel)) k_law_take b_law_take .nil pass0 (pa_cons (pv 1) (pa_cons pe_int pa_nil))) pe_int (nomark _)) (pss_one (ps_set (i := 6) sc_law.nd rfl (Or.inl rfl) (pe_tup (pa_cons pe_str (pa_cons (pv 8) (pa_cons (pv 9) (pa_cons (pv 6) pa_nil))))))) (pss_one (ps_set (i := 6) sc_law.nd rfl (Or.inl rfl) (pe_tup (pa_cons pe_str (pa_cons pe_str (pa_cons (pe_tup (pa_cons pe_str (pa_cons (pv 8) (pa_cons (pv 9) pa_nil)))) (pa_cons (pv 6) pa_nil))))))))))))
  (pss_cons (ps_if (PW.pt (pw_or (pt_cmpR op_gt (pe_call G_law_depth (hr.mono (by omega)) rfl (Tx.gl (K := K) "_law_depth" (by decide +kernel)) k_law_depth b_law_depth .nil pass0 (pa_cons (pv 6) pa_nil)) pe_int (nomark _)) (pw_or1 (pt_cmpR op_gt (pe_call G_law_size (hr.mono (by omega)) rfl (Tx.gl (K := K) "_law_size" (by decide +kernel)) k_law_size b_law_size .nil pass0 (pa_cons (pv 6) pa_nil)) pe_int (nomark _))))) (pss_one (ps_ret pe_bl)) pss_nil)
  (pss_cons (ps_set (i := 10) sc_law.nd rfl (Or.inl rfl) (pe_call G_run (hr.mono (by omega)) rfl (Tx.gl (K := K) "run" (by decide +kernel)) k_run b_run .nil pass0 (pa_cons (pv 6) (pa_cons pe_int pa_nil))))
  (pss_cons (ps_if (PW.pt (pw_or (pt_cmpR (op_eqD hr.units) (pe_ix ix_tup (pv 10) pe_int (fun _ _ => rfl)) (pe_tup (pa_cons pe_str pa_nil)) (nomark _)) (pw_or1 (pt_cmpR (op_eqD hr.units) (pe_ix ix_tup (pv 5) pe_int (fun _ _ => rfl)) (pe_tup (pa_cons pe_str pa_nil)) (nomark _))))) (pss_one (ps_ret pe_bl)) pss_nil)
  (pss_one (ps_ret (pe_and (pe_cmpR (op_eqD hr.units) (pe_ix ix_tup (pv 10) pe_int (fun _ _ => rfl)) (pe_ix ix_tup (pv 5) pe_int (fun _ _ => rfl)) (nomark _)) (pe_one (pe_cmpR (op_eqD hr.units) (pe_call G_law_level (hr.mono (by omega)) rfl (Tx.gl (K := K) "_law_level" (by decide +kernel)) k_law_level b_law_level .nil pass0 (pa_cons (pe_ix ix_tup (pv 10) pe_int (fun _ _ => rfl)) pa_nil)) (pe_call G_law_level (hr.mono (by omega)) rfl (Tx.gl (K := K) "_law_level" (by decide +kernel)) k_law_level b_law_level .nil pass0 (pa_cons (pe_ix ix_tup (pv 5) pe_int (fun _ _ => rfl)) pa_nil)) (nomark _))))))))))))))))))), ?_⟩
  fail "b"
  fail "g"
  refine ⟨a, ns, rfl, hS, hl, fun c l0 H1 c1 hcn s1 => ?_⟩
  fail "g"
  refine ⟨c, 20, _, rfl, c1, fun ln names H2 h2 h6 hlc c2 m2 => ?_⟩
  obtain ⟨s, ns2, y1, y2, y3, hc2, hs2, hy, hsc⟩ := id c2
  fail "g"
  rename_i H3 w3
  have c3 : CS H3 c 20 (.ref ln) := ⟨s, ns2, y1, y2, y3, w3.at_, w3.bt _ _ hs2 hsc, hy, hsc⟩
  have h3 := w3.bt _ _ h2 hlc
  fail "g"
  refine u_take c3 (by decide) (by decide) fun r4 H4 l4 u4 c4 m4 => ?_
  have h4 := lk_mu m4 h3 hlc
  obtain ⟨s, ns2, y1, y2, y3, hc4, hs4, hy, hsc⟩ := id c4
  fail "g"
  rename_i H5 w5 l6 H6 a6
  have c5 : CS H5 c (12 + r4) (.ref ln) := ⟨s, ns2, y1, y2, y3, w5.at_, w5.bt _ _ hs4 hsc, hy, hsc⟩
  have h5 := w5.bt _ _ h4 hlc
  refine s_pl (u_plainly (d := 6) (ρ := []) (names := names) (c5.sm a6.sm) (a6.sm _ _ h5) h6 hlc a6.at_ (c5.ne a6) (by decide) (by decide) fun p e bud' H7 he md c7 m7 => ?_)
  have wf : Wf [] e := md.pg.wf
  have hdp : e.depth ≤ 13 := md.dp
  have hsz : e.size ≤ 77 := by
    have h1 := md.sz
    have h2 : 0 ≤ posI bud' := Int.le_max_right _ _
    have h3 : posI (12 + r4) ≤ 19 := Int.max_le.mpr ⟨by omega, by decide⟩
    omega
  obtain ⟨v, o, hev⟩ := md.pg.ev [] (fun x h => by cases h)
  have hol := hev.olen
  have hz := hev.zero
  fail "g"
  refine ⟨.ref c, .ref p, e, rfl, he, wf, hdp, by omega, by decide, fun p8 pl8 H8 q8 rn8 s8 => ?_⟩
  fail "g"
  refine ⟨.ref p, e, rfl, he.fix (Fix.of_same s8), wf, hdp, by omega, by decide, fun p9 pl9 H9 q9 z9 s9 => ?_⟩
  fail "g"
  refine ⟨_, _, e, pl8, rfl, he.fix (Fix.of_same (s8.trans s9)), q8.fix (Fix.of_same s9), rn8, by omega, fun H10 s10 => ?_⟩
  have z8 := rn8.size
  refine ⟨true, true, rfl, rfl, ?_⟩
  fail "g"
  refine ⟨_, pl9, rfl, q9.fix (Fix.of_same s10), by omega, fun H11 s11 => ?_⟩
  fail "g"
  refine ⟨_, pl8, rfl, q8.fix (Fix.of_same ((s9.trans s10).trans s11)), by omega, fun H12 s12 => ?_⟩
  have hpe : (!decide (V.int (pl9.size : Nat) = V.int (pl8.size : Nat))) = false := by
    rw [z9, z8]
    simp
  fail "g"
  refine i_f hpe ?_
  fail "g"
  have s712 : Same H7 H12 := (((s8.trans s9).trans s10).trans s11).trans s12
  refine ⟨.ref p, e, 60, PvOf v o, rfl, he.fix (Fix.of_same s712), Wrp.base.fin hev (by omega) 60, fun p13 v13 o13 H13 ra13 pv13 s13 => ?_⟩
  have s713 := s712.trans s13
  have c13 := c7.sm s713
  fail "g"
  refine s_irng1 ?_
  fail "g"
  refine u_take c13 (by decide) (by decide) fun r14 H14 l14 u14 c14 m14 => ?_
  obtain ⟨n, rfl⟩ : ∃ n : Nat, r14 = (n : Int) := ⟨r14.toNat, by omega⟩
  fail "g"
  refine s_krng1 (by omega) ?_
  refine s_forR (fun i σ H15 => ∃ po kv kdv rv, σ = [some (.ref a), some (.ref c), some (.ref p), some (.ref p8), some (.ref p9), some (.ref p13), some (.ref po), kv, kdv, rv, none] ∧ CS H15 c bud' (.ref ln) ∧ Mu c H13 H15 ∧ ∃ e', EAt H15 (.ref po) e' ∧ Wrp e i e')
    ⟨p, _, _, _, rfl, c14, m14, e, (he.fix (Fix.of_same s713)).fix m14.fx, .base⟩ ?_ ?_
  · rintro i σ H15 hi ⟨po, kv, kdv, rv, rfl, c15, m15, e', he', hw⟩
    fail "g"
    refine ⟨rfl, fun lk H16 a16 => ?_⟩
    fail "g"
    refine u_take (c15.sm a16.sm) (by decide) (by decide) fun r17 H17 l17 u17 c17 m17 => ?_
    have hk17 := lk_mu m17 a16.at_ (c15.ne a16)
    obtain ⟨kd, hkd, hkm⟩ := at_kind l17 u17
    refine s_ixL (SqL.of hk17) hkd ?_
    fail "g"
    refine ⟨c, bud', _, kd, rfl, c17, hkm, fun pr r H18 hr18 hid h4 h3 c18 m18 => ?_⟩
    fail "g"
    refine u_take c18 (by decide) (by decide) fun r19 H19 l19 u19 c19 m19 => ?_
    have m1519 : Mu c H15 H19 := (((Mu.of_al a16).trans m17).trans m18).trans m19
    have he19 := he'.fix m1519.fx
    have hr19 := hr18.fix m19.fx
    rcases (show r19 = 0 ∨ r19 = 1 by omega) with rfl | rfl
    · fail "g"
      rename_i p20 H20 a20
      exact ⟨_, _, _, _, rfl, c19.sm a20.sm, (m15.trans m1519).trans (Mu.of_al a20), .rule kd r e', .rule a20.at_ (hr19.fix a20.fx) (he19.fix a20.fx), .rule hid h4 h3 hw⟩
    · fail "g"
      rename_i p20 H20 a20 p21 H21 a21
      have f21 := a20.fx.trans a21.fx
      exact ⟨_, _, _, _, rfl, (c19.sm a20.sm).sm a21.sm, ((m15.trans m1519).trans (Mu.of_al a20)).trans (Mu.of_al a21), .lett "k" (.keep kd r) e', .lett a21.at_ (.keep (a21.sm _ _ a20.at_) (hr19.fix f21)) (he19.fix f21), .keep hid h4 h3 hw⟩
  · rintro σ H15 ⟨po, kv, kdv, rv, rfl, c15, m15, e', he', hw⟩
    have hdw := hw.depth
    have hsw := hw.size
    fail "g"
    refine u_dp he' (by omega) fun n16 H16 s16 => ?_
    fail "g"
    refine ite3 (fun _ => ?_) (fun hn16 => ?_)
    · fail "g"
      exact k _
    fail "g"
    refine u_dp (he'.fix (Fix.of_same s16)) (by omega) fun n17 H17 s17 => ?_
    fail "g"
    refine ite3 (fun _ => ?_) (fun hn17 => ?_)
    · fail "g"
      exact k _
    fail "g"
    refine ⟨.ref po, e', 2000, PvOf v o, rfl, (he'.fix (Fix.of_same s16)).fix (Fix.of_same s17), hw.fin hev (by omega) 2000, fun p18 v18 o18 H18 ra18 pv18 s18 => ?_⟩
    obtain ⟨po18, m18, us18, g18, g18o, g18u, g18m⟩ := ra18
    have f1318 : Fix H13 H18 := m15.fx.trans (Fix.of_same ((s16.trans s17).trans s18))
    obtain ⟨po13, m13, us13, g13, g13o, g13u, g13m⟩ := ra13
    have j13 := f1318 _ _ g13 rfl
    have j13o := f1318 _ _ g13o rfl
    have j13m := f1318 _ _ g13m rfl
    have j13u := g13u.fix f1318
    fail "g"
    rename_i q19 H19 a19
    refine s_eqD (dp_end (a19.sm _ _ g18m)) (dp_more a19.at_) (endD_ok _) (by decide +kernel) ?_
    rw [eq_more]
    refine s_kb ?_
    refine ite3 (fun _ => ?_) (fun hv18 => ?_)
    · fail "g"
      exact k _
    fail "g"
    rename_i q20 H20 a20
    refine s_eqD (dp_end (a20.sm _ _ (a19.sm _ _ j13m))) (dp_more a20.at_) (endD_ok _) (by decide +kernel) ?_
    rw [eq_more]
    refine s_kb ?_
    refine ite3 (fun _ => ?_) (fun hv13 => ?_)
    · fail "g"
      exact k _
    have s20 := a19.sm.trans a20.sm
    rcases pv18 with rfl | ⟨rfl, rfl⟩
    · cases hv18
    rcases pv13 with rfl | ⟨rfl, rfl⟩
    · cases hv13
    have t13 := s20 _ _ j13
    have t18 := s20 _ _ g18
    fail "g"
    refine s_eqD (d := endD (some v)) (e := endD (some v)) (dp_end (s20 _ _ g18m)) (dp_end (s20 _ _ j13m)) (endD_ok _) (endD_ok _) ?_
    rw [eq_same (endD_ok _)]
    fail "g"
    refine ⟨po18, us18, _, rfl, s20 _ _ g18o, g18u.fix (Fix.of_same s20), hz, by omega, fun l21 H21 h21 s21 => ?_⟩
    fail "g"
    refine ⟨po13, us13, _, rfl, s21 _ _ (s20 _ _ j13o), j13u.fix (Fix.of_same (s20.trans s21)), hz, by omega, fun l22 H22 h22 s22 => ?_⟩
    refine s_eqD (dp_lst (s22 _ _ h21) (g18u.fix (Fix.of_same ((s20.trans s21).trans s22)))) (dp_lst h22 (j13u.fix (Fix.of_same ((s20.trans s21).trans s22)))) (outD_ok _) (outD_ok _) ?_
    rw [eq_same (outD_ok _)]
    fail "g"
    exact k _
end
end Zg
/-! ## Zend -/
set_option Elab.async false
set_option linter.all false
set_option maxRecDepth 100000
set_option maxHeartbeats 4000000
namespace Zg
open PySem PySem.Spec PyProof.Rows L2
/-! ### the defs together -/
section
variable {P : Program} {w : World} {K : PySem.W.Frag} {mg : Str → Option Value} {base : Heap} [Tx w K mg]
theorem all_plainly (hd : Dd K d_law_plainly) (g1 : Ok P w K mg base 2 d_law_take ["_law_c", "_law_many"] spTake) (g2 : Ok P w K mg base 4 d_law_leaf ["_law_c", "_law_names_here", "_law_about"] spLeaf) : ∀ d, Ok P w K mg base (4 + d) d_law_plainly ["_law_c", "_law_names_here", "_law_depth_here"] (spPl d)
  | 0 => ok_no (N := []) hd bd_law_plainly 4
  | d + 1 => ok_law_plainly1 hd g1 g2 d (4 + d) (by omega) (all_plainly hd g1 g2 d)
theorem all_noted (hd : Dd K d_law_noted) : ∀ d, Ok P w K mg base d d_law_noted ["_law_e", "_law_k", "_law_rules"] (spNt d)
  | 0 => ok_no (N := []) hd bd_law_noted 0
  | d + 1 => ok_law_noted1 hd d d (all_noted hd d)
theorem all_made (hd : Dd K d_law_made) (hp : Dd K d_law_plain) (g1 : Ok P w K mg base 1 d_law_kinds [] spKinds) (g2 : Ok P w K mg base 1 d_law_new ["_law_box"] spNew) (g3 : Ok P w K mg base 1 d_law_with ["_law_env", "_law_x", "_law_value"] spWith) : ∀ d, Ok P w K mg base (1 + 2 * d) d_law_made ["_law_e", "_law_k", "_law_env", "_law_about", "_law_rules", "_law_box"] (spMd d)
  | 0 => ok_no (N := []) hd bd_law_made 1
  | d + 1 => (ok_law_made1 hd g1 d (1 + 2 * d + 1) (by omega) (ok_law_plain1 hp g2 g3 d (1 + 2 * d) (by omega) (all_made hd hp g1 g2 g3 d))).mono (by omega)
theorem all_numb (hd : Dd K d_Numbering_expression) : ∀ d, Ok P w K mg base d d_Numbering_expression ["self", "e", "level"] (spNx K d)
  | 0 => ok_no (N := []) hd bd_Numbering_expression 0
  | d + 1 => ok_Numbering_expression1 hd d d (all_numb hd d)
theorem all_coll (hd : Dd K d_Collapser_expression) (hu : Dd K d_Collapser_usual) (hp : Dd K d_Collapser_parts) (g1 : Ok P w K mg base 1 d_Collapser_node ["self", "plain"] (spCoN K)) (g2 : Ok P w K mg base 1 d_Collapser_fresh ["self", "mark"] (spCoF K)) (g3 : Ok P w K mg base 1 d_with_name ["names", "x", "other"] spWith) : ∀ d, Ok P w K mg base (1 + 3 * d) d_Collapser_expression ["self", "e", "level", "names", "about"] (spCx K d)
  | 0 => ok_no (N := []) hd bd_Collapser_expression 1
  | d + 1 => by
    have e := all_coll hd hu hp g1 g2 g3 d
    have p := ok_Collapser_parts1 hp d (1 + 3 * d) e
    have u := ok_Collapser_usual1 hu g1 g2 g3 d (1 + 3 * d + 1) (by omega) p (e.mono (by omega))
    exact (ok_Collapser_expression1 hd d (1 + 3 * d + 1 + 1) u).mono (by omega)
theorem all_depth (hd : Dd K d_law_depth) (g1 : Ok P w K mg base 1 d_law_inner ["_law_e"] spInn) : ∀ d, Ok P w K mg base (1 + d) d_law_depth ["_law_e"] (spDp d)
  | 0 => ok_no (N := []) hd bd_law_depth 1
  | d + 1 => ok_law_depth1 hd g1 d (1 + d) (by omega) (all_depth hd g1 d)
theorem all_size (hd : Dd K d_law_size) (g1 : Ok P w K mg base 1 d_law_inner ["_law_e"] spInn) : ∀ d, Ok P w K mg base (1 + d) d_law_size ["_law_e"] (spDp d)
  | 0 => ok_no (N := []) hd bd_law_size 1
  | d + 1 => ok_law_size1 hd g1 d (1 + d) (by omega) (all_size hd g1 d)
theorem all_law (c : He.SaysD fa fn K) {fd : FuncData} (F : FunD K d_law.name d_law.qual d_law.params d_law.body d_law.scope [] [] (He.fAd K d_law.at_) fd) : FnOk P w K mg base CX0 61 (He.fAd K d_law.at_) fd ["_law_script"] (spLaw K) := by
  have h_parts_of : Dd K d_parts_of := c.def_ 0 (d := d_parts_of) rfl
  have h_shown : Dd K d_shown := c.def_ 1 (d := d_shown) rfl
  have h_Setting_init : Dd K d_Setting_init := c.def_ 2 (d := d_Setting_init) rfl
  have h_Setting_with_name : Dd K d_Setting_with_name := c.def_ 3 (d := d_Setting_with_name) rfl
  have h_Tower_init : Dd K d_Tower_init := c.def_ 4 (d := d_Tower_init) rfl
  have h_Tower_run : Dd K d_Tower_run := c.def_ 5 (d := d_Tower_run) rfl
  have h_Tower_go : Dd K d_Tower_go := c.def_ 6 (d := d_Tower_go) rfl
  have h_Tower_go_built_in : Dd K d_Tower_go_built_in := c.def_ 7 (d := d_Tower_go_built_in) rfl
  have h_Tower_step : Dd K d_Tower_step := c.def_ 8 (d := d_Tower_step) rfl
  have h_Tower_stick : Dd K d_Tower_stick := c.def_ 9 (d := d_Tower_stick) rfl
  have h_Tower_begin : Dd K d_Tower_begin := c.def_ 10 (d := d_Tower_begin) rfl
  have h_Tower_change_or_ask : Dd K d_Tower_change_or_ask := c.def_ 11 (d := d_Tower_change_or_ask) rfl
  have h_Tower_resume : Dd K d_Tower_resume := c.def_ 12 (d := d_Tower_resume) rfl
  have h_Tower_put_back : Dd K d_Tower_put_back := c.def_ 13 (d := d_Tower_put_back) rfl
  have h_Tower_bind_let : Dd K d_Tower_bind_let := c.def_ 14 (d := d_Tower_bind_let) rfl
  have h_Tower_gathered : Dd K d_Tower_gathered := c.def_ 15 (d := d_Tower_gathered) rfl
  have h_Tower_decide : Dd K d_Tower_decide := c.def_ 16 (d := d_Tower_decide) rfl
  have h_Tower_operate : Dd K d_Tower_operate := c.def_ 17 (d := d_Tower_operate) rfl
  have h_Tower_enter : Dd K d_Tower_enter := c.def_ 18 (d := d_Tower_enter) rfl
  have h_run : Dd K d_run := c.def_ 19 (d := d_run) rfl
  have h_Numbering_init : Dd K d_Numbering_init := c.def_ 20 (d := d_Numbering_init) rfl
  have h_Numbering_expression : Dd K d_Numbering_expression := c.def_ 21 (d := d_Numbering_expression) rfl
  have h_Collapser_init : Dd K d_Collapser_init := c.def_ 22 (d := d_Collapser_init) rfl
  have h_Collapser_fresh : Dd K d_Collapser_fresh := c.def_ 23 (d := d_Collapser_fresh) rfl
  have h_Collapser_node : Dd K d_Collapser_node := c.def_ 24 (d := d_Collapser_node) rfl
  have h_Collapser_expression : Dd K d_Collapser_expression := c.def_ 25 (d := d_Collapser_expression) rfl
  have h_Collapser_parts : Dd K d_Collapser_parts := c.def_ 26 (d := d_Collapser_parts) rfl
  have h_Collapser_usual : Dd K d_Collapser_usual := c.def_ 27 (d := d_Collapser_usual) rfl
  have h_with_name : Dd K d_with_name := c.def_ 28 (d := d_with_name) rfl
  have h_collapse : Dd K d_collapse := c.def_ 29 (d := d_collapse) rfl
  have h_is_integer : Dd K d_is_integer := c.def_ 30 (d := d_is_integer) rfl
  have h_Node_init : Dd K d_Node_init := c.def_ 31 (d := d_Node_init) rfl
  have h_inner_of : Dd K d_inner_of := c.def_ 32 (d := d_inner_of) rfl
  have h_nodes_of : Dd K d_nodes_of := c.def_ 33 (d := d_nodes_of) rfl
  have h_inner_plain : Dd K d_inner_plain := c.def_ 34 (d := d_inner_plain) rfl
  have h_is_plain : Dd K d_is_plain := c.def_ 35 (d := d_is_plain) rfl
  have h_Scope_init : Dd K d_Scope_init := c.def_ 36 (d := d_Scope_init) rfl
  have h_found_in : Dd K d_found_in := c.def_ 37 (d := d_found_in) rfl
  have h_Place_init : Dd K d_Place_init := c.def_ 38 (d := d_Place_init) rfl
  have h_Place_at : Dd K d_Place_at := c.def_ 39 (d := d_Place_at) rfl
  have h_Place_bound : Dd K d_Place_bound := c.def_ 40 (d := d_Place_bound) rfl
  have h_Judge_init : Dd K d_Judge_init := c.def_ 41 (d := d_Judge_init) rfl
  have h_Judge_number : Dd K d_Judge_number := c.def_ 42 (d := d_Judge_number) rfl
  have h_Judge_run : Dd K d_Judge_run := c.def_ 43 (d := d_Judge_run) rfl
  have h_Judge_due : Dd K d_Judge_due := c.def_ 44 (d := d_Judge_due) rfl
  have h_Judge_rules_for : Dd K d_Judge_rules_for := c.def_ 45 (d := d_Judge_rules_for) rfl
  have h_Judge_fits : Dd K d_Judge_fits := c.def_ 46 (d := d_Judge_fits) rfl
  have h_Judge_plainly : Dd K d_Judge_plainly := c.def_ 47 (d := d_Judge_plainly) rfl
  have h_Judge_bound : Dd K d_Judge_bound := c.def_ 48 (d := d_Judge_bound) rfl
  have h_is_collapse : Dd K d_is_collapse := c.def_ 49 (d := d_is_collapse) rfl
  have h_inner : Dd K d_inner := c.def_ 50 (d := d_inner) rfl
  have h_plain_size : Dd K d_plain_size := c.def_ 51 (d := d_plain_size) rfl
  have h_law_start : Dd K d_law_start := c.def_ 52 (d := d_law_start) rfl
  have h_law_fill : Dd K d_law_fill := c.def_ 53 (d := d_law_fill) rfl
  have h_law_take : Dd K d_law_take := c.def_ 54 (d := d_law_take) rfl
  have h_law_kinds : Dd K d_law_kinds := c.def_ 55 (d := d_law_kinds) rfl
  have h_law_parts : Dd K d_law_parts := c.def_ 56 (d := d_law_parts) rfl
  have h_law_names : Dd K d_law_names := c.def_ 57 (d := d_law_names) rfl
  have h_law_free : Dd K d_law_free := c.def_ 58 (d := d_law_free) rfl
  have h_law_integer : Dd K d_law_integer := c.def_ 59 (d := d_law_integer) rfl
  have h_law_leaf : Dd K d_law_leaf := c.def_ 60 (d := d_law_leaf) rfl
  have h_law_inner : Dd K d_law_inner := c.def_ 61 (d := d_law_inner) rfl
  have h_law_depth : Dd K d_law_depth := c.def_ 62 (d := d_law_depth) rfl
  have h_law_size : Dd K d_law_size := c.def_ 63 (d := d_law_size) rfl
  have h_law_with : Dd K d_law_with := c.def_ 64 (d := d_law_with) rfl
  have h_law_noted : Dd K d_law_noted := c.def_ 65 (d := d_law_noted) rfl
  have h_law_new : Dd K d_law_new := c.def_ 66 (d := d_law_new) rfl
  have h_law_made : Dd K d_law_made := c.def_ 67 (d := d_law_made) rfl
  have h_law_plain : Dd K d_law_plain := c.def_ 68 (d := d_law_plain) rfl
  have h_law_collapsed : Dd K d_law_collapsed := c.def_ 69 (d := d_law_collapsed) rfl
  have h_law_identity : Dd K d_law_identity := c.def_ 70 (d := d_law_identity) rfl
  have h_law_level : Dd K d_law_level := c.def_ 71 (d := d_law_level) rfl
  have h_law_plainly : Dd K d_law_plainly := c.def_ 72 (d := d_law_plainly) rfl
  have g_Collapser_fresh := ok_Collapser_fresh (P := P) (w := w) (mg := mg) (base := base) h_Collapser_fresh
  have g_Collapser_init := ok_Collapser_init (P := P) (w := w) (mg := mg) (base := base) h_Collapser_init
  have g_Collapser_node := ok_Collapser_node (P := P) (w := w) (mg := mg) (base := base) h_Collapser_node
  have g_Judge_due := ok_Judge_due (P := P) (w := w) (mg := mg) (base := base) h_Judge_due
  have g_Judge_number := ok_Judge_number (P := P) (w := w) (mg := mg) (base := base) h_Judge_number
  have g_Judge_rules_for := ok_Judge_rules_for (P := P) (w := w) (mg := mg) (base := base) h_Judge_rules_for
  have g_Node_init := ok_Node_init (P := P) (w := w) (mg := mg) (base := base) h_Node_init
  have g_Numbering_init := ok_Numbering_init (P := P) (w := w) (mg := mg) (base := base) h_Numbering_init
  have g_Place_init := ok_Place_init (P := P) (w := w) (mg := mg) (base := base) h_Place_init
  have g_Scope_init := ok_Scope_init (P := P) (w := w) (mg := mg) (base := base) h_Scope_init
  have g_Setting_init := ok_Setting_init (P := P) (w := w) (mg := mg) (base := base) h_Setting_init
  have g_Tower_go := ok_Tower_go (P := P) (w := w) (mg := mg) (base := base) h_Tower_go
  have g_Tower_put_back := ok_Tower_put_back (P := P) (w := w) (mg := mg) (base := base) h_Tower_put_back
  have g_Tower_step := ok_Tower_step (P := P) (w := w) (mg := mg) (base := base) h_Tower_step
  have g_found_in := ok_found_in (P := P) (w := w) (mg := mg) (base := base) h_found_in
  have g_inner := ok_inner (P := P) (w := w) (mg := mg) (base := base) h_inner
  have g_inner_of := ok_inner_of (P := P) (w := w) (mg := mg) (base := base) h_inner_of
  have g_is_integer := ok_is_integer (P := P) (w := w) (mg := mg) (base := base) h_is_integer
  have g_law_fill := ok_law_fill (P := P) (w := w) (mg := mg) (base := base) h_law_fill
  have g_law_inner := ok_law_inner (P := P) (w := w) (mg := mg) (base := base) h_law_inner
  have g_law_kinds := ok_law_kinds (P := P) (w := w) (mg := mg) (base := base) h_law_kinds
  have g_law_level := ok_law_level (P := P) (w := w) (mg := mg) (base := base) h_law_level
  have g_law_new := ok_law_new (P := P) (w := w) (mg := mg) (base := base) h_law_new
  have g_law_start := ok_law_start (P := P) (w := w) (mg := mg) (base := base) h_law_start
  have g_law_with := ok_law_with (P := P) (w := w) (mg := mg) (base := base) h_law_with
  have g_parts_of := ok_parts_of (P := P) (w := w) (mg := mg) (base := base) h_parts_of
  have g_shown := ok_shown (P := P) (w := w) (mg := mg) (base := base) h_shown
  have g_with_name := ok_with_name (P := P) (w := w) (mg := mg) (base := base) h_with_name
  have g_Place_at := ok_Place_at (P := P) (w := w) (mg := mg) (base := base) h_Place_at g_Place_init
  have g_Place_bound := ok_Place_bound (P := P) (w := w) (mg := mg) (base := base) h_Place_bound g_Place_init
  have g_Setting_with_name := ok_Setting_with_name (P := P) (w := w) (mg := mg) (base := base) h_Setting_with_name g_Setting_init
  have g_Tower_decide := ok_Tower_decide (P := P) (w := w) (mg := mg) (base := base) h_Tower_decide g_Tower_go
  have g_Tower_go_built_in := ok_Tower_go_built_in (P := P) (w := w) (mg := mg) (base := base) h_Tower_go_built_in g_Tower_go
  have g_Tower_init := ok_Tower_init (P := P) (w := w) (mg := mg) (base := base) h_Tower_init g_Setting_init
  have g_inner_plain := ok_inner_plain (P := P) (w := w) (mg := mg) (base := base) h_inner_plain g_is_integer
  have g_law_free := ok_law_free (P := P) (w := w) (mg := mg) (base := base) h_law_free g_law_kinds
  have g_law_take := ok_law_take (P := P) (w := w) (mg := mg) (base := base) h_law_take g_law_fill
  have g_nodes_of := ok_nodes_of (P := P) (w := w) (mg := mg) (base := base) h_nodes_of g_Node_init g_inner_of
  have g_plain_size := ok_plain_size (P := P) (w := w) (mg := mg) (base := base) h_plain_size g_inner
  have g_Judge_bound := ok_Judge_bound (P := P) (w := w) (mg := mg) (base := base) h_Judge_bound g_Judge_number g_Judge_due g_Place_bound g_Scope_init
  have g_Judge_init := ok_Judge_init (P := P) (w := w) (mg := mg) (base := base) h_Judge_init g_nodes_of g_Place_init
  have g_Tower_bind_let := ok_Tower_bind_let (P := P) (w := w) (mg := mg) (base := base) h_Tower_bind_let g_Tower_step g_Tower_go g_Setting_with_name
  have g_Tower_change_or_ask := ok_Tower_change_or_ask (P := P) (w := w) (mg := mg) (base := base) h_Tower_change_or_ask g_parts_of g_Tower_step g_Tower_go g_Tower_go_built_in
  have g_Tower_enter := ok_Tower_enter (P := P) (w := w) (mg := mg) (base := base) h_Tower_enter g_Tower_step g_Tower_go g_Setting_with_name
  have g_is_plain := ok_is_plain (P := P) (w := w) (mg := mg) (base := base) h_is_plain g_inner_plain
  have g_law_identity := ok_law_identity (P := P) (w := w) (mg := mg) (base := base) h_law_identity g_law_take
  have g_law_integer := ok_law_integer (P := P) (w := w) (mg := mg) (base := base) h_law_integer g_law_take
  have g_law_names := ok_law_names (P := P) (w := w) (mg := mg) (base := base) h_law_names g_law_take g_law_free
  have g_Judge_plainly := ok_Judge_plainly (P := P) (w := w) (mg := mg) (base := base) h_Judge_plainly g_found_in g_Judge_due g_Place_at g_Judge_bound
  have g_Tower_begin := ok_Tower_begin (P := P) (w := w) (mg := mg) (base := base) h_Tower_begin g_Setting_init g_parts_of g_Tower_go g_Tower_change_or_ask
  have g_Tower_operate := ok_Tower_operate (P := P) (w := w) (mg := mg) (base := base) h_Tower_operate g_shown g_Tower_enter
  have g_law_leaf := ok_law_leaf (P := P) (w := w) (mg := mg) (base := base) h_law_leaf g_law_take g_law_integer
  have g_Judge_fits := ok_Judge_fits (P := P) (w := w) (mg := mg) (base := base) h_Judge_fits g_Judge_rules_for g_Judge_plainly
  have g_Tower_gathered := ok_Tower_gathered (P := P) (w := w) (mg := mg) (base := base) h_Tower_gathered g_Tower_step g_Tower_go g_Tower_operate
  have g_Judge_run := ok_Judge_run (P := P) (w := w) (mg := mg) (base := base) h_Judge_run g_Judge_fits
  have g_Tower_resume := ok_Tower_resume (P := P) (w := w) (mg := mg) (base := base) h_Tower_resume g_shown g_Setting_with_name g_Tower_go g_Tower_put_back g_Tower_operate g_Tower_gathered g_Tower_bind_let g_Tower_decide
  have g_Tower_run := ok_Tower_run (P := P) (w := w) (mg := mg) (base := base) h_Tower_run g_Tower_begin g_Tower_resume
  have g_is_collapse := ok_is_collapse (P := P) (w := w) (mg := mg) (base := base) h_is_collapse g_is_plain g_Judge_init g_Judge_run
  have g_run := ok_run (P := P) (w := w) (mg := mg) (base := base) h_run g_Tower_init g_Tower_run
  have g_plainly := (all_plainly h_law_plainly g_law_take g_law_leaf 7).mono (show 4 + 7 ≤ 60 by decide)
  have g_collapsed := (ok_law_collapsed h_law_collapsed 13 (1 + 2 * 13) ((all_noted h_law_noted 13).mono (by decide)) (all_made h_law_made h_law_plain g_law_kinds g_law_new g_law_with 13)).mono (show 1 + 2 * 13 + 1 ≤ 60 by decide)
  have g_coll := (ok_collapse h_collapse g_Numbering_init g_Collapser_init 13 (1 + 3 * 13) (by decide) ((all_numb h_Numbering_expression 13).mono (by decide)) (all_coll h_Collapser_expression h_Collapser_usual h_Collapser_parts g_Collapser_node g_Collapser_fresh g_with_name 13)).mono (show 1 + 3 * 13 + 1 ≤ 60 by decide)
  have g_depth := (all_depth h_law_depth g_law_inner 24).mono (show 1 + 24 ≤ 60 by decide)
  have g_size := (all_size h_law_size g_law_inner 24).mono (show 1 + 24 ≤ 60 by decide)
  exact ok_law F (g_law_start.mono (by decide)) (g_law_names.mono (by decide)) (g_law_take.mono (by decide)) (g_law_kinds.mono (by decide)) g_plainly g_collapsed g_coll (g_is_collapse.mono (by decide)) (g_plain_size.mono (by decide)) (g_run.mono (by decide)) (g_law_identity.mono (by decide)) g_depth g_size (g_law_level.mono (by decide))
end
/-! ### the head's facts -/
section
open He
def fGlo (x : Str) : He.Fa → Bool
  | .glo y => decide (y = x) | _ => false
def fFre (x : Str) : He.Fa → Bool
  | .free y => decide (y = x) | _ => false
def fCls (x : Str) : He.Fa → Bool
  | .cls y => decide (y = x) | _ => false
def fMkr (x : Str) : He.Fa → Bool
  | .mkr y => decide (y = x) | _ => false
def fNoa (x z : Str) : He.Fa → Bool
  | .noat y u => decide (y = x) && decide (u = z) | _ => false
def fMet (x z : Str) : He.Fa → Bool
  | .meth y u => decide (y = x) && decide (u = z) | _ => false
variable {l : List He.Fa} {x z : Str}
theorem fGlo_ok (h : l.any (fGlo x) = true) : He.Fa.glo x ∈ l := by
  obtain ⟨f, hf, h⟩ := List.any_eq_true.mp h
  cases f <;> first | (cases h; done) | (rw [← of_decide_eq_true h]; exact hf)
theorem fFre_ok (h : l.any (fFre x) = true) : He.Fa.free x ∈ l := by
  obtain ⟨f, hf, h⟩ := List.any_eq_true.mp h
  cases f <;> first | (cases h; done) | (rw [← of_decide_eq_true h]; exact hf)
theorem fCls_ok (h : l.any (fCls x) = true) : He.Fa.cls x ∈ l := by
  obtain ⟨f, hf, h⟩ := List.any_eq_true.mp h
  cases f <;> first | (cases h; done) | (rw [← of_decide_eq_true h]; exact hf)
theorem fMkr_ok (h : l.any (fMkr x) = true) : He.Fa.mkr x ∈ l := by
  obtain ⟨f, hf, h⟩ := List.any_eq_true.mp h
  cases f <;> first | (cases h; done) | (rw [← of_decide_eq_true h]; exact hf)
theorem fNoa_ok (h : l.any (fNoa x z) = true) : He.Fa.noat x z ∈ l := by
  obtain ⟨f, hf, h⟩ := List.any_eq_true.mp h
  cases f <;> first | (cases h; done) | (obtain ⟨h1, h2⟩ := He.ba h; rw [← of_decide_eq_true h1, ← of_decide_eq_true h2]; exact hf)
theorem fMet_ok (h : l.any (fMet x z) = true) : He.Fa.meth x z ∈ l := by
  obtain ⟨f, hf, h⟩ := List.any_eq_true.mp h
  cases f <;> first | (cases h; done) | (obtain ⟨h1, h2⟩ := He.ba h; rw [← of_decide_eq_true h1, ← of_decide_eq_true h2]; exact hf)
theorem in_glo : gloN.all (fun x => fa.any (fGlo x)) = true := by decide +kernel
theorem in_fre : freN.all (fun x => fa.any (fFre x)) = true := by decide +kernel
theorem in_cls : clsN.all (fun x => fa.any (fCls x) && fa.any (fMkr x)) = true := by decide +kernel
theorem in_noa : attN.all (fun q => fa.any (fNoa q.1 q.2)) = true := by decide +kernel
theorem in_met : metN.all (fun q => fa.any (fMet q.1 q.2)) = true := by decide +kernel
theorem in_tab : (["SHAPES", "PARTS", "CHANGEABLE", "KINDS_collapsing", "KINDS_forms"] : List Str).all (fun x => fa.any (fGlo x)) = true := by decide +kernel
theorem in_most : fa.any (fun f => match f with | .int y i => decide (y = "MOST_NODES") && decide (i = 20000) | _ => false) = true := by decide +kernel
end
theorem tx_of {w : World} {K : PySem.W.Frag} {h : Heap} {mg : Str → Option Value} (X : K.In h) (G : h.Ns mainGlobals mg) (c : He.SaysT fa fn ts w K) (hex : ex K = true) : Tx w K mg := by
  have fm : ∀ f ∈ fa, f.ok K = true := fun f m => by
    obtain ⟨i, hi⟩ := List.getElem?_of_mem m
    exact c.d.fact i hi
  have gl : ∀ x, fa.any (fGlo x) = true → mg x = some (.ref (He.ga K x)) := fun x m => He.glo_ok X G (fm _ (fGlo_ok m))
  have tb : ∀ x ∈ (["SHAPES", "PARTS", "CHANGEABLE", "KINDS_collapsing", "KINDS_forms"] : List Str), mg x = some (.ref (He.ga K x)) := fun x m => gl x (List.all_eq_true.mp in_tab x m)
  refine ⟨fun n m => He.cls_ok (fm _ (fCls_ok (He.ba (List.all_eq_true.mp in_cls n m)).1)), fun n m => He.mkr_ok (fm _ (fMkr_ok (He.ba (List.all_eq_true.mp in_cls n m)).2)), fun n f m => He.noat_ok (fm _ (fNoa_ok (List.all_eq_true.mp in_noa _ m))), fun n f m => He.meth_ok (fm _ (fMet_ok (List.all_eq_true.mp in_met _ m))), fun x m => gl x (List.all_eq_true.mp in_glo x m), fun x m => He.free_ok X G (fm _ (fFre_ok (List.all_eq_true.mp in_fre x m))), ?_, hex, ⟨tb _ (by simp), c.tab 0⟩, ⟨tb _ (by simp), c.tab 1⟩, tb _ (by simp), tb _ (by simp), tb _ (by simp)⟩
  obtain ⟨f, hf, hq⟩ := List.any_eq_true.mp in_most
  cases f with
  | int y i =>
    obtain ⟨h1, h2⟩ := He.ba hq
    have e1 : y = "MOST_NODES" := of_decide_eq_true h1
    have e2 : i = 20000 := of_decide_eq_true h2
    rw [e1, e2] at hf
    exact He.int_ok X G (fm _ hf)
  | _ => cases hq
theorem facts {P : Program} {w : World} {K : PySem.W.Frag} {h : Heap} {mg : Str → Option Value} {f : Addr} (X : K.In h) (G : h.Ns mainGlobals mg) (hfa : mg ("law" : Str) = some (.ref f)) (c : He.SaysT fa fn ts w K) (hex : ex K = true) :
    ∃ fd : FuncData, (∀ (s : Shared) (v : Value), BindsTo s fd ⟨[v], []⟩ [("_law_script", v)]) ∧ ∀ base : Heap, K.In base → base.Ns mainGlobals mg → FnOk P w K mg base CX0 61 f fd ["_law_script"] (spLaw K) := by
  haveI T : Tx w K mg := tx_of X G c hex
  have e := hfa.symm.trans (Tx.gl (w := w) (K := K) (mg := mg) "law" (by decide +kernel))
  cases e
  obtain ⟨fd, F⟩ : ∃ fd, FunD K d_law.name d_law.qual d_law.params d_law.body d_law.scope [] [] (He.fAd K d_law.at_) fd := c.d.def_ 73 (d := d_law) rfl
  have b := FunD.bindsA (ps := ["_law_script"]) F bd_law
  exact ⟨fd, fun s v => b s [v] rfl, fun base _ _ => all_law c.d F⟩
end Zg
/-! ## Zfin -/
set_option Elab.async false
set_option linter.all false
set_option maxRecDepth 100000
set_option maxHeartbeats 4000000
open PySem PySem.W PySem.Calls PyProof.Rows
theorem PySem.Challenge.cw_ziggurat_k91_whole_identities_holds : PySem.Challenge.rw_ziggurat_k91_whole_identities.Holds := by
  refine Zg.hd_holds ?_
  refine L2.walk_ofE (l := PySem.Challenge.rw_ziggurat_k91_whole_identities) (n := 63) (k := 61) (x := "_law_script") (CX := L2.CX0) rfl (by decide) Zg.law_dfl ⟨rfl, by decide, by decide⟩ ?F (fun _ _ _ _ z => z)
  intro w mg fa h Y G hmg0
  obtain ⟨K, KX, c, hex⟩ := Y
  have hmg : mg ("law" : PySem.Str) = some (.ref fa) := by
    rw [← Zg.law_name]
    exact hmg0
  obtain ⟨fd, hb, hF⟩ := Zg.facts (P := (PySem.Challenge.rw_ziggurat_k91_whole_identities).prog) (w := w) KX G hmg c hex
  exact ⟨K, fd, Zg.spLaw K, KX, hb, fun H a ns hl _ hS => ⟨a, ns, rfl, hS, hl, fun _ => rfl⟩, hF⟩

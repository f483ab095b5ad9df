import PyProof.Rows.All
import Wide.All
import OpenK.AllK
import Wide.FinOn
import KE.KStateDown
import KE.KExcSuper
import HandS.ForMost
import HandS.Exc
import HandS.TryOnly
import HandS.ExcOwn
import HandS.ExcInit
import HandS.ExcField
import HandS.WordsExc
import HandS.IsInst
import HandS.Zip
import HandS.More
import HandS.Style
import HandS.Flow
import HandS.TupAny
import HandS.Codes
import HandS.Defaults
import HandS.Head0
import HandS.Head1
import HandS.Head2
import HandS.HeadEnd
import HandS.HeadHook1
import HandS.HeadHook2
import HandS.HeadHook3
import HandS.HeadHook4
import PySem.Challenge.RW_ripplewell_k47_contexts
import HandS.SuiteRaise
import KE.KExcRaise
import PyProof.StrOps2
set_option Elab.async false
set_option linter.all false
set_option maxRecDepth 100000
set_option maxHeartbeats 4000000
/-! the text by places, the facts that the top leaves -/
namespace K47
open PySem PySem.Spec PyProof.Rows L2
abbrev prog : Program := PySem.Challenge.pw_ripplewell_k47_contexts
def top (i : Nat) : Stmt := PySem.Challenge.pw_ripplewell_k47_contexts.main.body.getD i (.Pass ⟨0, 0, 0, 0⟩)
abbrev s_is_integer : Stmt := top 8
abbrev s_is_value : Stmt := top 9
abbrev s_is_key : Stmt := top 10
abbrev s__has_word : Stmt := top 22
abbrev s__expression_kinds : Stmt := top 23
abbrev s__statement_kinds : Stmt := top 24
abbrev s__is_expression : Stmt := top 25
abbrev s__part_size : Stmt := top 29
abbrev s__statement_size : Stmt := top 30
abbrev s__block_size : Stmt := top 31
abbrev s_is_program : Stmt := top 32
abbrev s__frozen : Stmt := top 33
abbrev s_frozen : Stmt := top 34
abbrev s_require : Stmt := top 39
abbrev s_is_number : Stmt := top 40
abbrev s_check_node : Stmt := top 41
abbrev s_check_context : Stmt := top 42
abbrev s_check_value : Stmt := top 43
abbrev s__is_setting_value : Stmt := top 45
abbrev s_check_program : Stmt := top 46
abbrev s_variable : Stmt := top 60
abbrev s_context_in : Stmt := top 63
abbrev s__use : Stmt := top 71
abbrev s_evaluate : Stmt := top 73
abbrev s_run_statement : Stmt := top 85
abbrev s_run_block : Stmt := top 86
abbrev s_run_program : Stmt := top 87
abbrev s_make_requests : Stmt := top 102
abbrev s_serve : Stmt := top 108
abbrev s_active_count : Stmt := top 116
abbrev s_descendants : Stmt := top 117
abbrev s_context_value : Stmt := top 119
abbrev s_require_active : Stmt := top 124
abbrev s_make : Stmt := top 125
abbrev s__drop : Stmt := top 127
abbrev s_drop_descendants : Stmt := top 128
abbrev s_drop : Stmt := top 129
abbrev s_dispose : Stmt := top 130
abbrev s__pass : Stmt := top 146
abbrev s_propagate : Stmt := top 147
abbrev s__do : Stmt := top 151
abbrev s__law_cell : Stmt := top 156
abbrev s__law_row : Stmt := top 157
abbrev s__law_draw : Stmt := top 158
abbrev s__law_value : Stmt := top 159
abbrev s__law_is_bool : Stmt := top 160
abbrev s__law_equal : Stmt := top 162
abbrev s__law_same : Stmt := top 165
abbrev s__law_try : Stmt := top 166
abbrev s__law_due_use : Stmt := top 167
abbrev s__law_due_provide : Stmt := top 168
abbrev s__law_gone : Stmt := top 169
abbrev s_law : Stmt := top 170
abbrev s_Run_init : Stmt := inClass (top 59) 0
abbrev s_Run_needs : Stmt := inClass (top 59) 2
abbrev s_Node_init : Stmt := inClass (top 111) 0
abbrev s_Node_copy : Stmt := inClass (top 111) 1
abbrev s_State_init : Stmt := inClass (top 115) 0
abbrev s_State_copy : Stmt := inClass (top 115) 1
abbrev s_Engine_init : Stmt := inClass (top 150) 0
abbrev s_Engine_node : Stmt := inClass (top 150) 1
abbrev s_Engine_use : Stmt := inClass (top 150) 3
abbrev s_Engine_make : Stmt := inClass (top 150) 4
abbrev s_Engine_dispose : Stmt := inClass (top 150) 12
abbrev s_Engine_remember : Stmt := inClass (top 150) 16
abbrev s_Engine_perform : Stmt := inClass (top 150) 18
abbrev s_Runtime_init : Stmt := inClass (top 153) 1
abbrev s_Runtimebegin : Stmt := inClass (top 153) 2
abbrev s_Runtimemake : Stmt := inClass (top 153) 3
abbrev s_Runtime_scope : Stmt := inClass (top 153) 6
abbrev s_Runtime_boundary : Stmt := inClass (top 153) 7
abbrev s_Runtime_context : Stmt := inClass (top 153) 12
abbrev s_Runtime_provide : Stmt := inClass (top 153) 13
abbrev s_Runtime_use : Stmt := inClass (top 153) 14
abbrev s_Runtime_dispose : Stmt := inClass (top 153) 17
abbrev s_Runtime_transaction : Stmt := inClass (top 153) 29
def d_is_integer : He.DefD := ⟨("is_integer", none), "is_integer", "is_integer", defArgs s_is_integer, defBody s_is_integer, defScope s_is_integer, [], []⟩
def d_is_value : He.DefD := ⟨("is_value", none), "is_value", "is_value", defArgs s_is_value, defBody s_is_value, defScope s_is_value, [], []⟩
def d_is_key : He.DefD := ⟨("is_key", none), "is_key", "is_key", defArgs s_is_key, defBody s_is_key, defScope s_is_key, [], []⟩
def d__has_word : He.DefD := ⟨("_has_word", none), "_has_word", "_has_word", defArgs s__has_word, defBody s__has_word, defScope s__has_word, [], []⟩
def d__expression_kinds : He.DefD := ⟨("_expression_kinds", none), "_expression_kinds", "_expression_kinds", defArgs s__expression_kinds, defBody s__expression_kinds, defScope s__expression_kinds, [], []⟩
def d__statement_kinds : He.DefD := ⟨("_statement_kinds", none), "_statement_kinds", "_statement_kinds", defArgs s__statement_kinds, defBody s__statement_kinds, defScope s__statement_kinds, [], []⟩
def d__is_expression : He.DefD := ⟨("_is_expression", none), "_is_expression", "_is_expression", defArgs s__is_expression, defBody s__is_expression, defScope s__is_expression, [], []⟩
def d__part_size : He.DefD := ⟨("_part_size", none), "_part_size", "_part_size", defArgs s__part_size, defBody s__part_size, defScope s__part_size, [], []⟩
def d__statement_size : He.DefD := ⟨("_statement_size", none), "_statement_size", "_statement_size", defArgs s__statement_size, defBody s__statement_size, defScope s__statement_size, [], []⟩
def d__block_size : He.DefD := ⟨("_block_size", none), "_block_size", "_block_size", defArgs s__block_size, defBody s__block_size, defScope s__block_size, [], []⟩
def d_is_program : He.DefD := ⟨("is_program", none), "is_program", "is_program", defArgs s_is_program, defBody s_is_program, defScope s_is_program, [], []⟩
def d__frozen : He.DefD := ⟨("_frozen", none), "_frozen", "_frozen", defArgs s__frozen, defBody s__frozen, defScope s__frozen, [], []⟩
def d_frozen : He.DefD := ⟨("frozen", none), "frozen", "frozen", defArgs s_frozen, defBody s_frozen, defScope s_frozen, [], []⟩
def d_require : He.DefD := ⟨("require", none), "require", "require", defArgs s_require, defBody s_require, defScope s_require, [], []⟩
def d_is_number : He.DefD := ⟨("is_number", none), "is_number", "is_number", defArgs s_is_number, defBody s_is_number, defScope s_is_number, [], []⟩
def d_check_node : He.DefD := ⟨("check_node", none), "check_node", "check_node", defArgs s_check_node, defBody s_check_node, defScope s_check_node, [], []⟩
def d_check_context : He.DefD := ⟨("check_context", none), "check_context", "check_context", defArgs s_check_context, defBody s_check_context, defScope s_check_context, [], []⟩
def d_check_value : He.DefD := ⟨("check_value", none), "check_value", "check_value", defArgs s_check_value, defBody s_check_value, defScope s_check_value, [], []⟩
def d__is_setting_value : He.DefD := ⟨("_is_setting_value", none), "_is_setting_value", "_is_setting_value", defArgs s__is_setting_value, defBody s__is_setting_value, defScope s__is_setting_value, [], []⟩
def d_check_program : He.DefD := ⟨("check_program", none), "check_program", "check_program", defArgs s_check_program, defBody s_check_program, defScope s_check_program, [], []⟩
def d_variable : He.DefD := ⟨("variable", none), "variable", "variable", defArgs s_variable, defBody s_variable, defScope s_variable, [], []⟩
def d_context_in : He.DefD := ⟨("context_in", none), "context_in", "context_in", defArgs s_context_in, defBody s_context_in, defScope s_context_in, [], []⟩
def d__use : He.DefD := ⟨("_use", none), "_use", "_use", defArgs s__use, defBody s__use, defScope s__use, [], []⟩
def d_evaluate : He.DefD := ⟨("evaluate", none), "evaluate", "evaluate", defArgs s_evaluate, defBody s_evaluate, defScope s_evaluate, [], []⟩
def d_run_statement : He.DefD := ⟨("run_statement", none), "run_statement", "run_statement", defArgs s_run_statement, defBody s_run_statement, defScope s_run_statement, [], []⟩
def d_run_block : He.DefD := ⟨("run_block", none), "run_block", "run_block", defArgs s_run_block, defBody s_run_block, defScope s_run_block, [], []⟩
def d_run_program : He.DefD := ⟨("run_program", none), "run_program", "run_program", defArgs s_run_program, defBody s_run_program, defScope s_run_program, [], []⟩
def d_make_requests : He.DefD := ⟨("make_requests", none), "make_requests", "make_requests", defArgs s_make_requests, defBody s_make_requests, defScope s_make_requests, [], []⟩
def d_serve : He.DefD := ⟨("serve", none), "serve", "serve", defArgs s_serve, defBody s_serve, defScope s_serve, [], []⟩
def d_active_count : He.DefD := ⟨("active_count", none), "active_count", "active_count", defArgs s_active_count, defBody s_active_count, defScope s_active_count, [], []⟩
def d_descendants : He.DefD := ⟨("descendants", none), "descendants", "descendants", defArgs s_descendants, defBody s_descendants, defScope s_descendants, [], []⟩
def d_context_value : He.DefD := ⟨("context_value", none), "context_value", "context_value", defArgs s_context_value, defBody s_context_value, defScope s_context_value, [], []⟩
def d_require_active : He.DefD := ⟨("require_active", none), "require_active", "require_active", defArgs s_require_active, defBody s_require_active, defScope s_require_active, [], []⟩
def d_make : He.DefD := ⟨("make", none), "make", "make", defArgs s_make, defBody s_make, defScope s_make, [], []⟩
def d__drop : He.DefD := ⟨("_drop", none), "_drop", "_drop", defArgs s__drop, defBody s__drop, defScope s__drop, [], []⟩
def d_drop_descendants : He.DefD := ⟨("drop_descendants", none), "drop_descendants", "drop_descendants", defArgs s_drop_descendants, defBody s_drop_descendants, defScope s_drop_descendants, [], []⟩
def d_drop : He.DefD := ⟨("drop", none), "drop", "drop", defArgs s_drop, defBody s_drop, defScope s_drop, [], []⟩
def d_dispose : He.DefD := ⟨("dispose", none), "dispose", "dispose", defArgs s_dispose, defBody s_dispose, defScope s_dispose, [], []⟩
def d__pass : He.DefD := ⟨("_pass", none), "_pass", "_pass", defArgs s__pass, defBody s__pass, defScope s__pass, [], []⟩
def d_propagate : He.DefD := ⟨("propagate", none), "propagate", "propagate", defArgs s_propagate, defBody s_propagate, defScope s_propagate, [], []⟩
def d__do : He.DefD := ⟨("_do", none), "_do", "_do", defArgs s__do, defBody s__do, defScope s__do, [], []⟩
def d__law_cell : He.DefD := ⟨("_law_cell", none), "_law_cell", "_law_cell", defArgs s__law_cell, defBody s__law_cell, defScope s__law_cell, [], []⟩
def d__law_row : He.DefD := ⟨("_law_row", none), "_law_row", "_law_row", defArgs s__law_row, defBody s__law_row, defScope s__law_row, [], []⟩
def d__law_draw : He.DefD := ⟨("_law_draw", none), "_law_draw", "_law_draw", defArgs s__law_draw, defBody s__law_draw, defScope s__law_draw, [], []⟩
def d__law_value : He.DefD := ⟨("_law_value", none), "_law_value", "_law_value", defArgs s__law_value, defBody s__law_value, defScope s__law_value, [], []⟩
def d__law_is_bool : He.DefD := ⟨("_law_is_bool", none), "_law_is_bool", "_law_is_bool", defArgs s__law_is_bool, defBody s__law_is_bool, defScope s__law_is_bool, [], []⟩
def d__law_equal : He.DefD := ⟨("_law_equal", none), "_law_equal", "_law_equal", defArgs s__law_equal, defBody s__law_equal, defScope s__law_equal, [], []⟩
def d__law_same : He.DefD := ⟨("_law_same", none), "_law_same", "_law_same", defArgs s__law_same, defBody s__law_same, defScope s__law_same, [], []⟩
def d__law_try : He.DefD := ⟨("_law_try", none), "_law_try", "_law_try", defArgs s__law_try, defBody s__law_try, defScope s__law_try, [], []⟩
def d__law_due_use : He.DefD := ⟨("_law_due_use", none), "_law_due_use", "_law_due_use", defArgs s__law_due_use, defBody s__law_due_use, defScope s__law_due_use, [], []⟩
def d__law_due_provide : He.DefD := ⟨("_law_due_provide", none), "_law_due_provide", "_law_due_provide", defArgs s__law_due_provide, defBody s__law_due_provide, defScope s__law_due_provide, [], []⟩
def d__law_gone : He.DefD := ⟨("_law_gone", none), "_law_gone", "_law_gone", defArgs s__law_gone, defBody s__law_gone, defScope s__law_gone, [], []⟩
def d_law : He.DefD := ⟨("law", none), "law", "law", defArgs s_law, defBody s_law, defScope s_law, [], []⟩
def d_Run_init : He.DefD := ⟨("Run", some "__init__"), "__init__", "Run.__init__", defArgs s_Run_init, defBody s_Run_init, defScope s_Run_init, [], []⟩
def d_Run_needs : He.DefD := ⟨("Run", some "needs"), "needs", "Run.needs", defArgs s_Run_needs, defBody s_Run_needs, defScope s_Run_needs, [], []⟩
def d_Node_init : He.DefD := ⟨("Node", some "__init__"), "__init__", "Node.__init__", defArgs s_Node_init, defBody s_Node_init, defScope s_Node_init, [], []⟩
def d_Node_copy : He.DefD := ⟨("Node", some "copy"), "copy", "Node.copy", defArgs s_Node_copy, defBody s_Node_copy, defScope s_Node_copy, [], []⟩
def d_State_init : He.DefD := ⟨("State", some "__init__"), "__init__", "State.__init__", defArgs s_State_init, defBody s_State_init, defScope s_State_init, [], []⟩
def d_State_copy : He.DefD := ⟨("State", some "copy"), "copy", "State.copy", defArgs s_State_copy, defBody s_State_copy, defScope s_State_copy, [], []⟩
def d_Engine_init : He.DefD := ⟨("Engine", some "__init__"), "__init__", "Engine.__init__", defArgs s_Engine_init, defBody s_Engine_init, defScope s_Engine_init, [], []⟩
def d_Engine_node : He.DefD := ⟨("Engine", some "node"), "node", "Engine.node", defArgs s_Engine_node, defBody s_Engine_node, defScope s_Engine_node, [], []⟩
def d_Engine_use : He.DefD := ⟨("Engine", some "use"), "use", "Engine.use", defArgs s_Engine_use, defBody s_Engine_use, defScope s_Engine_use, [], []⟩
def d_Engine_make : He.DefD := ⟨("Engine", some "make"), "make", "Engine.make", defArgs s_Engine_make, defBody s_Engine_make, defScope s_Engine_make, [], []⟩
def d_Engine_dispose : He.DefD := ⟨("Engine", some "dispose"), "dispose", "Engine.dispose", defArgs s_Engine_dispose, defBody s_Engine_dispose, defScope s_Engine_dispose, [], []⟩
def d_Engine_remember : He.DefD := ⟨("Engine", some "remember"), "remember", "Engine.remember", defArgs s_Engine_remember, defBody s_Engine_remember, defScope s_Engine_remember, [], []⟩
def d_Engine_perform : He.DefD := ⟨("Engine", some "perform"), "perform", "Engine.perform", defArgs s_Engine_perform, defBody s_Engine_perform, defScope s_Engine_perform, [], []⟩
def d_Runtime_init : He.DefD := ⟨("Runtime", some "__init__"), "__init__", "Runtime.__init__", defArgs s_Runtime_init, defBody s_Runtime_init, defScope s_Runtime_init, [], []⟩
def d_Runtimebegin : He.DefD := ⟨("Runtime", some "_begin"), "_begin", "Runtime._begin", defArgs s_Runtimebegin, defBody s_Runtimebegin, defScope s_Runtimebegin, [], []⟩
def d_Runtimemake : He.DefD := ⟨("Runtime", some "_make"), "_make", "Runtime._make", defArgs s_Runtimemake, defBody s_Runtimemake, defScope s_Runtimemake, [], []⟩
def d_Runtime_scope : He.DefD := ⟨("Runtime", some "scope"), "scope", "Runtime.scope", defArgs s_Runtime_scope, defBody s_Runtime_scope, defScope s_Runtime_scope, [], []⟩
def d_Runtime_boundary : He.DefD := ⟨("Runtime", some "boundary"), "boundary", "Runtime.boundary", defArgs s_Runtime_boundary, defBody s_Runtime_boundary, defScope s_Runtime_boundary, [], []⟩
def d_Runtime_context : He.DefD := ⟨("Runtime", some "context"), "context", "Runtime.context", defArgs s_Runtime_context, defBody s_Runtime_context, defScope s_Runtime_context, [], []⟩
def d_Runtime_provide : He.DefD := ⟨("Runtime", some "provide"), "provide", "Runtime.provide", defArgs s_Runtime_provide, defBody s_Runtime_provide, defScope s_Runtime_provide, [], []⟩
def d_Runtime_use : He.DefD := ⟨("Runtime", some "use"), "use", "Runtime.use", defArgs s_Runtime_use, defBody s_Runtime_use, defScope s_Runtime_use, [], []⟩
def d_Runtime_dispose : He.DefD := ⟨("Runtime", some "dispose"), "dispose", "Runtime.dispose", defArgs s_Runtime_dispose, defBody s_Runtime_dispose, defScope s_Runtime_dispose, [], []⟩
def d_Runtime_transaction : He.DefD := ⟨("Runtime", some "transaction"), "transaction", "Runtime.transaction", defArgs s_Runtime_transaction, defBody s_Runtime_transaction, defScope s_Runtime_transaction, [], []⟩
def fn : List He.DefD := [d_is_integer, d_is_value, d_is_key, d__has_word, d__expression_kinds, d__statement_kinds, d__is_expression, d__part_size, d__statement_size, d__block_size, d_is_program, d__frozen, d_frozen, d_require, d_is_number, d_check_node, d_check_context, d_check_value, d__is_setting_value, d_check_program, d_variable, d_context_in, d__use, d_evaluate, d_run_statement, d_run_block, d_run_program, d_make_requests, d_serve, d_active_count, d_descendants, d_context_value, d_require_active, d_make, d__drop, d_drop_descendants, d_drop, d_dispose, d__pass, d_propagate, d__do, d__law_cell, d__law_row, d__law_draw, d__law_value, d__law_is_bool, d__law_equal, d__law_same, d__law_try, d__law_due_use, d__law_due_provide, d__law_gone, d_law, d_Run_init, d_Run_needs, d_Node_init, d_Node_copy, d_State_init, d_State_copy, d_Engine_init, d_Engine_node, d_Engine_use, d_Engine_make, d_Engine_dispose, d_Engine_remember, d_Engine_perform, d_Runtime_init, d_Runtimebegin, d_Runtimemake, d_Runtime_scope, d_Runtime_boundary, d_Runtime_context, d_Runtime_provide, d_Runtime_use, d_Runtime_dispose, d_Runtime_transaction]
def fa0 : List He.Fa := [.glo "is_integer", .glo "is_value", .glo "is_key", .glo "_has_word", .glo "_expression_kinds", .glo "_statement_kinds", .glo "_is_expression", .glo "_part_size", .glo "_statement_size", .glo "_block_size", .glo "is_program", .glo "_frozen", .glo "frozen", .glo "require", .glo "is_number", .glo "check_node", .glo "check_context", .glo "check_value", .glo "_is_setting_value", .glo "check_program", .glo "variable", .glo "context_in", .glo "_use", .glo "evaluate", .glo "run_statement", .glo "run_block", .glo "run_program", .glo "make_requests", .glo "serve", .glo "active_count", .glo "descendants", .glo "context_value", .glo "require_active", .glo "make", .glo "_drop", .glo "drop_descendants", .glo "drop", .glo "dispose", .glo "_pass", .glo "propagate"]
def fa1 : List He.Fa := [.glo "_do", .glo "_law_cell", .glo "_law_row", .glo "_law_draw", .glo "_law_value", .glo "_law_is_bool", .glo "_law_equal", .glo "_law_same", .glo "_law_try", .glo "_law_due_use", .glo "_law_due_provide", .glo "_law_gone", .glo "make_changing", .glo "dispose_changing", .glo "Run", .glo "Node", .glo "State", .glo "Engine", .glo "Runtime", .glo "PlainRuntime", .glo "RippleError", .glo "law", .glo "OWNERS", .glo "DISPOSABLE_checks", .glo "QUIET", .glo "MAKING", .glo "EXPRESSIONS", .glo "STATEMENTS", .free "len", .free "isinstance", .free "all", .free "range", .free "int", .free "abs", .free "zip", .free "enumerate", .free "list", .free "dict", .free "tuple", .free "super"]
def fa2 : List He.Fa := [.free "str", .free "bool", .int "MODULUS" 1000, .int "LONGEST" 40, .int "LONGEST_KEY" 8, .int "DEEPEST" 5, .int "MOST_STATEMENTS" 200, .int "MOST_ACTIVE" 24, .int "MOST_MADE" 20, .int "MOST_PASSES" 10, .int "MOST_STATES" 16, .str "LETTERS" "abcdefghijklmnopqrstuvwxyz", .str "READ_ONLY" "read only", .str "TRANSACTION" "transaction", .cls "Run", .cls "Node", .cls "State", .cls "Engine", .cls "Runtime", .cls "PlainRuntime", .noat "Run" "engine", .noat "Run" "mode", .noat "Run" "number", .noat "Run" "owner", .noat "Run" "variables", .noat "Run" "reads", .noat "Node" "kind", .noat "Node" "owner", .noat "Node" "active", .noat "Node" "value", .noat "Node" "pairs", .noat "Node" "program", .noat "Node" "setting", .noat "Node" "store", .noat "Node" "name", .noat "Node" "kept", .noat "Node" "reads", .noat "Node" "checked", .noat "Node" "cleanups", .noat "Node" "provided"]
def fa3 : List He.Fa := [.noat "Node" "latest", .noat "Node" "children", .noat "State" "nodes", .noat "State" "defaults", .noat "State" "requests", .noat "State" "subscriptions", .noat "State" "pulls", .noat "State" "delivered", .noat "Engine" "plain", .noat "Engine" "state", .noat "Engine" "runs", .noat "Engine" "output", .noat "Engine" "deferred", .noat "Engine" "made", .noat "Engine" "running", .noat "Engine" "version", .noat "Engine" "history", .noat "Runtime" "engine", .noat "PlainRuntime" "engine", .meth "Run" "needs", .meth "Node" "copy", .meth "State" "copy", .meth "Engine" "node", .meth "Engine" "use", .meth "Engine" "make", .meth "Engine" "dispose", .meth "Engine" "remember", .meth "Engine" "perform", .meth "Runtime" "_begin", .meth "Runtime" "_make", .meth "Runtime" "scope", .meth "Runtime" "boundary", .meth "Runtime" "context", .meth "Runtime" "provide", .meth "Runtime" "use", .meth "Runtime" "dispose", .meth "Runtime" "transaction", .meth "PlainRuntime" "_begin", .meth "PlainRuntime" "_make", .meth "PlainRuntime" "scope"]
def fa4 : List He.Fa := [.meth "PlainRuntime" "boundary", .meth "PlainRuntime" "context", .meth "PlainRuntime" "provide", .meth "PlainRuntime" "use", .meth "PlainRuntime" "dispose", .meth "PlainRuntime" "transaction", .mkr "Run", .mkr "Node", .mkr "State", .mkr "Engine", .mkr "Runtime", .mkr "PlainRuntime", .noat "RippleError" "message", .exm "RippleError" "RippleError" true]
def fa : List He.Fa := fa0 ++ fa1 ++ fa2 ++ fa3 ++ fa4
def kE : List Str := ["value", "var", "read", "peek", "state", "get", "has", "size", "use", "add", "join", "equal", "less", "not"]
def kS : List Str := ["let", "if", "each", "try", "raise", "return", "emit", "write", "put", "remove", "reset", "dispose", "cleanup", "signal", "store", "scope", "boundary", "computed", "effect", "resource", "keyed", "atomic"]
def ts : List He.Tab := [(fun K => He.ga K "EXPRESSIONS", kE), (fun K => He.ga K "STATEMENTS", kS)]
/-! further facts, by a Bool of one's own -/
/-- the value of a written table at a key, where it is an object -/
def tabV (K : PySem.W.Frag) (x k : Str) : Addr := match PySem.W.nsIn K (He.ga K x) k with
  | some (some (.ref a)) => a
  | _ => 0
/-- at a: a tuple of these -/
def tupA (K : PySem.W.Frag) (a : Addr) (vs : List V) : Bool := match K.lookup a with
  | some ⟨.type c, _, .seq its _, _⟩ => decide (c = "tuple") && (decide (its.size ≤ sizeLine) && He.relAll vs its.toList)
  | _ => false
theorem tupA_ok {K : PySem.W.Frag} {a : Addr} {vs : List V} (h : tupA K a vs = true) (H : Hp) : SqT K H a vs := by
  unfold tupA at h
  cases q : K.lookup a with
  | none =>
    rw [q] at h
    cases h
  | some o =>
    obtain ⟨oc, od, dt, osl⟩ := o
    rw [q] at h
    cases oc with
    | type c =>
      cases dt with
      | seq its n =>
        obtain ⟨h1, h2⟩ := He.ba (show (decide (c = "tuple") && (decide (its.size ≤ sizeLine) && He.relAll vs its.toList)) = true from h)
        obtain ⟨h3, h4⟩ := He.ba h2
        exact .inr ⟨_, its, n, q, congrArg Value.type (of_decide_eq_true h1), rfl, of_decide_eq_true h3, He.relAll_ok h4⟩
      | _ => cases h
    | _ => cases dt <;> cases h
def tabB (K : PySem.W.Frag) (x k : Str) (vs : List V) : Bool := decide (PySem.W.nsIn K (He.ga K x) k = some (some (.ref (tabV K x k)))) && tupA K (tabV K x k) vs
/-- the methods of Runtime as PlainRuntime has them -/
def sameM (K : PySem.W.Frag) (m : Str) : Bool := decide (He.ma K (He.ga K "PlainRuntime") m = He.ma K (He.ga K "Runtime") m)
def conC (K : PySem.W.Frag) (x f : Str) (v : V) : Bool := match PySem.W.findIn K (.ref (He.ga K x)) f with
  | some (some u) => He.relB v u && He.eqO (PySem.W.specialIn K u "__get__") (some none)
  | _ => false
theorem conC_ok {K : PySem.W.Frag} {x f : Str} {v : V} (h : conC K x f v = true) (hc : PySem.W.copiedNames.contains f = false) : ∃ u, Con K (He.ga K x) f v u := by
  unfold conC at h
  cases e : PySem.W.findIn K (.ref (He.ga K x)) f with
  | none =>
    rw [e] at h
    cases h
  | some r =>
    rw [e] at h
    cases r with
    | none => cases h
    | some u =>
      obtain ⟨h1, h2⟩ := He.ba (show (He.relB v u && He.eqO (PySem.W.specialIn K u "__get__") (some none)) = true from h)
      exact ⟨u, e, He.relB_ok h1, He.eqO_ok h2, hc⟩
/-- the error's class -/
def oexB (K : PySem.W.Frag) (C : Addr) : Bool := match K.lookup C with
  | some ⟨.type c, _, .cls cd, sl⟩ => (match cd.mro, sl.toList with
    | .ref C' :: bm, [_, _, _, _, some (.builtin n), _] => decide (c = "type") && (decide (C' = C) && (decide (n = "ValueError.__new__") && (!cd.hasDel && (cd.hasDict && PySem.HandSPX.refsVE bm))))
    | _, _ => false)
  | _ => false
/-- its __init__: a def that closes over __class__; cc the cell, cda the code object -/
def reF (K : PySem.W.Frag) : Addr := He.ma K (He.ga K "RippleError") "__init__"
def s_RE : Stmt := inClass (top 2) 0
def reCC (K : PySem.W.Frag) : Addr := match K.lookup (reF K) with
  | some ⟨_, _, .func fd, _⟩ => (match fd.closure with
    | [(_, c)] => c
    | _ => 0)
  | _ => 0
def reCD (K : PySem.W.Frag) : Addr := match K.lookup (reF K) with
  | some ⟨_, _, .func fd, _⟩ => (match fd.code with
    | .ref c => c
    | _ => 0)
  | _ => 0
abbrev ReV : Type := Option (Str × Str × Arguments × FuncBody × Scope × Addr × List Str × Value × Value × Bool × Addr)
def isRef : Value → Bool
  | .ref _ => true
  | _ => false
def reObs (K : PySem.W.Frag) : ReV := match K.lookup (reF K) with
  | some ⟨_, _, .func fd, _⟩ => some (fd.name, fd.qualname, fd.params, fd.body, fd.scope, fd.globals, fd.closure.map (·.1), fd.defaults, fd.kwdefaults, isRef fd.code, fd.builtins)
  | _ => none
def reVal : ReV := some ("__init__", "RippleError.__init__", defArgs s_RE, .stmts (defBody s_RE), defScope s_RE, mainGlobals, ["__class__"], .none, .none, true, builtinsNs)
def reCell (K : PySem.W.Frag) : Bool := match K.lookup (reCC K) with
  | some ⟨_, _, .cell (some (.ref D)), _⟩ => decide (D = He.ga K "RippleError")
  | _ => false
def reCode (K : PySem.W.Frag) : Bool := match K.lookup (reCD K) with
  | some ⟨_, _, .fields vs, _⟩ => (match vs.toList with
    | _ :: _ :: .str f _ :: _ => (prog.main.file : Str) == f
    | _ => false)
  | _ => false
def reMore (K : PySem.W.Frag) : Bool := eqO2 (PySem.W.findIn K (.ref (He.ga K "RippleError")) "__setattr__") (some (some (.builtin "object.__setattr__"))) && (decide (PySem.W.subIn K (.ref (He.ga K "RippleError")) (.type "BaseException") = some true)
  && (decide (PySem.W.subIn K (.ref (He.ga K "RippleError")) (.type "ValueError") = some true) && (decide (PySem.W.typeIn K (.ref (He.ga K "RippleError")) = some (.type "type")) && (PySem.W.keepIn K (.ref (He.ga K "RippleError"))
  && (eqO2 (PySem.W.findIn K (.ref (He.ga K "RippleError")) "__init__") (some (some (.ref (reF K)))) && (decide (PySem.W.typeIn K (.ref (reF K)) = some (.type "function")) && (PySem.W.codeIn K (.ref (reCD K)) "RippleError.__init__"
  && (eqO2 (PySem.W.ks_superIn K (He.ga K "RippleError") (He.ga K "RippleError") "__init__") (some (some (.builtin "ValueError.__init__"))) && (decide (PySem.W.mroIn K (He.ga K "RippleError") (.ref (He.ga K "RippleError")) = some true)
  && (eqO2 (PySem.W.nsIn K cStatics "thirdparty.any") (some none) && (oexB K (He.ga K "RippleError") && (reCell K && (reCode K && xfB K (He.ga K "RippleError"))))))))))))))
where eqO2 (a b : Option (Option Value)) : Bool := decide (a = b)
def exL : List (PySem.W.Frag → Bool) := [
  fun K => tabB K "EXPRESSIONS" "use" [.str "name"],
  fun K => tabB K "STATEMENTS" "return" [.str "expression"],
  fun K => tupA K (He.ga K "OWNERS") [.str "scope", .str "boundary"],
  fun K => tupA K (He.ga K "DISPOSABLE_checks") [.str "scope", .str "boundary", .str "effect", .str "keyed", .str "resource"],
  fun K => tupA K (He.ga K "QUIET") [.str "let", .str "if", .str "each", .str "try", .str "raise", .str "return"],
  fun K => tupA K (He.ga K "MAKING") [.str "signal", .str "store", .str "scope", .str "boundary", .str "computed", .str "effect", .str "resource", .str "keyed"],
  fun K => decide (He.ga K "make_changing" = He.ga K "make"),
  fun K => decide (He.ga K "dispose_changing" = He.ga K "dispose"),
  fun K => conC K "Runtime" "forgets" (.bl false),
  fun K => conC K "PlainRuntime" "forgets" (.bl true),
  fun K => (["__init__", "_begin", "_make", "scope", "boundary", "context", "provide", "use", "dispose", "transaction"] : List Str).all (sameM K),
  fun K => reMore K]
def ex (K : PySem.W.Frag) : Bool := exL.all fun f => f K
/-- what the walk leans on -/
structure Txt (w : World) (K : PySem.W.Frag) (mg : Str → Option Value) : Prop where
  t : He.SaysT fa fn ts w K
  more : ex K = true
  re : reObs K = reVal
  h : ∃ h : Heap, K.In h ∧ h.Ns mainGlobals mg
section
variable {w : World} {K : PySem.W.Frag} {mg : Str → Option Value}
namespace Txt
theorem e (T : Txt w K mg) (i : Nat) {f : PySem.W.Frag → Bool} (h : exL[i]? = some f) : f K = true := List.all_eq_true.mp T.more f (List.mem_of_getElem? h)
theorem g_is_integer (T : Txt w K mg) : mg "is_integer" = some (.ref (He.ga K "is_integer")) := by
  obtain ⟨h, X, G⟩ := T.h
  exact He.glo_ok X G (T.t.d.fact 0 (f := .glo "is_integer") rfl)
theorem g_is_value (T : Txt w K mg) : mg "is_value" = some (.ref (He.ga K "is_value")) := by
  obtain ⟨h, X, G⟩ := T.h
  exact He.glo_ok X G (T.t.d.fact 1 (f := .glo "is_value") rfl)
theorem g_is_key (T : Txt w K mg) : mg "is_key" = some (.ref (He.ga K "is_key")) := by
  obtain ⟨h, X, G⟩ := T.h
  exact He.glo_ok X G (T.t.d.fact 2 (f := .glo "is_key") rfl)
theorem g__has_word (T : Txt w K mg) : mg "_has_word" = some (.ref (He.ga K "_has_word")) := by
  obtain ⟨h, X, G⟩ := T.h
  exact He.glo_ok X G (T.t.d.fact 3 (f := .glo "_has_word") rfl)
theorem g__expression_kinds (T : Txt w K mg) : mg "_expression_kinds" = some (.ref (He.ga K "_expression_kinds")) := by
  obtain ⟨h, X, G⟩ := T.h
  exact He.glo_ok X G (T.t.d.fact 4 (f := .glo "_expression_kinds") rfl)
theorem g__statement_kinds (T : Txt w K mg) : mg "_statement_kinds" = some (.ref (He.ga K "_statement_kinds")) := by
  obtain ⟨h, X, G⟩ := T.h
  exact He.glo_ok X G (T.t.d.fact 5 (f := .glo "_statement_kinds") rfl)
theorem g__is_expression (T : Txt w K mg) : mg "_is_expression" = some (.ref (He.ga K "_is_expression")) := by
  obtain ⟨h, X, G⟩ := T.h
  exact He.glo_ok X G (T.t.d.fact 6 (f := .glo "_is_expression") rfl)
theorem g__part_size (T : Txt w K mg) : mg "_part_size" = some (.ref (He.ga K "_part_size")) := by
  obtain ⟨h, X, G⟩ := T.h
  exact He.glo_ok X G (T.t.d.fact 7 (f := .glo "_part_size") rfl)
theorem g__statement_size (T : Txt w K mg) : mg "_statement_size" = some (.ref (He.ga K "_statement_size")) := by
  obtain ⟨h, X, G⟩ := T.h
  exact He.glo_ok X G (T.t.d.fact 8 (f := .glo "_statement_size") rfl)
theorem g__block_size (T : Txt w K mg) : mg "_block_size" = some (.ref (He.ga K "_block_size")) := by
  obtain ⟨h, X, G⟩ := T.h
  exact He.glo_ok X G (T.t.d.fact 9 (f := .glo "_block_size") rfl)
theorem g_is_program (T : Txt w K mg) : mg "is_program" = some (.ref (He.ga K "is_program")) := by
  obtain ⟨h, X, G⟩ := T.h
  exact He.glo_ok X G (T.t.d.fact 10 (f := .glo "is_program") rfl)
theorem g__frozen (T : Txt w K mg) : mg "_frozen" = some (.ref (He.ga K "_frozen")) := by
  obtain ⟨h, X, G⟩ := T.h
  exact He.glo_ok X G (T.t.d.fact 11 (f := .glo "_frozen") rfl)
theorem g_frozen (T : Txt w K mg) : mg "frozen" = some (.ref (He.ga K "frozen")) := by
  obtain ⟨h, X, G⟩ := T.h
  exact He.glo_ok X G (T.t.d.fact 12 (f := .glo "frozen") rfl)
theorem g_require (T : Txt w K mg) : mg "require" = some (.ref (He.ga K "require")) := by
  obtain ⟨h, X, G⟩ := T.h
  exact He.glo_ok X G (T.t.d.fact 13 (f := .glo "require") rfl)
theorem g_is_number (T : Txt w K mg) : mg "is_number" = some (.ref (He.ga K "is_number")) := by
  obtain ⟨h, X, G⟩ := T.h
  exact He.glo_ok X G (T.t.d.fact 14 (f := .glo "is_number") rfl)
theorem g_check_node (T : Txt w K mg) : mg "check_node" = some (.ref (He.ga K "check_node")) := by
  obtain ⟨h, X, G⟩ := T.h
  exact He.glo_ok X G (T.t.d.fact 15 (f := .glo "check_node") rfl)
theorem g_check_context (T : Txt w K mg) : mg "check_context" = some (.ref (He.ga K "check_context")) := by
  obtain ⟨h, X, G⟩ := T.h
  exact He.glo_ok X G (T.t.d.fact 16 (f := .glo "check_context") rfl)
theorem g_check_value (T : Txt w K mg) : mg "check_value" = some (.ref (He.ga K "check_value")) := by
  obtain ⟨h, X, G⟩ := T.h
  exact He.glo_ok X G (T.t.d.fact 17 (f := .glo "check_value") rfl)
theorem g__is_setting_value (T : Txt w K mg) : mg "_is_setting_value" = some (.ref (He.ga K "_is_setting_value")) := by
  obtain ⟨h, X, G⟩ := T.h
  exact He.glo_ok X G (T.t.d.fact 18 (f := .glo "_is_setting_value") rfl)
theorem g_check_program (T : Txt w K mg) : mg "check_program" = some (.ref (He.ga K "check_program")) := by
  obtain ⟨h, X, G⟩ := T.h
  exact He.glo_ok X G (T.t.d.fact 19 (f := .glo "check_program") rfl)
theorem g_variable (T : Txt w K mg) : mg "variable" = some (.ref (He.ga K "variable")) := by
  obtain ⟨h, X, G⟩ := T.h
  exact He.glo_ok X G (T.t.d.fact 20 (f := .glo "variable") rfl)
theorem g_context_in (T : Txt w K mg) : mg "context_in" = some (.ref (He.ga K "context_in")) := by
  obtain ⟨h, X, G⟩ := T.h
  exact He.glo_ok X G (T.t.d.fact 21 (f := .glo "context_in") rfl)
theorem g__use (T : Txt w K mg) : mg "_use" = some (.ref (He.ga K "_use")) := by
  obtain ⟨h, X, G⟩ := T.h
  exact He.glo_ok X G (T.t.d.fact 22 (f := .glo "_use") rfl)
theorem g_evaluate (T : Txt w K mg) : mg "evaluate" = some (.ref (He.ga K "evaluate")) := by
  obtain ⟨h, X, G⟩ := T.h
  exact He.glo_ok X G (T.t.d.fact 23 (f := .glo "evaluate") rfl)
theorem g_run_statement (T : Txt w K mg) : mg "run_statement" = some (.ref (He.ga K "run_statement")) := by
  obtain ⟨h, X, G⟩ := T.h
  exact He.glo_ok X G (T.t.d.fact 24 (f := .glo "run_statement") rfl)
theorem g_run_block (T : Txt w K mg) : mg "run_block" = some (.ref (He.ga K "run_block")) := by
  obtain ⟨h, X, G⟩ := T.h
  exact He.glo_ok X G (T.t.d.fact 25 (f := .glo "run_block") rfl)
theorem g_run_program (T : Txt w K mg) : mg "run_program" = some (.ref (He.ga K "run_program")) := by
  obtain ⟨h, X, G⟩ := T.h
  exact He.glo_ok X G (T.t.d.fact 26 (f := .glo "run_program") rfl)
theorem g_make_requests (T : Txt w K mg) : mg "make_requests" = some (.ref (He.ga K "make_requests")) := by
  obtain ⟨h, X, G⟩ := T.h
  exact He.glo_ok X G (T.t.d.fact 27 (f := .glo "make_requests") rfl)
theorem g_serve (T : Txt w K mg) : mg "serve" = some (.ref (He.ga K "serve")) := by
  obtain ⟨h, X, G⟩ := T.h
  exact He.glo_ok X G (T.t.d.fact 28 (f := .glo "serve") rfl)
theorem g_active_count (T : Txt w K mg) : mg "active_count" = some (.ref (He.ga K "active_count")) := by
  obtain ⟨h, X, G⟩ := T.h
  exact He.glo_ok X G (T.t.d.fact 29 (f := .glo "active_count") rfl)
theorem g_descendants (T : Txt w K mg) : mg "descendants" = some (.ref (He.ga K "descendants")) := by
  obtain ⟨h, X, G⟩ := T.h
  exact He.glo_ok X G (T.t.d.fact 30 (f := .glo "descendants") rfl)
theorem g_context_value (T : Txt w K mg) : mg "context_value" = some (.ref (He.ga K "context_value")) := by
  obtain ⟨h, X, G⟩ := T.h
  exact He.glo_ok X G (T.t.d.fact 31 (f := .glo "context_value") rfl)
theorem g_require_active (T : Txt w K mg) : mg "require_active" = some (.ref (He.ga K "require_active")) := by
  obtain ⟨h, X, G⟩ := T.h
  exact He.glo_ok X G (T.t.d.fact 32 (f := .glo "require_active") rfl)
theorem g_make (T : Txt w K mg) : mg "make" = some (.ref (He.ga K "make")) := by
  obtain ⟨h, X, G⟩ := T.h
  exact He.glo_ok X G (T.t.d.fact 33 (f := .glo "make") rfl)
theorem g__drop (T : Txt w K mg) : mg "_drop" = some (.ref (He.ga K "_drop")) := by
  obtain ⟨h, X, G⟩ := T.h
  exact He.glo_ok X G (T.t.d.fact 34 (f := .glo "_drop") rfl)
theorem g_drop_descendants (T : Txt w K mg) : mg "drop_descendants" = some (.ref (He.ga K "drop_descendants")) := by
  obtain ⟨h, X, G⟩ := T.h
  exact He.glo_ok X G (T.t.d.fact 35 (f := .glo "drop_descendants") rfl)
theorem g_drop (T : Txt w K mg) : mg "drop" = some (.ref (He.ga K "drop")) := by
  obtain ⟨h, X, G⟩ := T.h
  exact He.glo_ok X G (T.t.d.fact 36 (f := .glo "drop") rfl)
theorem g_dispose (T : Txt w K mg) : mg "dispose" = some (.ref (He.ga K "dispose")) := by
  obtain ⟨h, X, G⟩ := T.h
  exact He.glo_ok X G (T.t.d.fact 37 (f := .glo "dispose") rfl)
theorem g__pass (T : Txt w K mg) : mg "_pass" = some (.ref (He.ga K "_pass")) := by
  obtain ⟨h, X, G⟩ := T.h
  exact He.glo_ok X G (T.t.d.fact 38 (f := .glo "_pass") rfl)
theorem g_propagate (T : Txt w K mg) : mg "propagate" = some (.ref (He.ga K "propagate")) := by
  obtain ⟨h, X, G⟩ := T.h
  exact He.glo_ok X G (T.t.d.fact 39 (f := .glo "propagate") rfl)
theorem g__do (T : Txt w K mg) : mg "_do" = some (.ref (He.ga K "_do")) := by
  obtain ⟨h, X, G⟩ := T.h
  exact He.glo_ok X G (T.t.d.fact 40 (f := .glo "_do") rfl)
theorem g__law_cell (T : Txt w K mg) : mg "_law_cell" = some (.ref (He.ga K "_law_cell")) := by
  obtain ⟨h, X, G⟩ := T.h
  exact He.glo_ok X G (T.t.d.fact 41 (f := .glo "_law_cell") rfl)
theorem g__law_row (T : Txt w K mg) : mg "_law_row" = some (.ref (He.ga K "_law_row")) := by
  obtain ⟨h, X, G⟩ := T.h
  exact He.glo_ok X G (T.t.d.fact 42 (f := .glo "_law_row") rfl)
theorem g__law_draw (T : Txt w K mg) : mg "_law_draw" = some (.ref (He.ga K "_law_draw")) := by
  obtain ⟨h, X, G⟩ := T.h
  exact He.glo_ok X G (T.t.d.fact 43 (f := .glo "_law_draw") rfl)
theorem g__law_value (T : Txt w K mg) : mg "_law_value" = some (.ref (He.ga K "_law_value")) := by
  obtain ⟨h, X, G⟩ := T.h
  exact He.glo_ok X G (T.t.d.fact 44 (f := .glo "_law_value") rfl)
theorem g__law_is_bool (T : Txt w K mg) : mg "_law_is_bool" = some (.ref (He.ga K "_law_is_bool")) := by
  obtain ⟨h, X, G⟩ := T.h
  exact He.glo_ok X G (T.t.d.fact 45 (f := .glo "_law_is_bool") rfl)
theorem g__law_equal (T : Txt w K mg) : mg "_law_equal" = some (.ref (He.ga K "_law_equal")) := by
  obtain ⟨h, X, G⟩ := T.h
  exact He.glo_ok X G (T.t.d.fact 46 (f := .glo "_law_equal") rfl)
theorem g__law_same (T : Txt w K mg) : mg "_law_same" = some (.ref (He.ga K "_law_same")) := by
  obtain ⟨h, X, G⟩ := T.h
  exact He.glo_ok X G (T.t.d.fact 47 (f := .glo "_law_same") rfl)
theorem g__law_try (T : Txt w K mg) : mg "_law_try" = some (.ref (He.ga K "_law_try")) := by
  obtain ⟨h, X, G⟩ := T.h
  exact He.glo_ok X G (T.t.d.fact 48 (f := .glo "_law_try") rfl)
theorem g__law_due_use (T : Txt w K mg) : mg "_law_due_use" = some (.ref (He.ga K "_law_due_use")) := by
  obtain ⟨h, X, G⟩ := T.h
  exact He.glo_ok X G (T.t.d.fact 49 (f := .glo "_law_due_use") rfl)
theorem g__law_due_provide (T : Txt w K mg) : mg "_law_due_provide" = some (.ref (He.ga K "_law_due_provide")) := by
  obtain ⟨h, X, G⟩ := T.h
  exact He.glo_ok X G (T.t.d.fact 50 (f := .glo "_law_due_provide") rfl)
theorem g__law_gone (T : Txt w K mg) : mg "_law_gone" = some (.ref (He.ga K "_law_gone")) := by
  obtain ⟨h, X, G⟩ := T.h
  exact He.glo_ok X G (T.t.d.fact 51 (f := .glo "_law_gone") rfl)
theorem g_make_changing (T : Txt w K mg) : mg "make_changing" = some (.ref (He.ga K "make_changing")) := by
  obtain ⟨h, X, G⟩ := T.h
  exact He.glo_ok X G (T.t.d.fact 52 (f := .glo "make_changing") rfl)
theorem g_dispose_changing (T : Txt w K mg) : mg "dispose_changing" = some (.ref (He.ga K "dispose_changing")) := by
  obtain ⟨h, X, G⟩ := T.h
  exact He.glo_ok X G (T.t.d.fact 53 (f := .glo "dispose_changing") rfl)
theorem g_Run (T : Txt w K mg) : mg "Run" = some (.ref (He.ga K "Run")) := by
  obtain ⟨h, X, G⟩ := T.h
  exact He.glo_ok X G (T.t.d.fact 54 (f := .glo "Run") rfl)
theorem g_Node (T : Txt w K mg) : mg "Node" = some (.ref (He.ga K "Node")) := by
  obtain ⟨h, X, G⟩ := T.h
  exact He.glo_ok X G (T.t.d.fact 55 (f := .glo "Node") rfl)
theorem g_State (T : Txt w K mg) : mg "State" = some (.ref (He.ga K "State")) := by
  obtain ⟨h, X, G⟩ := T.h
  exact He.glo_ok X G (T.t.d.fact 56 (f := .glo "State") rfl)
theorem g_Engine (T : Txt w K mg) : mg "Engine" = some (.ref (He.ga K "Engine")) := by
  obtain ⟨h, X, G⟩ := T.h
  exact He.glo_ok X G (T.t.d.fact 57 (f := .glo "Engine") rfl)
theorem g_Runtime (T : Txt w K mg) : mg "Runtime" = some (.ref (He.ga K "Runtime")) := by
  obtain ⟨h, X, G⟩ := T.h
  exact He.glo_ok X G (T.t.d.fact 58 (f := .glo "Runtime") rfl)
theorem g_PlainRuntime (T : Txt w K mg) : mg "PlainRuntime" = some (.ref (He.ga K "PlainRuntime")) := by
  obtain ⟨h, X, G⟩ := T.h
  exact He.glo_ok X G (T.t.d.fact 59 (f := .glo "PlainRuntime") rfl)
theorem g_RippleError (T : Txt w K mg) : mg "RippleError" = some (.ref (He.ga K "RippleError")) := by
  obtain ⟨h, X, G⟩ := T.h
  exact He.glo_ok X G (T.t.d.fact 60 (f := .glo "RippleError") rfl)
theorem g_law (T : Txt w K mg) : mg "law" = some (.ref (He.ga K "law")) := by
  obtain ⟨h, X, G⟩ := T.h
  exact He.glo_ok X G (T.t.d.fact 61 (f := .glo "law") rfl)
theorem g_OWNERS (T : Txt w K mg) : mg "OWNERS" = some (.ref (He.ga K "OWNERS")) := by
  obtain ⟨h, X, G⟩ := T.h
  exact He.glo_ok X G (T.t.d.fact 62 (f := .glo "OWNERS") rfl)
theorem g_DISPOSABLE_checks (T : Txt w K mg) : mg "DISPOSABLE_checks" = some (.ref (He.ga K "DISPOSABLE_checks")) := by
  obtain ⟨h, X, G⟩ := T.h
  exact He.glo_ok X G (T.t.d.fact 63 (f := .glo "DISPOSABLE_checks") rfl)
theorem g_QUIET (T : Txt w K mg) : mg "QUIET" = some (.ref (He.ga K "QUIET")) := by
  obtain ⟨h, X, G⟩ := T.h
  exact He.glo_ok X G (T.t.d.fact 64 (f := .glo "QUIET") rfl)
theorem g_MAKING (T : Txt w K mg) : mg "MAKING" = some (.ref (He.ga K "MAKING")) := by
  obtain ⟨h, X, G⟩ := T.h
  exact He.glo_ok X G (T.t.d.fact 65 (f := .glo "MAKING") rfl)
theorem g_EXPRESSIONS (T : Txt w K mg) : mg "EXPRESSIONS" = some (.ref (He.ga K "EXPRESSIONS")) := by
  obtain ⟨h, X, G⟩ := T.h
  exact He.glo_ok X G (T.t.d.fact 66 (f := .glo "EXPRESSIONS") rfl)
theorem g_STATEMENTS (T : Txt w K mg) : mg "STATEMENTS" = some (.ref (He.ga K "STATEMENTS")) := by
  obtain ⟨h, X, G⟩ := T.h
  exact He.glo_ok X G (T.t.d.fact 67 (f := .glo "STATEMENTS") rfl)
theorem b_len (T : Txt w K mg) : mg "len" = none := by
  obtain ⟨h, X, G⟩ := T.h
  exact He.free_ok X G (T.t.d.fact 68 (f := .free "len") rfl)
theorem b_isinstance (T : Txt w K mg) : mg "isinstance" = none := by
  obtain ⟨h, X, G⟩ := T.h
  exact He.free_ok X G (T.t.d.fact 69 (f := .free "isinstance") rfl)
theorem b_all (T : Txt w K mg) : mg "all" = none := by
  obtain ⟨h, X, G⟩ := T.h
  exact He.free_ok X G (T.t.d.fact 70 (f := .free "all") rfl)
theorem b_range (T : Txt w K mg) : mg "range" = none := by
  obtain ⟨h, X, G⟩ := T.h
  exact He.free_ok X G (T.t.d.fact 71 (f := .free "range") rfl)
theorem b_int (T : Txt w K mg) : mg "int" = none := by
  obtain ⟨h, X, G⟩ := T.h
  exact He.free_ok X G (T.t.d.fact 72 (f := .free "int") rfl)
theorem b_abs (T : Txt w K mg) : mg "abs" = none := by
  obtain ⟨h, X, G⟩ := T.h
  exact He.free_ok X G (T.t.d.fact 73 (f := .free "abs") rfl)
theorem b_zip (T : Txt w K mg) : mg "zip" = none := by
  obtain ⟨h, X, G⟩ := T.h
  exact He.free_ok X G (T.t.d.fact 74 (f := .free "zip") rfl)
theorem b_enumerate (T : Txt w K mg) : mg "enumerate" = none := by
  obtain ⟨h, X, G⟩ := T.h
  exact He.free_ok X G (T.t.d.fact 75 (f := .free "enumerate") rfl)
theorem b_list (T : Txt w K mg) : mg "list" = none := by
  obtain ⟨h, X, G⟩ := T.h
  exact He.free_ok X G (T.t.d.fact 76 (f := .free "list") rfl)
theorem b_dict (T : Txt w K mg) : mg "dict" = none := by
  obtain ⟨h, X, G⟩ := T.h
  exact He.free_ok X G (T.t.d.fact 77 (f := .free "dict") rfl)
theorem b_tuple (T : Txt w K mg) : mg "tuple" = none := by
  obtain ⟨h, X, G⟩ := T.h
  exact He.free_ok X G (T.t.d.fact 78 (f := .free "tuple") rfl)
theorem b_super (T : Txt w K mg) : mg "super" = none := by
  obtain ⟨h, X, G⟩ := T.h
  exact He.free_ok X G (T.t.d.fact 79 (f := .free "super") rfl)
theorem b_str (T : Txt w K mg) : mg "str" = none := by
  obtain ⟨h, X, G⟩ := T.h
  exact He.free_ok X G (T.t.d.fact 80 (f := .free "str") rfl)
theorem b_bool (T : Txt w K mg) : mg "bool" = none := by
  obtain ⟨h, X, G⟩ := T.h
  exact He.free_ok X G (T.t.d.fact 81 (f := .free "bool") rfl)
theorem i_MODULUS (T : Txt w K mg) : ∃ t, mg "MODULUS" = some (.int 1000 t) := by
  obtain ⟨h, X, G⟩ := T.h
  exact He.int_ok X G (T.t.d.fact 82 (f := .int "MODULUS" 1000) rfl)
theorem i_LONGEST (T : Txt w K mg) : ∃ t, mg "LONGEST" = some (.int 40 t) := by
  obtain ⟨h, X, G⟩ := T.h
  exact He.int_ok X G (T.t.d.fact 83 (f := .int "LONGEST" 40) rfl)
theorem i_LONGEST_KEY (T : Txt w K mg) : ∃ t, mg "LONGEST_KEY" = some (.int 8 t) := by
  obtain ⟨h, X, G⟩ := T.h
  exact He.int_ok X G (T.t.d.fact 84 (f := .int "LONGEST_KEY" 8) rfl)
theorem i_DEEPEST (T : Txt w K mg) : ∃ t, mg "DEEPEST" = some (.int 5 t) := by
  obtain ⟨h, X, G⟩ := T.h
  exact He.int_ok X G (T.t.d.fact 85 (f := .int "DEEPEST" 5) rfl)
theorem i_MOST_STATEMENTS (T : Txt w K mg) : ∃ t, mg "MOST_STATEMENTS" = some (.int 200 t) := by
  obtain ⟨h, X, G⟩ := T.h
  exact He.int_ok X G (T.t.d.fact 86 (f := .int "MOST_STATEMENTS" 200) rfl)
theorem i_MOST_ACTIVE (T : Txt w K mg) : ∃ t, mg "MOST_ACTIVE" = some (.int 24 t) := by
  obtain ⟨h, X, G⟩ := T.h
  exact He.int_ok X G (T.t.d.fact 87 (f := .int "MOST_ACTIVE" 24) rfl)
theorem i_MOST_MADE (T : Txt w K mg) : ∃ t, mg "MOST_MADE" = some (.int 20 t) := by
  obtain ⟨h, X, G⟩ := T.h
  exact He.int_ok X G (T.t.d.fact 88 (f := .int "MOST_MADE" 20) rfl)
theorem i_MOST_PASSES (T : Txt w K mg) : ∃ t, mg "MOST_PASSES" = some (.int 10 t) := by
  obtain ⟨h, X, G⟩ := T.h
  exact He.int_ok X G (T.t.d.fact 89 (f := .int "MOST_PASSES" 10) rfl)
theorem i_MOST_STATES (T : Txt w K mg) : ∃ t, mg "MOST_STATES" = some (.int 16 t) := by
  obtain ⟨h, X, G⟩ := T.h
  exact He.int_ok X G (T.t.d.fact 90 (f := .int "MOST_STATES" 16) rfl)
theorem z_LETTERS (T : Txt w K mg) : ∃ t, mg "LETTERS" = some (.str "abcdefghijklmnopqrstuvwxyz" t) := by
  obtain ⟨h, X, G⟩ := T.h
  exact He.str_ok X G (T.t.d.fact 91 (f := .str "LETTERS" "abcdefghijklmnopqrstuvwxyz") rfl)
theorem z_READ_ONLY (T : Txt w K mg) : ∃ t, mg "READ_ONLY" = some (.str "read only" t) := by
  obtain ⟨h, X, G⟩ := T.h
  exact He.str_ok X G (T.t.d.fact 92 (f := .str "READ_ONLY" "read only") rfl)
theorem z_TRANSACTION (T : Txt w K mg) : ∃ t, mg "TRANSACTION" = some (.str "transaction" t) := by
  obtain ⟨h, X, G⟩ := T.h
  exact He.str_ok X G (T.t.d.fact 93 (f := .str "TRANSACTION" "transaction") rfl)
theorem c_Run (T : Txt w K mg) : Cls K (He.ga K "Run") := He.cls_ok (T.t.d.fact 94 (f := .cls "Run") rfl)
theorem c_Node (T : Txt w K mg) : Cls K (He.ga K "Node") := He.cls_ok (T.t.d.fact 95 (f := .cls "Node") rfl)
theorem c_State (T : Txt w K mg) : Cls K (He.ga K "State") := He.cls_ok (T.t.d.fact 96 (f := .cls "State") rfl)
theorem c_Engine (T : Txt w K mg) : Cls K (He.ga K "Engine") := He.cls_ok (T.t.d.fact 97 (f := .cls "Engine") rfl)
theorem c_Runtime (T : Txt w K mg) : Cls K (He.ga K "Runtime") := He.cls_ok (T.t.d.fact 98 (f := .cls "Runtime") rfl)
theorem c_PlainRuntime (T : Txt w K mg) : Cls K (He.ga K "PlainRuntime") := He.cls_ok (T.t.d.fact 99 (f := .cls "PlainRuntime") rfl)
theorem n_Run_engine (T : Txt w K mg) : NoAttr K (He.ga K "Run") "engine" := He.noat_ok (T.t.d.fact 100 (f := .noat "Run" "engine") rfl)
theorem n_Run_mode (T : Txt w K mg) : NoAttr K (He.ga K "Run") "mode" := He.noat_ok (T.t.d.fact 101 (f := .noat "Run" "mode") rfl)
theorem n_Run_number (T : Txt w K mg) : NoAttr K (He.ga K "Run") "number" := He.noat_ok (T.t.d.fact 102 (f := .noat "Run" "number") rfl)
theorem n_Run_owner (T : Txt w K mg) : NoAttr K (He.ga K "Run") "owner" := He.noat_ok (T.t.d.fact 103 (f := .noat "Run" "owner") rfl)
theorem n_Run_variables (T : Txt w K mg) : NoAttr K (He.ga K "Run") "variables" := He.noat_ok (T.t.d.fact 104 (f := .noat "Run" "variables") rfl)
theorem n_Run_reads (T : Txt w K mg) : NoAttr K (He.ga K "Run") "reads" := He.noat_ok (T.t.d.fact 105 (f := .noat "Run" "reads") rfl)
theorem n_Node_kind (T : Txt w K mg) : NoAttr K (He.ga K "Node") "kind" := He.noat_ok (T.t.d.fact 106 (f := .noat "Node" "kind") rfl)
theorem n_Node_owner (T : Txt w K mg) : NoAttr K (He.ga K "Node") "owner" := He.noat_ok (T.t.d.fact 107 (f := .noat "Node" "owner") rfl)
theorem n_Node_active (T : Txt w K mg) : NoAttr K (He.ga K "Node") "active" := He.noat_ok (T.t.d.fact 108 (f := .noat "Node" "active") rfl)
theorem n_Node_value (T : Txt w K mg) : NoAttr K (He.ga K "Node") "value" := He.noat_ok (T.t.d.fact 109 (f := .noat "Node" "value") rfl)
theorem n_Node_pairs (T : Txt w K mg) : NoAttr K (He.ga K "Node") "pairs" := He.noat_ok (T.t.d.fact 110 (f := .noat "Node" "pairs") rfl)
theorem n_Node_program (T : Txt w K mg) : NoAttr K (He.ga K "Node") "program" := He.noat_ok (T.t.d.fact 111 (f := .noat "Node" "program") rfl)
theorem n_Node_setting (T : Txt w K mg) : NoAttr K (He.ga K "Node") "setting" := He.noat_ok (T.t.d.fact 112 (f := .noat "Node" "setting") rfl)
theorem n_Node_store (T : Txt w K mg) : NoAttr K (He.ga K "Node") "store" := He.noat_ok (T.t.d.fact 113 (f := .noat "Node" "store") rfl)
theorem n_Node_name (T : Txt w K mg) : NoAttr K (He.ga K "Node") "name" := He.noat_ok (T.t.d.fact 114 (f := .noat "Node" "name") rfl)
theorem n_Node_kept (T : Txt w K mg) : NoAttr K (He.ga K "Node") "kept" := He.noat_ok (T.t.d.fact 115 (f := .noat "Node" "kept") rfl)
theorem n_Node_reads (T : Txt w K mg) : NoAttr K (He.ga K "Node") "reads" := He.noat_ok (T.t.d.fact 116 (f := .noat "Node" "reads") rfl)
theorem n_Node_checked (T : Txt w K mg) : NoAttr K (He.ga K "Node") "checked" := He.noat_ok (T.t.d.fact 117 (f := .noat "Node" "checked") rfl)
theorem n_Node_cleanups (T : Txt w K mg) : NoAttr K (He.ga K "Node") "cleanups" := He.noat_ok (T.t.d.fact 118 (f := .noat "Node" "cleanups") rfl)
theorem n_Node_provided (T : Txt w K mg) : NoAttr K (He.ga K "Node") "provided" := He.noat_ok (T.t.d.fact 119 (f := .noat "Node" "provided") rfl)
theorem n_Node_latest (T : Txt w K mg) : NoAttr K (He.ga K "Node") "latest" := He.noat_ok (T.t.d.fact 120 (f := .noat "Node" "latest") rfl)
theorem n_Node_children (T : Txt w K mg) : NoAttr K (He.ga K "Node") "children" := He.noat_ok (T.t.d.fact 121 (f := .noat "Node" "children") rfl)
theorem n_State_nodes (T : Txt w K mg) : NoAttr K (He.ga K "State") "nodes" := He.noat_ok (T.t.d.fact 122 (f := .noat "State" "nodes") rfl)
theorem n_State_defaults (T : Txt w K mg) : NoAttr K (He.ga K "State") "defaults" := He.noat_ok (T.t.d.fact 123 (f := .noat "State" "defaults") rfl)
theorem n_State_requests (T : Txt w K mg) : NoAttr K (He.ga K "State") "requests" := He.noat_ok (T.t.d.fact 124 (f := .noat "State" "requests") rfl)
theorem n_State_subscriptions (T : Txt w K mg) : NoAttr K (He.ga K "State") "subscriptions" := He.noat_ok (T.t.d.fact 125 (f := .noat "State" "subscriptions") rfl)
theorem n_State_pulls (T : Txt w K mg) : NoAttr K (He.ga K "State") "pulls" := He.noat_ok (T.t.d.fact 126 (f := .noat "State" "pulls") rfl)
theorem n_State_delivered (T : Txt w K mg) : NoAttr K (He.ga K "State") "delivered" := He.noat_ok (T.t.d.fact 127 (f := .noat "State" "delivered") rfl)
theorem n_Engine_plain (T : Txt w K mg) : NoAttr K (He.ga K "Engine") "plain" := He.noat_ok (T.t.d.fact 128 (f := .noat "Engine" "plain") rfl)
theorem n_Engine_state (T : Txt w K mg) : NoAttr K (He.ga K "Engine") "state" := He.noat_ok (T.t.d.fact 129 (f := .noat "Engine" "state") rfl)
theorem n_Engine_runs (T : Txt w K mg) : NoAttr K (He.ga K "Engine") "runs" := He.noat_ok (T.t.d.fact 130 (f := .noat "Engine" "runs") rfl)
theorem n_Engine_output (T : Txt w K mg) : NoAttr K (He.ga K "Engine") "output" := He.noat_ok (T.t.d.fact 131 (f := .noat "Engine" "output") rfl)
theorem n_Engine_deferred (T : Txt w K mg) : NoAttr K (He.ga K "Engine") "deferred" := He.noat_ok (T.t.d.fact 132 (f := .noat "Engine" "deferred") rfl)
theorem n_Engine_made (T : Txt w K mg) : NoAttr K (He.ga K "Engine") "made" := He.noat_ok (T.t.d.fact 133 (f := .noat "Engine" "made") rfl)
theorem n_Engine_running (T : Txt w K mg) : NoAttr K (He.ga K "Engine") "running" := He.noat_ok (T.t.d.fact 134 (f := .noat "Engine" "running") rfl)
theorem n_Engine_version (T : Txt w K mg) : NoAttr K (He.ga K "Engine") "version" := He.noat_ok (T.t.d.fact 135 (f := .noat "Engine" "version") rfl)
theorem n_Engine_history (T : Txt w K mg) : NoAttr K (He.ga K "Engine") "history" := He.noat_ok (T.t.d.fact 136 (f := .noat "Engine" "history") rfl)
theorem n_Runtime_engine (T : Txt w K mg) : NoAttr K (He.ga K "Runtime") "engine" := He.noat_ok (T.t.d.fact 137 (f := .noat "Runtime" "engine") rfl)
theorem n_PlainRuntime_engine (T : Txt w K mg) : NoAttr K (He.ga K "PlainRuntime") "engine" := He.noat_ok (T.t.d.fact 138 (f := .noat "PlainRuntime" "engine") rfl)
theorem m_Run_needs (T : Txt w K mg) : Meth K (He.ga K "Run") "needs" (He.ma K (He.ga K "Run") "needs") := He.meth_ok (T.t.d.fact 139 (f := .meth "Run" "needs") rfl)
theorem m_Node_copy (T : Txt w K mg) : Meth K (He.ga K "Node") "copy" (He.ma K (He.ga K "Node") "copy") := He.meth_ok (T.t.d.fact 140 (f := .meth "Node" "copy") rfl)
theorem m_State_copy (T : Txt w K mg) : Meth K (He.ga K "State") "copy" (He.ma K (He.ga K "State") "copy") := He.meth_ok (T.t.d.fact 141 (f := .meth "State" "copy") rfl)
theorem m_Engine_node (T : Txt w K mg) : Meth K (He.ga K "Engine") "node" (He.ma K (He.ga K "Engine") "node") := He.meth_ok (T.t.d.fact 142 (f := .meth "Engine" "node") rfl)
theorem m_Engine_use (T : Txt w K mg) : Meth K (He.ga K "Engine") "use" (He.ma K (He.ga K "Engine") "use") := He.meth_ok (T.t.d.fact 143 (f := .meth "Engine" "use") rfl)
theorem m_Engine_make (T : Txt w K mg) : Meth K (He.ga K "Engine") "make" (He.ma K (He.ga K "Engine") "make") := He.meth_ok (T.t.d.fact 144 (f := .meth "Engine" "make") rfl)
theorem m_Engine_dispose (T : Txt w K mg) : Meth K (He.ga K "Engine") "dispose" (He.ma K (He.ga K "Engine") "dispose") := He.meth_ok (T.t.d.fact 145 (f := .meth "Engine" "dispose") rfl)
theorem m_Engine_remember (T : Txt w K mg) : Meth K (He.ga K "Engine") "remember" (He.ma K (He.ga K "Engine") "remember") := He.meth_ok (T.t.d.fact 146 (f := .meth "Engine" "remember") rfl)
theorem m_Engine_perform (T : Txt w K mg) : Meth K (He.ga K "Engine") "perform" (He.ma K (He.ga K "Engine") "perform") := He.meth_ok (T.t.d.fact 147 (f := .meth "Engine" "perform") rfl)
theorem m_Runtime__begin (T : Txt w K mg) : Meth K (He.ga K "Runtime") "_begin" (He.ma K (He.ga K "Runtime") "_begin") := He.meth_ok (T.t.d.fact 148 (f := .meth "Runtime" "_begin") rfl)
theorem m_Runtime__make (T : Txt w K mg) : Meth K (He.ga K "Runtime") "_make" (He.ma K (He.ga K "Runtime") "_make") := He.meth_ok (T.t.d.fact 149 (f := .meth "Runtime" "_make") rfl)
theorem m_Runtime_scope (T : Txt w K mg) : Meth K (He.ga K "Runtime") "scope" (He.ma K (He.ga K "Runtime") "scope") := He.meth_ok (T.t.d.fact 150 (f := .meth "Runtime" "scope") rfl)
theorem m_Runtime_boundary (T : Txt w K mg) : Meth K (He.ga K "Runtime") "boundary" (He.ma K (He.ga K "Runtime") "boundary") := He.meth_ok (T.t.d.fact 151 (f := .meth "Runtime" "boundary") rfl)
theorem m_Runtime_context (T : Txt w K mg) : Meth K (He.ga K "Runtime") "context" (He.ma K (He.ga K "Runtime") "context") := He.meth_ok (T.t.d.fact 152 (f := .meth "Runtime" "context") rfl)
theorem m_Runtime_provide (T : Txt w K mg) : Meth K (He.ga K "Runtime") "provide" (He.ma K (He.ga K "Runtime") "provide") := He.meth_ok (T.t.d.fact 153 (f := .meth "Runtime" "provide") rfl)
theorem m_Runtime_use (T : Txt w K mg) : Meth K (He.ga K "Runtime") "use" (He.ma K (He.ga K "Runtime") "use") := He.meth_ok (T.t.d.fact 154 (f := .meth "Runtime" "use") rfl)
theorem m_Runtime_dispose (T : Txt w K mg) : Meth K (He.ga K "Runtime") "dispose" (He.ma K (He.ga K "Runtime") "dispose") := He.meth_ok (T.t.d.fact 155 (f := .meth "Runtime" "dispose") rfl)
theorem m_Runtime_transaction (T : Txt w K mg) : Meth K (He.ga K "Runtime") "transaction" (He.ma K (He.ga K "Runtime") "transaction") := He.meth_ok (T.t.d.fact 156 (f := .meth "Runtime" "transaction") rfl)
theorem m_PlainRuntime__begin (T : Txt w K mg) : Meth K (He.ga K "PlainRuntime") "_begin" (He.ma K (He.ga K "PlainRuntime") "_begin") := He.meth_ok (T.t.d.fact 157 (f := .meth "PlainRuntime" "_begin") rfl)
theorem m_PlainRuntime__make (T : Txt w K mg) : Meth K (He.ga K "PlainRuntime") "_make" (He.ma K (He.ga K "PlainRuntime") "_make") := He.meth_ok (T.t.d.fact 158 (f := .meth "PlainRuntime" "_make") rfl)
theorem m_PlainRuntime_scope (T : Txt w K mg) : Meth K (He.ga K "PlainRuntime") "scope" (He.ma K (He.ga K "PlainRuntime") "scope") := He.meth_ok (T.t.d.fact 159 (f := .meth "PlainRuntime" "scope") rfl)
theorem m_PlainRuntime_boundary (T : Txt w K mg) : Meth K (He.ga K "PlainRuntime") "boundary" (He.ma K (He.ga K "PlainRuntime") "boundary") := He.meth_ok (T.t.d.fact 160 (f := .meth "PlainRuntime" "boundary") rfl)
theorem m_PlainRuntime_context (T : Txt w K mg) : Meth K (He.ga K "PlainRuntime") "context" (He.ma K (He.ga K "PlainRuntime") "context") := He.meth_ok (T.t.d.fact 161 (f := .meth "PlainRuntime" "context") rfl)
theorem m_PlainRuntime_provide (T : Txt w K mg) : Meth K (He.ga K "PlainRuntime") "provide" (He.ma K (He.ga K "PlainRuntime") "provide") := He.meth_ok (T.t.d.fact 162 (f := .meth "PlainRuntime" "provide") rfl)
theorem m_PlainRuntime_use (T : Txt w K mg) : Meth K (He.ga K "PlainRuntime") "use" (He.ma K (He.ga K "PlainRuntime") "use") := He.meth_ok (T.t.d.fact 163 (f := .meth "PlainRuntime" "use") rfl)
theorem m_PlainRuntime_dispose (T : Txt w K mg) : Meth K (He.ga K "PlainRuntime") "dispose" (He.ma K (He.ga K "PlainRuntime") "dispose") := He.meth_ok (T.t.d.fact 164 (f := .meth "PlainRuntime" "dispose") rfl)
theorem m_PlainRuntime_transaction (T : Txt w K mg) : Meth K (He.ga K "PlainRuntime") "transaction" (He.ma K (He.ga K "PlainRuntime") "transaction") := He.meth_ok (T.t.d.fact 165 (f := .meth "PlainRuntime" "transaction") rfl)
theorem k_Run (T : Txt w K mg) : Mk K (He.ga K "Run") (He.ma K (He.ga K "Run") "__init__") := He.mkr_ok (T.t.d.fact 166 (f := .mkr "Run") rfl)
theorem k_Node (T : Txt w K mg) : Mk K (He.ga K "Node") (He.ma K (He.ga K "Node") "__init__") := He.mkr_ok (T.t.d.fact 167 (f := .mkr "Node") rfl)
theorem k_State (T : Txt w K mg) : Mk K (He.ga K "State") (He.ma K (He.ga K "State") "__init__") := He.mkr_ok (T.t.d.fact 168 (f := .mkr "State") rfl)
theorem k_Engine (T : Txt w K mg) : Mk K (He.ga K "Engine") (He.ma K (He.ga K "Engine") "__init__") := He.mkr_ok (T.t.d.fact 169 (f := .mkr "Engine") rfl)
theorem k_Runtime (T : Txt w K mg) : Mk K (He.ga K "Runtime") (He.ma K (He.ga K "Runtime") "__init__") := He.mkr_ok (T.t.d.fact 170 (f := .mkr "Runtime") rfl)
theorem k_PlainRuntime (T : Txt w K mg) : Mk K (He.ga K "PlainRuntime") (He.ma K (He.ga K "PlainRuntime") "__init__") := He.mkr_ok (T.t.d.fact 171 (f := .mkr "PlainRuntime") rfl)
theorem n_RippleError_message (T : Txt w K mg) : PySem.W.findIn K (.ref (He.ga K "RippleError")) "message" = some none := He.noat_ok (T.t.d.fact 172 (f := .noat "RippleError" "message") rfl)
theorem x_RippleError (T : Txt w K mg) : PySem.W.exmOne K (.ref (He.ga K "RippleError")) (.ref (He.ga K "RippleError")) = some true := He.exm_ok (T.t.d.fact 173 (f := .exm "RippleError" "RippleError" true) rfl)
end Txt
end
end K47
namespace K47
set_option maxHeartbeats 0
open PySem PySem.Spec PyProof.Rows L2
abbrev R : PySem.W.OpenRow := PySem.W.OpenLaw.row PySem.Challenge.rw_ripplewell_k47_contexts
/-! what the top's names reach, each address and object worked out once -/
def glE (g : Addr → Option Obj) (a : Addr) : List DictEntry := match g a with
  | some ⟨_, _, .dict es _, _⟩ => es.toList
  | _ => []
def atE (es : List DictEntry) (x : Str) : Addr := match es.find? (·.key.isStr x) with
  | some e => (match e.val with
    | .ref a => a
    | _ => 0)
  | none => 0
def cdA (g : Addr → Option Obj) (a : Addr) : Addr := match g a with
  | some ⟨_, _, .func fd, _⟩ => (match fd.code with
    | .ref c => c
    | _ => 0)
  | _ => 0
def nsA (g : Addr → Option Obj) (a : Addr) : Addr := match g a with
  | some ⟨_, _, .cls cd, _⟩ => cd.ns
  | _ => 0
def ceA (g : Addr → Option Obj) (a : Addr) : Addr := match g a with
  | some ⟨_, _, .func fd, _⟩ => (match fd.closure with
    | (_, c) :: _ => c
    | _ => 0)
  | _ => 0
/-- a list of addresses, each worked out -/
def fcL {α : Type} : List Nat → (List Nat → α) → α
  | [], k => k []
  | a :: r, k => HandSHeadRun.frNat a fun a => fcL r fun r => k (a :: r)
theorem fcL_eq {α : Type} : ∀ (l : List Nat) (k : List Nat → α), fcL l k = k l
  | [], _ => rfl
  | a :: r, k => by
    show HandSHeadRun.frNat a (fun a => fcL r fun r => k (a :: r)) = k (a :: r)
    rw [HandSHeadRun.frNat_eq, fcL_eq r]
/-- a part of the heap, each object worked out -/
def fcK {α : Type} (g : Addr → Option Obj) : List Nat → (PySem.W.Frag → α) → α
  | [], k => k []
  | a :: r, k => match g a with
    | some ⟨c, d, dt, sl⟩ => fcK g r fun K => k ((a, ⟨c, d, dt, sl⟩) :: K)
    | none => fcK g r k
theorem fcK_eq {α : Type} (g : Addr → Option Obj) : ∀ (l : List Nat) (k : PySem.W.Frag → α), fcK g l k = k (He.frG g l)
  | [], _ => rfl
  | a :: r, k => by
    cases e : g a with
    | none =>
      have e1 : fcK g (a :: r) k = fcK g r k := by
        show (match g a with
          | some ⟨c, d, dt, sl⟩ => fcK g r fun K => k ((a, ⟨c, d, dt, sl⟩) :: K)
          | none => fcK g r k) = _
        rw [e]
      rw [e1, fcK_eq g r k]
      unfold He.frG
      rw [List.filterMap_cons, e]
      rfl
    | some o =>
      obtain ⟨c, d, dt, sl⟩ := o
      have e1 : fcK g (a :: r) k = fcK g r fun K => k ((a, ⟨c, d, dt, sl⟩) :: K) := by
        show (match g a with
          | some ⟨c, d, dt, sl⟩ => fcK g r fun K => k ((a, ⟨c, d, dt, sl⟩) :: K)
          | none => fcK g r k) = _
        rw [e]
      rw [e1, fcK_eq g r]
      unfold He.frG
      rw [List.filterMap_cons, e]
      rfl
def clsL : List (Str × List Str) := [("Run", ["__init__", "needs"]), ("Node", ["__init__", "copy"]), ("State", ["__init__", "copy"]), ("Engine", ["__init__", "node", "use", "make", "dispose", "remember", "perform"]), ("Runtime", ["__init__", "_begin", "_make", "scope", "boundary", "context", "provide", "use", "dispose", "transaction"]), ("RippleError", ["__init__"]), ("PlainRuntime", [])]
def funL0 : List Str := ["is_integer", "is_value", "is_key", "_has_word", "_expression_kinds", "_statement_kinds", "_is_expression", "_part_size", "_statement_size", "_block_size", "is_program", "_frozen", "frozen", "require", "is_number", "check_node", "check_context", "check_value", "_is_setting_value", "check_program", "variable", "context_in", "_use", "evaluate", "run_statement", "run_block", "run_program", "make_requests", "serve", "active_count"]
def funL1 : List Str := ["descendants", "context_value", "require_active", "make", "_drop", "drop_descendants", "drop", "dispose", "_pass", "propagate", "_do", "_law_cell", "_law_row", "_law_draw", "_law_value", "_law_is_bool", "_law_equal", "_law_same", "_law_try", "_law_due_use", "_law_due_provide", "_law_gone", "law"]
def funL : List Str := funL0 ++ funL1
def objL : List Str := ["OWNERS", "DISPOSABLE_checks", "QUIET", "MAKING", "EXPRESSIONS", "STATEMENTS"]
def asW (g : Addr → Option Obj) : List Addr :=
  (fun E : List DictEntry => mainGlobals :: cStatics :: (clsL.flatMap (fun c => [atE E c.1, nsA g (atE E c.1)]) ++ (funL.flatMap (fun x => [atE E x, cdA g (atE E x)]) ++ (objL.map (atE E) ++
    (clsL.flatMap (fun c => c.2.flatMap fun m => [atE (glE g (nsA g (atE E c.1))) m, cdA g (atE (glE g (nsA g (atE E c.1))) m)]) ++
      [ceA g (atE (glE g (nsA g (atE E "RippleError"))) "__init__"), atE (glE g (atE E "EXPRESSIONS")) "use", atE (glE g (atE E "STATEMENTS")) "return"]))))) (glE g mainGlobals)
abbrev AlW : Type := (He.AlT × Bool) × ReV
def obsK (K : PySem.W.Frag) : AlW := ((He.obsT fa fn ts K, ex K), reObs K)
def obs (g : Addr → Option Obj) : AlW := fcL (asW g) fun as => fcK g as obsK
theorem obs_eq (g : Addr → Option Obj) : obs g = obsK (He.frG g (asW g)) := by
  unfold obs
  rw [fcL_eq, fcK_eq]
def hk : PySem.W.Hook where
  α := AlW
  obs := fun s => obs s.heap.get?
  val := fun w => ((He.valT fn ts w, true), reVal)
  says := fun w h => ∃ K : PySem.W.Frag, K.In h ∧ He.SaysT fa fn ts w K ∧ ex K = true ∧ reObs K = reVal
  of := fun _ s e => ⟨_, He.frG_in, congrArg (fun z : AlW => z.1.1) ((obs_eq _).symm.trans e), congrArg (fun z : AlW => z.1.2) ((obs_eq _).symm.trans e), congrArg (fun z : AlW => z.2) ((obs_eq _).symm.trans e)⟩
  keeps := fun _ _ _ ⟨K, hK, c⟩ k => ⟨K, PySem.W.Frag.In.keeps hK k, c⟩
def ob (s : PySem.W.SharedT) : AlW := obs (HandSHeadRun.getT s)
theorem ob_eq (s : PySem.W.SharedT) : ob s = hk.obs s.abs := by
  have e : HandSHeadRun.getT s = s.abs.heap.get? := funext (HandSHeadRun.getT_eq s)
  unfold ob
  rw [e]
  rfl
def lo0 : List Str := ["_wall", "__name__", "RippleError", "MODULUS", "LONGEST", "LONGEST_KEY", "LETTERS", "is_integer", "is_value", "is_key", "_sort", "equal", "text_of", "is_empty", "cut", "DEEPEST", "MOST_STATEMENTS", "MOST_PAIRS", "EXPRESSIONS", "STATEMENTS", "_has_word", "_expression_kinds", "_statement_kinds", "_is_expression", "_is_pair", "is_pair_programs", "_are_pairs", "_part_size", "_statement_size", "_block_size"]
def lo1 : List Str := ["is_program", "_frozen", "frozen", "OWNERS", "READABLE_checks", "DISPOSABLE_checks", "require", "is_number", "check_node", "check_context", "check_value", "check_key", "_is_setting_value", "check_program", "is_pair_checks", "check_pairs", "ABSENT", "DISPOSED", "same", "is_error", "READ_ONLY", "EFFECT", "TRANSACTION", "Run", "variable", "value_in", "node_in", "context_in", "READABLE_evaluating", "LATE"]
def lo2 : List Str := ["read_by", "key_of", "_read", "_entry", "_use", "_combined", "evaluate", "QUIET", "DISPOSABLE_statements", "MAKING", "_if", "_each", "_try", "_atomic", "_make", "_change", "_tell", "run_statement", "run_block", "run_program", "outcome", "done", "read_source", "read_source_reading", "_value", "changed", "settled", "answer_of", "resource_value", "resource_state"]
def lo3 : List Str := ["END", "_make_request", "make_requests", "Subscription", "ended", "_reported", "_is_new", "served", "serve", "pulled", "Node", "put_pair", "without_key", "State", "active_count", "descendants", "is_within", "context_value", "nearest_boundary", "MOST_ACTIVE", "MOST_MADE", "require_active", "make", "make_changing", "_drop", "drop_descendants", "drop", "dispose", "dispose_changing", "apply_change"]
def lo4 : List Str := ["change", "change_changing", "emit", "emit_changing", "cleanup", "cleanup_changing", "MOST_PASSES", "_due", "_run_effect", "_run_keyed", "_child", "_execute", "_pass", "propagate", "MOST_STATES", "Engine", "_do", "Runtime", "PlainRuntime", "_law_cell", "_law_row", "_law_draw", "_law_value", "_law_is_bool", "_law_is_number", "_law_equal", "_law_text", "_law_empty", "_law_same", "_law_try"]
def lo5 : List Str := ["_law_due_use", "_law_due_provide", "_law_gone"]
def lo : List Str := lo0 ++ lo1 ++ lo2 ++ lo3 ++ lo4 ++ lo5
/-- two looks at one end -/
theorem both {α β γ : Type} {o : Option α} {f : α → β} {g : α → γ} {b : β} {c : γ} (h1 : o.map f = some b) (h2 : o.map g = some c) : o.map (fun s => (f s, g s)) = some (b, c) := by
  cases o with
  | none => cases h1
  | some s =>
    have e1 := Option.some.inj h1
    have e2 := Option.some.inj h2
    show some (f s, g s) = some (b, c)
    rw [e1, e2]
abbrev vw : Program := PySem.W.view R.prog [170]
noncomputable abbrev endW (w : World) (os : OsState) : Option PySem.W.SharedT := HandSHeadRun.endF (HandSHeadRun.stepQ (HandSHeadRun.denQ HandSHeadRun.tabQ) R.prog w) 40000 R.prog w os
noncomputable abbrev seenW (s : PySem.W.SharedT) := HandSHeadRun.seenQ vw lo (importedModules R.prog.main.body) (fun s => PySem.W.xlAt vw [] s && PySem.W.recOk R.toRowW.records s) s.abs
theorem run1F (w : World) (os : OsState) : (endW (w.withFollow "special-get-raises" false) os).map (fun s => (HandSHeadRun.looksF R.prog (PySem.W.boot_heap (w.withFollow "special-get-raises" false).params) s.abs, seenW s)) = some (true, PySem.W.openGood vw lo) := by
  kernel_rfl
theorem run1T (w : World) (os : OsState) : (endW (w.withFollow "special-get-raises" true) os).map (fun s => (HandSHeadRun.looksF R.prog (PySem.W.boot_heap (w.withFollow "special-get-raises" true).params) s.abs, seenW s)) = some (true, PySem.W.openGood vw lo) := by
  kernel_rfl
theorem run2F (w : World) (os : OsState) : (endW (w.withFollow "special-get-raises" false) os).map ob = some (hk.val (w.withFollow "special-get-raises" false)) := by
  kernel_rfl
theorem run2T (w : World) (os : OsState) : (endW (w.withFollow "special-get-raises" true) os).map ob = some (hk.val (w.withFollow "special-get-raises" true)) := by
  kernel_rfl
theorem runJ {w : World} (h1 : ∀ os, (endW w os).map (fun s => (HandSHeadRun.looksF R.prog (PySem.W.boot_heap w.params) s.abs, seenW s)) = some (true, PySem.W.openGood vw lo)) (h2 : ∀ os, (endW w os).map ob = some (hk.val w)) :
    HandSHeadRun.RunEq R vw hk ob 40000 lo w := by
  intro os
  have e := both (h1 os) (h2 os)
  show (endW w os).map (fun s => (HandSHeadRun.looksF R.prog (PySem.W.boot_heap w.params) s.abs, seenW s, ob s)) = some (true, PySem.W.openGood vw lo, hk.val w)
  revert e
  generalize endW w os = o
  intro e
  cases o with
  | none => cases e
  | some s =>
    have e1 := Option.some.inj e
    have e2 : (HandSHeadRun.looksF R.prog (PySem.W.boot_heap w.params) s.abs, seenW s) = (true, PySem.W.openGood vw lo) := congrArg Prod.fst e1
    have e3 : ob s = hk.val w := congrArg Prod.snd e1
    have e4 : HandSHeadRun.looksF R.prog (PySem.W.boot_heap w.params) s.abs = true := congrArg Prod.fst e2
    have e5 : seenW s = PySem.W.openGood vw lo := congrArg Prod.snd e2
    show some (_, seenW s, ob s) = _
    rw [e4, e5, e3]
    all_goals rfl
theorem run (w : World) : HandSHeadRun.RunEq R vw hk ob 40000 lo w :=
  PySem.W.byRow2 "special-get-raises" (P := fun w => HandSHeadRun.RunEq R vw hk ob 40000 lo w) (fun w => runJ (run1F w) (run2F w)) (fun w => runJ (run1T w) (run2T w)) w
end K47
/-! own rules: fields by places, calls by bundles -/
namespace K47
open PySem PySem.Spec PyProof.Rows L2
/-! ### fields by places -/
def setA : List V → Nat → V → List V
  | [], _, y => [y]
  | _ :: r, 0, y => y :: r
  | x :: r, n + 1, y => x :: setA r n y
theorem zip_lookup : ∀ {ns : List Str} {vs : List V} {i : Nat} {f : Str} {v : V}, ns.Nodup → ns[i]? = some f → vs[i]? = some v → (ns.zip vs).lookup f = some v
  | [], _, i, _, _, _, h, _ => by cases i <;> cases h
  | _ :: _, [], i, _, _, _, _, h => by cases i <;> cases h
  | n :: ns, w :: vs, 0, f, v, _, h1, h2 => by
    have e1 : n = f := by simpa using h1
    have e2 : w = v := by simpa using h2
    subst e1 e2
    simp [List.lookup]
  | n :: ns, w :: vs, i + 1, f, v, nd, h1, h2 => by
    have h1' : ns[i]? = some f := by simpa using h1
    have h2' : vs[i]? = some v := by simpa using h2
    have hm : f ∈ ns := List.mem_of_getElem? h1'
    have ne : f ≠ n := fun e => (List.nodup_cons.mp nd).1 (e ▸ hm)
    have b : (f == n) = false := beq_eq_false_iff_ne.mpr ne
    show ((n, w) :: ns.zip vs).lookup f = some v
    rw [List.lookup_cons, b]
    exact zip_lookup (List.nodup_cons.mp nd).2 h1' h2'
theorem zip_no : ∀ {ns : List Str} {vs : List V} {m : Str}, m ∉ ns → (ns.zip vs).lookup m = none
  | [], _, _, _ => rfl
  | _ :: _, [], _, _ => rfl
  | n :: ns, w :: vs, m, h => by
    have b : (m == n) = false := beq_eq_false_iff_ne.mpr fun e => h (e ▸ List.mem_cons_self)
    show ((n, w) :: ns.zip vs).lookup m = none
    rw [List.lookup_cons, b]
    exact zip_no fun k => h (List.mem_cons_of_mem _ k)
theorem zip_put : ∀ {ns : List Str} {vs : List V} {i : Nat} {f : Str} {y : V}, ns.Nodup → ns[i]? = some f → i ≤ vs.length → putF f y (ns.zip vs) = ns.zip (setA vs i y)
  | [], _, i, _, _, _, h, _ => by cases i <;> cases h
  | n :: ns, [], i, f, y, nd, h, hl => by
    have e : i = 0 := Nat.le_zero.mp hl
    subst e
    have e1 : n = f := by simpa using h
    subst e1
    show putF n y [] = (n, y) :: ns.zip []
    rw [List.zip_nil_right]
    rfl
  | n :: ns, w :: vs, 0, f, y, nd, h, hl => by
    have e1 : n = f := by simpa using h
    subst e1
    show (if n = n then (n, y) :: ns.zip vs else _) = _
    rw [if_pos rfl]
    rfl
  | n :: ns, w :: vs, i + 1, f, y, nd, h1, hl => by
    have h1' : ns[i]? = some f := by simpa using h1
    have hm : f ∈ ns := List.mem_of_getElem? h1'
    have ne : n ≠ f := fun e => (List.nodup_cons.mp nd).1 (e ▸ hm)
    show (if n = f then (n, y) :: ns.zip vs else (n, w) :: putF f y (ns.zip vs)) = (n, w) :: ns.zip (setA vs i y)
    rw [if_neg ne, zip_put (List.nodup_cons.mp nd).2 h1' (Nat.le_of_succ_le_succ hl)]
theorem zip_len (ns : List Str) (vs : List V) : (ns.zip vs).length ≤ ns.length := by
  rw [List.length_zip]
  exact Nat.min_le_left _ _
/-- an instance of the class at C with the attributes ns, so many as vs has -/
abbrev Ins (C dx : Addr) (ns : List Str) (vs : List V) : HO := .ins C dx (ns.zip vs)
def tF (C : Addr) (ns : List Str) (i : Nat) (ta : TE) : TE := fun σ H Q => ta σ H fun x H1 => ∃ a dx vs v, x = .ref a ∧ H1 a = some (Ins C dx ns vs) ∧ vs[i]? = some v ∧ Q v H1
def sF (C : Addr) (ns : List Str) (i : Nat) (ta tv : TE) : TS := fun D σ H => tv σ H fun y H1 => ta σ H1 fun x H2 => ∃ a dx vs, x = .ref a ∧ H2 a = some (Ins C dx ns vs) ∧ i ≤ vs.length ∧ D.nx σ (upd H2 a (Ins C dx ns (setA vs i y)))
/-- e.f += an int -/
def sFA (C : Addr) (ns : List Str) (i : Nat) (ta tv : TE) : TS := fun D σ H => ta σ H fun x H1 => ∃ a dx vs z, x = .ref a ∧ H1 a = some (Ins C dx ns vs) ∧ vs[i]? = some (.int z) ∧
  tv σ H1 fun y H2 => ∃ k, y = .int k ∧ ∃ dx' vs', H2 a = some (Ins C dx' ns vs') ∧ i ≤ vs'.length ∧ D.nx σ (upd H2 a (Ins C dx' ns (setA vs' i (.int (z + k)))))
section
variable {X : Cx} {C : Addr} {ns : List Str} {i : Nat} {f : Str} {e o value : Expr} {ta tv : TE} {pos pos' : Pos}
theorem pe_f (cl : Cls X.K C) (no : NoAttr X.K C f) (nd : ns.Nodup) (hi : ns[i]? = some f) (he : PE X e ta) (hb : attributeBase e f X.env (eval e X.env) = eval e X.env := by rfl) : PE X (.Attribute e f pos) (tF C ns i ta) := by
  refine ⟨fun pins s σ H Q I h => ?_⟩
  refine attr_of hb (thn (he.run pins s σ H _ I h) fun u s1 ⟨x, H1, I1, rx, a, dx, vs, v, ex, ea, hv, q⟩ => ?_)
  subst ex
  obtain rfl : u = Value.ref a := rx
  exact getattr_ok I1 ea cl no (zip_lookup nd hi hv) fun u' s2 I2 ru => ⟨v, H1, I2, ru, q⟩
theorem ps_f (cl : Cls X.K C) (no : NoAttr X.K C f) (nd : ns.Nodup) (hi : ns[i]? = some f) (hn : ns.length < 1000) (ho : PE X o ta) (hv : PE X value tv) (hs : swapsWith value (some (.Attribute o f pos')) pos.line X.env = pure false := by rfl) :
    PS X (.Assign [.Attribute o f pos'] value pos) (sF C ns i ta tv) := by
  refine ⟨fun pins s σ H D I h => ?_⟩
  refine plainObj_wpAny_Assign_Attribute (thn (hv.run pins s σ H _ I h) fun u s1 ⟨y, H1, I1, ry, q⟩ => thn (ho.run pins s1 σ H1 _ I1 q) fun ov s2 ⟨x, H2, I2, rx, a, dx, vs, ex, ea, hl, q2⟩ => ?_) hs
  subst ex
  obtain rfl : ov = Value.ref a := rx
  refine setattr_ok I2 ea cl no (Nat.lt_of_le_of_lt (zip_len ns vs) hn) ry fun s3 I3 => ⟨σ, _, I3, ?_⟩
  rw [zip_put nd hi hl]
  exact q2
theorem ps_fa (cl : Cls X.K C) (no : NoAttr X.K C f) (nd : ns.Nodup) (hi : ns[i]? = some f) (hn : ns.length < 1000) (ho : PE X o ta) (hv : PE X value tv) : PS X (.AugAssign (.Attribute o f pos') .Add value pos) (sFA C ns i ta tv) := by
  refine ⟨fun pins s σ H D I h => ?_⟩
  refine wpAny_AugAssign_AttributeAny (thn (ho.run pins s σ H _ I h) fun ov s1 ⟨x, H1, I1, rx, a, dx, vs, z, ex, ea, hz, q⟩ => ?_)
  subst ex
  obtain rfl : ov = Value.ref a := rx
  refine getattr_ok I1 ea cl no (zip_lookup nd hi hz) fun u s2 I2 ru => thn (hv.run pins s2 σ H1 _ I2 q) fun w3 s3 ⟨y, H2, I3, ry, k, ey, dx', vs', ea', hl, q3⟩ => ?_
  subst ey
  refine thn (in_add pins s3 σ H2 (.int z) (.int k) u w3 (fun v H3 => v = .int (z + k) ∧ H3 = H2) I3 ru ry ⟨z, k, rfl, rfl, rfl, rfl⟩) fun w4 s4 ⟨v4, H3, I4, r4, e4, e5⟩ => ?_
  subst e4 e5
  refine setattr_ok I4 ea' cl no (Nat.lt_of_le_of_lt (zip_len ns vs') hn) r4 fun s5 I5 => ⟨σ, _, I5, ?_⟩
  rw [zip_put nd hi hl]
  exact q3
end
/-! ### the module's constants -/
theorem pg_i {X : Cx} {x : Str} {i : Int} {pos : Pos} (hm : ∃ t, X.mg x = some (.int i t)) (hg : Gl X x := by rfl) (hd : (x == ("__debug__" : Str)) = false := by decide) : PE X (.Name x pos) (tC (.int i)) := by
  obtain ⟨t, h⟩ := hm
  exact pe_glob hg h ⟨t, rfl⟩ hd
theorem pg_s {X : Cx} {x z : Str} {pos : Pos} (hm : ∃ t, X.mg x = some (.str z t)) (hg : Gl X x := by rfl) (hd : (x == ("__debug__" : Str)) = false := by decide) : PE X (.Name x pos) (tC (.str z)) := by
  obtain ⟨t, h⟩ := hm
  exact pe_glob hg h ⟨t, rfl⟩ hd
theorem pg_r {X : Cx} {x : Str} {a : Addr} {pos : Pos} (hm : X.mg x = some (.ref a)) (hg : Gl X x := by rfl) (hd : (x == ("__debug__" : Str)) = false := by decide) : PE X (.Name x pos) (tC (.ref a)) :=
  pe_glob hg hm rfl hd
/-- a built-in class as a value -/
theorem pg_ty {X : Cx} {x : Str} {n : String} {pos : Pos} (hm : X.mg x = none) (hv : bootBuiltins x = some (.type n)) (hg : Gl X x := by rfl) (hn : x ≠ "__name__" := by decide) (hd : (x == ("__debug__" : Str)) = false := by decide) : PE X (.Name x pos) (tC (.ty n)) :=
  pe_bltn hg hm hv rfl hn hd
/-! ### defs -/
/-- a def that keeps its promise -/
structure Fn (CX : CXT) (P : Program) (w : World) (K : PySem.W.Frag) (mg : Str → Option Value) (base : Heap) (k : Nat) (f : Addr) (ps : List Str) (sp : Sp) : Prop where
  ex : ∃ fd, FnOk P w K mg base CX k f fd ps sp ∧ Binds K fd ps []
  kp : PySem.W.keepIn K (.ref f) = true
/-- what a wish says where the frame's slots are σ -/
abbrev WE (W : WX) (σ : L2.St) : XK := fun cls d H => W cls d σ H
def PassS (CX : CXT) (X : Cx) (E : L2.St → XK) : Prop := ∀ (pins : List (Addr × Obj)) (σ : L2.St) (H : Hp) (s : Shared) (e : Value) (s' : Shared), Inv X pins σ H s → CX X.stack H s (E σ) e s' → X.xe e s'
theorem passS0 {X : Cx} : PassS CX0 X fun _ => E0 := fun _ _ _ _ _ _ _ h => h.elim
theorem passSX {X : Cx} {W : WX} (tk : Takes X W) : PassS (L2.CX X.prog X.w) X (WE W) := fun _ _ _ _ e s' I c => tk e s' (XE.of_call I (fun _ _ _ h => h) c)
/-- f(..) -/
def tFn (sp : Sp) (E : L2.St → XK) (t : TA) : TE := fun σ H Q => t σ H fun vs H1 => sp vs H1 Q (E σ)
/-- o.m(..) -/
def tMt (C : Addr) (ns : List Str) (sp : Sp) (E : L2.St → XK) (ta : TE) (t : TA) : TE := fun σ H Q => ta σ H fun x H1 => ∃ a dx vs, x = .ref a ∧ H1 a = some (Ins C dx ns vs) ∧ t σ H1 fun us H2 => sp (x :: us) H2 Q (E σ)
/-- C(..) -/
def tMk (C : Addr) (sp : Sp) (E : L2.St → XK) (t : TA) : TE := fun σ H Q => t σ H fun vs H1 => ∀ x dx, H1 x = none → H1 dx = none → dx ≠ x →
  sp (.ref x :: vs) (upd (upd H1 dx (.own x)) x (.ins C dx [])) (fun v H2 => v = .non ∧ Q (.ref x) H2) (E σ)
section
variable {X : Cx} {CX : CXT} {k j : Nat} {f C : Addr} {ps ns : List Str} {sp : Sp} {E : L2.St → XK} {x m : Str} {p pos apos : Pos} {e o : Expr} {es : List Expr} {ta : TE} {t : TA}
theorem run_s {pins : List (Addr × Obj)} {σ : L2.St} {H : Hp} {s : Shared} {Q : VK} {us : List Value} {vs : List V} (F : Fn CX X.prog X.w X.K X.mg X.base k f ps sp) (hr : Room j X.A) (hk : k ≤ j) (hx : PassS CX X E)
    (I : Inv X pins σ H s) (r : Vals vs us) (h : sp vs H Q (E σ)) : wpAny (model X.prog X.w) X.A (call (.ref f) us) (EP X pins σ Q) X.xe s := by
  obtain ⟨fd, G, hb⟩ := F.ex
  have hl : (us ++ []).length = ps.length := by rw [List.append_nil, ← r.length]; exact G.len _ _ _ _ h
  have b := hb s us I.kIn hl
  rw [List.append_nil] at b
  refine wpAny_call (codeAny_mono (G.run X.A X.stack s H ⟨us, []⟩ us vs Q (E σ) (hr.mono hk) I.env0 b r h) fun r s' hq => ?_)
  cases r with
  | error e => exact hx pins σ H s e s' I hq
  | ok fl =>
    cases fl with
    | ret u => exact I.after hq
    | next => exact False.elim hq
    | brk => exact False.elim hq
    | cont => exact False.elim hq
theorem pe_fn (F : Fn CX X.prog X.w X.K X.mg X.base k f ps sp) (hr : Room j X.A) (hk : k ≤ j) (hm : X.mg x = some (.ref f)) (hx : PassS CX X E)
    (ha : PA X (e :: es) t) (hg : Gl X x := by rfl) (hdb : (x == ("__debug__" : Str)) = false := by decide) (he : starEach (e :: es) X.env = (false, eval e X.env) :: starEach es X.env := by rfl) (hpl : (backTo pos (starEach es X.env)).any (·.1) = false := by rfl) :
    PE X (.Call (.Name x p) (e :: es) [] pos) (tFn sp E t) := by
  refine ⟨fun pins s σ H Q I h => ?_⟩
  refine wpAny_Call_Name_kw (ld_glob I hg hm ?_ hdb)
  refine PySem.W.callWith_K (h₀ := X.base) I.ok.mod.kin F.kp (thn (ha.run pos pins s σ H _ I h) fun us s1 ⟨vs, H1, I1, r, q⟩ => ⟨I1.kIn, ?_⟩) he hpl
  exact run_s F hr hk hx I1 r q
theorem pe_mt1 {pl : Sem Bool} (cl : Cls X.K C) (hm : Meth X.K C m f) (no : m ∉ ns) (F : Fn CX X.prog X.w X.K X.mg X.base k f ps sp) (hr : Room j X.A) (hk : k ≤ j) (hx : PassS CX X E) (he : PE X o ta) (ha : PA X (e :: es) t)
    (hst : starEach (e :: es) X.env = (false, eval e X.env) :: starEach es X.env := by rfl) (hpl : (backTo pos (starEach es X.env)).any (·.1) = false := by rfl)
    (ht : eval (.Call (.Attribute o m apos) (e :: es) [] pos) X.env = (do
      let ov ← eval o X.env
      standAt apos.atName
      let (f, first) ← holding [ov] (getMethod ov m pl)
      callWith pos f first (backTo pos (starEach (e :: es) X.env)) (backToKw pos (keywordEach [] X.env))) := by rfl) :
    PE X (.Call (.Attribute o m apos) (e :: es) [] pos) (tMt C ns sp E ta t) := by
  refine ⟨fun pins s σ H Q I h => ?_⟩
  refine PySem.W.methodCall_KW (pl := pl) (thn (he.run pins s σ H _ I h) fun u s1 ⟨x, H1, I1, rx, a, dx, vs, ex, ea, q⟩ => ?_) ht
  subst ex
  obtain rfl : u = Value.ref a := rx
  refine getmeth_ok I1 ea cl hm (zip_no no) ?_
  refine PySem.W.callWith_K (first := [.ref a]) (h₀ := X.base) I.ok.mod.kin hm.kp (thn (ha.run pos pins s1 σ H1 _ I1 q) fun us s2 ⟨vs, H2, I2, r, q2⟩ => ⟨I2.kIn, ?_⟩) hst hpl
  exact run_s (us := .ref a :: us) (vs := .ref a :: vs) F hr hk hx I2 (.cons rfl r) q2
theorem pe_mt0 {pl : Sem Bool} (cl : Cls X.K C) (hm : Meth X.K C m f) (no : m ∉ ns) (F : Fn CX X.prog X.w X.K X.mg X.base k f ps sp) (hr : Room j X.A) (hk : k ≤ j) (hx : PassS CX X E) (he : PE X o ta)
    (ht : eval (.Call (.Attribute o m apos) [] [] pos) X.env = (do
      let ov ← eval o X.env
      standAt apos.atName
      let (f, first) ← holding [ov] (getMethod ov m pl)
      callWith pos f first (backTo pos (starEach [] X.env)) (backToKw pos (keywordEach [] X.env))) := by rfl) :
    PE X (.Call (.Attribute o m apos) [] [] pos) (tMt C ns sp E ta tNil) := by
  refine ⟨fun pins s σ H Q I h => ?_⟩
  refine PySem.W.methodCall_KW (pl := pl) (thn (he.run pins s σ H _ I h) fun u s1 ⟨x, H1, I1, rx, a, dx, vs, ex, ea, q⟩ => ?_) ht
  subst ex
  obtain rfl : u = Value.ref a := rx
  refine getmeth_ok I1 ea cl hm (zip_no no) ?_
  exact PySem.W.callWith_K0 (first := [.ref a]) I1.kIn hm.kp (run_s (us := [.ref a]) (vs := [.ref a]) F hr hk hx I1 (.cons rfl .nil) q)
theorem run_mk {pins : List (Addr × Obj)} {σ : L2.St} {H : Hp} {s : Shared} {Q : VK} {us : List Value} {vs : List V} (M : Mk X.K C f) (F : Fn CX X.prog X.w X.K X.mg X.base k f ps sp) (hr : Room j X.A) (hk : k + 1 ≤ j) (hx : PassS CX X E)
    (I : Inv X pins σ H s) (r : Vals vs us)
    (h : ∀ x dx, H x = none → H dx = none → dx ≠ x → sp (.ref x :: vs) (upd (upd H dx (.own x)) x (.ins C dx [])) (fun v H2 => v = .non ∧ Q (.ref x) H2) (E σ)) :
    wpAny (model X.prog X.w) X.A (call (.ref C) us) (EP X pins σ Q) X.xe s := by
  obtain ⟨fd, G, hb⟩ := F.ex
  have hq := h (s.heap.objs.size + 1) s.heap.objs.size (I.hok.fresh (Nat.le_succ _)) (I.hok.fresh (Nat.le_refl _)) (Nat.ne_of_lt (Nat.lt_succ_self _))
  have I2 := Inv.made (C := C) I
  have r2 : Vals (V.ref (s.heap.objs.size + 1) :: vs) (Value.ref (s.heap.objs.size + 1) :: us) := .cons rfl r
  have hl : ((Value.ref (s.heap.objs.size + 1) :: us) ++ []).length = ps.length := by
    rw [List.append_nil, ← r2.length]
    exact G.len _ _ _ _ hq
  have b := hb _ (Value.ref (s.heap.objs.size + 1) :: us) I2.kIn hl
  rw [List.append_nil] at b
  refine wpAny_call (make_map (f := f) I.kIn M.makes M.init (beq_iff_eq.mp M.fn) (codeAny_mono (G.run _ X.stack _ _ ⟨Value.ref (s.heap.objs.size + 1) :: us, []⟩ (Value.ref (s.heap.objs.size + 1) :: us) _ _ (E σ) ((hr.mono hk).make C us [])
    (I2.env0.make C us []) b r2 hq) fun r s' hq' => ?_))
  cases r with
  | error e => exact hx pins σ _ _ e s' I2 hq'
  | ok fl =>
    cases fl with
    | ret u =>
      obtain ⟨v, H', I3, rv, ev, q3⟩ := I2.after hq'
      subst ev
      exact ⟨rv, ⟨V.ref (s.heap.objs.size + 1), H', I3, rfl, q3⟩⟩
    | next => exact False.elim hq'
    | brk => exact False.elim hq'
    | cont => exact False.elim hq'
theorem pe_mk1 (M : Mk X.K C f) (F : Fn CX X.prog X.w X.K X.mg X.base k f ps sp) (hr : Room j X.A) (hk : k + 1 ≤ j) (hm : X.mg x = some (.ref C)) (hx : PassS CX X E)
    (ha : PA X (e :: es) t) (hg : Gl X x := by rfl) (hdb : (x == ("__debug__" : Str)) = false := by decide) (he : starEach (e :: es) X.env = (false, eval e X.env) :: starEach es X.env := by rfl) (hpl : (backTo pos (starEach es X.env)).any (·.1) = false := by rfl) :
    PE X (.Call (.Name x p) (e :: es) [] pos) (tMk C sp E t) := by
  refine ⟨fun pins s σ H Q I h => ?_⟩
  refine wpAny_Call_Name_kw (ld_glob I hg hm ?_ hdb)
  refine PySem.W.callWith_K (h₀ := X.base) I.ok.mod.kin M.kp (thn (ha.run pos pins s σ H _ I h) fun us s1 ⟨vs, H1, I1, r, q⟩ => ⟨I1.kIn, ?_⟩) he hpl
  exact run_mk M F hr hk hx I1 r q
theorem pe_mk0 (M : Mk X.K C f) (F : Fn CX X.prog X.w X.K X.mg X.base k f ps sp) (hr : Room j X.A) (hk : k + 1 ≤ j) (hm : X.mg x = some (.ref C)) (hx : PassS CX X E) (hg : Gl X x := by rfl)
    (hdb : (x == ("__debug__" : Str)) = false := by decide) : PE X (.Call (.Name x p) [] [] pos) (tMk C sp E tNil) := by
  refine ⟨fun pins s σ H Q I h => ?_⟩
  refine wpAny_Call_Name_kw (ld_glob I hg hm ?_ hdb)
  exact PySem.W.callWith_K0 I.kIn M.kp (run_mk (us := []) M F hr hk hx I .nil h)
end
/-! ### a def of the text -/
section
variable {P : Program} {w : World} {K : PySem.W.Frag} {mg : Str → Option Value} {base : Heap}
/-- a def of the text, by its body -/
theorem Txt.fn {CX : CXT} {N ps : List Str} {k : Nat} {sp : Sp} (T : Txt w K mg) (i : Nat) (d : He.DefD) (hd : K47.fn[i]? = some d) (h0 : d.dfl = []) (S : FnScope N ps d.scope)
    (hb : ∀ (kV doc pm : Value) (an : Option Addr) (cdv ct : Value) (us : List Value), us.length = ps.length → bindArgs (PySem.W.fnOf d.name d.qual d.params d.body d.scope .none kV doc pm an cdv ct) ⟨us, []⟩ = pure (ps.zip us))
    (len : ∀ vs H Q E, sp vs H Q E → vs.length = ps.length)
    (hbody : ∀ (cdv : Value) (A : Around) (outer : List Env) (s : Shared) (H : Hp) (vs : List V) (Q : VK) (E : XK), Room k (A.deeper (envOfC d.qual d.scope s.heap.objs.size (He.fAd K d.at_) cdv)) → sp vs H Q E →
      ∃ t, PSs (cxOf CX P w K mg base N d.qual d.scope (He.fAd K d.at_) cdv A outer s H E) d.body t ∧ t { nx := fun _ H' => Q .non H', rt := Q } (start N vs) H) :
    Fn CX P w K mg base (k + 1) (He.fAd K d.at_) ps sp := by
  obtain ⟨fd, F⟩ := T.t.d.def_ i (d := d) hd
  have e : d.dvs K = [] := by
    unfold He.DefD.dvs
    rw [h0]
    rfl
  rw [e] at F
  exact ⟨⟨fd, F.ok S len hbody, F.bindsN hb⟩, F.kp⟩
end
end K47
/-! the program's error: RippleError(message), its __init__ by super().__init__ -/
namespace K47
open PySem PySem.Spec PyProof.Rows L2
open PySem.W (Frag)
abbrev RE (K : Frag) : Addr := He.ga K "RippleError"
structure RF (K : Frag) (C fI cc cda : Addr) : Prop where
  cls : ∃ nm q N bs bm sn sub ab col dd k0 k1 k2 k3 k5, K.lookup C = some (excClassObj nm q C N bs bm true sn sub ab col dd k0 k1 k2 k3 k5 "ValueError.__new__") ∧ PySem.HandSPX.refsVE bm = true
  sa : PySem.W.findIn K (.ref C) "__setattr__" = some (some (.builtin "object.__setattr__"))
  exC : PySem.W.subIn K (.ref C) (.type "BaseException") = some true
  veC : PySem.W.subIn K (.ref C) (.type "ValueError") = some true
  tyC : PySem.W.typeIn K (.ref C) = some (.type "type")
  kC : PySem.W.keepIn K (.ref C) = true
  iC : PySem.W.findIn K (.ref C) "__init__" = some (some (.ref fI))
  tI : PySem.W.typeIn K (.ref fI) = some (.type "function")
  code : PySem.W.codeIn K (.ref cda) "RippleError.__init__" = true
  sup : PySem.W.ks_superIn K C C "__init__" = some (some (.builtin "ValueError.__init__"))
  mro : PySem.W.mroIn K C (.ref C) = some true
  opq : PySem.W.nsIn K cStatics "thirdparty.any" = some none
  noM : PySem.W.findIn K (.ref C) "message" = some none
  fn : ∃ (oc : Value) (od : Option Addr) (osl : Array (Option Value)) (doc pm : Value) (an : Option Addr) (ct : Value),
    K.lookup fI = some ⟨oc, od, .func (PySem.W.ksFn "__init__" "RippleError.__init__" (defArgs s_RE) (defBody s_RE) (defScope s_RE) .none .none doc pm an (.ref cda) ct cc), osl⟩
  cell : ∃ (cl : Value) (cld : Option Addr) (csl : Array (Option Value)), K.lookup cc = some ⟨cl, cld, .cell (some (.ref C)), csl⟩
  cda : ∃ (ccl : Value) (cdd : Option Addr) (vs : Array Value) (ccs : Array (Option Value)) (file : Str) (tf : Tok), K.lookup cda = some ⟨ccl, cdd, .fields vs, ccs⟩ ∧ vs[2]? = some (.str file tf) ∧ ((prog.main.file : Str) == file) = true
  xf : XfC K C
/-! ### the facts off the head -/
theorem oexB_ok {K : Frag} {C : Addr} (h : oexB K C = true) : ∃ nm q N bs bm sn sub ab col dd k0 k1 k2 k3 k5, K.lookup C = some (excClassObj nm q C N bs bm true sn sub ab col dd k0 k1 k2 k3 k5 "ValueError.__new__") ∧ PySem.HandSPX.refsVE bm = true := by
  unfold oexB at h
  cases q : K.lookup C with
  | none =>
    rw [q] at h
    cases h
  | some o =>
    obtain ⟨oc, od, dt, sl⟩ := o
    rw [q] at h
    cases oc with
    | type c =>
      cases dt with
      | cls cd =>
        obtain ⟨nm, bs, mro, ns, qn, hd, sn, sub, ab, col, del⟩ := cd
        dsimp only at h
        split at h
        · rename_i C' bm k0 k1 k2 k3 n k5 hs
          simp only [Bool.and_eq_true, decide_eq_true_eq, Bool.not_eq_true'] at h
          obtain ⟨e1, e2, e3, e4, e5, e6⟩ := h
          subst e1 e2 e3 e4 e5
          have hsl : sl = #[k0, k1, k2, k3, some (.builtin "ValueError.__new__"), k5] := by
            obtain ⟨l⟩ := sl
            simp only at hs
            rw [hs]
          subst hsl
          exact ⟨nm, qn, ns, bs, bm, sn, sub, ab, col, od, k0, k1, k2, k3, k5, rfl, e6⟩
        · cases h
      | _ => cases h
    | _ => cases dt <;> cases h
theorem reFn_ok {K : Frag} (h : reObs K = reVal) : ∃ (oc : Value) (od : Option Addr) (osl : Array (Option Value)) (doc pm : Value) (an : Option Addr) (ct : Value),
    K.lookup (reF K) = some ⟨oc, od, .func (PySem.W.ksFn "__init__" "RippleError.__init__" (defArgs s_RE) (defBody s_RE) (defScope s_RE) .none .none doc pm an (.ref (reCD K)) ct (reCC K)), osl⟩ := by
  have h0 := h
  unfold reObs at h
  cases q : K.lookup (reF K) with
  | none =>
    rw [q] at h
    cases h
  | some o =>
    obtain ⟨oc, od, dt, osl⟩ := o
    rw [q] at h
    cases dt with
    | func fd =>
      obtain ⟨n1, n2, n3, n4, n5, n6, n7, n8, n9, n10, n11, n12, n13, n14, n15⟩ := fd
      have h1 : some (n1, n2, n3, n4, n5, n6, n7.map (·.1), n8, n9, isRef n13, n15) = reVal := h
      unfold reVal at h1
      simp only [Option.some.injEq, Prod.mk.injEq] at h1
      obtain ⟨e1, e2, e3, e4, e5, e6, e7, e8, e9, e10, e11⟩ := h1
      obtain ⟨cc, e7'⟩ : ∃ cc : Addr, n7 = [(("__class__" : Str), cc)] := by
        match n7, e7 with
        | [(a, c)], e =>
          have ea : a = ("__class__" : Str) := by simpa using e
          exact ⟨c, by rw [ea]⟩
      obtain ⟨cda, e10'⟩ : ∃ c, n13 = .ref c := by
        cases n13 with
        | ref c => exact ⟨c, rfl⟩
        | _ => cases e10
      subst e1 e2 e3 e4 e5 e6 e7' e8 e9 e10' e11
      have c1 : reCC K = cc := by
        unfold reCC
        rw [q]
      have c2 : reCD K = cda := by
        unfold reCD
        rw [q]
      rw [c1, c2]
      exact ⟨oc, od, osl, n10, n11, n12, n14, rfl⟩
    | _ => cases h
theorem reCell_ok {K : Frag} (h : reCell K = true) : ∃ (cl : Value) (cld : Option Addr) (csl : Array (Option Value)), K.lookup (reCC K) = some ⟨cl, cld, .cell (some (.ref (RE K))), csl⟩ := by
  unfold reCell at h
  split at h
  · rename_i cl cld D csl q
    have e : D = RE K := of_decide_eq_true h
    rw [e] at q
    exact ⟨cl, cld, csl, q⟩
  · cases h
theorem reCode_ok {K : Frag} (h : reCode K = true) : ∃ (ccl : Value) (cdd : Option Addr) (vs : Array Value) (ccs : Array (Option Value)) (file : Str) (tf : Tok), K.lookup (reCD K) = some ⟨ccl, cdd, .fields vs, ccs⟩ ∧ vs[2]? = some (.str file tf) ∧ ((prog.main.file : Str) == file) = true := by
  unfold reCode at h
  split at h
  · rename_i ccl cdd vs ccs q
    split at h
    · rename_i a b f tf r hv
      refine ⟨ccl, cdd, vs, ccs, f, tf, q, ?_, h⟩
      rw [← Array.getElem?_toList, hv]
      rfl
    · cases h
  · cases h
theorem Txt.rf {w : World} {K : Frag} {mg : Str → Option Value} (T : Txt w K mg) : RF K (RE K) (reF K) (reCC K) (reCD K) := by
  have h := T.e 11 (f := fun K => reMore K) rfl
  have h' : reMore K = true := h
  unfold reMore reMore.eqO2 at h'
  simp only [Bool.and_eq_true, decide_eq_true_eq] at h'
  obtain ⟨h1, h2, h3, h4, h5, h6, h7, h8, h9, h10, h11, h12, h13, h14, h15⟩ := h'
  exact ⟨oexB_ok h12, h1, h2, h3, h4, h5, h6, h7, h8, h9, h10, h11, T.n_RippleError_message, reFn_ok T.re, reCell_ok h13, reCode_ok h14, xfB_ok h15⟩
end K47
/-! RippleError(message): __init__ walked, the error made, raised -/
namespace K47
open PySem PySem.Spec PyProof.Rows L2
open PySem.W (Frag)
/-- what __init__ leaves of a fresh error at x -/
structure ReEnd (h h' : Heap) (x C dx t1 : Addr) (v : Value) : Prop where
  keep : ∀ b o, b ≠ x → h.get? b = some o → h'.get? b = some o
  obj : h'.get? x = some { cls := .ref C, dict := some dx, data := .fields #[.ref t1, .none, .none, .none, .bool false, .none] }
  dbig : h.objs.size ≤ dx
  dne : dx ≠ x
  ns : h'.Ns1 dx (fun y => if y = "message" then some v else none)
abbrev reEnv (K : Frag) (L : Addr) : Env := PySem.W.ksEnv "RippleError.__init__" (defScope s_RE) L (reF K) (.ref (reCD K)) (reCC K)
section
variable {w : World} {A : Around} {E : Value → Shared → Prop} {R : Result → Shared → Prop} {s : Shared} {K : Frag} {mg mb : Str → Option Value}
theorem call_bw {u e t0 C : Addr} {h : Heap} {g : Array GenState} {d : Drawn} {t : Nat} {os : OsState} {rest : List Value} {Q : Value → Shared → Prop}
    {nm q : Str} {N : Addr} {bs bm : List Value} {hdct : Bool} {sn : List Str} {sub : List Value} {ab : Bool} {col : Option Bool} {dd : Option Addr} {k0 k1 k2 k3 k5 : Option Value}
    (hC : h.get? C = some (excClassObj nm q C N bs bm hdct sn sub ab col dd k0 k1 k2 k3 k5 "ValueError.__new__")) (hbm : PySem.HandSPX.refsVE bm = true) (he : h.get? e = some (PySem.HandSPX.excO C t0)) (hu : h.get? u = some (PySem.W.kxs_mw "ValueError.__init__" e)) (hrest : rest.length ≤ sizeLine)
    (hq : ∀ h' t1, (∀ b o, b ≠ e → h.get? b = some o → h'.get? b = some o) → h'.get? e = some (PySem.HandSPX.excO C t1) → Q .none ⟨h', g, d, t, os⟩) :
    wpAny (model prog w) A (call (.ref u) rest) Q E ⟨h, g, d, t, os⟩ := by
  refine wpAny_call (codeAny_of_tree ?_)
  show wpAny _ A.in1 (callAny (.ref u) ⟨rest, []⟩) _ _ _
  simp only [callAny]
  refine wpAny_bind (wpAny_load hu ?_)
  simp only [PySem.W.kxs_mw, show (Value.type "method-wrapper" == Value.type "method" || Value.type "method-wrapper" == Value.type "builtin_function_or_method" || Value.type "method-wrapper" == Value.type "method-wrapper") = true by decide, if_true]
  refine PySem.W.KFB.if_so (by decide) ?_
  refine wpAny_bind ?_
  have hshort := F.excBase_ValueError.noStar
  simp only [checkBoundCall, F.excBase_ValueError.initKind, F.excBase_ValueError.initRow]
  repeat (first | (with_reducible refine wpAny_loadPart_at he ?_) | with_reducible refine wpAny_loadPart_at hC ?_ | wp_step)
  refine wpAny_onRaise ?_
  rw [show ∀ (a b : String) (n : Nat), Bind.check ⟨.positional, "*", "ValueError", .self, [⟨"args", .varPos, false⟩]⟩ a b n (List.map (fun x => x.fst) ({ pos := Value.ref e :: rest } : Args).kw) = pure () from
    fun a b n => check_star_args _ _ _ _ _ _]
  refine wpAny_pure ?_
  refine wpAny_bind (wpAny_pure (wpAny_pure ?_))
  refine ⟨Code.quiet_builtin _ (by decide +kernel), codeAny_builtin F.excBase_ValueError.initEntry ?_⟩
  rw [Around.under_plainId F.excBase_ValueError.init.plain _]
  wp_walk
  refine hq _ h.objs.size (fun b o hb ho => ?_) ?_
  · rw [Heap.get?_update_other _ _ (Ne.symm hb)]
    exact Heap.get?_push_of_some _ ho
  · rw [Heap.get?_update_self _ (Heap.get?_push_of_some _ he) rfl]
    rfl
end
end K47
namespace K47
open PySem PySem.Spec PyProof.Rows L2
open PySem.W (Frag)
section
variable {w : World} {A : Around} {E : Value → Shared → Prop} {R : Result → Shared → Prop} {s : Shared} {K : Frag} {mg mb : Str → Option Value}
theorem re_init (F : RF K (RE K) (reF K) (reCC K) (reCD K)) {x t0 : Addr} {v : Value} (X : K.In s.heap) (G : s.heap.Ns mainGlobals mg) (hsup : mg "super" = none) (B : s.heap.Ns builtinsNs mb) (hB : mb "super" = some (.type "super")) (hlim : s.heap.NoLimit)
    (hx : s.heap.get? x = some (PySem.HandSPX.excO (RE K) t0)) (hroom : A.depth < recursionLimit) (hnx : ∀ o, K.lookup x ≠ some o)
    (hq : ∀ h' tk dx t1, ReEnd s.heap h' x (RE K) dx t1 v → R (.ok (.ret .none)) { s with heap := h', toks := tk }) :
    codeAny (model prog w) A (.call (.ref (reF K)) ⟨[.ref x, v], []⟩) R s := by
  obtain ⟨oc, od, osl, doc, pm, an, ct, ho⟩ := F.fn
  obtain ⟨nm, q, N, bs, bm, sn, sub, ab, col, dd, k0, k1, k2, k3, k5, hC, hbm⟩ := F.cls
  obtain ⟨cl, cld, csl, hcell⟩ := F.cell
  obtain ⟨ccl, cdd, vs, ccs, file, tf, hcode, hvs, hfile⟩ := F.cda
  have hcl : PySem.W.clsIn K (RE K) = some { name := nm, bases := bs, mro := .ref (RE K) :: bm, ns := N, qualname := q, hasDict := true, slotNames := sn, subclasses := sub, abstract := ab, collection := col, hasDel := false } := by unfold PySem.W.clsIn; rw [hC] <;> rfl
  refine ks_codeAny_call_defAt (fd := PySem.W.ksFn "__init__" "RippleError.__init__" (defArgs s_RE) (defBody s_RE) (defScope s_RE) .none .none doc pm an (.ref (reCD K)) ct (reCC K)) (body := defBody s_RE) (binds := [("self", .ref x), ("message", v)])
    hroom (X _ _ ho) rfl hlim (PySem.W.codeRec_of X F.code) rfl (BindsTo.of_eq (by rfl)) (show ∀ y ∈ (defScope s_RE).names, y.2 ≠ .cell by decide +kernel) (by
      intro y hy
      rcases List.mem_cons.mp hy with e | hy
      · rw [e]; rfl
      · rcases List.mem_cons.mp hy with e | hy
        · rw [e]; rfl
        · cases hy) (fun h₁ hns k => ?_)
  show PySem.wpAt (model prog w) (A.deeper (reEnv K s.heap.objs.size)) (.func (defBody s_RE) (reEnv K s.heap.objs.size)) (execs _ (reEnv K s.heap.objs.size)) _ _ _
  have X₁ : K.In h₁ := X.keeps k
  have hx₁ := k _ _ hx
  have hxL : x < s.heap.objs.size := Heap.lt_size hx
  have hC₁ := X₁ _ _ hC
  refine ks_wpAt_execs_cons (ks_wpAt_Expr_any (ks_wpAt_MethodCall (ks_wpAt_super_base (f := reF K) (cc := reCD K) (by rfl) (by rfl) (by decide) rfl (X₁ _ _ ho) rfl (by rfl) rfl (X₁ _ _ hcode) rfl hvs hfile (by rfl) ?_)))
  refine PySem.W.ks_loadName_global rfl (by rfl) (Calls.loadGlobal_builtin (env := reEnv K s.heap.objs.size) (G.keeps k) hsup (B.keeps k) hB ⟨rfl, ?_⟩)
  refine wpAny_loadName_free rfl (by rfl) rfl ⟨_, X₁ _ _ hcell, rfl⟩ ?_
  refine wpAny_loadName_local rfl (by rfl) hns (v := .ref x) (by rfl) ?_
  refine ks_wpAny_isType_cls hC₁ rfl ⟨rfl, ?_⟩
  refine ks_wpAny_call_super hC₁ rfl hx₁ rfl (fun c e => by cases e) (PySem.W.looks_mroIn X₁ F.mro) (fun h₂ e₂ k₂ => ?_)
  have X₂ : K.In h₂ := X₁.keeps k₂
  have hx₂ := k₂ _ _ hx₁
  have hC₂ := X₂ _ _ hC
  have hxC : x ≠ RE K := fun e => by
    have z := hC₁
    rw [← e, hx₁] at z
    cases z
  have sup := F.sup
  unfold PySem.W.ks_superIn at sup
  rw [hcl] at sup
  have LT : PySem.W.Looks (model prog w) h₂ (typeOf (.ref x)) (.ref (RE K)) := fun A Q E s k q => wpAny_typeOf_ref (k _ _ hx₂) q
  refine PySem.W.kxs_getMethod PySem.W.kxs_ValueError e₂ (PySem.W.looks_opaque X₂ F.opq) (l₀ := .ref (RE K) :: bm) ((PySem.W.looks_clsIn X₂ hcl).andThen .now) rfl X₂ sup (LT.andThen (PySem.W.looks_subIn X₂ F.veC)) hxC (by decide +kernel) ?_
  have hu : (h₂.push (PySem.W.kxs_mw "ValueError.__init__" x)).get? h₂.objs.size = some (PySem.W.kxs_mw "ValueError.__init__" x) := Heap.get?_push_size _ rfl
  have k₃ : ∀ b o, h₂.get? b = some o → (h₂.push (PySem.W.kxs_mw "ValueError.__init__" x)).get? b = some o := fun b o e => Heap.get?_push_of_some _ e
  show wpAny _ _ (callWith _ (.ref h₂.objs.size) [] _ []) _ _ _
  obtain ⟨oL, es, ep, hL, rest⟩ := hns
  have hns₃ : (h₂.push (PySem.W.kxs_mw "ValueError.__init__" x)).Ns s.heap.objs.size (fun y => List.lookup y [(("self" : Str), Value.ref x), (("message" : Str), v)].reverse) := ⟨oL, es, ep, k₃ _ _ (k₂ _ _ hL), rest⟩
  have he : starEach [Expr.Name ("message" : Str) ⟨8, 25, 8, 32⟩] (reEnv K s.heap.objs.size) = (false, eval (Expr.Name ("message" : Str) ⟨8, 25, 8, 32⟩) (reEnv K s.heap.objs.size)) :: starEach [] (reEnv K s.heap.objs.size) := rfl
  refine PySem.W.kxs_callWith (i := "ValueError.__init__") (x := x) (u := h₂.objs.size) (first := []) rfl ?_
  refine Calls.evalArgs_plain (x := eval (Expr.Name ("message" : Str) ⟨8, 25, 8, 32⟩) (reEnv K s.heap.objs.size)) (rest := []) ?_
  refine PySem.Calls.spliced_cons (wpAny_Name (wpAny_loadName_local rfl (by rfl) hns₃ (v := v) (by rfl) (PySem.Calls.spliced_nil ?_)) (by decide))
  refine ⟨hu, ?_⟩
  refine call_bw (k₃ _ _ hC₂) hbm (k₃ _ _ hx₂) hu (by rw [sizeLine_eq]; show 1 ≤ 16777216; decide) (fun h₄ t₁ k₄ hx₄ => ?_)
  have kx : ∀ b o, b ≠ x → s.heap.get? b = some o → h₄.get? b = some o := fun b o hb e => k₄ b o hb (k₃ _ _ (k₂ _ _ (k _ _ e)))
  have nLx : s.heap.objs.size ≠ x := Nat.ne_of_gt hxL
  have hns₄ : h₄.Ns s.heap.objs.size (fun y => List.lookup y [(("self" : Str), Value.ref x), (("message" : Str), v)].reverse) := ⟨oL, es, ep, k₄ _ _ nLx (k₃ _ _ (k₂ _ _ hL)), rest⟩
  have hKx : K.lookup x = none := by
    cases z : K.lookup x with
    | none => rfl
    | some o => exact absurd z (hnx o)
  have X₄ : K.In h₄ := fun b o e => kx b o (fun z => by rw [z, hKx] at e; cases e) (X b o e)
  show PySem.wpAt (model prog w) _ _ (execs _ (reEnv K s.heap.objs.size)) _ _ _
  refine ks_wpAt_execs_cons (wpAt_of_wpAny (plainObj_wpAny_Assign_Attribute ?_))
  refine wpAny_Name (wpAny_loadName_local rfl (by rfl) hns₄ (v := v) (by rfl) ?_) (by decide)
  refine wpAny_Name (wpAny_loadName_local rfl (by rfl) hns₄ (v := .ref x) (by rfl) ?_) (by decide)
  refine PySem.W.set_plain X₄ (ox := PySem.HandSPX.excO (RE K) t₁) (od := none) ⟨hx₄, rfl, rfl, trivial⟩ F.sa ?_
  refine PySem.HandSPX.exc_osa X₄ hx₄ hcl (show PySem.HandSPX.refsVE (.ref (RE K) :: bm) = true from hbm) rfl F.noM (fun h₅ tk₅ dx k₅ dn dne hx₅ hn₅ => ?_)
  show PySem.wpAt (model prog w) _ _ (execs [] (reEnv K s.heap.objs.size)) _ _ _
  have sz : s.heap.objs.size ≤ h₄.objs.size := Nat.le_of_lt (by obtain ⟨o, _, _, e, _⟩ := hns₄; exact Heap.lt_size e)
  exact wpAt_of_wpAny (wpAny_execs_nil (hq h₅ tk₅ dx t₁ ⟨fun b o hb e => k₅ b o hb (kx b o hb e), hx₅, Nat.le_trans sz dn, dne, hn₅⟩))
end
end K47
namespace K47
open PySem PySem.Spec PyProof.Rows L2
open PySem.W (Frag)
/-- an error that was made -/
structure ReMade (h h' : Heap) (e C d : Addr) (v : Value) : Prop where
  keep : ∀ b o, h.get? b = some o → h'.get? b = some o
  new : h.objs.size ≤ e
  obj : ∃ oe vs, h'.get? e = some oe ∧ oe.cls = .ref C ∧ oe.dict = some d ∧ oe.data = .fields vs ∧ vs[1]? = some .none
  dbig : h.objs.size ≤ d
  dne : d ≠ e
  ns : h'.Ns1 d (fun y => if y = "message" then some v else none)
section
variable {w : World} {A : Around} {E : Value → Shared → Prop} {R : Result → Shared → Prop} {s : Shared} {K : Frag} {mg mb : Str → Option Value}
theorem re_made {P : Program} (hP : P = prog) (F : RF K (RE K) (reF K) (reCC K) (reCD K)) {v : Value} (X : K.In s.heap) (G : s.heap.Ns mainGlobals mg) (hsup : mg "super" = none) (B : s.heap.Ns builtinsNs mb) (hB : mb "super" = some (.type "super")) (hlim : s.heap.NoLimit)
    (hroom : A.depth + 1 < recursionLimit) (hq : ∀ h' tk e d, ReMade s.heap h' e (RE K) d v → R (.ok (.ret (.ref e))) { s with heap := h', toks := tk }) :
    codeAny (model P w) A (.call (.ref (RE K)) ⟨[v], []⟩) R s := by
  subst hP
  obtain ⟨nm, q, N, bs, bm, sn, sub, ab, col, dd, k0, k1, k2, k3, k5, hC, hbm⟩ := F.cls
  obtain ⟨hp, g, dr, tk, os⟩ := s
  have k : ∀ b o, hp.get? b = some o → ((hp.push (PySem.W.kdv_tup [v])).push (PySem.HandSPX.excO (RE K) hp.objs.size)).get? b = some o := fun b o e => Heap.get?_push_of_some _ (Heap.get?_push_of_some _ e)
  have hget : ((hp.push (PySem.W.kdv_tup [v])).push (PySem.HandSPX.excO (RE K) hp.objs.size)).get? (hp.objs.size + 1) = some (PySem.HandSPX.excO (RE K) hp.objs.size) := by heap_get
  have hnx : ∀ o, K.lookup (hp.objs.size + 1) ≠ some o := fun o e => by
    have z : hp.get? (hp.objs.size + 1) = some o := X _ _ e
    exact absurd (Nat.lt_of_succ_lt (Heap.lt_size z)) (Nat.lt_irrefl _)
  refine PySem.HandSPX.call_own PySem.F.excBase_ValueError (fun X => PySem.HandSPX.refsVE_contains X bm hbm) (X _ _ hC) (PySem.W.looks_findIn X F.iC) (fun self => PySem.W.bind_fn X self F.tI) (by rw [sizeLine_eq]; show 1 ≤ 16777216; decide) ?_
  have keepNs : ∀ {a : Addr} {m : Str → Option Value}, hp.Ns a m → ((hp.push (PySem.W.kdv_tup [v])).push (PySem.HandSPX.excO (RE K) hp.objs.size)).Ns a m := fun {a m} n => n.keeps k
  refine re_init (s := ⟨(hp.push (PySem.W.kdv_tup [v])).push (PySem.HandSPX.excO (RE K) hp.objs.size), g, dr, tk, os⟩) F (X.keeps k) (keepNs G) hsup (keepNs B) hB (hlim.keeps k) hget ?_ hnx fun h' tk' dx t1 hE => ?_
  · show A.depth + 1 < recursionLimit
    exact hroom
  · obtain ⟨k', hx, dn, dne, hns⟩ := hE
    have old : ∀ b o, hp.get? b = some o → h'.get? b = some o := fun b o e => k' b o (Nat.ne_of_lt (Nat.lt_succ_of_lt (Heap.lt_size e))) (k b o e)
    have z : hp.objs.size + 1 + 1 ≤ dx := by
      have q := dn
      rw [Heap.size_push, Heap.size_push] at q
      exact q
    exact ⟨rfl, hq h' tk' (hp.objs.size + 1) dx ⟨old, Nat.le_succ _, ⟨_, _, hx, rfl, rfl, rfl, rfl⟩, Nat.le_trans (Nat.le_trans (Nat.le_succ _) (Nat.le_succ _)) z, dne, hns⟩⟩
end
theorem relO_msg {v : V} {v' : Value} (r : RelV v v') (f : Str) : RelO (List.lookup f [(("message" : Str), v)]) (if f = "message" then some v' else none) := by
  by_cases hw : f = "message"
  · subst hw
    rw [if_pos rfl]
    have q : List.lookup ("message" : Str) [(("message" : Str), v)] = some v := by simp [List.lookup]
    rw [q]
    exact r
  · rw [if_neg hw]
    have qw : (f == ("message" : Str)) = false := by simpa using hw
    have q2 : List.lookup f [(("message" : Str), v)] = none := by simp [List.lookup, qw]
    rw [q2]
    trivial
/-- the dict of an error with this message -/
abbrev msgO (v : V) : HO := .xd [(("message" : Str), v)]
/-- RippleError(e) -/
def tMkE (K : Frag) (ta : TA) : L2.St → Hp → XK → Prop := fun σ H Q => ta σ H fun vs H1 => ∃ v, vs = [v] ∧ ∀ d, H1 d = none → Q (.ref (RE K)) (some d) (upd H1 d (msgO v))
theorem pmk_re {X : Cx} {a : Expr} {ta : TA} {p pos : Pos} {k : Nat} (T : Txt X.w X.K X.mg) (hP : X.prog = prog) (hr : Room k X.A) (ha : PA X [a] ta) (hg : Gl X "RippleError" := by rfl)
    (he : starEach (a :: []) X.env = (false, eval a X.env) :: starEach [] X.env := by rfl) (hpl : (backTo pos (starEach [] X.env)).any (·.1) = false := by rfl) :
    PMk X (.Call (.Name "RippleError" p) [a] [] pos) (tMkE X.K ta) := by
  intro pins s σ H Q I h
  have F := T.rf
  refine wpAny_Call_Name_kw (ld_glob I hg T.g_RippleError ?_)
  refine PySem.W.callWith_K (h₀ := X.base) I.ok.mod.kin F.kC (thn (ha.run pos pins s σ H _ I h) fun us s1 hh => ?_) he hpl
  obtain ⟨vs, H1, I1, r1, v, ev, q1⟩ := hh
  subst ev
  refine ⟨I1.kIn, ?_⟩
  cases r1 with
  | cons rv rn =>
    rename_i v' us'
    cases rn
    show wpAny _ _ (call (.ref (RE X.K)) [v']) _ _ _
    have hlim := I1.nolimit
    obtain ⟨mb, hB1, hB2⟩ := I1.mod.blt
    have gl := I1.mod.glob.keeps I1.bk
    have bl := hB1.keeps I1.bk
    obtain ⟨hp, g, dr, tk, os⟩ := s1
    refine wpAny_call (re_made hP F I1.kIn gl T.b_super bl ((hB2 _ (by decide +kernel)).trans (by decide +kernel)) hlim (by have := hr.dp; omega) fun h' tk' e d M => ?_)
    show MkP X pins σ Q (.ref e) ⟨h', g, dr, tk', os⟩
    obtain ⟨oe, fv, hoe, hc, hd, hdat, h1⟩ := M.obj
    have hns := M.ns
    obtain ⟨G', g1, g2⟩ := restrict h' fun b => decide (b ≠ e)
    have gk : ∀ b, b ≠ e → G'.get? b = h'.get? b := fun b hb => g1 b (decide_eq_true hb)
    have ge : G'.get? e = none := g2 e (by simp)
    have old : ∀ b o, hp.get? b = some o → G'.get? b = some o := fun b o q => (gk b (Nat.ne_of_lt (Nat.lt_of_lt_of_le (Heap.lt_size q) M.new))).trans (M.keep b o q)
    have ob : ObjOk X.prog X.w (upd H1 d (msgO v)) G' d (msgO v) :=
      ⟨_, hns.at (fun o q => (gk d M.dne).trans q), fun f => relO_msg rv f⟩
    have J : Inv X pins σ (upd H1 d (msgO v)) ⟨G', g, dr, tk', os⟩ := I1.laid (t' := tk') old M.dbig ob
    refine ⟨e, oe, fv, ⟨G', g, dr, tk', os⟩, _, .ref (RE X.K), some d, rfl, J, fun b o q => ?_, ge, hoe, ⟨hc, hd⟩, hdat, h1, ?_, rfl, I1.bare, raises_own F.exC F.tyC, q1 d (I1.hok.fresh M.dbig)⟩
    · by_cases hb : b = e
      · have q' : G'.get? b = some o := q
        rw [hb, ge] at q'; cases q'
      · exact (gk b hb).symm.trans q
    · rw [upd_ne (Ne.symm M.dne)]
      exact I1.hok.fresh M.new
/-- raise RippleError(e) -/
def tRaiseE (K : Frag) (W : WX) (ta : TA) : TS := fun _ σ H => tMkE K ta σ H fun cls d H' => W cls d σ H'
theorem ps_raiseE {X : Cx} {a : Expr} {ta : TA} {W : WX} {p pos pos2 : Pos} {k : Nat} (T : Txt X.w X.K X.mg) (hP : X.prog = prog) (hr : Room k X.A) (tk : Takes X W) (ha : PA X [a] ta) (hc : X.calm = true := by rfl) (hg : Gl X "RippleError" := by rfl)
    (he : starEach (a :: []) X.env = (false, eval a X.env) :: starEach [] X.env := by rfl) (hpl : (backTo pos (starEach [] X.env)).any (·.1) = false := by rfl) :
    PS X (.Raise (some (.Call (.Name "RippleError" p) [a] [] pos)) none pos2) (tRaiseE X.K W ta) := ps_raise hc tk (pmk_re T hP hr ha hg he hpl)
end K47
/-! try: .. except X: suite; raise — the caught error flies on -/
namespace K47
open PySem PySem.Spec PyProof.Rows L2
/-- the suite's context: the error's record and its traceback's are pinned -/
abbrev suiteR (X : Cx) (a : Addr) (pn : List (Addr × Obj)) : Cx := { X with A := X.A.mark (some (.ref a)), calm := false, pn := pn }
/-- the caught error may be raised again -/
def ReOk (X : Cx) (cls : Value) (d : Option Addr) (W : WX) : Prop :=
  ∀ (s : Shared) (σ : L2.St) (H : Hp), Inv X [] σ H s → W cls d σ H → wpAny (model X.prog X.w) X.A (PySem.raiseStmt X.env none none) (fun (_ : Flow) _ => False) X.xe s
section
variable {X : Cx}
theorem ps_reraise {cls : Value} {d : Option Addr} {W : WX} {pos : Pos} (h : ReOk X cls d W) : PS X (.Raise none none pos) (fun _ σ H => W cls d σ H) := by
  refine ⟨fun pins s σ H D I q => ?_⟩
  refine PySem.wpAny_Raise_bare ?_
  exact wpAny_mono (h s σ H (I.pins_of (fun p hp => absurd hp (by simp))) q) (fun _ _ z => z.elim) fun _ _ z => z
theorem Inv.toR {pins pn' pn : List (Addr × Obj)} {σ : L2.St} {H : Hp} {s : Shared} {a : Addr} (I : Inv X pins σ H s) (hp : ∀ p ∈ pn, s.heap.get? p.1 = some p.2 ∧ H p.1 = none ∧ p.1 ≠ X.env.locals ∧ p.1 ∉ X.fs ∧ ∀ v, p.2.data ≠ .cell v) :
    Inv (suiteR X a pn) [] σ H s :=
  ⟨⟨I.ok.mod, I.ok.kind, I.ok.glob, I.ok.blt, I.ok.above, I.ok.inj, I.ok.has, I.ok.cab, (fun z => absurd (show false = true from z) Bool.false_ne_true), I.ok.frames, I.ok.stk, I.ok.exf, I.ok.bs, I.ok.bsz, I.ok.noex, I.ok.exfs, I.ok.funs, I.ok.frf⟩,
    I.os, I.bare, I.base, I.loc, I.cell, I.free, I.freeC, fun p h => hp p (by rw [List.append_nil] at h; exact h), I.hok, I.len⟩
theorem Inv.ofR {pins pn' pn : List (Addr × Obj)} {σ : L2.St} {H : Hp} {s : Shared} {a : Addr} (I : Inv (suiteR X a pn) pn' σ H s) (ok : X.Ok) (hsub : ∀ p ∈ X.pn ++ pins, p ∈ pn) : Inv X pins σ H s :=
  ⟨ok, I.os, I.bare, I.base, I.loc, I.cell, I.free, I.freeC, fun p hp => I.pin p (List.mem_append_left _ (hsub p hp)), I.hok, I.len⟩
/-- the state without two records -/
theorem Inv.without {pins : List (Addr × Obj)} {σ : L2.St} {H : Hp} {s : Shared} {a T : Addr} {G : Heap} (I : Inv X pins σ H s) (gk : ∀ b, b ≠ a → b ≠ T → G.get? b = s.heap.get? b)
    (na : H a = none) (nT : H T = none) (new : ∀ b o, X.s_0.heap.get? b = some o → b ≠ a ∧ b ≠ T) (nL : X.env.locals ≠ a ∧ X.env.locals ≠ T) (nc : ∀ c v, s.heap.IsCell c v → c ≠ a ∧ c ≠ T) (np : ∀ p ∈ X.pn ++ pins, p.1 ≠ a ∧ p.1 ≠ T) :
    Inv X pins σ H { s with heap := G } := by
  have cellK : ∀ c v, s.heap.IsCell c v → G.IsCell c v := fun c v z => by
    obtain ⟨n1, n2⟩ := nc c v z
    obtain ⟨o, ho, hd⟩ := z
    exact ⟨o, (gk c n1 n2).trans ho, hd⟩
  refine ⟨I.ok, I.os, I.bare, ⟨fun b o e n hb hx => ?_, fun b o e n hb hx => ?_, I.base.free, fun b o e hx => ?_, I.base.tups, I.base.frzs, I.base.tbls⟩, ?_, fun x c e => ?_, I.free, I.freeC, fun p hp => ?_, fun b o q => ?_, I.len⟩
  · obtain ⟨n1, n2⟩ := new b o e
    exact (gk b n1 n2).trans (I.base.keep b o e n hb hx)
  · obtain ⟨n1, n2⟩ := new b o e
    obtain ⟨sl, z⟩ := I.base.slot b o e n hb hx
    exact ⟨sl, (gk b n1 n2).trans z⟩
  · obtain ⟨n1, n2⟩ := new b o e
    obtain ⟨o', z⟩ := I.base.there b o e hx
    exact ⟨o', (gk b n1 n2).trans z⟩
  · obtain ⟨m, ⟨o, es, ep, ho, r⟩, hl⟩ := I.loc
    refine ⟨m, ⟨o, es, ep, (gk _ nL.1 nL.2).trans ho, r⟩, fun i x v e1 e2 e3 => ?_⟩
    obtain ⟨u, ru, l⟩ := hl i x v e1 e2 e3
    refine ⟨u, ru, ?_⟩
    rcases l with l | ⟨k, c, e, z⟩
    · exact .inl l
    · exact .inr ⟨k, c, e, cellK c _ z⟩
  · obtain ⟨v, z⟩ := I.cell x c e
    exact ⟨v, cellK c v z⟩
  · obtain ⟨e, n, ne, nf, dd⟩ := I.pin p hp
    obtain ⟨n1, n2⟩ := np p hp
    exact ⟨(gk p.1 n1 n2).trans e, n, ne, nf, dd⟩
  · refine (I.hok b o q).stay (fun c v hc y => ?_) (fun _ y => y) fun _ _ y => y
    have hne : ∀ z, H z = none → c ≠ z := fun z hz e => by
      subst e
      rcases hc with hc | hc
      · rw [hc, q] at hz; cases hz
      · rw [hc] at hz; cases hz
    exact (gk c (hne a na) (hne T nT)).trans y
end
section
variable {X : Cx} {x : Str} {c : Value} {body suite : List Stmt} {b₀ : Stmt} {np pos pos' : Pos} {tb : WX → TS} {ts : WX → Addr → Value → Option Addr → TS} {Wout : WX}
/-- as wOnly, the suite told what it may wish of the error raised again -/
def wRe (K : PySem.W.Frag) (c : Value) (ts : Addr → Value → Option Addr → TS) (Wout : WX) (D : Ends) : WX := wOnly K c ts Wout D
theorem ps_try_re (hs : X.stack = X.env :: X.outer) (hf : X.env.frame = some X.env.locals) (hex : X.ex = []) (hc : Names X x c) (hpa : ∀ hd : Option Value, PassesOwnAt (model X.prog X.w) (X.A.mark hd) X.A X.env X.xe) (tk : Takes X Wout)
    (hb : ∀ (W : WX) (pn : List (Addr × Obj)) (xe : Value → Shared → Prop), Takes (X.tr pn xe) W → PassesOwn (model X.prog X.w) X.A X.env xe → PSs (X.tr pn xe) body (tb W))
    (hsu : ∀ (a : Addr) (cls : Value) (d : Option Addr) (pn : List (Addr × Obj)), ReOk (suiteR X a pn) cls d Wout → PSs (suiteR X a pn) (b₀ :: suite) (ts Wout a cls d)) :
    PS X (.Try body [.ExceptHandler (some (.Name x np)) none (b₀ :: suite) pos'] [] [] pos) (fun D σ H => tb (wOnly X.K c (ts Wout) Wout D) D σ H) := by
  refine ⟨fun pins s σ H D I h => ?_⟩
  have ok := I.ok
  have hfr : X.A.frames = some (X.env :: X.outer) := by rw [ok.frames, hs]
  refine wpAny_Try_except ?_
  refine wpAny_mono ((hb (wOnly X.K c (ts Wout) Wout D) (X.pn ++ pins) (fun e s₁ => wpAny (model X.prog X.w) X.A (noteFrame e X.env) (fun _ s₂ => wpAny (model X.prog X.w) X.A (setFlight e none) (fun _ s₃ =>
    wpAny (model X.prog X.w) X.A (handleBy e X.env [.ExceptHandler (some (.Name x np)) none (b₀ :: suite) pos']) (SP X pins D) X.xe s₃) X.xe s₂) X.xe s₁) (fun u s' xx => ?_) PassesOwn.looking).run [] s σ H D (I.toTry _) h) (fun f s1 hsp => ?_) (fun e s1 he => he)
  · obtain ⟨a, B, sI, pins', σ', H', cls, d, rfl, J', nb, up, sky, na, os, ag, b, hb1, hyes, hno⟩ := xx
    have J : Inv X pins σ' H' sI := J'.ofTry ok
    have sky' : Sky B (X.env :: X.outer) a (Zc cls d) X.env.locals s'.heap := by rw [← hs]; exact sky
    show wpAny (model X.prog X.w) X.A (noteFrame (.ref a) X.env) _ _ _
    refine Sky.land Zc.steady hfr hf sky' fun h3 fl3 up3 => ?_
    have J3 : Inv X pins σ' H' { s' with heap := h3 } := J.landed nb fl3.1 (up.trans up3) os ag
    obtain ⟨oe3, vs3, he3, hz3, hd3⟩ := fl3.there
    have notFr : ∀ {h : Heap} {b : Addr} {o : Obj} {vs : Array Value}, h.FunFrames B (X.env :: X.outer) → h.get? b = some o → o.data = .fields vs → b ∉ frs (X.env :: X.outer) := fun {h b o vs} ff e dd hm => by
      obtain ⟨_, o', e', hnf⟩ := ff.mem hm
      rw [e] at e'; cases e'
      exact hnf _ dd
    have offs : ∀ {b : Addr}, b ∉ frs (X.env :: X.outer) → b ≠ X.env.locals ∧ b ∉ X.fs := fun {b} nfr => ⟨fun z => nfr (List.mem_filterMap.mpr ⟨X.env, List.mem_cons_self, by rw [hf, z]⟩), fun hm => by
      obtain ⟨e, he, q⟩ := List.mem_filterMap.mp hm
      exact nfr (List.mem_filterMap.mpr ⟨e, List.mem_cons_of_mem _ he, q⟩)⟩
    obtain ⟨nL, nF⟩ := offs (notFr fl3.2.2.1 he3 hd3)
    have S3 := J3.suite he3 hd3 na nL nF
    refine wpAny_handleBy_cons (codeAny_handlers_test ?_) (by intro q; cases q)
    have LT : PySem.W.Looks (model X.prog X.w) h3 (typeOf (.ref a)) cls := fun A Q E s k q => wpAny_typeOf_ref (k _ _ he3) (by rw [hz3.1]; exact q)
    have LM := PySem.W.exm_one (M := model X.prog X.w) (J3.kIn) LT hb1
    have test : ∀ {Q : Value → Shared → Prop} {E : Value → Shared → Prop}, Q c { s' with heap := h3 } → wpAny (model X.prog X.w) (X.A.mark (some (.ref a))) (eval (.Name x np) X.env) Q E { s' with heap := h3 } := fun {Q E} q => by
      obtain ⟨hg, hdbg, hm | ⟨hm, hv, hnn⟩⟩ := hc
      · exact ld_glob (X := X.suite a ((a, oe3) :: (X.pn ++ pins))) S3 hg hm q hdbg
      · exact ld_blt (X := X.suite a ((a, oe3) :: (X.pn ++ pins))) S3 hg hm hv q hnn hdbg
    refine test (LM.here ?_)
    cases b with
    | true =>
      refine codeAny_handlers_suite ?_
      refine HandSPX.lands_againZ fl3 fun h4 fl4 up4 => ?_
      have J4 : Inv X pins σ' H' { s' with heap := h4 } := J.landed nb fl4.1 ((up.trans up3).trans up4) os ag
      obtain ⟨stB, nBa, ff4, oe, vs, T, oT, tsr, he4, hz4, hd4, h14, nBT, hTe, hT4, hdT4, h34⟩ := id fl4
      obtain ⟨tL, tF⟩ := offs (notFr ff4 hT4 hdT4)
      have tracked : ∀ b, B.get? b = none → ∀ o, sI.heap.get? b = some o → b ∈ frs X.stack := fun b n o e => by
        by_cases hb : b ∈ frs X.stack
        · exact hb
        · have z := nb b o e hb
          rw [n] at z
          cases z
      have nT : H' T = none := by
        cases q : H' T with
        | none => rfl
        | some u =>
          obtain ⟨o, e⟩ : ∃ o, sI.heap.get? T = some o := objOk_get (J.hok T u q)
          have hm := tracked T nBT o e
          rw [J.stkFree T hm] at q
          cases q
      have notSt : ∀ b, b ≠ X.env.locals → b ∉ X.fs → b ∉ frs X.stack := fun b n1 n2 hm => by
        rcases List.mem_cons.mp (J.stkSub b hm) with e | e
        · exact n1 e
        · exact n2 e
      have newA : ∀ b o, X.s_0.heap.get? b = some o → b ≠ a ∧ b ≠ T := fun b o e => by
        obtain ⟨o', e'⟩ := J.base.there b o e (by rw [hex]; simp)
        have hb : ∀ z, B.get? z = none → z ∉ frs X.stack → b ≠ z := fun z n1 n2 q => by
          subst q
          exact n2 (tracked b n1 o' e')
        exact ⟨hb a nBa (notSt a nL nF), hb T nBT (notSt T tL tF)⟩
      have newP : ∀ p ∈ X.pn ++ pins, p.1 ≠ a ∧ p.1 ≠ T := fun p hp => by
        obtain ⟨e, n, ne, nf, dd⟩ := J.pin p hp
        have hb : ∀ z, B.get? z = none → p.1 ≠ z := fun z n1 q => by
          have e' := e
          rw [q] at e' ne nf
          exact notSt z ne nf (tracked z n1 _ e')
        exact ⟨hb a nBa, hb T nBT⟩
      have S4 : Inv (suiteR X a ((a, oe) :: (T, oT) :: (X.pn ++ pins))) [] σ' H' { s' with heap := h4 } := Inv.toR (pn' := []) J4 fun p hp => by
        rcases List.mem_cons.mp hp with e | hp
        · rw [e]
          exact ⟨he4, na, nL, nF, fun v z => by rw [hd4] at z; cases z⟩
        · rcases List.mem_cons.mp hp with e | hp
          · rw [e]
            exact ⟨hT4, nT, tL, tF, fun v z => by rw [hdT4] at z; cases z⟩
          · exact J4.pin p hp
      have re : ReOk (suiteR X a ((a, oe) :: (T, oT) :: (X.pn ++ pins))) cls d Wout := fun s6 σ6 H6 S6 w6 => by
        obtain ⟨he6, na6, _, _, hda⟩ := S6.pin (a, oe) (List.mem_append_left _ List.mem_cons_self)
        obtain ⟨hT6, nT6, _, _, hdT⟩ := S6.pin (T, oT) (List.mem_append_left _ (List.mem_cons_of_mem _ List.mem_cons_self))
        have J6 : Inv X pins σ6 H6 s6 := Inv.ofR S6 ok fun p hp => List.mem_cons_of_mem _ (List.mem_cons_of_mem _ hp)
        obtain ⟨G, g1, g2⟩ := restrict s6.heap fun b => decide (b ≠ a) && decide (b ≠ T)
        have gk : ∀ b, b ≠ a → b ≠ T → G.get? b = s6.heap.get? b := fun b h1 h2 => g1 b (by rw [decide_eq_true h1, decide_eq_true h2]; rfl)
        have ga : G.get? a = none := g2 a (by simp)
        have gT : G.get? T = none := g2 T (by simp)
        have og : ∀ b o, G.get? b = some o → s6.heap.get? b = some o := fun b o e => by
          by_cases h1 : b = a
          · rw [h1, ga] at e; cases e
          · by_cases h2 : b = T
            · rw [h2, gT] at e; cases e
            · exact (gk b h1 h2).symm.trans e
        have W6 : Inv X pins σ6 H6 { s6 with heap := G } := Inv.without J6 gk na6 nT6 newA ⟨Ne.symm nL, Ne.symm tL⟩ (fun c v z => by
          obtain ⟨o, ho, hd⟩ := z
          exact ⟨fun e => by rw [e, he6] at ho; cases ho; exact hda _ hd, fun e => by rw [e, hT6] at ho; cases ho; exact hdT _ hd⟩) newP
        have nBo : ∀ z, G.get? z = none → (PySem.W.hideAll G (frs X.stack)).get? z = none := fun z n => by
          cases q : (PySem.W.hideAll G (frs X.stack)).get? z with
          | none => rfl
          | some o =>
            have y := PySem.W.of_hideAll _ q
            rw [n] at y
            cases y
        have fl6 : HandSPX.FlyingZ (PySem.W.hideAll G (frs X.stack)) (X.env :: X.outer) a (Zc cls d) s6.heap := by
          refine ⟨fun b o e => og b o (PySem.W.of_hideAll _ e), nBo a ga, ?_, oe, vs, T, oT, tsr, he6, hz4, hd4, h14, nBo T gT, hTe, hT6, hdT4, h34⟩
          rw [← hs]
          exact funFrames_none J6.stack fun b hb => PySem.W.hideAll_none _ hb
        have sk : ∀ (B7 : Heap) (h7 : Heap), HandSPX.HeldZ B7 (X.env :: X.outer) a (Zc cls d) X.env.locals h7 → Sky B7 X.stack a (Zc cls d) X.env.locals h7 := fun B7 h7 z => by
          rw [hs]
          exact .inr (.inr z)
        show wpAny (model X.prog X.w) (X.A.mark (some (.ref a))) (PySem.raiseStmt X.env none none) _ X.xe s6
        unfold PySem.raiseStmt
        dsimp only
        refine wpAny_bind (wpAny_handled ?_)
        rw [show (X.A.mark (some (Value.ref a))).handled = some (Value.ref a) from rfl]
        dsimp only
        refine wpAny_bind (wpAny_rule ?_)
        refine wpAny_bind (wpAny_field he6 hd4 h14 ?_)
        rw [if_neg (show ¬ ((Value.ref T == Value.none) = true) from by simp)]
        have fin : wpAny (model X.prog X.w) (X.A.mark (some (.ref a))) (setFlight (.ref a) X.env.frame) (fun _ s7 => wpAny (model X.prog X.w) (X.A.mark (some (.ref a))) (throw (.ref a) : Sem Flow) (fun _ _ => False) X.xe s7) X.xe s6 := by
          rw [hf]
          refine HandSPX.setFlight_upZ fl6 fun h7 hh7 up7 => wpAny_throw (tk _ _ ?_)
          refine ⟨a, PySem.W.hideAll G (frs X.stack), { s6 with heap := G }, pins, σ6, H6, cls, d, rfl, W6, fun b o e hb => PySem.W.hideAll_get _ e hb, (Heap.UpToSlots.of_keeps og).trans up7, sk _ _ hh7, na6, rfl, J6.bare, w6⟩
        first
          | exact wpAny_bind fin
          | exact wpAny_bind (wpAny_pure (wpAny_bind fin))
      refine wpAny_mono ((hsu a cls d ((a, oe) :: (T, oT) :: (X.pn ++ pins)) re).run [] _ _ H' _ S4 (hyes rfl a na)) (fun f s6 hsp => ?_) (fun e6 s6 z => hpa (some (.ref a)) e6 s6 z)
      have back : ∀ {σ6 : L2.St} {H6 : Hp} {s6 : Shared}, Inv (suiteR X a ((a, oe) :: (T, oT) :: (X.pn ++ pins))) [] σ6 H6 s6 → Inv X pins σ6 H6 s6 := fun S6 => Inv.ofR S6 ok fun p hp => List.mem_cons_of_mem _ (List.mem_cons_of_mem _ hp)
      cases f with
      | next =>
        obtain ⟨σ6, H6, S6, q6⟩ := hsp
        exact ⟨_, _, back S6, q6⟩
      | brk =>
        obtain ⟨σ6, H6, S6, q6⟩ := hsp
        exact ⟨_, _, back S6, q6⟩
      | cont =>
        obtain ⟨σ6, H6, S6, q6⟩ := hsp
        exact ⟨_, _, back S6, q6⟩
      | ret u =>
        obtain ⟨v6, σ6, H6, S6, r6, q6⟩ := hsp
        exact ⟨_, _, _, back S6, r6, q6⟩
    | false =>
      show wpAny _ X.A (handleBy (.ref a) X.env []) _ _ _
      refine wpAny_handleBy_nil ?_
      obtain ⟨k1, k2, k3, oe, vs, T, oT, ts', he, hz, hd, h1, hr⟩ := id fl3
      unfold PySem.passOn
      refine wpAny_bind (wpAny_field he hd h1 ?_)
      rw [if_neg (show ¬ ((Value.ref T == Value.none) = true) from by simp)]
      have fin : wpAny (model X.prog X.w) X.A (setFlight (.ref a) X.env.frame) (fun _ s4 => wpAny (model X.prog X.w) X.A (throw (.ref a) : Sem Flow) (SP X pins D) X.xe s4) X.xe { s' with heap := h3 } := by
        rw [hf]
        refine HandSPX.setFlight_upZ fl3 fun h4 hh4 up4 => wpAny_throw (tk _ _ ?_)
        exact ⟨a, B, sI, pins, σ', H', cls, d, rfl, J, nb, (up.trans up3).trans up4, .inr (.inr (by rw [hs]; exact hh4)), na, os, ag, hno rfl⟩
      first
        | exact wpAny_bind (wpAny_pure (wpAny_bind fin))
        | exact wpAny_bind fin
  · cases f with
    | next =>
      obtain ⟨σ', H', J', q⟩ := hsp
      exact wpAny_execs_nil ⟨σ', H', J'.ofTry ok, q⟩
    | brk =>
      obtain ⟨σ', H', J', q⟩ := hsp
      exact ⟨σ', H', J'.ofTry ok, q⟩
    | cont =>
      obtain ⟨σ', H', J', q⟩ := hsp
      exact ⟨σ', H', J'.ofTry ok, q⟩
    | ret u =>
      obtain ⟨v, σ', H', J', r, q⟩ := hsp
      exact ⟨v, σ', H', J'.ofTry ok, r, q⟩
end
end K47
/-! fields by name; promises over one row of data -/
namespace K47
open PySem PySem.Spec PyProof.Rows L2
open PySem.W (Frag)

def runNs : List Str := ["engine", "mode", "number", "owner", "variables", "reads"]
theorem nd_runNs : runNs.Nodup := by decide +kernel
def nodeNs : List Str := ["kind", "owner", "active", "value", "pairs", "program", "setting", "store", "name", "kept", "reads", "checked", "cleanups", "provided", "latest", "children"]
theorem nd_nodeNs : nodeNs.Nodup := by decide +kernel
def stNs : List Str := ["nodes", "defaults", "requests", "subscriptions", "pulls", "delivered"]
theorem nd_stNs : stNs.Nodup := by decide +kernel
def enNs : List Str := ["plain", "state", "runs", "output", "deferred", "made", "running", "version", "history"]
theorem nd_enNs : enNs.Nodup := by decide +kernel
def rtNs : List Str := ["engine"]
theorem nd_rtNs : rtNs.Nodup := by decide +kernel
section
variable {X : Cx} {e v : Expr} {ta tv : TE} {pos pos2 : Pos}
namespace Txt
theorem p_Run_engine (T : Txt X.w X.K X.mg) (he : PE X e ta) (hb : attributeBase e "engine" X.env (eval e X.env) = eval e X.env := by rfl) : PE X (.Attribute e "engine" pos) (tF (He.ga X.K "Run") runNs 0 ta) := pe_f T.c_Run T.n_Run_engine nd_runNs rfl he hb
theorem q_Run_engine (T : Txt X.w X.K X.mg) (he : PE X e ta) (hv : PE X v tv) (hs : swapsWith v (some (.Attribute e "engine" pos2)) pos.line X.env = pure false := by rfl) : PS X (.Assign [.Attribute e "engine" pos2] v pos) (sF (He.ga X.K "Run") runNs 0 ta tv) := ps_f T.c_Run T.n_Run_engine nd_runNs rfl (by decide) he hv hs
theorem p_Run_mode (T : Txt X.w X.K X.mg) (he : PE X e ta) (hb : attributeBase e "mode" X.env (eval e X.env) = eval e X.env := by rfl) : PE X (.Attribute e "mode" pos) (tF (He.ga X.K "Run") runNs 1 ta) := pe_f T.c_Run T.n_Run_mode nd_runNs rfl he hb
theorem q_Run_mode (T : Txt X.w X.K X.mg) (he : PE X e ta) (hv : PE X v tv) (hs : swapsWith v (some (.Attribute e "mode" pos2)) pos.line X.env = pure false := by rfl) : PS X (.Assign [.Attribute e "mode" pos2] v pos) (sF (He.ga X.K "Run") runNs 1 ta tv) := ps_f T.c_Run T.n_Run_mode nd_runNs rfl (by decide) he hv hs
theorem p_Run_number (T : Txt X.w X.K X.mg) (he : PE X e ta) (hb : attributeBase e "number" X.env (eval e X.env) = eval e X.env := by rfl) : PE X (.Attribute e "number" pos) (tF (He.ga X.K "Run") runNs 2 ta) := pe_f T.c_Run T.n_Run_number nd_runNs rfl he hb
theorem q_Run_number (T : Txt X.w X.K X.mg) (he : PE X e ta) (hv : PE X v tv) (hs : swapsWith v (some (.Attribute e "number" pos2)) pos.line X.env = pure false := by rfl) : PS X (.Assign [.Attribute e "number" pos2] v pos) (sF (He.ga X.K "Run") runNs 2 ta tv) := ps_f T.c_Run T.n_Run_number nd_runNs rfl (by decide) he hv hs
theorem p_Run_owner (T : Txt X.w X.K X.mg) (he : PE X e ta) (hb : attributeBase e "owner" X.env (eval e X.env) = eval e X.env := by rfl) : PE X (.Attribute e "owner" pos) (tF (He.ga X.K "Run") runNs 3 ta) := pe_f T.c_Run T.n_Run_owner nd_runNs rfl he hb
theorem q_Run_owner (T : Txt X.w X.K X.mg) (he : PE X e ta) (hv : PE X v tv) (hs : swapsWith v (some (.Attribute e "owner" pos2)) pos.line X.env = pure false := by rfl) : PS X (.Assign [.Attribute e "owner" pos2] v pos) (sF (He.ga X.K "Run") runNs 3 ta tv) := ps_f T.c_Run T.n_Run_owner nd_runNs rfl (by decide) he hv hs
theorem p_Run_variables (T : Txt X.w X.K X.mg) (he : PE X e ta) (hb : attributeBase e "variables" X.env (eval e X.env) = eval e X.env := by rfl) : PE X (.Attribute e "variables" pos) (tF (He.ga X.K "Run") runNs 4 ta) := pe_f T.c_Run T.n_Run_variables nd_runNs rfl he hb
theorem q_Run_variables (T : Txt X.w X.K X.mg) (he : PE X e ta) (hv : PE X v tv) (hs : swapsWith v (some (.Attribute e "variables" pos2)) pos.line X.env = pure false := by rfl) : PS X (.Assign [.Attribute e "variables" pos2] v pos) (sF (He.ga X.K "Run") runNs 4 ta tv) := ps_f T.c_Run T.n_Run_variables nd_runNs rfl (by decide) he hv hs
theorem p_Run_reads (T : Txt X.w X.K X.mg) (he : PE X e ta) (hb : attributeBase e "reads" X.env (eval e X.env) = eval e X.env := by rfl) : PE X (.Attribute e "reads" pos) (tF (He.ga X.K "Run") runNs 5 ta) := pe_f T.c_Run T.n_Run_reads nd_runNs rfl he hb
theorem q_Run_reads (T : Txt X.w X.K X.mg) (he : PE X e ta) (hv : PE X v tv) (hs : swapsWith v (some (.Attribute e "reads" pos2)) pos.line X.env = pure false := by rfl) : PS X (.Assign [.Attribute e "reads" pos2] v pos) (sF (He.ga X.K "Run") runNs 5 ta tv) := ps_f T.c_Run T.n_Run_reads nd_runNs rfl (by decide) he hv hs
theorem p_Node_kind (T : Txt X.w X.K X.mg) (he : PE X e ta) (hb : attributeBase e "kind" X.env (eval e X.env) = eval e X.env := by rfl) : PE X (.Attribute e "kind" pos) (tF (He.ga X.K "Node") nodeNs 0 ta) := pe_f T.c_Node T.n_Node_kind nd_nodeNs rfl he hb
theorem q_Node_kind (T : Txt X.w X.K X.mg) (he : PE X e ta) (hv : PE X v tv) (hs : swapsWith v (some (.Attribute e "kind" pos2)) pos.line X.env = pure false := by rfl) : PS X (.Assign [.Attribute e "kind" pos2] v pos) (sF (He.ga X.K "Node") nodeNs 0 ta tv) := ps_f T.c_Node T.n_Node_kind nd_nodeNs rfl (by decide) he hv hs
theorem p_Node_owner (T : Txt X.w X.K X.mg) (he : PE X e ta) (hb : attributeBase e "owner" X.env (eval e X.env) = eval e X.env := by rfl) : PE X (.Attribute e "owner" pos) (tF (He.ga X.K "Node") nodeNs 1 ta) := pe_f T.c_Node T.n_Node_owner nd_nodeNs rfl he hb
theorem q_Node_owner (T : Txt X.w X.K X.mg) (he : PE X e ta) (hv : PE X v tv) (hs : swapsWith v (some (.Attribute e "owner" pos2)) pos.line X.env = pure false := by rfl) : PS X (.Assign [.Attribute e "owner" pos2] v pos) (sF (He.ga X.K "Node") nodeNs 1 ta tv) := ps_f T.c_Node T.n_Node_owner nd_nodeNs rfl (by decide) he hv hs
theorem p_Node_active (T : Txt X.w X.K X.mg) (he : PE X e ta) (hb : attributeBase e "active" X.env (eval e X.env) = eval e X.env := by rfl) : PE X (.Attribute e "active" pos) (tF (He.ga X.K "Node") nodeNs 2 ta) := pe_f T.c_Node T.n_Node_active nd_nodeNs rfl he hb
theorem q_Node_active (T : Txt X.w X.K X.mg) (he : PE X e ta) (hv : PE X v tv) (hs : swapsWith v (some (.Attribute e "active" pos2)) pos.line X.env = pure false := by rfl) : PS X (.Assign [.Attribute e "active" pos2] v pos) (sF (He.ga X.K "Node") nodeNs 2 ta tv) := ps_f T.c_Node T.n_Node_active nd_nodeNs rfl (by decide) he hv hs
theorem p_Node_value (T : Txt X.w X.K X.mg) (he : PE X e ta) (hb : attributeBase e "value" X.env (eval e X.env) = eval e X.env := by rfl) : PE X (.Attribute e "value" pos) (tF (He.ga X.K "Node") nodeNs 3 ta) := pe_f T.c_Node T.n_Node_value nd_nodeNs rfl he hb
theorem q_Node_value (T : Txt X.w X.K X.mg) (he : PE X e ta) (hv : PE X v tv) (hs : swapsWith v (some (.Attribute e "value" pos2)) pos.line X.env = pure false := by rfl) : PS X (.Assign [.Attribute e "value" pos2] v pos) (sF (He.ga X.K "Node") nodeNs 3 ta tv) := ps_f T.c_Node T.n_Node_value nd_nodeNs rfl (by decide) he hv hs
theorem p_Node_pairs (T : Txt X.w X.K X.mg) (he : PE X e ta) (hb : attributeBase e "pairs" X.env (eval e X.env) = eval e X.env := by rfl) : PE X (.Attribute e "pairs" pos) (tF (He.ga X.K "Node") nodeNs 4 ta) := pe_f T.c_Node T.n_Node_pairs nd_nodeNs rfl he hb
theorem q_Node_pairs (T : Txt X.w X.K X.mg) (he : PE X e ta) (hv : PE X v tv) (hs : swapsWith v (some (.Attribute e "pairs" pos2)) pos.line X.env = pure false := by rfl) : PS X (.Assign [.Attribute e "pairs" pos2] v pos) (sF (He.ga X.K "Node") nodeNs 4 ta tv) := ps_f T.c_Node T.n_Node_pairs nd_nodeNs rfl (by decide) he hv hs
theorem p_Node_program (T : Txt X.w X.K X.mg) (he : PE X e ta) (hb : attributeBase e "program" X.env (eval e X.env) = eval e X.env := by rfl) : PE X (.Attribute e "program" pos) (tF (He.ga X.K "Node") nodeNs 5 ta) := pe_f T.c_Node T.n_Node_program nd_nodeNs rfl he hb
theorem q_Node_program (T : Txt X.w X.K X.mg) (he : PE X e ta) (hv : PE X v tv) (hs : swapsWith v (some (.Attribute e "program" pos2)) pos.line X.env = pure false := by rfl) : PS X (.Assign [.Attribute e "program" pos2] v pos) (sF (He.ga X.K "Node") nodeNs 5 ta tv) := ps_f T.c_Node T.n_Node_program nd_nodeNs rfl (by decide) he hv hs
theorem p_Node_setting (T : Txt X.w X.K X.mg) (he : PE X e ta) (hb : attributeBase e "setting" X.env (eval e X.env) = eval e X.env := by rfl) : PE X (.Attribute e "setting" pos) (tF (He.ga X.K "Node") nodeNs 6 ta) := pe_f T.c_Node T.n_Node_setting nd_nodeNs rfl he hb
theorem q_Node_setting (T : Txt X.w X.K X.mg) (he : PE X e ta) (hv : PE X v tv) (hs : swapsWith v (some (.Attribute e "setting" pos2)) pos.line X.env = pure false := by rfl) : PS X (.Assign [.Attribute e "setting" pos2] v pos) (sF (He.ga X.K "Node") nodeNs 6 ta tv) := ps_f T.c_Node T.n_Node_setting nd_nodeNs rfl (by decide) he hv hs
theorem p_Node_store (T : Txt X.w X.K X.mg) (he : PE X e ta) (hb : attributeBase e "store" X.env (eval e X.env) = eval e X.env := by rfl) : PE X (.Attribute e "store" pos) (tF (He.ga X.K "Node") nodeNs 7 ta) := pe_f T.c_Node T.n_Node_store nd_nodeNs rfl he hb
theorem q_Node_store (T : Txt X.w X.K X.mg) (he : PE X e ta) (hv : PE X v tv) (hs : swapsWith v (some (.Attribute e "store" pos2)) pos.line X.env = pure false := by rfl) : PS X (.Assign [.Attribute e "store" pos2] v pos) (sF (He.ga X.K "Node") nodeNs 7 ta tv) := ps_f T.c_Node T.n_Node_store nd_nodeNs rfl (by decide) he hv hs
theorem p_Node_name (T : Txt X.w X.K X.mg) (he : PE X e ta) (hb : attributeBase e "name" X.env (eval e X.env) = eval e X.env := by rfl) : PE X (.Attribute e "name" pos) (tF (He.ga X.K "Node") nodeNs 8 ta) := pe_f T.c_Node T.n_Node_name nd_nodeNs rfl he hb
theorem q_Node_name (T : Txt X.w X.K X.mg) (he : PE X e ta) (hv : PE X v tv) (hs : swapsWith v (some (.Attribute e "name" pos2)) pos.line X.env = pure false := by rfl) : PS X (.Assign [.Attribute e "name" pos2] v pos) (sF (He.ga X.K "Node") nodeNs 8 ta tv) := ps_f T.c_Node T.n_Node_name nd_nodeNs rfl (by decide) he hv hs
theorem p_Node_kept (T : Txt X.w X.K X.mg) (he : PE X e ta) (hb : attributeBase e "kept" X.env (eval e X.env) = eval e X.env := by rfl) : PE X (.Attribute e "kept" pos) (tF (He.ga X.K "Node") nodeNs 9 ta) := pe_f T.c_Node T.n_Node_kept nd_nodeNs rfl he hb
theorem q_Node_kept (T : Txt X.w X.K X.mg) (he : PE X e ta) (hv : PE X v tv) (hs : swapsWith v (some (.Attribute e "kept" pos2)) pos.line X.env = pure false := by rfl) : PS X (.Assign [.Attribute e "kept" pos2] v pos) (sF (He.ga X.K "Node") nodeNs 9 ta tv) := ps_f T.c_Node T.n_Node_kept nd_nodeNs rfl (by decide) he hv hs
theorem p_Node_reads (T : Txt X.w X.K X.mg) (he : PE X e ta) (hb : attributeBase e "reads" X.env (eval e X.env) = eval e X.env := by rfl) : PE X (.Attribute e "reads" pos) (tF (He.ga X.K "Node") nodeNs 10 ta) := pe_f T.c_Node T.n_Node_reads nd_nodeNs rfl he hb
theorem q_Node_reads (T : Txt X.w X.K X.mg) (he : PE X e ta) (hv : PE X v tv) (hs : swapsWith v (some (.Attribute e "reads" pos2)) pos.line X.env = pure false := by rfl) : PS X (.Assign [.Attribute e "reads" pos2] v pos) (sF (He.ga X.K "Node") nodeNs 10 ta tv) := ps_f T.c_Node T.n_Node_reads nd_nodeNs rfl (by decide) he hv hs
theorem p_Node_checked (T : Txt X.w X.K X.mg) (he : PE X e ta) (hb : attributeBase e "checked" X.env (eval e X.env) = eval e X.env := by rfl) : PE X (.Attribute e "checked" pos) (tF (He.ga X.K "Node") nodeNs 11 ta) := pe_f T.c_Node T.n_Node_checked nd_nodeNs rfl he hb
theorem q_Node_checked (T : Txt X.w X.K X.mg) (he : PE X e ta) (hv : PE X v tv) (hs : swapsWith v (some (.Attribute e "checked" pos2)) pos.line X.env = pure false := by rfl) : PS X (.Assign [.Attribute e "checked" pos2] v pos) (sF (He.ga X.K "Node") nodeNs 11 ta tv) := ps_f T.c_Node T.n_Node_checked nd_nodeNs rfl (by decide) he hv hs
theorem p_Node_cleanups (T : Txt X.w X.K X.mg) (he : PE X e ta) (hb : attributeBase e "cleanups" X.env (eval e X.env) = eval e X.env := by rfl) : PE X (.Attribute e "cleanups" pos) (tF (He.ga X.K "Node") nodeNs 12 ta) := pe_f T.c_Node T.n_Node_cleanups nd_nodeNs rfl he hb
theorem q_Node_cleanups (T : Txt X.w X.K X.mg) (he : PE X e ta) (hv : PE X v tv) (hs : swapsWith v (some (.Attribute e "cleanups" pos2)) pos.line X.env = pure false := by rfl) : PS X (.Assign [.Attribute e "cleanups" pos2] v pos) (sF (He.ga X.K "Node") nodeNs 12 ta tv) := ps_f T.c_Node T.n_Node_cleanups nd_nodeNs rfl (by decide) he hv hs
theorem p_Node_provided (T : Txt X.w X.K X.mg) (he : PE X e ta) (hb : attributeBase e "provided" X.env (eval e X.env) = eval e X.env := by rfl) : PE X (.Attribute e "provided" pos) (tF (He.ga X.K "Node") nodeNs 13 ta) := pe_f T.c_Node T.n_Node_provided nd_nodeNs rfl he hb
theorem q_Node_provided (T : Txt X.w X.K X.mg) (he : PE X e ta) (hv : PE X v tv) (hs : swapsWith v (some (.Attribute e "provided" pos2)) pos.line X.env = pure false := by rfl) : PS X (.Assign [.Attribute e "provided" pos2] v pos) (sF (He.ga X.K "Node") nodeNs 13 ta tv) := ps_f T.c_Node T.n_Node_provided nd_nodeNs rfl (by decide) he hv hs
theorem p_Node_latest (T : Txt X.w X.K X.mg) (he : PE X e ta) (hb : attributeBase e "latest" X.env (eval e X.env) = eval e X.env := by rfl) : PE X (.Attribute e "latest" pos) (tF (He.ga X.K "Node") nodeNs 14 ta) := pe_f T.c_Node T.n_Node_latest nd_nodeNs rfl he hb
theorem q_Node_latest (T : Txt X.w X.K X.mg) (he : PE X e ta) (hv : PE X v tv) (hs : swapsWith v (some (.Attribute e "latest" pos2)) pos.line X.env = pure false := by rfl) : PS X (.Assign [.Attribute e "latest" pos2] v pos) (sF (He.ga X.K "Node") nodeNs 14 ta tv) := ps_f T.c_Node T.n_Node_latest nd_nodeNs rfl (by decide) he hv hs
theorem p_Node_children (T : Txt X.w X.K X.mg) (he : PE X e ta) (hb : attributeBase e "children" X.env (eval e X.env) = eval e X.env := by rfl) : PE X (.Attribute e "children" pos) (tF (He.ga X.K "Node") nodeNs 15 ta) := pe_f T.c_Node T.n_Node_children nd_nodeNs rfl he hb
theorem q_Node_children (T : Txt X.w X.K X.mg) (he : PE X e ta) (hv : PE X v tv) (hs : swapsWith v (some (.Attribute e "children" pos2)) pos.line X.env = pure false := by rfl) : PS X (.Assign [.Attribute e "children" pos2] v pos) (sF (He.ga X.K "Node") nodeNs 15 ta tv) := ps_f T.c_Node T.n_Node_children nd_nodeNs rfl (by decide) he hv hs
theorem p_State_nodes (T : Txt X.w X.K X.mg) (he : PE X e ta) (hb : attributeBase e "nodes" X.env (eval e X.env) = eval e X.env := by rfl) : PE X (.Attribute e "nodes" pos) (tF (He.ga X.K "State") stNs 0 ta) := pe_f T.c_State T.n_State_nodes nd_stNs rfl he hb
theorem q_State_nodes (T : Txt X.w X.K X.mg) (he : PE X e ta) (hv : PE X v tv) (hs : swapsWith v (some (.Attribute e "nodes" pos2)) pos.line X.env = pure false := by rfl) : PS X (.Assign [.Attribute e "nodes" pos2] v pos) (sF (He.ga X.K "State") stNs 0 ta tv) := ps_f T.c_State T.n_State_nodes nd_stNs rfl (by decide) he hv hs
theorem p_State_defaults (T : Txt X.w X.K X.mg) (he : PE X e ta) (hb : attributeBase e "defaults" X.env (eval e X.env) = eval e X.env := by rfl) : PE X (.Attribute e "defaults" pos) (tF (He.ga X.K "State") stNs 1 ta) := pe_f T.c_State T.n_State_defaults nd_stNs rfl he hb
theorem q_State_defaults (T : Txt X.w X.K X.mg) (he : PE X e ta) (hv : PE X v tv) (hs : swapsWith v (some (.Attribute e "defaults" pos2)) pos.line X.env = pure false := by rfl) : PS X (.Assign [.Attribute e "defaults" pos2] v pos) (sF (He.ga X.K "State") stNs 1 ta tv) := ps_f T.c_State T.n_State_defaults nd_stNs rfl (by decide) he hv hs
theorem p_State_requests (T : Txt X.w X.K X.mg) (he : PE X e ta) (hb : attributeBase e "requests" X.env (eval e X.env) = eval e X.env := by rfl) : PE X (.Attribute e "requests" pos) (tF (He.ga X.K "State") stNs 2 ta) := pe_f T.c_State T.n_State_requests nd_stNs rfl he hb
theorem q_State_requests (T : Txt X.w X.K X.mg) (he : PE X e ta) (hv : PE X v tv) (hs : swapsWith v (some (.Attribute e "requests" pos2)) pos.line X.env = pure false := by rfl) : PS X (.Assign [.Attribute e "requests" pos2] v pos) (sF (He.ga X.K "State") stNs 2 ta tv) := ps_f T.c_State T.n_State_requests nd_stNs rfl (by decide) he hv hs
theorem p_State_subscriptions (T : Txt X.w X.K X.mg) (he : PE X e ta) (hb : attributeBase e "subscriptions" X.env (eval e X.env) = eval e X.env := by rfl) : PE X (.Attribute e "subscriptions" pos) (tF (He.ga X.K "State") stNs 3 ta) := pe_f T.c_State T.n_State_subscriptions nd_stNs rfl he hb
theorem q_State_subscriptions (T : Txt X.w X.K X.mg) (he : PE X e ta) (hv : PE X v tv) (hs : swapsWith v (some (.Attribute e "subscriptions" pos2)) pos.line X.env = pure false := by rfl) : PS X (.Assign [.Attribute e "subscriptions" pos2] v pos) (sF (He.ga X.K "State") stNs 3 ta tv) := ps_f T.c_State T.n_State_subscriptions nd_stNs rfl (by decide) he hv hs
theorem p_State_pulls (T : Txt X.w X.K X.mg) (he : PE X e ta) (hb : attributeBase e "pulls" X.env (eval e X.env) = eval e X.env := by rfl) : PE X (.Attribute e "pulls" pos) (tF (He.ga X.K "State") stNs 4 ta) := pe_f T.c_State T.n_State_pulls nd_stNs rfl he hb
theorem q_State_pulls (T : Txt X.w X.K X.mg) (he : PE X e ta) (hv : PE X v tv) (hs : swapsWith v (some (.Attribute e "pulls" pos2)) pos.line X.env = pure false := by rfl) : PS X (.Assign [.Attribute e "pulls" pos2] v pos) (sF (He.ga X.K "State") stNs 4 ta tv) := ps_f T.c_State T.n_State_pulls nd_stNs rfl (by decide) he hv hs
theorem p_State_delivered (T : Txt X.w X.K X.mg) (he : PE X e ta) (hb : attributeBase e "delivered" X.env (eval e X.env) = eval e X.env := by rfl) : PE X (.Attribute e "delivered" pos) (tF (He.ga X.K "State") stNs 5 ta) := pe_f T.c_State T.n_State_delivered nd_stNs rfl he hb
theorem q_State_delivered (T : Txt X.w X.K X.mg) (he : PE X e ta) (hv : PE X v tv) (hs : swapsWith v (some (.Attribute e "delivered" pos2)) pos.line X.env = pure false := by rfl) : PS X (.Assign [.Attribute e "delivered" pos2] v pos) (sF (He.ga X.K "State") stNs 5 ta tv) := ps_f T.c_State T.n_State_delivered nd_stNs rfl (by decide) he hv hs
theorem p_Engine_plain (T : Txt X.w X.K X.mg) (he : PE X e ta) (hb : attributeBase e "plain" X.env (eval e X.env) = eval e X.env := by rfl) : PE X (.Attribute e "plain" pos) (tF (He.ga X.K "Engine") enNs 0 ta) := pe_f T.c_Engine T.n_Engine_plain nd_enNs rfl he hb
theorem q_Engine_plain (T : Txt X.w X.K X.mg) (he : PE X e ta) (hv : PE X v tv) (hs : swapsWith v (some (.Attribute e "plain" pos2)) pos.line X.env = pure false := by rfl) : PS X (.Assign [.Attribute e "plain" pos2] v pos) (sF (He.ga X.K "Engine") enNs 0 ta tv) := ps_f T.c_Engine T.n_Engine_plain nd_enNs rfl (by decide) he hv hs
theorem p_Engine_state (T : Txt X.w X.K X.mg) (he : PE X e ta) (hb : attributeBase e "state" X.env (eval e X.env) = eval e X.env := by rfl) : PE X (.Attribute e "state" pos) (tF (He.ga X.K "Engine") enNs 1 ta) := pe_f T.c_Engine T.n_Engine_state nd_enNs rfl he hb
theorem q_Engine_state (T : Txt X.w X.K X.mg) (he : PE X e ta) (hv : PE X v tv) (hs : swapsWith v (some (.Attribute e "state" pos2)) pos.line X.env = pure false := by rfl) : PS X (.Assign [.Attribute e "state" pos2] v pos) (sF (He.ga X.K "Engine") enNs 1 ta tv) := ps_f T.c_Engine T.n_Engine_state nd_enNs rfl (by decide) he hv hs
theorem p_Engine_runs (T : Txt X.w X.K X.mg) (he : PE X e ta) (hb : attributeBase e "runs" X.env (eval e X.env) = eval e X.env := by rfl) : PE X (.Attribute e "runs" pos) (tF (He.ga X.K "Engine") enNs 2 ta) := pe_f T.c_Engine T.n_Engine_runs nd_enNs rfl he hb
theorem q_Engine_runs (T : Txt X.w X.K X.mg) (he : PE X e ta) (hv : PE X v tv) (hs : swapsWith v (some (.Attribute e "runs" pos2)) pos.line X.env = pure false := by rfl) : PS X (.Assign [.Attribute e "runs" pos2] v pos) (sF (He.ga X.K "Engine") enNs 2 ta tv) := ps_f T.c_Engine T.n_Engine_runs nd_enNs rfl (by decide) he hv hs
theorem p_Engine_output (T : Txt X.w X.K X.mg) (he : PE X e ta) (hb : attributeBase e "output" X.env (eval e X.env) = eval e X.env := by rfl) : PE X (.Attribute e "output" pos) (tF (He.ga X.K "Engine") enNs 3 ta) := pe_f T.c_Engine T.n_Engine_output nd_enNs rfl he hb
theorem q_Engine_output (T : Txt X.w X.K X.mg) (he : PE X e ta) (hv : PE X v tv) (hs : swapsWith v (some (.Attribute e "output" pos2)) pos.line X.env = pure false := by rfl) : PS X (.Assign [.Attribute e "output" pos2] v pos) (sF (He.ga X.K "Engine") enNs 3 ta tv) := ps_f T.c_Engine T.n_Engine_output nd_enNs rfl (by decide) he hv hs
theorem p_Engine_deferred (T : Txt X.w X.K X.mg) (he : PE X e ta) (hb : attributeBase e "deferred" X.env (eval e X.env) = eval e X.env := by rfl) : PE X (.Attribute e "deferred" pos) (tF (He.ga X.K "Engine") enNs 4 ta) := pe_f T.c_Engine T.n_Engine_deferred nd_enNs rfl he hb
theorem q_Engine_deferred (T : Txt X.w X.K X.mg) (he : PE X e ta) (hv : PE X v tv) (hs : swapsWith v (some (.Attribute e "deferred" pos2)) pos.line X.env = pure false := by rfl) : PS X (.Assign [.Attribute e "deferred" pos2] v pos) (sF (He.ga X.K "Engine") enNs 4 ta tv) := ps_f T.c_Engine T.n_Engine_deferred nd_enNs rfl (by decide) he hv hs
theorem p_Engine_made (T : Txt X.w X.K X.mg) (he : PE X e ta) (hb : attributeBase e "made" X.env (eval e X.env) = eval e X.env := by rfl) : PE X (.Attribute e "made" pos) (tF (He.ga X.K "Engine") enNs 5 ta) := pe_f T.c_Engine T.n_Engine_made nd_enNs rfl he hb
theorem q_Engine_made (T : Txt X.w X.K X.mg) (he : PE X e ta) (hv : PE X v tv) (hs : swapsWith v (some (.Attribute e "made" pos2)) pos.line X.env = pure false := by rfl) : PS X (.Assign [.Attribute e "made" pos2] v pos) (sF (He.ga X.K "Engine") enNs 5 ta tv) := ps_f T.c_Engine T.n_Engine_made nd_enNs rfl (by decide) he hv hs
theorem a_Engine_made (T : Txt X.w X.K X.mg) (he : PE X e ta) (hv : PE X v tv) : PS X (.AugAssign (.Attribute e "made" pos2) .Add v pos) (sFA (He.ga X.K "Engine") enNs 5 ta tv) := ps_fa T.c_Engine T.n_Engine_made nd_enNs rfl (by decide) he hv
theorem p_Engine_running (T : Txt X.w X.K X.mg) (he : PE X e ta) (hb : attributeBase e "running" X.env (eval e X.env) = eval e X.env := by rfl) : PE X (.Attribute e "running" pos) (tF (He.ga X.K "Engine") enNs 6 ta) := pe_f T.c_Engine T.n_Engine_running nd_enNs rfl he hb
theorem q_Engine_running (T : Txt X.w X.K X.mg) (he : PE X e ta) (hv : PE X v tv) (hs : swapsWith v (some (.Attribute e "running" pos2)) pos.line X.env = pure false := by rfl) : PS X (.Assign [.Attribute e "running" pos2] v pos) (sF (He.ga X.K "Engine") enNs 6 ta tv) := ps_f T.c_Engine T.n_Engine_running nd_enNs rfl (by decide) he hv hs
theorem p_Engine_version (T : Txt X.w X.K X.mg) (he : PE X e ta) (hb : attributeBase e "version" X.env (eval e X.env) = eval e X.env := by rfl) : PE X (.Attribute e "version" pos) (tF (He.ga X.K "Engine") enNs 7 ta) := pe_f T.c_Engine T.n_Engine_version nd_enNs rfl he hb
theorem q_Engine_version (T : Txt X.w X.K X.mg) (he : PE X e ta) (hv : PE X v tv) (hs : swapsWith v (some (.Attribute e "version" pos2)) pos.line X.env = pure false := by rfl) : PS X (.Assign [.Attribute e "version" pos2] v pos) (sF (He.ga X.K "Engine") enNs 7 ta tv) := ps_f T.c_Engine T.n_Engine_version nd_enNs rfl (by decide) he hv hs
theorem a_Engine_version (T : Txt X.w X.K X.mg) (he : PE X e ta) (hv : PE X v tv) : PS X (.AugAssign (.Attribute e "version" pos2) .Add v pos) (sFA (He.ga X.K "Engine") enNs 7 ta tv) := ps_fa T.c_Engine T.n_Engine_version nd_enNs rfl (by decide) he hv
theorem p_Engine_history (T : Txt X.w X.K X.mg) (he : PE X e ta) (hb : attributeBase e "history" X.env (eval e X.env) = eval e X.env := by rfl) : PE X (.Attribute e "history" pos) (tF (He.ga X.K "Engine") enNs 8 ta) := pe_f T.c_Engine T.n_Engine_history nd_enNs rfl he hb
theorem q_Engine_history (T : Txt X.w X.K X.mg) (he : PE X e ta) (hv : PE X v tv) (hs : swapsWith v (some (.Attribute e "history" pos2)) pos.line X.env = pure false := by rfl) : PS X (.Assign [.Attribute e "history" pos2] v pos) (sF (He.ga X.K "Engine") enNs 8 ta tv) := ps_f T.c_Engine T.n_Engine_history nd_enNs rfl (by decide) he hv hs
end Txt
end
/-- a class of runtimes: Runtime or PlainRuntime -/
structure RT (K : Frag) (C : Addr) (b : Bool) : Prop where
  c : Cls K C
  n_engine : NoAttr K C "engine"
  fg : ∃ u, Con K C "forgets" (.bl b) u
  k : Mk K C (He.ma K (He.ga K "Runtime") "__init__")
  m__begin : Meth K C "_begin" (He.ma K (He.ga K "Runtime") "_begin")
  m__make : Meth K C "_make" (He.ma K (He.ga K "Runtime") "_make")
  m_scope : Meth K C "scope" (He.ma K (He.ga K "Runtime") "scope")
  m_boundary : Meth K C "boundary" (He.ma K (He.ga K "Runtime") "boundary")
  m_context : Meth K C "context" (He.ma K (He.ga K "Runtime") "context")
  m_provide : Meth K C "provide" (He.ma K (He.ga K "Runtime") "provide")
  m_use : Meth K C "use" (He.ma K (He.ga K "Runtime") "use")
  m_dispose : Meth K C "dispose" (He.ma K (He.ga K "Runtime") "dispose")
  m_transaction : Meth K C "transaction" (He.ma K (He.ga K "Runtime") "transaction")
section
variable {X : Cx} {C : Addr} {b : Bool} {e v : Expr} {ta tv : TE} {pos pos2 : Pos}
theorem RT.p_engine (R : RT X.K C b) (he : PE X e ta) (hb : attributeBase e "engine" X.env (eval e X.env) = eval e X.env := by rfl) : PE X (.Attribute e "engine" pos) (tF C rtNs 0 ta) := pe_f R.c R.n_engine nd_rtNs rfl he hb
theorem RT.q_engine (R : RT X.K C b) (he : PE X e ta) (hv : PE X v tv) (hs : swapsWith v (some (.Attribute e "engine" pos2)) pos.line X.env = pure false := by rfl) : PS X (.Assign [.Attribute e "engine" pos2] v pos) (sF C rtNs 0 ta tv) := ps_f R.c R.n_engine nd_rtNs rfl (by decide) he hv hs
end
section
variable {w : World} {K : Frag} {mg : Str → Option Value}
theorem Txt.rt1 (T : Txt w K mg) : RT K (He.ga K "Runtime") false where
  c := T.c_Runtime
  n_engine := T.n_Runtime_engine
  fg := conC_ok (T.e 8 rfl) (by decide +kernel)
  k := T.k_Runtime
  m__begin := T.m_Runtime__begin
  m__make := T.m_Runtime__make
  m_scope := T.m_Runtime_scope
  m_boundary := T.m_Runtime_boundary
  m_context := T.m_Runtime_context
  m_provide := T.m_Runtime_provide
  m_use := T.m_Runtime_use
  m_dispose := T.m_Runtime_dispose
  m_transaction := T.m_Runtime_transaction
theorem Txt.same (T : Txt w K mg) {m : Str} (h : m ∈ (["__init__", "_begin", "_make", "scope", "boundary", "context", "provide", "use", "dispose", "transaction"] : List Str)) : He.ma K (He.ga K "PlainRuntime") m = He.ma K (He.ga K "Runtime") m :=
  of_decide_eq_true (List.all_eq_true.mp (T.e 10 (f := fun K => (["__init__", "_begin", "_make", "scope", "boundary", "context", "provide", "use", "dispose", "transaction"] : List Str).all (sameM K)) rfl) m h)
theorem Txt.rt2 (T : Txt w K mg) : RT K (He.ga K "PlainRuntime") true where
  c := T.c_PlainRuntime
  n_engine := T.n_PlainRuntime_engine
  fg := conC_ok (T.e 9 rfl) (by decide +kernel)
  k := T.same (m := "__init__") (by simp) ▸ T.k_PlainRuntime
  m__begin := T.same (m := "_begin") (by simp) ▸ T.m_PlainRuntime__begin
  m__make := T.same (m := "_make") (by simp) ▸ T.m_PlainRuntime__make
  m_scope := T.same (m := "scope") (by simp) ▸ T.m_PlainRuntime_scope
  m_boundary := T.same (m := "boundary") (by simp) ▸ T.m_PlainRuntime_boundary
  m_context := T.same (m := "context") (by simp) ▸ T.m_PlainRuntime_context
  m_provide := T.same (m := "provide") (by simp) ▸ T.m_PlainRuntime_provide
  m_use := T.same (m := "use") (by simp) ▸ T.m_PlainRuntime_use
  m_dispose := T.same (m := "dispose") (by simp) ▸ T.m_PlainRuntime_dispose
  m_transaction := T.same (m := "transaction") (by simp) ▸ T.m_PlainRuntime_transaction
end
/-- a promise over one row of data -/
def SpX {D : Type} (args : D → List V) (body : D → Hp → VK → XK → Prop) : Sp := fun vs H Q E => ∃ x, vs = args x ∧ body x H Q E
section
variable {P : Program} {w : World} {K : Frag} {mg : Str → Option Value} {base : Heap}
theorem Txt.fnx {D : Type} {CX : CXT} {N ps : List Str} {k : Nat} {args : D → List V} {body : D → Hp → VK → XK → Prop} (T : Txt w K mg) (i : Nat) (d : He.DefD) (hd : K47.fn[i]? = some d) (h0 : d.dfl = []) (S : FnScope N ps d.scope)
    (hb : ∀ (kV doc pm : Value) (an : Option Addr) (cdv ct : Value) (us : List Value), us.length = ps.length → bindArgs (PySem.W.fnOf d.name d.qual d.params d.body d.scope .none kV doc pm an cdv ct) ⟨us, []⟩ = pure (ps.zip us))
    (len : ∀ x, (args x).length = ps.length)
    (hbody : ∀ (cdv : Value) (A : Around) (outer : List Env) (s : Shared) (H : Hp) (x : D) (Q : VK) (E : XK), Room k (A.deeper (envOfC d.qual d.scope s.heap.objs.size (He.fAd K d.at_) cdv)) → body x H Q E →
      ∃ t, PSs (cxOf CX P w K mg base N d.qual d.scope (He.fAd K d.at_) cdv A outer s H E) d.body t ∧ t { nx := fun _ H' => Q .non H', rt := Q } (start N (args x)) H) :
    Fn CX P w K mg base (k + 1) (He.fAd K d.at_) ps (SpX args body) := by
  refine Txt.fn T i d hd h0 S hb (fun vs H Q E ⟨x, e, _⟩ => by rw [e]; exact len x) fun cdv A outer s H vs Q E hr ⟨x, e, h⟩ => ?_
  subst e
  exact hbody cdv A outer s H x Q E hr h
end
/-- o.m(..) of a runtime, of one class or the other -/
def tMtR (C1 C2 : Addr) (ns : List Str) (sp : Addr → Sp) (E : L2.St → XK) (ta : TE) (t : TA) : TE := fun σ H Q => ta σ H fun x H1 => ∃ a C dx vs, x = .ref a ∧ (C = C1 ∨ C = C2) ∧ H1 a = some (Ins C dx ns vs) ∧ t σ H1 fun us H2 => sp C (x :: us) H2 Q (E σ)
section
variable {X : Cx} {CX : CXT} {k j : Nat} {f C1 C2 : Addr} {ps ns : List Str} {sp : Addr → Sp} {E : L2.St → XK} {m : Str} {pos apos : Pos} {e o : Expr} {es : List Expr} {ta : TE} {t : TA}
theorem pe_mtR {pl : Sem Bool} (cl1 : Cls X.K C1) (cl2 : Cls X.K C2) (hm1 : Meth X.K C1 m f) (hm2 : Meth X.K C2 m f) (no : m ∉ ns) (F : ∀ C, C = C1 ∨ C = C2 → Fn CX X.prog X.w X.K X.mg X.base k f ps (sp C)) (hr : Room j X.A) (hk : k ≤ j) (hx : PassS CX X E) (he : PE X o ta) (ha : PA X (e :: es) t)
    (hst : starEach (e :: es) X.env = (false, eval e X.env) :: starEach es X.env := by rfl) (hpl : (backTo pos (starEach es X.env)).any (·.1) = false := by rfl)
    (ht : eval (.Call (.Attribute o m apos) (e :: es) [] pos) X.env = (do
      let ov ← eval o X.env
      standAt apos.atName
      let (f, first) ← holding [ov] (getMethod ov m pl)
      callWith pos f first (backTo pos (starEach (e :: es) X.env)) (backToKw pos (keywordEach [] X.env))) := by rfl) :
    PE X (.Call (.Attribute o m apos) (e :: es) [] pos) (tMtR C1 C2 ns sp E ta t) := by
  refine ⟨fun pins s σ H Q I h => ?_⟩
  refine PySem.W.methodCall_KW (pl := pl) (thn (he.run pins s σ H _ I h) fun u s1 ⟨x, H1, I1, rx, a, C, dx, vs, ex, hC, ea, q⟩ => ?_) ht
  subst ex
  obtain rfl : u = Value.ref a := rx
  have cl : Cls X.K C := by
    rcases hC with h | h
    · exact h ▸ cl1
    · exact h ▸ cl2
  have hm : Meth X.K C m f := by
    rcases hC with h | h
    · exact h ▸ hm1
    · exact h ▸ hm2
  refine getmeth_ok I1 ea cl hm (zip_no no) ?_
  refine PySem.W.callWith_K (first := [.ref a]) (h₀ := X.base) I.ok.mod.kin hm.kp (thn (ha.run pos pins s1 σ H1 _ I1 q) fun us s2 ⟨vs, H2, I2, r, q2⟩ => ⟨I2.kIn, ?_⟩) hst hpl
  exact run_s (us := .ref a :: us) (vs := .ref a :: vs) (F C hC) hr hk hx I2 (.cons rfl r) q2
end
end K47
/-! slices with a step, extend by a tuple, text times int, is of any flat value -/
namespace K47
open PySem PySem.Spec PyProof.Rows L2
open PySem.W (Frag)
/-! ### xs[:0:-1] -/
theorem kbounds (n : Nat) (hn : 0 < n) : sliceBounds none (some 0) (some (-1)) n = ((n : Int) - 1, 0, -1) := by
  have h1 : ¬ ((-1 : Int) > 0) := by decide
  have h2 : ¬ ((0 : Int) < 0) := by decide
  unfold sliceBounds
  simp only [Option.getD_some, h1, h2, if_false]
  have h3 : max (-1 : Int) (min 0 ((n : Int) - 1)) = 0 := by omega
  rw [h3]
theorem ksliceRange (n : Nat) : sliceRange ((n : Int) - 1) 0 (-1) = (List.range (n - 1)).map fun k => n - 1 - k := by
  unfold sliceRange
  have h1 : ¬ ((-1 : Int) > 0) := by decide
  by_cases h : (n : Int) - 1 > 0
  · have e : ((n : Int) - 1 - 0 - -1 - 1) / (- -1) = ((n - 1 : Nat) : Int) := by
      rw [show (- -1 : Int) = 1 by decide, Int.ediv_one]
      omega
    simp only [h1, if_false, h, if_true, e, Int.toNat_natCast]
    apply List.map_congr_left
    intro k hk
    have := List.mem_range.mp hk
    omega
  · have e : n - 1 = 0 := by omega
    rw [e]
    simp only [h1, if_false, h]
    rfl
theorem krange (n : Nat) : (List.range (n - 1)).map (fun k => n - 1 - k) = ((List.range (n - 1)).map (· + 1)).reverse := by
  apply List.ext_getElem
  · simp
  · intro i h1 h2
    have hi : i < n - 1 := by simpa using h1
    rw [List.getElem_map, List.getElem_reverse]
    simp
    omega
theorem kpick (items : Array Value) (hn : 0 < items.size) : slicePick items none (some 0) (some (-1)) = (items.toList.drop 1).reverse.toArray := by
  unfold slicePick
  rw [kbounds _ hn]
  show ((sliceRange ((items.size : Int) - 1) 0 (-1)).filterMap (items[·]?)).toArray = _
  rw [ksliceRange, krange, List.filterMap_reverse]
  have h := pick_run items 1 (items.size - 1)
  have e : (List.range (items.size - 1)).map (1 + ·) = (List.range (items.size - 1)).map (· + 1) := List.map_congr_left fun k _ => Nat.add_comm 1 k
  rw [e] at h
  rw [h, List.take_of_length_le]
  rw [List.length_drop, Array.length_toList]
  exact Nat.le_refl _
/-- xs[:0:-1], xs not empty -/
def tRevL0 (K : Frag) (te : TE) : TE := fun σ H Q => te σ H fun x H1 => ∃ a xs, x = .ref a ∧ SqL K H1 a xs ∧ xs ≠ [] ∧ ∀ p, H1 p = none → Q (.ref p) (upd H1 p (.lst (xs.drop 1).reverse))
theorem pe_revL0 {X : Cx} {e : Expr} {te : TE} {k k0 : Nat} {p0 p1 p2 p3 pos : Pos} (he : PE X e te) : PE X (.Subscript e (.Slice none (some (.Constant (.int 0) k0 p0)) (some (.UnaryOp .USub (.Constant (.int 1) k p1) p2)) p3) pos) (tRevL0 X.K te) := by
  refine ⟨fun pins s σ H Q I h => ?_⟩
  refine Subscript_ (thn (he.run pins s σ H _ I h) fun v s1 ⟨x, H1, I1, r1, q1⟩ => ?_)
  obtain ⟨a, xs, ex, hx, hne, q⟩ := q1
  subst ex
  cases r1
  have hst : PO X (some (.UnaryOp .USub (.Constant (.int 1) k p1) p2)) (tPart (tUn (rU fun i => .int (-i)) (tC (.int 1)))) := po_some (pe_un un_neg pe_int)
  have hup : PO X (some (.Constant (.int 0) k0 p0)) (tPart (tC (.int 0))) := po_some pe_int
  refine wpAny_Slice (thn (po_none.run pins s1 σ H1 (fun o H2 => o = none ∧ H2 = H1) I1 ⟨rfl, rfl⟩) fun vl s2 ⟨l, H2, I2, pl, el, e2⟩ => ?_)
  subst el e2
  refine thn (hup.run pins s2 σ H2 (fun o H3 => o = some 0 ∧ H3 = H2) I2 ⟨0, rfl, rfl, rfl⟩) fun vu s3 ⟨u, H3, I3, pu, eu, e3⟩ => ?_
  subst eu e3
  refine thn (hst.run pins s3 σ H3 (fun o H4 => o = some (-1) ∧ H4 = H3) I3 ⟨1, rfl, -1, rfl, rfl, rfl⟩) fun vs s4 ⟨o, H4, I4, ps, eo, e4⟩ => ?_
  subst eo e4
  have I5 : Inv X pins σ H4 { s4 with heap := s4.heap.push { cls := .type "slice", data := .fields #[vl, vu, vs] } } := I4.kept (t' := s4.toks) fun b ob q => Heap.get?_push_of_some _ q
  obtain ⟨its, r, ht, hz⟩ := I5.list hx
  have hlen := r.length
  have hpos : 0 < its.toArray.size := by
    rw [List.size_toArray, ← hlen]
    exact List.length_pos_iff.mpr hne
  show wpAny (model X.prog X.w) X.A (subscriptTail e (.Slice none (some (.Constant (.int 0) k0 p0)) (some (.UnaryOp .USub (.Constant (.int 1) k p1) p2)) p3) (.ref a) (.ref s4.heap.objs.size)) (EP X pins σ Q) X.xe { s4 with heap := s4.heap.push { cls := .type "slice", data := .fields #[vl, vu, vs] } }
  refine tail_any (ops := [.ref a, .ref s4.heap.objs.size]) ht.isList.typeIs (PySem.slot_list_getitem.lookup) ?_ (by with_unfolding_all rfl)
  refine wpAny_getItem_list_slice ht.isList (Heap.IsSliceOf.new _ vl vu vs) pl pu ps (by decide) ?_ (by rw [List.size_toArray]; omega)
  rw [kpick _ hpos]
  refine ⟨.ref _, _, I5.laid (t' := s4.toks) (o := .lst (xs.drop 1).reverse) (fun b ob q => Heap.get?_push_of_some _ q) (Nat.le_refl _) ?_, rfl, q _ (I5.hok.fresh (Nat.le_refl _))⟩
  refine ⟨?_, _, 0, (r.drop 1).reverse, Heap.get?_push_size _ rfl⟩
  rw [List.length_reverse, List.length_drop]
  omega
/-! ### t[::-1] of the empty tuple -/
section
variable {prog : Program} {w : World} {A : Around} {E : Value → Shared → Prop} {s : Shared}
theorem sliceApplied_m1 {sl : Addr} {vl vu vs : Value} {n : Nat} {Q : Int × Int × Nat → Shared → Prop} (hs : s.heap.IsSliceOf sl vl vu vs) (pl : IsPart vl none) (pu : IsPart vu none) (ps : IsPart vs (some (-1)))
    (h : Q ((Builtin.Slice.sliceAdjust none none (-1) (n : Int)).1, -1, Builtin.Slice.slicePlaces (Builtin.Slice.sliceAdjust none none (-1) (n : Int)).1 (Builtin.Slice.sliceAdjust none none (-1) (n : Int)).2 (-1)) s) : wpAny (model prog w) A (Builtin.Slice.sliceApplied (.ref sl) (pure (n : Int))) Q E s := by
  obtain ⟨os, hos, hcs, hds⟩ := id hs
  unfold Builtin.Slice.sliceApplied Builtin.Slice.sliceFields
  refine wpAny_bind (wpAny_bind (wpAny_field hos hds (x := vl) rfl (wpAny_bind (wpAny_field hos hds (x := vu) rfl (wpAny_bind (wpAny_field hos hds (x := vs) rfl (wpAny_pure ?_)))))))
  refine wpAny_bind (HT.slicePart_ ps ?_)
  show wpAny _ _ (if ((-1 : Int) == 0) = true then _ else _) _ _ s
  rw [if_neg (by decide)]
  refine wpAny_bind (HT.slicePart_ pl (wpAny_bind (HT.slicePart_ pu (wpAny_bind (wpAny_pure ?_)))))
  exact wpAny_pure h
theorem getItem_tuple_rev0 {t sl : Addr} {vl vu vs : Value} {Q : Value → Shared → Prop} (ht : IsTup s.heap t #[]) (hs : s.heap.IsSliceOf sl vl vu vs) (pl : IsPart vl none) (pu : IsPart vu none) (ps : IsPart vs (some (-1)))
    (h : Q (.ref s.heap.objs.size) { s with heap := s.heap.push { cls := .type "tuple", data := .seq #[] } }) : wpAny (model prog w) A (getItem (.ref t) (.ref sl)) Q E s := by
  have htake : sizeOk (.seq #[]) := by
    show (#[] : Array Value).size ≤ sizeLine
    exact Nat.zero_le _
  obtain ⟨os, hos, hcs, hds⟩ := id hs
  have hTs : s.TypeIs (.ref sl) "slice" := ⟨os, hos, hcs⟩
  unfold getItem
  try with_reducible refine wpAny_holding ?_
  first | refine wpAny_bind (wpAny_pure ?_) | skip
  refine wpAny_bind (wpAny_sequenceKey ht.typeIs (by decide) ?_)
  refine wpAny_bind (wpAny_callSpecial?_slot (name := Str.ofString "__getitem__") ht.typeIs PyProof.Rows.slot_tuple_getitem
    (wpAny_call_entry PyProof.Rows.slot_tuple_getitem ht.typeIs entry_tuple_getitem ?_ (args_tuple_getitem _ _)))
  show wpAny _ _ (Builtin.Tuple.tupleItemsOf (.ref t) >>= _) _ _ s
  refine wpAny_bind (tupleItemsOf_ ht ?_)
  refine wpAny_bind (wpAny_typeOf hTs ?_)
  rw [if_pos (by decide)]
  refine wpAny_bind (sliceApplied_m1 (n := 0) hs pl pu ps ?_)
  show wpAny _ _ (if (((-1 : Int)) == 0 && (-1 : Int) == 1 && (0 : Nat) == 0) = true then _ else _) _ _ s
  rw [if_neg (by decide)]
  have e : ((List.range 0).filterMap fun (m : Nat) => (#[] : Array Value)[((-1 : Int) + (m : Int) * (-1)).toNat]?).toArray = #[] := rfl
  first
    | exact wpAny_bind (m := Builtin.Tuple.tupleExact _) (wpAny_newObj_type (wpAny_pure ⟨_, rfl, wpAny_pure h⟩) htake)
    | exact wpAny_bind (m := Builtin.Tuple.tupleExact _) (wpAny_newObj_type (wpAny_bind (wpAny_pure (wpAny_pure ⟨_, rfl, wpAny_pure h⟩))) htake)
    | exact wpAny_bind (wpAny_bind (m := Builtin.Tuple.tupleExact _) (wpAny_newObj_type (wpAny_pure (wpAny_pure ⟨_, rfl, wpAny_pure h⟩)) htake))
    | exact wpAny_bind (wpAny_bind (m := Builtin.Tuple.tupleExact _) (wpAny_newObj_type (wpAny_pure ⟨_, rfl, wpAny_pure h⟩) htake))
end
def tRevT0 (K : Frag) (te : TE) : TE := fun σ H Q => te σ H fun x H1 => ∃ a, x = .ref a ∧ SqT K H1 a [] ∧ ∀ p, H1 p = none → Q (.ref p) (upd H1 p (.tup []))
theorem pe_revT0 {X : Cx} {e : Expr} {te : TE} {k : Nat} {p1 p2 p3 pos : Pos} (he : PE X e te) : PE X (.Subscript e (.Slice none none (some (.UnaryOp .USub (.Constant (.int 1) k p1) p2)) p3) pos) (tRevT0 X.K te) := by
  refine ⟨fun pins s σ H Q I h => ?_⟩
  refine Subscript_ (thn (he.run pins s σ H _ I h) fun v s1 ⟨x, H1, I1, r1, q1⟩ => ?_)
  obtain ⟨a, ex, hx, q⟩ := q1
  subst ex
  cases r1
  have hst : PO X (some (.UnaryOp .USub (.Constant (.int 1) k p1) p2)) (tPart (tUn (rU fun i => .int (-i)) (tC (.int 1)))) := po_some (pe_un un_neg pe_int)
  refine wpAny_Slice (thn (po_none.run pins s1 σ H1 (fun o H2 => o = none ∧ H2 = H1) I1 ⟨rfl, rfl⟩) fun vl s2 ⟨l, H2, I2, pl, el, e2⟩ => ?_)
  subst el e2
  refine thn (po_none.run pins s2 σ H2 (fun o H3 => o = none ∧ H3 = H2) I2 ⟨rfl, rfl⟩) fun vu s3 ⟨u, H3, I3, pu, eu, e3⟩ => ?_
  subst eu e3
  refine thn (hst.run pins s3 σ H3 (fun o H4 => o = some (-1) ∧ H4 = H3) I3 ⟨1, rfl, -1, rfl, rfl, rfl⟩) fun vs s4 ⟨o, H4, I4, ps, eo, e4⟩ => ?_
  subst eo e4
  have I5 : Inv X pins σ H4 { s4 with heap := s4.heap.push { cls := .type "slice", data := .fields #[vl, vu, vs] } } := I4.kept (t' := s4.toks) fun b ob q => Heap.get?_push_of_some _ q
  obtain ⟨its, r, ht, hz⟩ := I5.tuple hx
  cases r
  show wpAny (model X.prog X.w) X.A (subscriptTail e (.Slice none none (some (.UnaryOp .USub (.Constant (.int 1) k p1) p2)) p3) (.ref a) (.ref s4.heap.objs.size)) (EP X pins σ Q) X.xe { s4 with heap := s4.heap.push { cls := .type "slice", data := .fields #[vl, vu, vs] } }
  refine tail_any (ops := [.ref a, .ref s4.heap.objs.size]) ht.typeIs PyProof.Rows.slot_tuple_getitem.lookup ?_ (by with_unfolding_all rfl)
  refine getItem_tuple_rev0 ht (Heap.IsSliceOf.new _ vl vu vs) pl pu ps ?_
  refine ⟨.ref _, _, I5.laid (t' := s4.toks) (o := .tup []) (fun b ob q => Heap.get?_push_of_some _ q) (Nat.le_refl _) ?_, rfl, q _ (I5.hok.fresh (Nat.le_refl _))⟩
  exact ⟨Nat.zero_le _, _, .nil, IsTup.new _ _⟩
/-! ### xs.extend(t) -/
theorem ext_tup (l : Addr) (items : Array Value) (n : Nat) (b : Addr) (items2 : Array Value) (n2 : Nat) (dd : Option Addr) (sl : Array (Option Value)) (hs0 : ¬(!items.isEmpty && Builtin.List.listTooLong (items.size + items2.size)) = true) (hs1 : items.size ≤ sizeLine) (hs2 : items.size + items2.size ≤ sizeLine + 1) :
    Meets (Builtin.«list.extend» ⟨[.ref l, .ref b], []⟩) (fun _ R s => s.heap.get? l = some { cls := .type "list", dict := none, data := .seq items n, slots := #[] } ∧ s.heap.get? b = some { cls := .type "tuple", dict := dd, data := .seq items2 n2, slots := sl } ∧ R (.ok (.ret Value.none)) { s with heap := s.heap.update l (Obj.mapSeq fun x => x ++ items2), toks := s.toks }) :=
  .of_wp fun prog w A R s h => by
    obtain ⟨hp, g, d, tk, os⟩ := s; obtain ⟨hl, hb, h⟩ := h; have f1 := AutoSeq1.idx_int; have f2 := AutoSeq1.sub_tuple_tuple; have f3 := AutoSeq1.sub_list_list; have f4 := AutoSeq1.sub_tuple_list; have f5 := AutoSeq1.sub_list_tuple;
    have hz' : (items ++ items2).size ≤ sizeLine + 1 := by rw [Array.size_append]; exact hs2
    wp_walk using (wpAny_updateSeq hl rfl (hz := hs1) (_hz' := hz')), wpAny_loadPart' hl, wpAny_loadPart' hb; exact ⟨_, rfl, h⟩
def rExtT (K : Frag) : V → List V → Hp → VK → Prop := fun x vs H Q => ∃ l b xs zs, x = .ref l ∧ vs = [.ref b] ∧ H l = some (.lst xs) ∧ SqT K H b zs ∧ xs.length + zs.length ≤ sizeLine ∧ Q .non (upd H l (.lst (xs ++ zs)))
theorem mt_extT {X : Cx} : MtM X "list.extend" (rExtT X.K) := by
  intro pins s σ H x vs v us Q I rx rv h
  obtain ⟨l, b, xs, zs, rfl, rfl, hH, hB, hz, q⟩ := h
  cases rx
  obtain ⟨u, rfl, ru⟩ := rv.one
  cases ru
  obtain ⟨z, its, n, r, hl, e⟩ := I.lstM hH
  obtain ⟨its2, r2, p2, hl2⟩ := I.tuple hB
  obtain ⟨⟨oc, od, dt, sl⟩, e2, hc2, n2, hd2⟩ := p2
  simp only at hc2 hd2
  subst hc2 hd2
  have hlen2 := r2.length
  have hsz : its.toArray.size + its2.toArray.size ≤ sizeLine := by rw [List.size_toArray, List.size_toArray]; omega
  have hlong : ¬ (!its.toArray.isEmpty && Builtin.List.listTooLong (its.toArray.size + its2.toArray.size)) = true := by
    rw [notLongL hsz, Bool.and_false]
    exact Bool.false_ne_true
  refine call_meets F.slot_list_extend ⟨_, e, rfl⟩ F.entry_list_extend (F.args_list_extend_2 _ _)
    (ext_tup l its.toArray n b its2.toArray n2 od sl hlong (by rw [List.size_toArray]; omega) (by omega)) ⟨e, e2, ?_⟩
  refine ⟨.non, _, I.lset (its' := its ++ its2) hH e (by simp) (r.append r2) ?_, rfl, q⟩
  rw [List.length_append]
  omega
/-! ### 's' * k -/
def repS (z : Str) (k : Nat) : Str := ⟨(List.replicate k z.cps).foldl (· ++ ·) #[]⟩
def rMulS : R2 := fun x y H Q => ∃ z k, x = .str z ∧ y = .int k ∧ 1 < k ∧ k < 2 ^ 20 ∧ 0 < z.length ∧ z.length ≤ 1000 ∧ PySem.Builtin.Str.tooLong (z.length * k.toNat) = false ∧ (repS z k.toNat).length ≤ sizeLine ∧ Q (.str (repS z k.toNat)) H
theorem op_mulS {X : Cx} : OpR X (binaryOp .Mult) rMulS := by
  intro pins s σ H x y v u Q I rx ry h
  obtain ⟨z, k, rfl, rfl, h1, h2, h0, hz, hlong, hsz, q⟩ := h
  obtain ⟨t, rfl⟩ := rx
  obtain ⟨t', rfl⟩ := ry
  have k1 : ¬ k < 1 := by omega
  have k2 : (k == 1 || z.length == 0) = false := by
    rw [Bool.or_eq_false_iff]
    exact ⟨beq_eq_false_iff_ne.mpr (by omega), beq_eq_false_iff_ne.mpr (by omega)⟩
  have hbig : ¬ ((z.length : Int) > (2 ^ 63 - 1) / k) := by
    have h3 : (100000 : Int) ≤ (2 ^ 63 - 1) / k := by
      rw [Int.le_ediv_iff_mul_le (by omega)]
      omega
    omega
  refine PySem.P.mul_str (by
      have a1 : ¬ k < -(2 ^ 63 : Int) := by omega
      have a2 : ¬ k ≥ 2 ^ 63 := by omega
      rw [decide_eq_false a1, decide_eq_false a2]
      rfl) (fun _ _ => hbig) (fun _ _ => hlong) ?_
  rw [if_neg k1, if_neg (by rw [k2]; exact Bool.false_ne_true)]
  exact ⟨hsz, .str (repS z k.toNat), H, I.tok _, ⟨_, rfl⟩, q⟩
/-! ### v is True, v is False -/
def rIsV : R2 := fun x y H Q => ∃ b : Bool, y = .bl b ∧ Q (.bl (decide (x = .bl b))) H
theorem op_isV {X : Cx} : OpR X (compareOp .Is) rIsV := by
  intro pins s σ H x y v u Q I rx ry h
  obtain ⟨b, rfl, q⟩ := h
  cases (show u = Value.bool b from ry)
  by_cases e : x = .bl b
  · subst e
    cases (show v = Value.bool b from rx)
    exact wpAny_is_self rfl ⟨.bl true, H, I, rfl, by simpa using q⟩
  · have q' : Q (.bl false) H := by simpa [e] using q
    cases x with
    | non => cases (show v = Value.none from rx); exact wpAny_is_other rfl (fun z => nomatch z) ⟨.bl false, H, I, rfl, q'⟩
    | bl c => cases (show v = Value.bool c from rx); exact wpAny_is_other rfl (fun z => e (by rw [Value.bool.inj z])) ⟨.bl false, H, I, rfl, q'⟩
    | int i => obtain ⟨t, rfl⟩ := (show ∃ t, v = Value.int i t from rx); exact wpAny_is_other rfl (fun z => nomatch z) ⟨.bl false, H, I, rfl, q'⟩
    | str i => obtain ⟨t, rfl⟩ := (show ∃ t, v = Value.str i t from rx); exact wpAny_is_other rfl (fun z => nomatch z) ⟨.bl false, H, I, rfl, q'⟩
    | byt i => obtain ⟨t, rfl⟩ := (show ∃ t, v = Value.bytes i t from rx); exact wpAny_is_other rfl (fun z => nomatch z) ⟨.bl false, H, I, rfl, q'⟩
    | flt i => obtain ⟨t, rfl⟩ := (show ∃ t, v = Value.float i t from rx); exact wpAny_is_other rfl (fun z => nomatch z) ⟨.bl false, H, I, rfl, q'⟩
    | ref a => cases (show v = Value.ref a from rx); exact wpAny_is_other rfl (fun z => nomatch z) ⟨.bl false, H, I, rfl, q'⟩
    | ty n => cases (show v = Value.type n from rx); exact wpAny_is_other rfl (fun z => nomatch z) ⟨.bl false, H, I, rfl, q'⟩
end K47
/-! the data: nodes, states, engines in the heap -/
namespace K47
open PySem PySem.Spec PyProof.Rows L2
open PySem.W (Frag)
/-! ### heaps -/
theorem same_upd {H : Hp} {a : Addr} {o : HO} (h : H a = none) : Same H (upd H a o) := fun b u e => by
  rw [upd_ne (ne_of_none e h)]
  exact e
theorem same_put {B H : Hp} {a : Addr} {o : HO} (s : Same B H) (h : B a = none) : Same B (upd H a o) := fun b u e => by
  rw [upd_ne (ne_of_none e h)]
  exact s b u e
/-- H without l -/
def hide (H : Hp) (l : List Addr) : Hp := fun a => if a ∈ l then none else H a
theorem hide_same (H : Hp) (l : List Addr) : Same (hide H l) H := fun b o e => by
  unfold hide at e
  split at e
  · cases e
  · exact e
theorem hide_in {H : Hp} {l : List Addr} {a : Addr} (h : a ∈ l) : hide H l a = none := by
  unfold hide
  rw [if_pos h]
theorem hide_out {H : Hp} {l : List Addr} {a : Addr} (h : a ∉ l) : hide H l a = H a := by
  unfold hide
  rw [if_neg h]
theorem same_hide {B H : Hp} {l : List Addr} (s : Same B H) (h : ∀ a ∈ l, B a = none) : Same B (hide H l) := fun b o e => by
  rw [hide_out fun m => by rw [h b m] at e; cases e]
  exact s b o e
/-! ### values -/
def Flat (v : V) : Prop := v = .non ∨ (∃ b, v = .bl b) ∨ (∃ i, v = .int i ∧ 0 ≤ i ∧ i < 1000) ∨ ∃ z, v = .str z ∧ z.length ≤ 40
def Bas (v : V) : Prop := v = .non ∨ (∃ b, v = .bl b) ∨ (∃ i, v = .int i) ∨ ∃ z, v = .str z
theorem Flat.bas {v : V} (h : Flat v) : Bas v := by
  rcases h with h | h | ⟨i, h, _⟩ | ⟨z, h, _⟩
  · exact .inl h
  · exact .inr (.inl h)
  · exact .inr (.inr (.inl ⟨i, h⟩))
  · exact .inr (.inr (.inr ⟨z, h⟩))
/-! ### nodes -/
structure Nd where
  kind : Str
  own : Option Nat
  act : Bool
  prov : List (Nat × V)
def ownV : Option Nat → V
  | none => .non
  | some n => .int n
structure NdW where
  value : V
  pairs : V
  program : V
  setting : V
  store : V
  name : V
  kept : V
  reads : V
  checked : V
  latest : V
  children : V
def nodeVs (d : Nd) (w : NdW) (c p : Addr) : List V := [.str d.kind, ownV d.own, .bl d.act, w.value, w.pairs, w.program, w.setting, w.store, w.name, w.kept, w.reads, w.checked, .ref c, .ref p, w.latest, w.children]
structure ProvAt (H : Hp) (p : Addr) (l : List (Nat × V)) : Prop where
  h : ∃ ts : List Addr, H p = some (.tup (ts.map V.ref)) ∧ Paired (fun t (cv : Nat × V) => H t = some (.tup [.int cv.1, cv.2])) ts l
def NodeOk (K : Frag) (H : Hp) (a : Addr) (d : Nd) : Prop := ∃ dx w c p, H a = some (Ins (He.ga K "Node") dx nodeNs (nodeVs d w c p)) ∧ H c = some (.tup []) ∧ ProvAt H p d.prov
/-- tuples stay -/
def TupK (H H' : Hp) : Prop := ∀ a t, H a = some (.tup t) → H' a = some (.tup t)
theorem tupK_same {H H' : Hp} (s : Same H H') : TupK H H' := fun a t e => s a _ e
theorem TupK.trans {H H1 H2 : Hp} (a : TupK H H1) (b : TupK H1 H2) : TupK H H2 := fun c t e => b c t (a c t e)
theorem tupK_upd {H : Hp} {a : Addr} {o : HO} (h : ∀ t, H a ≠ some (.tup t)) : TupK H (upd H a o) := fun b t e => by
  have : b ≠ a := fun z => h t (z ▸ e)
  rw [upd_ne this]
  exact e
theorem tupK_ins {H : Hp} {a C dx : Addr} {fs : List (Str × V)} {o : HO} (h : H a = some (.ins C dx fs)) : TupK H (upd H a o) := tupK_upd fun t e => by rw [h] at e; cases e
theorem tupK_lst {H : Hp} {a : Addr} {xs : List V} {o : HO} (h : H a = some (.lst xs)) : TupK H (upd H a o) := tupK_upd fun t e => by rw [h] at e; cases e
theorem fall_imp {α β : Type} {R S : α → β → Prop} {xs : List α} {ys : List β} (f : Paired R xs ys) (h : ∀ x y, x ∈ xs → R x y → S x y) : Paired S xs ys := by
  induction f with
  | nil => exact .nil
  | cons r _ ih => exact .cons (h _ _ List.mem_cons_self r) (ih fun x y m => h x y (List.mem_cons_of_mem _ m))
theorem fall_len {α β : Type} {R : α → β → Prop} {xs : List α} {ys : List β} (f : Paired R xs ys) : xs.length = ys.length := by
  induction f with
  | nil => rfl
  | cons _ _ ih => simp [ih]
theorem fall_get {α β : Type} {R : α → β → Prop} {xs : List α} {ys : List β} (f : Paired R xs ys) : ∀ {i : Nat} {x : α} {y : β}, xs[i]? = some x → ys[i]? = some y → R x y := by
  induction f with
  | nil => intro i x y h; cases i <;> cases h
  | cons r _ ih =>
    intro i x y h1 h2
    cases i with
    | zero => cases h1; cases h2; exact r
    | succ i => exact ih (by simpa using h1) (by simpa using h2)
theorem fall_snoc {α β : Type} {R : α → β → Prop} {xs : List α} {ys : List β} (f : Paired R xs ys) {x : α} {y : β} (r : R x y) : Paired R (xs ++ [x]) (ys ++ [y]) := by
  induction f with
  | nil => exact .cons r .nil
  | cons q _ ih => exact .cons q ih
theorem fall_ex {α β : Type} {R : α → β → Prop} {xs : List α} {ys : List β} (f : Paired R xs ys) {i : Nat} (h : i < ys.length) : ∃ x, xs[i]? = some x := by
  have := fall_len f
  exact ⟨xs[i]'(by omega), List.getElem?_eq_getElem _⟩
theorem ProvAt.keep {H H' : Hp} {p : Addr} {l : List (Nat × V)} (h : ProvAt H p l) (k : TupK H H') : ProvAt H' p l := by
  obtain ⟨ts, h1, h2⟩ := h.h
  exact ⟨ts, k _ _ h1, fall_imp h2 fun _ _ _ e => k _ _ e⟩
theorem NodeOk.keep {K : Frag} {H H' : Hp} {a : Addr} {d : Nd} (h : NodeOk K H a d) (k : TupK H H') (e : H' a = H a) : NodeOk K H' a d := by
  obtain ⟨dx, w, c, p, h1, h2, h3⟩ := h
  exact ⟨dx, w, c, p, e.trans h1, k _ _ h2, h3.keep k⟩
theorem NodeOk.mono {K : Frag} {H H' : Hp} {a : Addr} {d : Nd} (h : NodeOk K H a d) (s : Same H H') : NodeOk K H' a d := by
  obtain ⟨dx, w, c, p, h1, h2, h3⟩ := h
  exact ⟨dx, w, c, p, s _ _ h1, s _ _ h2, h3.keep (tupK_same s)⟩
/-- an instance or a list -/
def il : HO → Bool
  | .ins .. => true
  | .lst _ => true
  | _ => false
/-! ### states -/
structure SA where
  st : Addr
  dx : Addr
  ln : Addr
  ld : Addr
  lr : Addr
  ls : Addr
  lp : Addr
  lv : Addr
  nas : List Addr
def SA.all (s : SA) : List Addr := s.st :: s.ln :: s.ld :: s.lr :: s.ls :: s.lp :: s.lv :: s.nas
structure StAt (K : Frag) (H : Hp) (s : SA) (nds : List Nd) (dfs : List V) : Prop where
  o : H s.st = some (Ins (He.ga K "State") s.dx stNs [.ref s.ln, .ref s.ld, .ref s.lr, .ref s.ls, .ref s.lp, .ref s.lv])
  n : H s.ln = some (.lst (s.nas.map V.ref))
  d : H s.ld = some (.lst dfs)
  r : H s.lr = some (.lst [])
  u : H s.ls = some (.lst [])
  p : H s.lp = some (.lst [])
  v : H s.lv = some (.lst [])
  nodes : Paired (NodeOk K H) s.nas nds
  nd : s.all.Nodup
theorem StAt.keep {K : Frag} {H H' : Hp} {s : SA} {nds : List Nd} {dfs : List V} (h : StAt K H s nds dfs) (k : TupK H H') (e : ∀ a ∈ s.all, H' a = H a) : StAt K H' s nds dfs where
  o := (e _ (by simp [SA.all])).trans h.o
  n := (e _ (by simp [SA.all])).trans h.n
  d := (e _ (by simp [SA.all])).trans h.d
  r := (e _ (by simp [SA.all])).trans h.r
  u := (e _ (by simp [SA.all])).trans h.u
  p := (e _ (by simp [SA.all])).trans h.p
  v := (e _ (by simp [SA.all])).trans h.v
  nodes := fall_imp h.nodes fun a d m q => q.keep k (e _ (by simp [SA.all, m]))
  nd := h.nd
theorem StAt.has {K : Frag} {H : Hp} {s : SA} {nds : List Nd} {dfs : List V} (h : StAt K H s nds dfs) {a : Addr} (m : a ∈ s.all) : ∃ o, H a = some o ∧ il o = true := by
  unfold SA.all at m
  simp only [List.mem_cons] at m
  rcases m with m | m | m | m | m | m | m | m
  · exact ⟨_, m ▸ h.o, rfl⟩
  · exact ⟨_, m ▸ h.n, rfl⟩
  · exact ⟨_, m ▸ h.d, rfl⟩
  · exact ⟨_, m ▸ h.r, rfl⟩
  · exact ⟨_, m ▸ h.u, rfl⟩
  · exact ⟨_, m ▸ h.p, rfl⟩
  · exact ⟨_, m ▸ h.v, rfl⟩
  · obtain ⟨i, hi, e⟩ := List.getElem_of_mem m
    have hl : i < nds.length := by rw [← fall_len h.nodes]; exact hi
    obtain ⟨dx, w, c, p, q, _⟩ := fall_get h.nodes (List.getElem?_eq_getElem hi) (List.getElem?_eq_getElem hl)
    rw [e] at q
    exact ⟨_, q, rfl⟩
theorem StAt.mono {K : Frag} {H H' : Hp} {s : SA} {nds : List Nd} {dfs : List V} (h : StAt K H s nds dfs) (k : Same H H') : StAt K H' s nds dfs :=
  h.keep (tupK_same k) fun a m => by
    obtain ⟨o, e, _⟩ := h.has m
    rw [e]
    exact k _ _ e
theorem StAt.len {K : Frag} {H : Hp} {s : SA} {nds : List Nd} {dfs : List V} (h : StAt K H s nds dfs) : s.nas.length = nds.length := fall_len h.nodes
/-- a store outside -/
theorem StAt.out {K : Frag} {H : Hp} {s : SA} {nds : List Nd} {dfs : List V} {a : Addr} {o : HO} (h : StAt K H s nds dfs) (na : a ∉ s.all) (nt : ∀ t, H a ≠ some (.tup t)) : StAt K (upd H a o) s nds dfs :=
  h.keep (tupK_upd nt) fun b m => upd_ne fun z => na (z ▸ m)

theorem nodup_snoc {α : Type} {l : List α} {a : α} (h : l.Nodup) (n : a ∉ l) : (l ++ [a]).Nodup := by
  rw [List.nodup_append]
  refine ⟨h, by simp, fun x hx y hy => ?_⟩
  simp only [List.mem_singleton] at hy
  subst hy
  exact fun z => n (z ▸ hx)
theorem pair_set {R S : Addr → Nd → Prop} {a : Addr} {d' : Nd} : ∀ {xs : List Addr} {ys : List Nd} {i : Nat}, Paired R xs ys → xs.Nodup → xs[i]? = some a → (∀ b d, b ≠ a → R b d → S b d) → S a d' → Paired S xs (ys.set i d')
  | _, _, _, .nil, _, h, _, _ => by cases h
  | x :: xs, y :: ys, 0, .cons r f, nd, h, k, q => by
    cases h
    have n := (List.nodup_cons.mp nd).1
    exact .cons q (fall_imp f fun b d m r' => k b d (fun z => n (z ▸ m)) r')
  | x :: xs, y :: ys, i + 1, .cons r f, nd, h, k, q => by
    have h' : xs[i]? = some a := by simpa using h
    have n := (List.nodup_cons.mp nd).1
    have m : a ∈ xs := List.mem_of_getElem? h'
    exact .cons (k x y (fun z => n (z ▸ m)) r) (pair_set f (List.nodup_cons.mp nd).2 h' k q)
section
variable {K : Frag} {H : Hp} {s : SA} {nds : List Nd} {dfs : List V}
theorem StAt.ne (h : StAt K H s nds dfs) : s.st ∉ s.ln :: s.ld :: s.lr :: s.ls :: s.lp :: s.lv :: s.nas ∧ s.ln ∉ s.ld :: s.lr :: s.ls :: s.lp :: s.lv :: s.nas ∧ s.ld ∉ s.lr :: s.ls :: s.lp :: s.lv :: s.nas ∧ s.nas.Nodup := by
  have h1 := List.nodup_cons.mp h.nd
  have h2 := List.nodup_cons.mp h1.2
  have h3 := List.nodup_cons.mp h2.2
  have h4 := List.nodup_cons.mp (List.nodup_cons.mp (List.nodup_cons.mp (List.nodup_cons.mp h3.2).2).2).2
  exact ⟨h1.1, h2.1, h3.1, h4.2⟩
/-- one more node -/
theorem StAt.app {a : Addr} {d : Nd} (h : StAt K H s nds dfs) (ha : NodeOk K H a d) (na : a ∉ s.all) :
    StAt K (upd H s.ln (.lst (s.nas.map V.ref ++ [.ref a]))) { s with nas := s.nas ++ [a] } (nds ++ [d]) dfs := by
  obtain ⟨h1, h2, h3, h4⟩ := h.ne
  have k : TupK H (upd H s.ln (.lst (s.nas.map V.ref ++ [.ref a]))) := tupK_lst h.n
  have e : ∀ b, b ≠ s.ln → upd H s.ln (.lst (s.nas.map V.ref ++ [.ref a])) b = H b := fun b q => upd_ne q
  refine ⟨?_, ?_, ?_, ?_, ?_, ?_, ?_, ?_, ?_⟩
  · exact (e _ fun z => h1 (by rw [z]; simp)).trans h.o
  · rw [List.map_append]
    exact upd_same
  · exact (e _ fun z => h2 (by rw [← z]; simp)).trans h.d
  · exact (e _ fun z => h2 (by rw [← z]; simp)).trans h.r
  · exact (e _ fun z => h2 (by rw [← z]; simp)).trans h.u
  · exact (e _ fun z => h2 (by rw [← z]; simp)).trans h.p
  · exact (e _ fun z => h2 (by rw [← z]; simp)).trans h.v
  · exact fall_snoc (fall_imp h.nodes fun b d m q => q.keep k (e _ fun z => h2 (by rw [← z]; simp [m]))) (ha.keep k (e _ fun z => na (by rw [z]; simp [SA.all])))
  · exact nodup_snoc h.nd na
/-- one more default -/
theorem StAt.dapp {v : V} (h : StAt K H s nds dfs) : StAt K (upd H s.ld (.lst (dfs ++ [v]))) s nds (dfs ++ [v]) := by
  obtain ⟨h1, h2, h3, h4⟩ := h.ne
  have k : TupK H (upd H s.ld (.lst (dfs ++ [v]))) := tupK_lst h.d
  have e : ∀ b, b ≠ s.ld → upd H s.ld (.lst (dfs ++ [v])) b = H b := fun b q => upd_ne q
  refine ⟨?_, ?_, ?_, ?_, ?_, ?_, ?_, ?_, h.nd⟩
  · exact (e _ fun z => h1 (by rw [z]; simp)).trans h.o
  · exact (e _ fun z => h2 (by rw [z]; simp)).trans h.n
  · exact upd_same
  · exact (e _ fun z => h3 (by rw [← z]; simp)).trans h.r
  · exact (e _ fun z => h3 (by rw [← z]; simp)).trans h.u
  · exact (e _ fun z => h3 (by rw [← z]; simp)).trans h.p
  · exact (e _ fun z => h3 (by rw [← z]; simp)).trans h.v
  · exact fall_imp h.nodes fun b d m q => q.keep k (e _ fun z => h3 (by rw [← z]; simp [m]))
theorem StAt.mem (h : StAt K H s nds dfs) {i : Nat} {a : Addr} (hi : s.nas[i]? = some a) : a ∈ s.all := by
  have := List.mem_of_getElem? hi
  simp [SA.all, this]
/-- a store to a node -/
theorem StAt.set {i : Nat} {a : Addr} {d' : Nd} {o : HO} (h : StAt K H s nds dfs) (hi : s.nas[i]? = some a) (nt : ∀ t, H a ≠ some (.tup t)) (q : NodeOk K (upd H a o) a d') : StAt K (upd H a o) s (nds.set i d') dfs := by
  have k : TupK H (upd H a o) := tupK_upd nt
  have e : ∀ b, b ≠ a → upd H a o b = H b := fun b q => upd_ne q
  have m := List.mem_of_getElem? hi
  have h1 := List.nodup_cons.mp h.nd
  have h2 := List.nodup_cons.mp h1.2
  have h3 := List.nodup_cons.mp h2.2
  have h4 := List.nodup_cons.mp h3.2
  have h5 := List.nodup_cons.mp h4.2
  have h6 := List.nodup_cons.mp h5.2
  have h7 := List.nodup_cons.mp h6.2
  refine ⟨?_, ?_, ?_, ?_, ?_, ?_, ?_, ?_, h.nd⟩
  · exact (e _ fun z => h1.1 (by rw [z]; simp [m])).trans h.o
  · exact (e _ fun z => h2.1 (by rw [z]; simp [m])).trans h.n
  · exact (e _ fun z => h3.1 (by rw [z]; simp [m])).trans h.d
  · exact (e _ fun z => h4.1 (by rw [z]; simp [m])).trans h.r
  · exact (e _ fun z => h5.1 (by rw [z]; simp [m])).trans h.u
  · exact (e _ fun z => h6.1 (by rw [z]; simp [m])).trans h.p
  · exact (e _ fun z => h7.1 (by rw [z]; simp [m])).trans h.v
  · exact pair_set h.nodes h7.2 hi (fun b d nb r => r.keep k (e _ nb)) q
/-- the node at a place -/
theorem StAt.at (h : StAt K H s nds dfs) {i : Nat} {d : Nd} (hd : nds[i]? = some d) : ∃ a, s.nas[i]? = some a ∧ NodeOk K H a d := by
  obtain ⟨a, ha⟩ := fall_ex h.nodes (List.getElem?_eq_some_iff.mp hd).1
  exact ⟨a, ha, fall_get h.nodes ha hd⟩
end
/-! ### engines -/
structure EA where
  dx : Addr
  lo : Addr
  lh : Addr
  s : SA
  pl : V
  rn : V
  made : Int
  ver : Int
  hs : List V
  df : V
def EA.all (x : EA) (e : Addr) : List Addr := e :: x.lo :: x.lh :: x.s.all
abbrev enO (K : Frag) (x : EA) : HO := Ins (He.ga K "Engine") x.dx enNs [x.pl, .ref x.s.st, x.rn, .ref x.lo, x.df, .int x.made, .non, .int x.ver, .ref x.lh]
structure En (K : Frag) (B H : Hp) (e : Addr) (x : EA) (nds : List Nd) (dfs : List V) : Prop where
  o : H e = some (enO K x)
  lo : H x.lo = some (.lst [])
  lh : H x.lh = some (.lst x.hs)
  hl : x.hs.length ≤ 16
  st : StAt K H x.s nds dfs
  nd : (x.all e).Nodup
  sm : Same B H
  fr : ∀ a ∈ x.all e, B a = none
section
variable {K : Frag} {B H : Hp} {e : Addr} {x : EA} {nds : List Nd} {dfs : List V}
theorem En.ne (h : En K B H e x nds dfs) : e ≠ x.lo ∧ e ≠ x.lh ∧ e ∉ x.s.all ∧ x.lo ≠ x.lh ∧ x.lo ∉ x.s.all ∧ x.lh ∉ x.s.all := by
  have h1 := List.nodup_cons.mp h.nd
  have h2 := List.nodup_cons.mp h1.2
  have h3 := List.nodup_cons.mp h2.2
  refine ⟨fun z => h1.1 (by rw [z]; simp), fun z => h1.1 (by rw [z]; simp), fun z => h1.1 (by simp [z]), fun z => h2.1 (by rw [z]; simp), fun z => h2.1 (by simp [z]), h3.1⟩
theorem En.mono {H' : Hp} (h : En K B H e x nds dfs) (s : Same H H') : En K B H' e x nds dfs :=
  ⟨s _ _ h.o, s _ _ h.lo, s _ _ h.lh, h.hl, h.st.mono s, h.nd, h.sm.trans s, h.fr⟩
theorem En.has (h : En K B H e x nds dfs) {a : Addr} (m : a ∈ x.all e) : ∃ o, H a = some o ∧ il o = true := by
  unfold EA.all at m
  simp only [List.mem_cons] at m
  rcases m with m | m | m | m
  · exact ⟨_, m ▸ h.o, rfl⟩
  · exact ⟨_, m ▸ h.lo, rfl⟩
  · exact ⟨_, m ▸ h.lh, rfl⟩
  · exact h.st.has m
/-- seen from a larger base -/
theorem En.base {B' : Hp} (h : En K B H e x nds dfs) (s : Same B' H) (f : ∀ a ∈ x.all e, B' a = none) : En K B' H e x nds dfs := ⟨h.o, h.lo, h.lh, h.hl, h.st, h.nd, s, f⟩
theorem En.hide (h : En K B H e x nds dfs) : En K (hide H (x.all e)) H e x nds dfs := h.base (hide_same _ _) fun a m => hide_in m
theorem En.back {B' : Hp} (h : En K B' H e x nds dfs) (s : Same B B') : En K B H e x nds dfs := h.base (s.trans h.sm) fun a m => s.free (h.fr a m)
theorem En.below (h : En K B H e x nds dfs) : Same B (K47.hide H (x.all e)) := same_hide h.sm h.fr
theorem En.notin (h : En K B H e x nds dfs) {a : Addr} {o : HO} (q : H a = some o) (n : il o = false) : a ∉ x.all e := fun m => by
  obtain ⟨o', q', t⟩ := h.has m
  rw [q] at q'
  cases q'
  rw [n] at t
  cases t
/-- the same engine in a heap that holds it as it was -/
theorem En.re {H' : Hp} (h : En K B H e x nds dfs) (k : TupK H H') (q : ∀ a ∈ x.all e, H' a = H a) : En K (K47.hide H' (x.all e)) H' e x nds dfs :=
  ⟨(q _ (by simp [EA.all])).trans h.o, (q _ (by simp [EA.all])).trans h.lo, (q _ (by simp [EA.all])).trans h.lh, h.hl, h.st.keep k fun a m => q a (by simp [EA.all, m]), h.nd, hide_same _ _, fun a m => hide_in m⟩
theorem En.out {d : Addr} {o u : HO} (h : En K B H e x nds dfs) (hd : H d = some u) (n : il u = false) (nt : ∀ t, u ≠ .tup t) : En K (K47.hide (upd H d o) (x.all e)) (upd H d o) e x nds dfs :=
  h.re (tupK_upd fun t z => by rw [hd] at z; cases z; exact nt t rfl) fun a m => upd_ne fun z => h.notin hd n (z ▸ m)
theorem En.notNew (h : En K B H e x nds dfs) {p : Addr} (n : H p = none) : p ∉ x.all e := fun m => by
  obtain ⟨o, q, _⟩ := h.has m
  rw [n] at q
  cases q
/-- the engine's own fields -/
theorem En.upE {x' : EA} {nds' : List Nd} {dfs' : List V} (h : En K B H e x nds dfs) (st : StAt K H x'.s nds' dfs') (lo : H x'.lo = some (.lst [])) (lh : H x'.lh = some (.lst x'.hs)) (hl : x'.hs.length ≤ 16) (nd : (x'.all e).Nodup)
    (fr : ∀ a ∈ x'.all e, B a = none) : En K B (upd H e (enO K x')) e x' nds' dfs' := by
  have h1 := List.nodup_cons.mp nd
  refine ⟨upd_same, ?_, ?_, hl, ?_, nd, same_put h.sm (h.fr e (by simp [EA.all])), fr⟩
  · rw [upd_ne fun z => h1.1 (by rw [← z]; simp)]
    exact lo
  · rw [upd_ne fun z => h1.1 (by rw [← z]; simp)]
    exact lh
  · exact st.out (fun m => h1.1 (by simp [m])) fun t z => by rw [h.o] at z; cases z
theorem En.upF (h : En K B H e x nds dfs) (rn : V) (made ver : Int) : En K B (upd H e (enO K { x with rn := rn, made := made, ver := ver })) e { x with rn := rn, made := made, ver := ver } nds dfs :=
  h.upE (x' := { x with rn := rn, made := made, ver := ver }) h.st h.lo h.lh h.hl h.nd h.fr
theorem En.upD (h : En K B H e x nds dfs) (v : V) : En K B (upd H e (enO K { x with df := v })) e { x with df := v } nds dfs :=
  h.upE (x' := { x with df := v }) h.st h.lo h.lh h.hl h.nd h.fr
/-- a store within the state -/
theorem En.upS {a : Addr} {o : HO} {nds' : List Nd} {dfs' : List V} (h : En K B H e x nds dfs) (m : a ∈ x.s.all) (st : StAt K (upd H a o) x.s nds' dfs') : En K B (upd H a o) e x nds' dfs' := by
  obtain ⟨n1, n2, n3, n4, n5, n6⟩ := h.ne
  refine ⟨?_, ?_, ?_, h.hl, st, h.nd, same_put h.sm (h.fr a (by simp [EA.all, m])), h.fr⟩
  · rw [upd_ne fun z => n3 (by rw [z]; exact m)]
    exact h.o
  · rw [upd_ne fun z => n5 (by rw [z]; exact m)]
    exact h.lo
  · rw [upd_ne fun z => n6 (by rw [z]; exact m)]
    exact h.lh
/-- one more node -/
theorem En.app {a : Addr} {d : Nd} (h : En K B H e x nds dfs) (ha : NodeOk K H a d) (na : a ∉ x.all e) (nB : B a = none) :
    En K B (upd H x.s.ln (.lst (x.s.nas.map V.ref ++ [.ref a]))) e { x with s := { x.s with nas := x.s.nas ++ [a] } } (nds ++ [d]) dfs := by
  obtain ⟨n1, n2, n3, n4, n5, n6⟩ := h.ne
  have m : x.s.ln ∈ x.s.all := by simp [SA.all]
  refine ⟨?_, ?_, ?_, h.hl, h.st.app ha fun z => na (by simp [EA.all, z]), ?_, same_put h.sm (h.fr _ (by simp [EA.all, m])), ?_⟩
  · rw [upd_ne fun z => n3 (by rw [z]; exact m)]
    exact h.o
  · rw [upd_ne fun z => n5 (by rw [z]; exact m)]
    exact h.lo
  · rw [upd_ne fun z => n6 (by rw [z]; exact m)]
    exact h.lh
  · exact nodup_snoc h.nd na
  · intro b hb
    have hb' : b ∈ x.all e ++ [a] := hb
    rcases List.mem_append.mp hb' with q | q
    · exact h.fr b q
    · simp only [List.mem_singleton] at q
      rw [q]
      exact nB
/-- the history -/
theorem En.upH {hs' : List V} (h : En K B H e x nds dfs) (hl : hs'.length ≤ 16) : En K B (upd H x.lh (.lst hs')) e { x with hs := hs' } nds dfs := by
  obtain ⟨n1, n2, n3, n4, n5, n6⟩ := h.ne
  refine ⟨?_, ?_, upd_same, hl, h.st.out n6 (fun t z => by rw [h.lh] at z; cases z), h.nd, same_put h.sm (h.fr _ (by simp [EA.all])), h.fr⟩
  · rw [upd_ne n2]
    exact h.o
  · rw [upd_ne n4]
    exact h.lo
end
end K47
namespace K47
open PySem PySem.Spec PyProof.Rows L2
open PySem.W (Frag)
section
variable {w : World} {K : Frag} {mg : Str → Option Value} {base : Heap}
theorem blT {c : Prop} [Decidable c] (h : c) : V.bl (decide c) = .bl true := by rw [decide_eq_true h]
theorem blF {c : Prop} [Decidable c] (h : ¬ c) : V.bl (decide c) = .bl false := by rw [decide_eq_false h]
theorem qT {Q : V → Hp → Prop} {c : Prop} [Decidable c] {H : Hp} (hc : c) (h : Q (.bl true) H) : Q (.bl (decide c)) H := by
  rw [decide_eq_true hc]
  exact h
theorem qF {Q : V → Hp → Prop} {c : Prop} [Decidable c] {H : Hp} (hc : ¬ c) (h : Q (.bl false) H) : Q (.bl (decide c)) H := by
  rw [decide_eq_false hc]
  exact h
def isI : V → Bool
  | .int _ => true
  | _ => false
theorem sc_is_integer : FnScope ["thing"] ["thing"] (defScope s_is_integer) := ⟨rfl, rfl, rfl, by decide +kernel, rfl, by decide +kernel, by decide +kernel⟩
def sp_is_integer (K : Frag) : Sp := SpX (fun v : V => [v]) fun v H Q E => Bas v ∧ Q (.bl (isI v)) H
theorem f_is_integer (T : Txt w K mg) : Fn CX0 prog w K mg base 1 (He.ga K "is_integer") ["thing"] (sp_is_integer K) :=
  Txt.fnx T 0 d_is_integer rfl rfl sc_is_integer (fun _ _ _ _ _ _ us hl => match us, hl with | [_], _ => rfl) (fun _ => rfl) fun cdv A outer s H x Q E hr ⟨hb, h⟩ => by
  refine ⟨_, (pss_one (ps_ret (pe_and (pe_callB call_isi (by rfl) T.b_isinstance (by decide +kernel) (pa_cons (pv 0) (pa_cons (pg_ty (n := "int") T.b_int (by decide +kernel)) pa_nil))) (pe_one (pe_not (pe_callB call_isi (by rfl) T.b_isinstance (by decide +kernel) (pa_cons (pv 0) (pa_cons (pg_ty (n := "bool") T.b_bool (by decide +kernel)) pa_nil)))))))), ?_⟩
  refine ⟨_, rfl, ?_⟩
  rcases hb with rfl | ⟨b, rfl⟩ | ⟨i, rfl⟩ | ⟨z, rfl⟩
  · exact ⟨_, _, _, _, false, rfl, .ty _, .base .non, kit_ty (by decide +kernel), false, rfl, h⟩
  · exact ⟨_, _, _, _, true, rfl, .ty _, .base (.bl _), kit_ty (by decide +kernel), true, rfl, _, rfl, _, _, _, _, true, rfl, .ty _, .base (.bl _), kit_ty (by decide +kernel), true, rfl, h⟩
  · exact ⟨_, _, _, _, true, rfl, .ty _, .base (.int _), kit_ty (by decide +kernel), true, rfl, _, rfl, _, _, _, _, false, rfl, .ty _, .base (.int _), kit_ty (by decide +kernel), false, rfl, h⟩
  · exact ⟨_, _, _, _, false, rfl, .ty _, .base (.str _), kit_ty (by decide +kernel), false, rfl, h⟩
theorem sc_is_number : FnScope ["thing", "count"] ["thing", "count"] (defScope s_is_number) := ⟨rfl, rfl, rfl, by decide +kernel, rfl, by decide +kernel, by decide +kernel⟩
def sp_is_number (K : Frag) : Sp := SpX (fun x : Int × Int => [.int x.1, .int x.2]) fun x H Q E => 0 ≤ x.1 ∧ x.1 < x.2 ∧ Q (.bl true) H
theorem f_is_number (T : Txt w K mg) : Fn CX0 prog w K mg base 2 (He.ga K "is_number") ["thing", "count"] (sp_is_number K) :=
  Txt.fnx T 14 d_is_number rfl rfl sc_is_number (fun _ _ _ _ _ _ us hl => match us, hl with | [_, _], _ => rfl) (fun _ => rfl) fun cdv A outer s H x Q E hr ⟨h0, h1, h⟩ => by
  refine ⟨_, (pss_one (ps_ret (pe_and (pe_fn (f_is_integer T) hr (by decide) T.g_is_integer passS0 (pa_cons (pv 0) pa_nil)) (pe_one (pe_chain op_le op_lt pe_int (pv 0) (pv 1)))))), ?_⟩
  refine ⟨_, rfl, _, rfl, .inr (.inr (.inl ⟨_, rfl⟩)), true, rfl, _, rfl, _, _, rfl, rfl, true, blT h0, _, rfl, _, _, rfl, rfl, ?_⟩
  exact qT (Q := Q) h1 h
theorem sc_is_value : FnScope ["thing"] ["thing"] (defScope s_is_value) := ⟨rfl, rfl, rfl, by decide +kernel, rfl, by decide +kernel, by decide +kernel⟩
def sp_is_value (K : Frag) : Sp := SpX (fun v : V => [v]) fun v H Q E => Flat v ∧ Q (.bl true) H
theorem f_is_value (T : Txt w K mg) : Fn CX0 prog w K mg base 2 (He.ga K "is_value") ["thing"] (sp_is_value K) :=
  Txt.fnx T 1 d_is_value rfl rfl sc_is_value (fun _ _ _ _ _ _ us hl => match us, hl with | [_], _ => rfl) (fun _ => rfl) fun cdv A outer s H x Q E hr ⟨hb, h⟩ => by
  refine ⟨_, (pss_cons (ps_if (PW.pt (pw_or (pt_cmpR op_isN (pv 0) pe_non (nomark _)) (pw_or1 (pt_val (pe_callB call_isi (by rfl) T.b_isinstance (by decide +kernel) (pa_cons (pv 0) (pa_cons (pg_ty (n := "bool") T.b_bool (by decide +kernel)) pa_nil))))))) (pss_one (ps_ret pe_bl)) pss_nil)
    (pss_cons (ps_if (pt_val (pe_fn (f_is_integer T) hr (by decide) T.g_is_integer passS0 (pa_cons (pv 0) pa_nil))) (pss_one (ps_ret (pe_chain op_le op_lt pe_int (pv 0) (pg_i T.i_MODULUS)))) pss_nil)
    (pss_one (ps_ret (pe_and (pe_callB call_isi (by rfl) T.b_isinstance (by decide +kernel) (pa_cons (pv 0) (pa_cons (pg_ty (n := "str") T.b_str (by decide +kernel)) pa_nil))) (pe_one (pe_cmpR op_le (pe_callB call_len_str (by rfl) T.b_len (by decide +kernel) (pa_cons (pv 0) pa_nil)) (pg_i T.i_LONGEST) (nomark _)))))))), ?_⟩
  have bas := hb.bas
  refine ⟨_, rfl, rfl, _, rfl, ?_⟩
  rcases hb with rfl | ⟨b, rfl⟩ | ⟨i, rfl, i0, i1⟩ | ⟨z, rfl, hz⟩
  · exact h
  · exact ⟨_, rfl, _, _, _, _, true, rfl, .ty _, .base (.bl _), kit_ty (by decide +kernel), _, rfl, h⟩
  · refine ⟨_, rfl, _, _, _, _, false, rfl, .ty _, .base (.int _), kit_ty (by decide +kernel), _, rfl, ?_⟩
    refine ⟨_, rfl, _, rfl, bas, _, rfl, ?_⟩
    refine ⟨_, rfl, _, _, rfl, rfl, true, blT i0, _, _, rfl, rfl, ?_⟩
    exact qT (Q := Q) i1 h
  · refine ⟨_, rfl, _, _, _, _, false, rfl, .ty _, .base (.str _), kit_ty (by decide +kernel), _, rfl, ?_⟩
    refine ⟨_, rfl, _, rfl, bas, _, rfl, ?_⟩
    refine ⟨_, rfl, _, _, _, _, true, rfl, .ty _, .base (.str _), kit_ty (by decide +kernel), _, rfl, _, rfl, _, rfl, ?_⟩
    refine ⟨by rw [sizeLine_eq]; omega, _, _, rfl, rfl, ?_⟩
    exact qT (Q := Q) (by omega) h
theorem sc_Engine_node : FnScope ["self", "number"] ["self", "number"] (defScope s_Engine_node) := ⟨rfl, rfl, rfl, by decide +kernel, rfl, by decide +kernel, by decide +kernel⟩
def sp_Engine_node (K : Frag) : Sp := SpX (fun x : Addr × EA × Hp × List Nd × List V × Nat × Addr => [.ref x.1, .int x.2.2.2.2.2.1]) fun ⟨e, x, B, nds, dfs, n, a⟩ H Q E => En K B H e x nds dfs ∧ x.s.nas[n]? = some a ∧ Q (.ref a) H
theorem f_Engine_node (T : Txt w K mg) : Fn CX0 prog w K mg base 1 (He.ma K (He.ga K "Engine") "node") ["self", "number"] (sp_Engine_node K) :=
  Txt.fnx T 60 d_Engine_node rfl rfl sc_Engine_node (fun _ _ _ _ _ _ us hl => match us, hl with | [_, _], _ => rfl) (fun _ => rfl) fun cdv A outer s H ⟨e, x, B, nds, dfs, n, a⟩ Q E hr ⟨N, ha, h⟩ => by
  refine ⟨_, (pss_one (ps_ret (pe_ix ix_list (T.p_State_nodes (T.p_Engine_state (pv 0))) (pv 1) (fun _ _ => rfl)))), ?_⟩
  refine ⟨_, rfl, _, _, _, _, rfl, N.o, rfl, _, _, _, _, rfl, N.st.o, rfl, _, rfl, _, _, _, _, rfl, rfl, SqL.of N.st.n, atI_nat (by rw [List.getElem?_map, ha]; rfl), h⟩
theorem sc_require : FnScope ["good", "message"] ["good", "message"] (defScope s_require) := ⟨rfl, rfl, rfl, by decide +kernel, rfl, by decide +kernel, by decide +kernel⟩
def sp_require (K : Frag) : Sp := SpX (fun m : V => [.bl true, m]) fun x H Q E => Q .non H
theorem f_require (T : Txt w K mg) : Fn CX0 prog w K mg base 1 (He.ga K "require") ["good", "message"] (sp_require K) :=
  Txt.fnx T 13 d_require rfl rfl sc_require (fun _ _ _ _ _ _ us hl => match us, hl with | [_, _], _ => rfl) (fun _ => rfl) fun cdv A outer s H x Q E hr h => by
  refine ⟨_, (pss_one (ps_if (pt_not (pt_val (pv 0))) (pss_one ps_never) pss_nil)), ?_⟩
  exact ⟨_, rfl, _, rfl, h⟩
/-- an error with this text -/
def Err (K : Frag) (E : XK) (H : Hp) (m : Str) : Prop := ∀ d H', Same H H' → H d = none → H' d = some (msgO (.str m)) → E (.ref (RE K)) (some d) H'
def sp_requireX (K : Frag) : Sp := SpX (fun x : Bool × Str => [.bl x.1, .str x.2]) fun ⟨b, m⟩ H Q E => (b = true → Q .non H) ∧ (b = false → Err K E H m)
theorem f_requireX (T : Txt w K mg) : Fn (L2.CX prog w) prog w K mg base 1 (He.ga K "require") ["good", "message"] (sp_requireX K) :=
  Txt.fnx T 13 d_require rfl rfl sc_require (fun _ _ _ _ _ _ us hl => match us, hl with | [_, _], _ => rfl) (fun _ => rfl) fun cdv A outer s H ⟨b, m⟩ Q E hr ⟨h1, h2⟩ => by
  refine ⟨_, (pss_one (ps_if (pt_not (pt_val (pv 0))) (pss_one (ps_raiseE T rfl hr (takes_of rfl rfl rfl rfl) (pa_cons (pv 1) pa_nil))) pss_nil)), ?_⟩
  refine ⟨_, rfl, _, rfl, ?_⟩
  cases b with
  | true => exact h1 rfl
  | false => exact ⟨_, rfl, _, rfl, fun d hd => h2 rfl d _ (same_upd hd) hd upd_same⟩
end
end K47
namespace K47
open PySem PySem.Spec PyProof.Rows L2
open PySem.W (Frag)
section
variable {w : World} {K : Frag} {mg : Str → Option Value} {base : Heap}
/-! the program's checks -/
theorem Txt.tE (T : Txt w K mg) : ∃ es n, KDict K w (He.ga K "EXPRESSIONS") es n := T.t.tab 0
theorem Txt.tS (T : Txt w K mg) : ∃ es n, KDict K w (He.ga K "STATEMENTS") es n := T.t.tab 1 rfl
theorem tabB_ok {x k : Str} {vs : List V} (h : tabB K x k vs = true) : PySem.W.nsIn K (He.ga K x) k = some (some (.ref (tabV K x k))) ∧ ∀ H, SqT K H (tabV K x k) vs := by
  unfold tabB at h
  rw [Bool.and_eq_true] at h
  exact ⟨of_decide_eq_true h.1, tupA_ok h.2⟩
theorem Txt.vE (T : Txt w K mg) : PySem.W.nsIn K (He.ga K "EXPRESSIONS") "use" = some (some (.ref (tabV K "EXPRESSIONS" "use"))) ∧ ∀ H, SqT K H (tabV K "EXPRESSIONS" "use") [.str "name"] := tabB_ok (T.e 0 (f := fun K => tabB K "EXPRESSIONS" "use" [.str "name"]) rfl)
theorem Txt.vS (T : Txt w K mg) : PySem.W.nsIn K (He.ga K "STATEMENTS") "return" = some (some (.ref (tabV K "STATEMENTS" "return"))) ∧ ∀ H, SqT K H (tabV K "STATEMENTS" "return") [.str "expression"] := tabB_ok (T.e 1 (f := fun K => tabB K "STATEMENTS" "return" [.str "expression"]) rfl)
theorem sc_is_key : FnScope ["thing", "sign"] ["thing"] (defScope s_is_key) := ⟨rfl, rfl, rfl, by decide +kernel, rfl, by decide +kernel, by decide +kernel⟩
/-- the one name -/
def sp_is_key (K : Frag) : Sp := SpX (fun _ : Unit => [.str "v"]) fun _ H Q E => ∀ H', Same H H' → Q (.bl true) H'
theorem f_is_key (T : Txt w K mg) : Fn CX0 prog w K mg base 1 (He.ga K "is_key") ["thing"] (sp_is_key K) :=
  Txt.fnx T 2 d_is_key rfl rfl sc_is_key (fun _ _ _ _ _ _ us hl => match us, hl with | [_], _ => rfl) (fun _ => rfl)
  fun cdv A outer s H x Q E hr h => by
  refine ⟨_, (pss_cons (ps_if (PW.pt (pw_or (pt_not (pt_val (pe_callB call_isi (by rfl) T.b_isinstance (by decide +kernel) (pa_cons (pv 0) (pa_cons (pg_ty (n := "str") T.b_str (by decide +kernel)) pa_nil))))) (pw_or1 (pt_not (pt_chain op_le op_le pe_int (pe_callB call_len_str (by rfl) T.b_len (by decide +kernel) (pa_cons (pv 0) pa_nil)) (pg_i T.i_LONGEST_KEY)))))) (pss_one (ps_ret pe_bl)) pss_nil)
    (pss_one (ps_ret (pe_callB (cr_all rfl) (by rfl) T.b_all (by decide +kernel) (pa_cons (pe_lc (own := [("sign", 1)]) (g := gName 1) rfl sc_is_key.nd (pi_str (pv 0)) (blkOk_by (own := [("sign", 1)]) (N := ["thing", "sign"]) (sc := defScope s_is_key) (by decide +kernel)) (fun _ _ _ _ _ => (pg_name (i := 1) sc_is_key.nd rfl (.inl rfl))) (fun _ _ _ _ _ => pts_nil) (fun _ _ _ _ _ => (pe_cmpR op_in_sign (pv 1) (pg_s T.z_LETTERS) rfl))) pa_nil))))), ?_⟩
  refine ⟨_, rfl, _, _, _, _, true, rfl, .ty _, .base (.str _), kit_ty (by decide +kernel), _, rfl, ?_⟩
  refine ⟨_, rfl, _, rfl, by decide +kernel, _, _, rfl, rfl, true, by decide +kernel, _, _, rfl, rfl, true, by decide +kernel, ?_⟩
  refine ⟨_, rfl, _, rfl, fun D nD => ?_⟩
  refine ⟨fun i m H' => i ≤ 1 ∧ m = 1 - i ∧ Same H H' ∧ H' D = some (.lst (List.replicate i (.bl true))), ⟨1, by omega, rfl, same_upd nD, upd_same⟩, ?_⟩
  rintro i m H' ⟨hi, rfl, sm, hD⟩
  by_cases h0 : i = 0
  · subst h0
    refine .inr ⟨by show 0 < (Str.ofString "v").cps.size; decide +kernel, fun H' => Same H H' ∧ H' D = some (.lst [.bl true]), fun H' ⟨a, b⟩ => ⟨0, by omega, by omega, rfl, a, b⟩, fun x H2 ⟨e, c, hc, ex⟩ => ?_⟩
    subst e
    have hc' : c = 118 := by
      have : some c = some 118 := hc.symm.trans (by decide +kernel)
      exact Option.some.inj this
    subst hc'
    subst ex
    refine ⟨rfl, ?_⟩
    refine ⟨_, rfl, _, _, rfl, rfl, [], hD, by rw [sizeLine_eq]; decide, ?_, ?_⟩
    · exact fun b o e => by
        by_cases z : b = D
        · rw [z, nD] at e; cases e
        · rw [upd_ne z]; exact sm b o e
    · rw [upd_same]
      rfl
  · have e1 : i = 1 := by omega
    subst e1
    refine .inl ⟨by show (Str.ofString "v").cps.size ≤ 1; decide +kernel, ?_⟩
    exact ⟨_, [true], rfl, SqL.of hD, h H' sm⟩
theorem sc__has_word : FnScope ["thing"] ["thing"] (defScope s__has_word) := ⟨rfl, rfl, rfl, by decide +kernel, rfl, by decide +kernel, by decide +kernel⟩
def sp__has_word (K : Frag) : Sp := SpX (fun x : Addr × Str × List V => [.ref x.1]) fun ⟨t, z, r⟩ H Q E => H t = some (.tup (.str z :: r)) ∧ Q (.bl true) H
theorem f__has_word (T : Txt w K mg) : Fn CX0 prog w K mg base 1 (He.ga K "_has_word") ["thing"] (sp__has_word K) :=
  Txt.fnx T 3 d__has_word rfl rfl sc__has_word (fun _ _ _ _ _ _ us hl => match us, hl with | [_], _ => rfl) (fun _ => rfl)
  fun cdv A outer s H ⟨t, z, r⟩ Q E hr ⟨ht, h⟩ => by
  refine ⟨_, (pss_one (ps_ret (pe_and (pe_callB call_isi (by rfl) T.b_isinstance (by decide +kernel) (pa_cons (pv 0) (pa_cons (pg_ty (n := "tuple") T.b_tuple (by decide +kernel)) pa_nil))) (pe_and (pe_cmpR op_gt (pe_callB call_len_seq (by rfl) T.b_len (by decide +kernel) (pa_cons (pv 0) pa_nil)) pe_int (nomark _)) (pe_one (pe_callB call_isi (by rfl) T.b_isinstance (by decide +kernel) (pa_cons (pe_ix ix_tup (pv 0) pe_int (fun _ _ => rfl)) (pa_cons (pg_ty (n := "str") T.b_str (by decide +kernel)) pa_nil)))))))), ?_⟩
  refine ⟨_, rfl, _, _, _, _, true, rfl, .ty _, .base (.tup ht), kit_ty (by decide +kernel), _, rfl, ?_⟩
  refine ⟨_, rfl, _, _, rfl, .inr (SqT.of ht), _, _, rfl, rfl, true, blT (by show (0 : Int) < ((r.length + 1 : Nat) : Int); omega), ?_⟩
  exact ⟨_, rfl, _, _, _, _, rfl, rfl, SqT.of ht, atI_nat (j := 0) rfl, _, _, _, _, true, rfl, .ty _, .base (.str _), kit_ty (by decide +kernel), h⟩
theorem sc__expression_kinds : FnScope ["thing", "kinds"] ["thing"] (defScope s__expression_kinds) := ⟨rfl, rfl, rfl, by decide +kernel, rfl, by decide +kernel, by decide +kernel⟩
def sp__expression_kinds (K : Frag) : Sp := SpX (fun t : Addr => [.ref t]) fun t H Q E => H t = some (.tup [.str "use", .str "v"]) ∧ Q (.ref (tabV K "EXPRESSIONS" "use")) H
theorem f__expression_kinds (T : Txt w K mg) : Fn CX0 prog w K mg base 2 (He.ga K "_expression_kinds") ["thing"] (sp__expression_kinds K) :=
  Txt.fnx T 4 d__expression_kinds rfl rfl sc__expression_kinds (fun _ _ _ _ _ _ us hl => match us, hl with | [_], _ => rfl) (fun _ => rfl)
  fun cdv A outer s H t Q E hr ⟨ht, h⟩ => by
  obtain ⟨es, n, D⟩ := T.tE
  refine ⟨_, (pss_cons (ps_if (PW.pt (pw_or (pt_not (pt_val (pe_fn (f__has_word T) hr (by decide) T.g__has_word passS0 (pa_cons (pv 0) pa_nil)))) (pw_or1 (pt_cmpR (op_notIn_kd D) (pe_ix ix_tup (pv 0) pe_int (fun _ _ => rfl)) (pg_r T.g_EXPRESSIONS) rfl)))) (pss_one (ps_ret pe_non)) pss_nil)
    (pss_cons (ps_set (i := 1) sc__expression_kinds.nd rfl (.inl rfl) (pe_ix ix_kdict (pg_r T.g_EXPRESSIONS) (pe_ix ix_tup (pv 0) pe_int (fun _ _ => rfl)) (fun _ _ => rfl)))
    (pss_one (ps_ret (pe_ifExp (pt_cmpR op_eq (pe_callB call_len_seq (by rfl) T.b_len (by decide +kernel) (pa_cons (pv 1) pa_nil)) (pe_op op_sub (pe_callB call_len_seq (by rfl) T.b_len (by decide +kernel) (pa_cons (pv 0) pa_nil)) pe_int) (nomark _)) (pv 1) pe_non))))), ?_⟩
  have e := T.vE
  refine ⟨_, rfl, (t, "use", _), rfl, ht, _, rfl, ?_⟩
  refine ⟨_, rfl, _, _, _, _, rfl, rfl, SqT.of ht, atI_nat (j := 0) rfl, _, _, rfl, rfl, e.1, _, rfl, ?_⟩
  refine ⟨_, rfl, _, _, _, _, rfl, rfl, SqT.of ht, atI_nat (j := 0) rfl, _, _, .ref (tabV K "EXPRESSIONS" "use"), rfl, rfl, ⟨_, _, _, D.at_, D.lit, e.1, rfl⟩, ?_⟩
  refine ⟨_, rfl, _, _, rfl, .inr (e.2 _), _, rfl, _, _, rfl, .inr (SqT.of ht), _, _, rfl, rfl, ?_⟩
  refine ⟨rfl, _, rfl, ?_⟩
  exact ⟨_, rfl, h⟩
theorem sc__statement_kinds : FnScope ["thing", "kinds"] ["thing"] (defScope s__statement_kinds) := ⟨rfl, rfl, rfl, by decide +kernel, rfl, by decide +kernel, by decide +kernel⟩
def sp__statement_kinds (K : Frag) : Sp := SpX (fun x : Addr × V => [.ref x.1]) fun ⟨t, v⟩ H Q E => H t = some (.tup [.str "return", v]) ∧ Q (.ref (tabV K "STATEMENTS" "return")) H
theorem f__statement_kinds (T : Txt w K mg) : Fn CX0 prog w K mg base 2 (He.ga K "_statement_kinds") ["thing"] (sp__statement_kinds K) :=
  Txt.fnx T 5 d__statement_kinds rfl rfl sc__statement_kinds (fun _ _ _ _ _ _ us hl => match us, hl with | [_], _ => rfl) (fun _ => rfl)
  fun cdv A outer s H ⟨t, v⟩ Q E hr ⟨ht, h⟩ => by
  obtain ⟨es, n, D⟩ := T.tS
  refine ⟨_, (pss_cons (ps_if (PW.pt (pw_or (pt_not (pt_val (pe_fn (f__has_word T) hr (by decide) T.g__has_word passS0 (pa_cons (pv 0) pa_nil)))) (pw_or1 (pt_cmpR (op_notIn_kd D) (pe_ix ix_tup (pv 0) pe_int (fun _ _ => rfl)) (pg_r T.g_STATEMENTS) rfl)))) (pss_one (ps_ret pe_non)) pss_nil)
    (pss_cons (ps_set (i := 1) sc__statement_kinds.nd rfl (.inl rfl) (pe_ix ix_kdict (pg_r T.g_STATEMENTS) (pe_ix ix_tup (pv 0) pe_int (fun _ _ => rfl)) (fun _ _ => rfl)))
    (pss_one (ps_ret (pe_ifExp (pt_cmpR op_eq (pe_callB call_len_seq (by rfl) T.b_len (by decide +kernel) (pa_cons (pv 1) pa_nil)) (pe_op op_sub (pe_callB call_len_seq (by rfl) T.b_len (by decide +kernel) (pa_cons (pv 0) pa_nil)) pe_int) (nomark _)) (pv 1) pe_non))))), ?_⟩
  have e := T.vS
  refine ⟨_, rfl, (t, "return", _), rfl, ht, _, rfl, ?_⟩
  refine ⟨_, rfl, _, _, _, _, rfl, rfl, SqT.of ht, atI_nat (j := 0) rfl, _, _, rfl, rfl, e.1, _, rfl, ?_⟩
  refine ⟨_, rfl, _, _, _, _, rfl, rfl, SqT.of ht, atI_nat (j := 0) rfl, _, _, .ref (tabV K "STATEMENTS" "return"), rfl, rfl, ⟨_, _, _, D.at_, D.lit, e.1, rfl⟩, ?_⟩
  refine ⟨_, rfl, _, _, rfl, .inr (e.2 _), _, rfl, _, _, rfl, .inr (SqT.of ht), _, _, rfl, rfl, ?_⟩
  refine ⟨rfl, _, rfl, ?_⟩
  exact ⟨_, rfl, h⟩

end
end K47
namespace K47
open PySem PySem.Spec PyProof.Rows L2
open PySem.W (Frag)
section
variable {w : World} {K : Frag} {mg : Str → Option Value} {base : Heap}
/-- an expression that is never reached -/
theorem pe_never {X : Cx} {e : Expr} : PE X e fun _ _ _ => False := ⟨fun _ _ _ _ _ _ h => h.elim⟩
theorem sc__is_expression : FnScope ["thing", "depth", "kinds", "kind", "part"] ["thing", "depth"] (defScope s__is_expression) := ⟨rfl, rfl, rfl, by decide +kernel, rfl, by decide +kernel, by decide +kernel⟩
def sp__is_expression (K : Frag) : Sp := SpX (fun t : Addr => [.ref t, .int 1]) fun t H Q E => H t = some (.tup [.str "use", .str "v"]) ∧ ∀ H', Same H H' → Q (.bl true) H'
theorem f__is_expression (T : Txt w K mg) : Fn CX0 prog w K mg base 3 (He.ga K "_is_expression") ["thing", "depth"] (sp__is_expression K) :=
  Txt.fnx T 6 d__is_expression rfl rfl sc__is_expression (fun _ _ _ _ _ _ us hl => match us, hl with | [_, _], _ => rfl) (fun _ => rfl)
  fun cdv A outer s H t Q E hr ⟨ht, h⟩ => by
  refine ⟨_, (pss_cons (ps_set (i := 2) sc__is_expression.nd rfl (.inl rfl) (pe_fn (f__expression_kinds T) hr (by decide) T.g__expression_kinds passS0 (pa_cons (pv 0) pa_nil)))
    (pss_cons (ps_if (PW.pt (pw_or (pt_cmpR op_isN (pv 2) pe_non (nomark _)) (pw_or1 (pt_cmpR op_gt (pv 1) (pg_i T.i_DEEPEST) (nomark _))))) (pss_one (ps_ret pe_bl)) pss_nil)
    (pss_cons (ps_for (passes_of rfl) rfl (RZ.pi_zipA (by rfl) T.b_zip (pa_cons (pv 2) (pa_cons (pe_slice sl_tup (pv 0) (po_some pe_int) po_none) pa_nil))) (pg_tup rfl (pgs_cons (pg_name (i := 3) sc__is_expression.nd rfl (.inl rfl)) (pgs_cons (pg_name (i := 4) sc__is_expression.nd rfl (.inl rfl)) pgs_nil))) (pss_cons (ps_if (PW.pt (pw_and (pt_cmpR op_eq (pv 3) pe_str (nomark _)) (pw_and1 (pt_not (pt_val (pe_fn (f_is_key T) hr (by decide) T.g_is_key passS0 (pa_cons (pv 4) pa_nil))))))) (pss_one (ps_ret pe_bl)) pss_nil)
      (pss_cons (ps_if (PW.pt (pw_and (pt_cmpR op_eq (pv 3) pe_str (nomark _)) (pw_and1 (pt_not (pt_val pe_never))))) (pss_one (ps_ret pe_bl)) pss_nil)
      (pss_one (ps_if (PW.pt (pw_and (pt_cmpR op_eq (pv 3) pe_str (nomark _)) (pw_and1 (pt_not (pt_val pe_never))))) (pss_one (ps_ret pe_bl)) pss_nil)))))
    (pss_one (ps_ret pe_bl))))), ?_⟩
  refine ⟨_, rfl, t, rfl, ht, ?_⟩
  refine ⟨_, rfl, rfl, _, rfl, _, rfl, _, _, rfl, rfl, _, rfl, ?_⟩
  refine ⟨_, rfl, _, rfl, 1, rfl, _, _, rfl, SqT.of ht, by decide, fun p hp => ?_⟩
  refine ⟨_, _, _, _, rfl, .inr ⟨T.vE.2 _, SqT.of upd_same, ?_⟩⟩
  refine RZ.for_zipT (xs := [.str "name"]) (ys := [.str "v"]) rfl (fun i σ H' => (∃ u v, σ = [some (.ref t), some (.int 1), some (.ref (tabV K "EXPRESSIONS" "use")), u, v]) ∧ Same (upd H p (.tup [.str "v"])) H') ⟨⟨_, _, rfl⟩, Same.refl _⟩ (fun i σ H' q => ⟨T.vE.2 _, SqT.of (q.2 _ _ upd_same)⟩) (fun i x y tp σ H' hx hy q hT => ?_) (fun σ H' q => ?_)
  · obtain ⟨⟨u, v, rfl⟩, sm⟩ := q
    have hi : i = 0 := by
      have := (List.getElem?_eq_some_iff.mp hx).1
      simp at this
      exact this
    subst hi
    cases hx
    cases hy
    refine ⟨_, _, rfl, SqT.of upd_same, rfl, ?_⟩
    refine ⟨_, _, rfl, _, _, rfl, rfl, ?_⟩
    refine ⟨_, rfl, rfl, _, rfl, _, rfl, (), rfl, fun H2 s2 => ⟨_, rfl, ?_⟩⟩
    refine ⟨_, rfl, rfl, _, rfl, ?_⟩
    refine ⟨_, rfl, rfl, _, rfl, ?_⟩
    exact ⟨⟨_, _, rfl⟩, sm.trans ((same_upd hT).trans s2)⟩
  · exact h _ ((same_upd hp).trans q.2)
theorem sc__part_size : FnScope ["kind", "part", "depth", "good"] ["kind", "part", "depth"] (defScope s__part_size) := ⟨rfl, rfl, rfl, by decide +kernel, rfl, by decide +kernel, by decide +kernel⟩
def sp__part_size (K : Frag) : Sp := SpX (fun t : Addr => [.str "expression", .ref t, .int 1]) fun t H Q E => H t = some (.tup [.str "use", .str "v"]) ∧ ∀ H', Same H H' → Q (.int 0) H'
theorem f__part_size (T : Txt w K mg) : Fn CX0 prog w K mg base 4 (He.ga K "_part_size") ["kind", "part", "depth"] (sp__part_size K) :=
  Txt.fnx T 7 d__part_size rfl rfl sc__part_size (fun _ _ _ _ _ _ us hl => match us, hl with | [_, _, _], _ => rfl) (fun _ => rfl)
  fun cdv A outer s H t Q E hr ⟨ht, h⟩ => by
  refine ⟨_, (pss_cons (ps_if (pt_cmpR op_eq (pv 0) pe_str (nomark _)) (pss_one (ps_ret pe_never)) pss_nil)
    (pss_cons (ps_if (pt_cmpR op_eq (pv 0) pe_str (nomark _)) (pss_one (ps_set (i := 3) sc__part_size.nd rfl (.inl rfl) (pe_fn (f_is_key T) hr (by decide) T.g_is_key passS0 (pa_cons (pv 1) pa_nil)))) (pss_one (ps_if (pt_cmpR op_eq (pv 0) pe_str (nomark _)) (pss_one ps_never) (pss_one (ps_set (i := 3) sc__part_size.nd rfl (.inl rfl) (pe_fn (f__is_expression T) hr (by decide) T.g__is_expression passS0 (pa_cons (pv 1) (pa_cons pe_int pa_nil))))))))
    (pss_one (ps_ret (pe_ifExp (pt_val (pv 3)) pe_int pe_non))))), ?_⟩
  refine ⟨_, rfl, rfl, _, rfl, ?_⟩
  refine ⟨_, rfl, rfl, _, rfl, ?_⟩
  refine ⟨_, rfl, rfl, _, rfl, ?_⟩
  refine ⟨_, rfl, t, rfl, ht, fun H' sm => ?_⟩
  exact ⟨_, rfl, _, rfl, h H' sm⟩
theorem sc__statement_size : FnScope ["thing", "depth", "kinds", "total", "kind", "part", "size"] ["thing", "depth"] (defScope s__statement_size) := ⟨rfl, rfl, rfl, by decide +kernel, rfl, by decide +kernel, by decide +kernel⟩
def sp__statement_size (K : Frag) : Sp := SpX (fun x : Addr × Addr => [.ref x.1, .int 1]) fun ⟨t, u⟩ H Q E => H t = some (.tup [.str "return", .ref u]) ∧ H u = some (.tup [.str "use", .str "v"]) ∧ ∀ H', Same H H' → Q (.int 1) H'
theorem f__statement_size (T : Txt w K mg) : Fn CX0 prog w K mg base 5 (He.ga K "_statement_size") ["thing", "depth"] (sp__statement_size K) :=
  Txt.fnx T 8 d__statement_size rfl rfl sc__statement_size (fun _ _ _ _ _ _ us hl => match us, hl with | [_, _], _ => rfl) (fun _ => rfl)
  fun cdv A outer s H ⟨t, u⟩ Q E hr ⟨ht, hu, h⟩ => by
  refine ⟨_, (pss_cons (ps_set (i := 2) sc__statement_size.nd rfl (.inl rfl) (pe_fn (f__statement_kinds T) hr (by decide) T.g__statement_kinds passS0 (pa_cons (pv 0) pa_nil)))
    (pss_cons (ps_if (PW.pt (pw_or (pt_cmpR op_isN (pv 2) pe_non (nomark _)) (pw_or1 (pt_cmpR op_gt (pv 1) (pg_i T.i_DEEPEST) (nomark _))))) (pss_one (ps_ret pe_non)) pss_nil)
    (pss_cons (ps_set (i := 3) sc__statement_size.nd rfl (.inl rfl) pe_int)
    (pss_cons (ps_for (passes_of rfl) rfl (RZ.pi_zipA (by rfl) T.b_zip (pa_cons (pv 2) (pa_cons (pe_slice sl_tup (pv 0) (po_some pe_int) po_none) pa_nil))) (pg_tup rfl (pgs_cons (pg_name (i := 4) sc__statement_size.nd rfl (.inl rfl)) (pgs_cons (pg_name (i := 5) sc__statement_size.nd rfl (.inl rfl)) pgs_nil))) (pss_cons (ps_set (i := 6) sc__statement_size.nd rfl (.inl rfl) (pe_fn (f__part_size T) hr (by decide) T.g__part_size passS0 (pa_cons (pv 4) (pa_cons (pv 5) (pa_cons (pv 1) pa_nil)))))
      (pss_cons (ps_if (pt_cmpR op_isN (pv 6) pe_non (nomark _)) (pss_one (ps_ret pe_non)) pss_nil)
      (pss_one (ps_aug (i := 3) sc__statement_size.nd rfl (.inl rfl) (pv 6) ip_add)))))
    (pss_one (ps_ret (pv 3))))))), ?_⟩
  refine ⟨_, rfl, (t, .ref u), rfl, ht, ?_⟩
  refine ⟨_, rfl, rfl, _, rfl, _, rfl, _, _, rfl, rfl, _, rfl, ?_⟩
  refine ⟨_, rfl, _, rfl, 1, rfl, _, _, rfl, SqT.of ht, by simp; decide, fun p hp => ?_⟩
  refine ⟨_, _, _, _, rfl, .inr ⟨T.vS.2 _, SqT.of upd_same, ?_⟩⟩
  refine RZ.for_zipT (xs := [.str "expression"]) (ys := [.ref u]) rfl (fun i σ H' => (∃ u1 v1 w1, σ = [some (.ref t), some (.int 1), some (.ref (tabV K "STATEMENTS" "return")), some (.int 1), u1, v1, w1]) ∧ Same (upd H p (.tup [.ref u])) H') ⟨⟨_, _, _, rfl⟩, Same.refl _⟩ (fun i σ H' q => ⟨T.vS.2 _, SqT.of (q.2 _ _ upd_same)⟩) (fun i x y tp σ H' hx hy q hT => ?_) (fun σ H' q => ?_)
  · obtain ⟨⟨u1, v1, w1, rfl⟩, sm⟩ := q
    have hi : i = 0 := by
      have := (List.getElem?_eq_some_iff.mp hx).1
      simp at this
      exact this
    subst hi
    cases hx
    cases hy
    have s1 : Same H (upd H' tp (.tup [.str "expression", .ref u])) := (same_upd hp).trans (sm.trans (same_upd hT))
    refine ⟨_, _, rfl, SqT.of upd_same, rfl, ?_⟩
    refine ⟨_, _, rfl, _, _, rfl, rfl, ?_⟩
    refine ⟨_, rfl, _, rfl, _, rfl, u, rfl, s1 _ _ hu, fun H2 s2 => ?_⟩
    refine ⟨_, rfl, rfl, _, rfl, ?_⟩
    refine ⟨_, rfl, _, rfl, _, _, rfl, rfl, ?_⟩
    exact ⟨⟨_, _, _, rfl⟩, sm.trans ((same_upd hT).trans s2)⟩
  · obtain ⟨⟨u1, v1, w1, rfl⟩, sm⟩ := q
    exact ⟨_, rfl, h _ ((same_upd hp).trans sm)⟩
theorem sc__block_size : FnScope ["thing", "depth", "total", "statement", "size"] ["thing", "depth"] (defScope s__block_size) := ⟨rfl, rfl, rfl, by decide +kernel, rfl, by decide +kernel, by decide +kernel⟩
def sp__block_size (K : Frag) : Sp := SpX (fun x : Addr × Addr × Addr => [.ref x.1, .int 1]) fun ⟨l, t, u⟩ H Q E => H l = some (.lst [.ref t]) ∧ H t = some (.tup [.str "return", .ref u]) ∧ H u = some (.tup [.str "use", .str "v"]) ∧ ∀ H', Same H H' → Q (.int 1) H'
theorem f__block_size (T : Txt w K mg) : Fn CX0 prog w K mg base 6 (He.ga K "_block_size") ["thing", "depth"] (sp__block_size K) :=
  Txt.fnx T 9 d__block_size rfl rfl sc__block_size (fun _ _ _ _ _ _ us hl => match us, hl with | [_, _], _ => rfl) (fun _ => rfl)
  fun cdv A outer s H ⟨l, t, u⟩ Q E hr ⟨hl, ht, hu, h⟩ => by
  refine ⟨_, (pss_cons (ps_if (pt_not (pt_val (pe_callB call_isi (by rfl) T.b_isinstance (by decide +kernel) (pa_cons (pv 0) (pa_cons (pg_ty (n := "list") T.b_list (by decide +kernel)) pa_nil))))) (pss_one (ps_ret pe_non)) pss_nil)
    (pss_cons (ps_set (i := 2) sc__block_size.nd rfl (.inl rfl) pe_int)
    (pss_cons (ps_for (passes_of rfl) rfl (pi_list (pv 0)) (pg_name (i := 3) sc__block_size.nd rfl (.inl rfl)) (pss_cons (ps_set (i := 4) sc__block_size.nd rfl (.inl rfl) (pe_fn (f__statement_size T) hr (by decide) T.g__statement_size passS0 (pa_cons (pv 3) (pa_cons (pv 1) pa_nil))))
      (pss_cons (ps_if (pt_cmpR op_isN (pv 4) pe_non (nomark _)) (pss_one (ps_ret pe_non)) pss_nil)
      (pss_one (ps_aug (i := 2) sc__block_size.nd rfl (.inl rfl) (pv 4) ip_add)))))
    (pss_one (ps_ret (pv 2)))))), ?_⟩
  refine ⟨_, rfl, _, _, _, _, true, rfl, .ty _, .base (.lst hl), kit_ty (by decide +kernel), _, rfl, ?_⟩
  refine ⟨_, rfl, _, rfl, ⟨_, SqL.of hl⟩, ?_⟩
  refine for_list (xs := [.ref t]) (fun i σ H' => (∃ u1 v1, σ = [some (.ref l), some (.int 1), some (.int i), u1, v1]) ∧ Same H H') ⟨⟨_, _, rfl⟩, Same.refl _⟩ (fun i σ H' _ q => SqL.of (q.2 _ _ hl)) (fun i x σ H' hx q => ?_) (fun σ H' q => ?_)
  · obtain ⟨⟨u1, v1, rfl⟩, sm⟩ := q
    have hi : i = 0 := by
      have := (List.getElem?_eq_some_iff.mp hx).1
      simp at this
      exact this
    subst hi
    cases hx
    refine ⟨_, rfl, _, rfl, (t, u), rfl, sm _ _ ht, sm _ _ hu, fun H2 s2 => ?_⟩
    refine ⟨_, rfl, rfl, _, rfl, ?_⟩
    refine ⟨_, rfl, _, rfl, _, _, rfl, rfl, ?_⟩
    exact ⟨⟨_, _, rfl⟩, sm.trans s2⟩
  · obtain ⟨⟨u1, v1, rfl⟩, sm⟩ := q
    exact ⟨_, rfl, h _ sm⟩
theorem sc_is_program : FnScope ["thing", "size"] ["thing"] (defScope s_is_program) := ⟨rfl, rfl, rfl, by decide +kernel, rfl, by decide +kernel, by decide +kernel⟩
def sp_is_program (K : Frag) : Sp := SpX (fun x : Addr × Addr × Addr => [.ref x.1]) fun ⟨l, t, u⟩ H Q E => H l = some (.lst [.ref t]) ∧ H t = some (.tup [.str "return", .ref u]) ∧ H u = some (.tup [.str "use", .str "v"]) ∧ ∀ H', Same H H' → Q (.bl true) H'
theorem f_is_program (T : Txt w K mg) : Fn CX0 prog w K mg base 7 (He.ga K "is_program") ["thing"] (sp_is_program K) :=
  Txt.fnx T 10 d_is_program rfl rfl sc_is_program (fun _ _ _ _ _ _ us hl => match us, hl with | [_], _ => rfl) (fun _ => rfl)
  fun cdv A outer s H ⟨l, t, u⟩ Q E hr ⟨hl, ht, hu, h⟩ => by
  refine ⟨_, (pss_cons (ps_set (i := 1) sc_is_program.nd rfl (.inl rfl) (pe_fn (f__block_size T) hr (by decide) T.g__block_size passS0 (pa_cons (pv 0) (pa_cons pe_int pa_nil))))
    (pss_one (ps_ret (pe_and (pe_cmpR op_notN (pv 1) pe_non (nomark _)) (pe_one (pe_cmpR op_le (pv 1) (pg_i T.i_MOST_STATEMENTS) (nomark _))))))), ?_⟩
  refine ⟨_, rfl, (l, t, u), rfl, hl, ht, hu, fun H' sm => ?_⟩
  exact ⟨_, rfl, rfl, _, rfl, _, rfl, _, _, rfl, rfl, h H' sm⟩

end
end K47
namespace K47
open PySem PySem.Spec PyProof.Rows L2
open PySem.W (Frag)
section
variable {w : World} {K : Frag} {mg : Str → Option Value} {base : Heap}
theorem sc_check_node : FnScope ["engine", "number", "kinds"] ["engine", "number", "kinds"] (defScope s_check_node) := ⟨rfl, rfl, rfl, by decide +kernel, rfl, by decide +kernel, by decide +kernel⟩
def sp_check_node (K : Frag) : Sp := SpX (fun x : (Addr × EA × Hp × List Nd × List V) × Nat × Nd × Addr × List Str => [.ref x.1.1, .int x.2.1, .ref x.2.2.2.1]) fun ⟨⟨e, x, B, nds, dfs⟩, n, d, k, ks⟩ H Q E =>
  En K B H e x nds dfs ∧ nds[n]? = some d ∧ SqT K H k (ks.map V.str) ∧ d.kind ∈ ks ∧ Q .non H
theorem kind_in {z : Str} {ks : List Str} (h : z ∈ ks) : inV (.str z) (ks.map V.str) = true := by
  unfold inV
  rw [List.any_eq_true]
  exact ⟨_, List.mem_map_of_mem h, by simp [eqV]⟩
theorem flat_strs (ks : List Str) : (ks.map V.str).all flatV = true := by
  rw [List.all_eq_true]
  intro y hy
  obtain ⟨z, _, rfl⟩ := List.mem_map.mp hy
  rfl
theorem f_check_node (T : Txt w K mg) : Fn CX0 prog w K mg base 3 (He.ga K "check_node") ["engine", "number", "kinds"] (sp_check_node K) :=
  Txt.fnx T 15 d_check_node rfl rfl sc_check_node (fun _ _ _ _ _ _ us hl => match us, hl with | [_, _, _], _ => rfl) (fun _ => rfl)
  fun cdv A outer s H ⟨⟨e, x, B, nds, dfs⟩, n, d, k, ks⟩ Q E hr ⟨N, hd, hk, hin, h⟩ => by
  have hl := (List.getElem?_eq_some_iff.mp hd).1
  obtain ⟨a, ha, hnode⟩ := N.st.at hd
  refine ⟨_, (pss_cons (ps_expr (pe_fn (f_require T) hr (by decide) T.g_require passS0 (pa_cons (pe_fn (f_is_number T) hr (by decide) T.g_is_number passS0 (pa_cons (pv 1) (pa_cons (pe_callB call_len_seq (by rfl) T.b_len (by decide +kernel) (pa_cons (T.p_State_nodes (T.p_Engine_state (pv 0))) pa_nil)) pa_nil))) (pa_cons pe_str pa_nil))))
    (pss_one (ps_expr (pe_fn (f_require T) hr (by decide) T.g_require passS0 (pa_cons (pe_cmpR op_in_seq (T.p_Node_kind (pe_mt1 (ns := enNs) T.c_Engine T.m_Engine_node (by decide) (f_Engine_node T) hr (by decide) passS0 (pv 0) (pa_cons (pv 1) pa_nil))) (pv 2) rfl) (pa_cons pe_str pa_nil)))))), ?_⟩
  obtain ⟨ndx, nw, nc, np, nh, _, _⟩ := hnode
  refine ⟨_, rfl, _, rfl, _, _, _, _, rfl, N.o, rfl, _, _, _, _, rfl, N.st.o, rfl, _, _, rfl, .inl (SqL.of N.st.n), ((n : Int), (((x.s.nas.map V.ref).length : Nat) : Int)), rfl, Int.natCast_nonneg n, ?_, _, rfl, ?_⟩
  · show (n : Int) < _
    rw [List.length_map, N.st.len]
    omega
  refine ⟨_, rfl, _, _, _, rfl, N.o, _, rfl, ⟨e, x, B, nds, dfs, n, a⟩, rfl, N, ha, ?_⟩
  refine ⟨_, _, _, _, rfl, nh, rfl, _, rfl, _, _, rfl, .inr hk, rfl, flat_strs ks, ?_⟩
  refine ⟨.str "wrong kind", ?_, h⟩
  show [V.bl (inV (.str d.kind) (ks.map V.str)), V.str "wrong kind"] = _
  rw [kind_in hin]
theorem sc_check_context : FnScope ["engine", "number"] ["engine", "number"] (defScope s_check_context) := ⟨rfl, rfl, rfl, by decide +kernel, rfl, by decide +kernel, by decide +kernel⟩
def sp_check_context (K : Frag) : Sp := SpX (fun x : (Addr × EA × Hp × List Nd × List V) × Nat => [.ref x.1.1, .int x.2]) fun ⟨⟨e, x, B, nds, dfs⟩, c⟩ H Q E => En K B H e x nds dfs ∧ c < dfs.length ∧ Q .non H
theorem f_check_context (T : Txt w K mg) : Fn CX0 prog w K mg base 3 (He.ga K "check_context") ["engine", "number"] (sp_check_context K) :=
  Txt.fnx T 16 d_check_context rfl rfl sc_check_context (fun _ _ _ _ _ _ us hl => match us, hl with | [_, _], _ => rfl) (fun _ => rfl)
  fun cdv A outer s H ⟨⟨e, x, B, nds, dfs⟩, c⟩ Q E hr ⟨N, hc, h⟩ => by
  refine ⟨_, (pss_one (ps_expr (pe_fn (f_require T) hr (by decide) T.g_require passS0 (pa_cons (pe_fn (f_is_number T) hr (by decide) T.g_is_number passS0 (pa_cons (pv 1) (pa_cons (pe_callB call_len_seq (by rfl) T.b_len (by decide +kernel) (pa_cons (T.p_State_defaults (T.p_Engine_state (pv 0))) pa_nil)) pa_nil))) (pa_cons pe_str pa_nil))))), ?_⟩
  exact ⟨_, rfl, _, rfl, _, _, _, _, rfl, N.o, rfl, _, _, _, _, rfl, N.st.o, rfl, _, _, rfl, .inl (SqL.of N.st.d), ((c : Int), ((dfs.length : Nat) : Int)), rfl, Int.natCast_nonneg c, by show (c : Int) < _; omega, _, rfl, h⟩
theorem sc_check_value : FnScope ["thing"] ["thing"] (defScope s_check_value) := ⟨rfl, rfl, rfl, by decide +kernel, rfl, by decide +kernel, by decide +kernel⟩
def sp_check_value (K : Frag) : Sp := SpX (fun v : V => [v]) fun v H Q E => Flat v ∧ Q .non H
theorem f_check_value (T : Txt w K mg) : Fn CX0 prog w K mg base 3 (He.ga K "check_value") ["thing"] (sp_check_value K) :=
  Txt.fnx T 17 d_check_value rfl rfl sc_check_value (fun _ _ _ _ _ _ us hl => match us, hl with | [_], _ => rfl) (fun _ => rfl)
  fun cdv A outer s H v Q E hr ⟨hv, h⟩ => by
  refine ⟨_, (pss_one (ps_expr (pe_fn (f_require T) hr (by decide) T.g_require passS0 (pa_cons (pe_fn (f_is_value T) hr (by decide) T.g_is_value passS0 (pa_cons (pv 0) pa_nil)) (pa_cons pe_str pa_nil))))), ?_⟩
  exact ⟨_, rfl, _, rfl, hv, _, rfl, h⟩
theorem sc_require_active : FnScope ["engine", "number"] ["engine", "number"] (defScope s_require_active) := ⟨rfl, rfl, rfl, by decide +kernel, rfl, by decide +kernel, by decide +kernel⟩
def sp_require_active (K : Frag) : Sp := SpX (fun x : (Addr × EA × Hp × List Nd × List V) × Nat × Nd => [.ref x.1.1, .int x.2.1]) fun ⟨⟨e, x, B, nds, dfs⟩, n, d⟩ H Q E => En K B H e x nds dfs ∧ nds[n]? = some d ∧ (d.act = true → Q .non H) ∧ (d.act = false → Err K E H "disposed")
theorem f_require_active (T : Txt w K mg) : Fn (L2.CX prog w) prog w K mg base 2 (He.ga K "require_active") ["engine", "number"] (sp_require_active K) :=
  Txt.fnx T 32 d_require_active rfl rfl sc_require_active (fun _ _ _ _ _ _ us hl => match us, hl with | [_, _], _ => rfl) (fun _ => rfl)
  fun cdv A outer s H ⟨⟨e, x, B, nds, dfs⟩, n, d⟩ Q E hr ⟨N, hd, h1, h2⟩ => by
  obtain ⟨a, ha, hnode⟩ := N.st.at hd
  refine ⟨_, (pss_one (ps_if (pt_not (pt_val (T.p_Node_active (pe_mt1 (ns := enNs) T.c_Engine T.m_Engine_node (by decide) (f_Engine_node T) hr (by decide) passS0 (pv 0) (pa_cons (pv 1) pa_nil))))) (pss_one (ps_raiseE T rfl hr (takes_of rfl rfl rfl rfl) (pa_cons pe_str pa_nil))) pss_nil)), ?_⟩
  obtain ⟨ndx, nw, nc, np, nh, _, _⟩ := hnode
  refine ⟨_, rfl, _, _, _, rfl, N.o, _, rfl, ⟨e, x, B, nds, dfs, n, a⟩, rfl, N, ha, ?_⟩
  refine ⟨_, _, _, _, rfl, nh, rfl, _, rfl, ?_⟩
  cases q : d.act with
  | true => exact h1 q
  | false => exact ⟨_, rfl, fun z hz => h2 q z _ (same_upd hz) hz upd_same⟩

end
end K47
namespace K47
open PySem PySem.Spec PyProof.Rows L2
open PySem.W (Frag)
section
variable {w : World} {K : Frag} {mg : Str → Option Value} {base : Heap}
theorem sc__is_setting_value : FnScope ["engine", "thing"] ["engine", "thing"] (defScope s__is_setting_value) := ⟨rfl, rfl, rfl, by decide +kernel, rfl, by decide +kernel, by decide +kernel⟩
def sp__is_setting_value (K : Frag) : Sp := SpX (fun x : (Addr × EA × Hp × List Nd × List V) × Addr × Nat => [.ref x.1.1, .ref x.2.1]) fun ⟨⟨e, x, B, nds, dfs⟩, t, c⟩ H Q E => En K B H e x nds dfs ∧ H t = some (.tup [.str "context", .int c]) ∧ c < dfs.length ∧ Q (.bl true) H
theorem f__is_setting_value (T : Txt w K mg) : Fn CX0 prog w K mg base 3 (He.ga K "_is_setting_value") ["engine", "thing"] (sp__is_setting_value K) :=
  Txt.fnx T 18 d__is_setting_value rfl rfl sc__is_setting_value (fun _ _ _ _ _ _ us hl => match us, hl with | [_, _], _ => rfl) (fun _ => rfl)
  fun cdv A outer s H ⟨⟨e, x, B, nds, dfs⟩, t, c⟩ Q E hr ⟨N, ht, hc, h⟩ => by
  refine ⟨_, (pss_cons (ps_if (pt_not (pt_val (pe_callB call_isi (by rfl) T.b_isinstance (by decide +kernel) (pa_cons (pv 1) (pa_cons (pg_ty (n := "tuple") T.b_tuple (by decide +kernel)) pa_nil))))) (pss_one (ps_ret (pe_fn (f_is_value T) hr (by decide) T.g_is_value passS0 (pa_cons (pv 1) pa_nil)))) pss_nil)
    (pss_cons (ps_if (pt_cmpR op_ne (pe_callB call_len_seq (by rfl) T.b_len (by decide +kernel) (pa_cons (pv 1) pa_nil)) pe_int (nomark _)) (pss_one (ps_ret pe_bl)) pss_nil)
    (pss_cons (ps_if (pt_cmpR op_eq (pe_ix ix_tup (pv 1) pe_int (fun _ _ => rfl)) pe_str (nomark _)) (pss_one (ps_ret (pe_fn (f_is_number T) hr (by decide) T.g_is_number passS0 (pa_cons (pe_ix ix_tup (pv 1) pe_int (fun _ _ => rfl)) (pa_cons (pe_callB call_len_seq (by rfl) T.b_len (by decide +kernel) (pa_cons (T.p_State_nodes (T.p_Engine_state (pv 0))) pa_nil)) pa_nil))))) pss_nil)
    (pss_one (ps_ret (pe_and (pe_cmpR op_eq (pe_ix ix_tup (pv 1) pe_int (fun _ _ => rfl)) pe_str (nomark _)) (pe_one (pe_fn (f_is_number T) hr (by decide) T.g_is_number passS0 (pa_cons (pe_ix ix_tup (pv 1) pe_int (fun _ _ => rfl)) (pa_cons (pe_callB call_len_seq (by rfl) T.b_len (by decide +kernel) (pa_cons (T.p_State_defaults (T.p_Engine_state (pv 0))) pa_nil)) pa_nil)))))))))), ?_⟩
  refine ⟨_, rfl, _, _, _, _, true, rfl, .ty _, .base (.tup ht), kit_ty (by decide +kernel), _, rfl, ?_⟩
  refine ⟨_, rfl, _, _, rfl, .inr (SqT.of ht), rfl, _, rfl, ?_⟩
  refine ⟨_, rfl, _, _, _, _, rfl, rfl, SqT.of ht, atI_nat (j := 0) rfl, rfl, _, rfl, ?_⟩
  refine ⟨_, rfl, _, _, _, _, rfl, rfl, SqT.of ht, atI_nat (j := 0) rfl, rfl, _, rfl, ?_⟩
  exact ⟨_, rfl, _, _, _, _, rfl, rfl, SqT.of ht, atI_nat (j := 1) rfl, _, rfl, _, _, _, _, rfl, N.o, rfl, _, _, _, _, rfl, N.st.o, rfl, _, _, rfl, .inl (SqL.of N.st.d), ((c : Int), ((dfs.length : Nat) : Int)), rfl, Int.natCast_nonneg c, by show (c : Int) < _; omega, h⟩
theorem sc_check_program : FnScope ["engine", "program", "setting", "name", "thing"] ["engine", "program", "setting"] (defScope s_check_program) := ⟨rfl, rfl, rfl, by decide +kernel, rfl, by decide +kernel, by decide +kernel⟩
/-- the program [("return", ("use", "v"))] -/
structure Prg (H : Hp) (l t u : Addr) : Prop where
  l : H l = some (.lst [.ref t])
  t : H t = some (.tup [.str "return", .ref u])
  u : H u = some (.tup [.str "use", .str "v"])
theorem Prg.mono {H H' : Hp} {l t u : Addr} (p : Prg H l t u) (s : Same H H') : Prg H' l t u := ⟨s _ _ p.l, s _ _ p.t, s _ _ p.u⟩
/-- the setting {"v": ("context", c)} -/
structure Stg (H : Hp) (d tc : Addr) (c : Nat) : Prop where
  d : H d = some (.dK [(.inr "v", .ref tc)])
  t : H tc = some (.tup [.str "context", .int c])
theorem Stg.mono {H H' : Hp} {d tc : Addr} {c : Nat} (p : Stg H d tc c) (s : Same H H') : Stg H' d tc c := ⟨s _ _ p.d, s _ _ p.t⟩
def sp_check_program (K : Frag) : Sp := SpX (fun x : (Addr × EA × Hp × List Nd × List V) × (Addr × Addr × Addr) × Addr × Addr × Nat => [.ref x.1.1, .ref x.2.1.1, .ref x.2.2.1]) fun ⟨⟨e, x, B, nds, dfs⟩, ⟨l, t, u⟩, d, tc, c⟩ H Q E =>
  En K B H e x nds dfs ∧ Prg H l t u ∧ Stg H d tc c ∧ c < dfs.length ∧ ∀ H', Same H H' → Q .non H'
theorem same_unlock {H H' : Hp} {d : Addr} {u f : HO} (hd : H d = some u) (s : Same (upd H d f) H') : Same H (upd H' d u) := fun b o e => by
  by_cases z : b = d
  · rw [z, upd_same, ← hd, ← z]
    exact e
  · rw [upd_ne z]
    exact s b o (by rw [upd_ne z]; exact e)
theorem f_check_program (T : Txt w K mg) : Fn CX0 prog w K mg base 8 (He.ga K "check_program") ["engine", "program", "setting"] (sp_check_program K) :=
  Txt.fnx T 19 d_check_program rfl rfl sc_check_program (fun _ _ _ _ _ _ us hl => match us, hl with | [_, _, _], _ => rfl) (fun _ => rfl)
  fun cdv A outer s H ⟨⟨e, x, B, nds, dfs⟩, ⟨l, t, u⟩, d, tc, c⟩ Q E hr ⟨N, P, S, hc, h⟩ => by
  refine ⟨_, (pss_cons (ps_expr (pe_fn (f_require T) hr (by decide) T.g_require passS0 (pa_cons (pe_fn (f_is_program T) hr (by decide) T.g_is_program passS0 (pa_cons (pv 1) pa_nil)) (pa_cons pe_str pa_nil))))
    (pss_cons (ps_expr (pe_fn (f_require T) hr (by decide) T.g_require passS0 (pa_cons (pe_callB call_isi (by rfl) T.b_isinstance (by decide +kernel) (pa_cons (pv 2) (pa_cons (pg_ty (n := "dict") T.b_dict (by decide +kernel)) pa_nil))) (pa_cons pe_str pa_nil))))
    (pss_one (ps_lock (ps_for (passes_of rfl) rfl (pi_items (pv 2)) (pg_tup rfl (pgs_cons (pg_name (i := 3) sc_check_program.nd rfl (.inl rfl)) (pgs_cons (pg_name (i := 4) sc_check_program.nd rfl (.inl rfl)) pgs_nil))) (pss_one (ps_expr (pe_fn (f_require T) hr (by decide) T.g_require passS0 (pa_cons (pe_and (pe_fn (f_is_key T) hr (by decide) T.g_is_key passS0 (pa_cons (pv 3) pa_nil)) (pe_one (pe_fn (f__is_setting_value T) hr (by decide) T.g__is_setting_value passS0 (pa_cons (pv 0) (pa_cons (pv 4) pa_nil))))) (pa_cons pe_str pa_nil)))))))))), ?_⟩
  refine ⟨_, rfl, (l, t, u), rfl, P.l, P.t, P.u, fun H1 s1 => ?_⟩
  refine ⟨_, rfl, ?_⟩
  have N1 := N.mono s1
  have S1 := S.mono s1
  refine ⟨_, rfl, _, _, _, _, true, rfl, .ty _, .base (.dK S1.d), kit_ty (by decide +kernel), _, rfl, ?_⟩
  refine ⟨d, _, S1.d, trivial, fun od => ?_⟩
  refine ⟨_, rfl, _, _, _, rfl, upd_same, ?_⟩
  have N2 := N1.out (o := .frz od (.dK [(.inr "v", .ref tc)])) S1.d rfl fun t z => by cases z
  refine ⟨fun i m σ H' => i ≤ 1 ∧ m = 1 - i ∧ (∃ u1 v1, σ = [some (.ref e), some (.ref l), some (.ref d), u1, v1]) ∧ Same (upd H1 d (.frz od (.dK [(.inr "v", .ref tc)]))) H', ⟨1, Nat.zero_le _, rfl, ⟨_, _, rfl⟩, Same.refl _⟩, ?_⟩
  rintro i m σ H' ⟨hi, rfl, ⟨u1, v1, rfl⟩, sm⟩
  by_cases h0 : i = 0
  · subst h0
    refine .inr ⟨⟨sm _ _ upd_same, by show 0 < 1; omega⟩, fun σ H' => (∃ u1 v1, σ = [some (.ref e), some (.ref l), some (.ref d), u1, v1]) ∧ Same (upd H1 d (.frz od (.dK [(.inr "v", .ref tc)]))) H', fun σ' H' ⟨a, b⟩ => ⟨0, by omega, by omega, rfl, a, b⟩, fun y H2 ⟨tp, k, v, hk, ey, nt, eH⟩ => ?_⟩
    cases hk
    subst ey eH
    have s2 := sm.trans (same_upd (o := .tup [kV (.inr "v"), .ref tc]) nt)
    refine ⟨_, _, rfl, SqT.of upd_same, rfl, _, _, rfl, _, _, rfl, rfl, ?_⟩
    refine ⟨_, rfl, (), rfl, fun H3 s3 => ?_⟩
    have N3 := N2.mono (s2.trans s3)
    have t1 : d ≠ tc := fun z => by
      have q := S1.t
      rw [← z, S1.d] at q
      cases q
    have ht : H3 tc = some (.tup [.str "context", .int c]) := (s2.trans s3) _ _ (by rw [upd_ne (Ne.symm t1)]; exact S1.t)
    refine ⟨true, rfl, _, rfl, _, rfl, (⟨e, x, _, nds, dfs⟩, tc, c), rfl, N3, ht, hc, _, rfl, ?_⟩
    exact ⟨⟨_, _, rfl⟩, s2.trans s3⟩
  · have e1 : i = 1 := by omega
    subst e1
    refine .inl ⟨⟨sm _ _ upd_same, by show 1 ≤ 1; omega⟩, sm _ _ upd_same, ?_⟩
    exact h _ (s1.trans (same_unlock S1.d sm))
theorem sc__frozen : FnScope ["statement", "parts", "kind", "part"] ["statement"] (defScope s__frozen) := ⟨rfl, rfl, rfl, by decide +kernel, rfl, by decide +kernel, by decide +kernel⟩
def sp__frozen (K : Frag) : Sp := SpX (fun x : Addr × Addr => [.ref x.1]) fun ⟨t, u⟩ H Q E => H t = some (.tup [.str "return", .ref u]) ∧ ∀ H' t', Same H H' → H t' = none → H' t' = some (.tup [.str "return", .ref u]) → Q (.ref t') H'
theorem f__frozen (T : Txt w K mg) : Fn CX0 prog w K mg base 2 (He.ga K "_frozen") ["statement"] (sp__frozen K) :=
  Txt.fnx T 11 d__frozen rfl rfl sc__frozen (fun _ _ _ _ _ _ us hl => match us, hl with | [_], _ => rfl) (fun _ => rfl)
  fun cdv A outer s H ⟨t, u⟩ Q E hr ⟨ht, h⟩ => by
  obtain ⟨es, n, D⟩ := T.tS
  refine ⟨_, (pss_cons (ps_set (i := 1) sc__frozen.nd rfl (.inl rfl) (pe_lst (pa_cons (pe_ix ix_tup (pv 0) pe_int (fun _ _ => rfl)) pa_nil)))
    (pss_cons (ps_for (passes_of rfl) rfl (RZ.pi_zipA (by rfl) T.b_zip (pa_cons (pe_ix ix_kdict (pg_r T.g_STATEMENTS) (pe_ix ix_tup (pv 0) pe_int (fun _ _ => rfl)) (fun _ _ => rfl)) (pa_cons (pe_slice sl_tup (pv 0) (po_some pe_int) po_none) pa_nil))) (pg_tup rfl (pgs_cons (pg_name (i := 2) sc__frozen.nd rfl (.inl rfl)) (pgs_cons (pg_name (i := 3) sc__frozen.nd rfl (.inl rfl)) pgs_nil))) (pss_one (ps_if (pt_cmpR op_eq (pv 2) pe_str (nomark _)) (pss_one (ps_expr (pe_bm PySem.F.plainAttrs_list PySem.F.slot_list_append PySem.F.type_list_append mt_append (pv 1) (pa_cons pe_never pa_nil)))) (pss_one (ps_if (pt_cmpR op_eq (pv 2) pe_str (nomark _)) (pss_one (ps_expr (pe_bm PySem.F.plainAttrs_list PySem.F.slot_list_append PySem.F.type_list_append mt_append (pv 1) (pa_cons (pe_callTy call_list_of (by rfl) T.b_list (by decide +kernel) (pa_cons (pv 3) pa_nil)) pa_nil)))) (pss_one (ps_expr (pe_bm PySem.F.plainAttrs_list PySem.F.slot_list_append PySem.F.type_list_append mt_append (pv 1) (pa_cons (pv 3) pa_nil)))))))))
    (pss_one (ps_ret (pe_callTy call_tuple_of (by rfl) T.b_tuple (by decide +kernel) (pa_cons (pv 1) pa_nil)))))), ?_⟩
  refine ⟨_, rfl, _, _, _, _, rfl, rfl, SqT.of ht, atI_nat (j := 0) rfl, by rw [sizeLine_eq]; decide, fun l nl => ?_⟩
  have t1 := same_upd (H := H) (o := .lst [.str "return"]) nl
  refine ⟨_, rfl, _, _, _, _, rfl, rfl, SqT.of (t1 _ _ ht), atI_nat (j := 0) rfl, _, _, .ref (tabV K "STATEMENTS" "return"), rfl, rfl, ⟨_, _, _, D.at_, D.lit, T.vS.1, rfl⟩, ?_⟩
  refine ⟨_, rfl, 1, rfl, _, _, rfl, SqT.of (t1 _ _ ht), by show ¬ (HT.sIx 2 0 (some 1) = 0 ∧ HT.sIx 2 2 none = 2); decide, fun p hp => ?_⟩
  have t2 := same_upd (H := upd H l (.lst [.str "return"])) (o := .tup [.ref u]) hp
  refine ⟨_, _, _, _, rfl, .inr ⟨T.vS.2 _, SqT.of upd_same, ?_⟩⟩
  have npl : p ≠ l := fun z => by rw [z, upd_same] at hp; cases hp
  refine RZ.for_zipT (xs := [.str "expression"]) (ys := [.ref u]) rfl (fun i σ H' => (∃ u1 v1, σ = [some (.ref t), some (.ref l), u1, v1]) ∧ Same H H' ∧ H' p = some (.tup [.ref u]) ∧ H' l = some (.lst (if i = 0 then [.str "return"] else [.str "return", .ref u])))
    ⟨⟨_, _, rfl⟩, t1.trans t2, upd_same, t2 _ _ upd_same⟩ (fun i σ H' q => ⟨T.vS.2 _, SqT.of q.2.2.1⟩) (fun i x y tp σ H' hx hy q hT => ?_) (fun σ H' q => ?_)
  · obtain ⟨⟨u1, v1, rfl⟩, sm, hp', hl'⟩ := q
    have hi : i = 0 := by
      have := (List.getElem?_eq_some_iff.mp hx).1
      simp at this
      exact this
    subst hi
    cases hx
    cases hy
    have s3 := same_upd (H := H') (o := .tup [.str "expression", .ref u]) hT
    refine ⟨_, _, rfl, SqT.of upd_same, rfl, _, _, rfl, _, _, rfl, rfl, ?_⟩
    refine ⟨_, rfl, rfl, _, rfl, ?_⟩
    refine ⟨_, rfl, rfl, _, rfl, ?_⟩
    refine ⟨_, rfl, .inl ⟨rfl, _, SqL.of (s3 _ _ hl')⟩, _, rfl, l, _, _, rfl, rfl, s3 _ _ hl', by rw [sizeLine_eq]; show 1 < 16777216; omega, ?_⟩
    have nl' : H l = none := nl
    refine ⟨⟨_, _, rfl⟩, same_put (sm.trans s3) nl', ?_, ?_⟩
    · rw [upd_ne npl]
      exact s3 _ _ hp'
    · rw [upd_same]
      rfl
  · obtain ⟨⟨u1, v1, rfl⟩, sm, hp', hl'⟩ := q
    refine ⟨_, rfl, _, _, rfl, .inl ⟨SqL.of hl', fun t' nt => ?_⟩⟩
    exact h _ t' (sm.trans (same_upd nt)) (sm.free nt) upd_same
theorem sc_frozen : FnScope ["program", "statement"] ["program"] (defScope s_frozen) := ⟨rfl, rfl, rfl, by decide +kernel, rfl, by decide +kernel, by decide +kernel⟩
def sp_frozen (K : Frag) : Sp := SpX (fun x : Addr × Addr × Addr => [.ref x.1]) fun ⟨l, t, u⟩ H Q E => Prg H l t u ∧ ∀ H' l' t', Same H H' → H l' = none → Prg H' l' t' u → Q (.ref l') H'
theorem f_frozen (T : Txt w K mg) : Fn CX0 prog w K mg base 3 (He.ga K "frozen") ["program"] (sp_frozen K) :=
  Txt.fnx T 12 d_frozen rfl rfl sc_frozen (fun _ _ _ _ _ _ us hl => match us, hl with | [_], _ => rfl) (fun _ => rfl)
  fun cdv A outer s H ⟨l, t, u⟩ Q E hr ⟨P, h⟩ => by
  refine ⟨_, (pss_one (ps_ret (pe_lc (own := [("statement", 1)]) (g := gName 1) rfl sc_frozen.nd (pi_list (pv 0)) (blkOk_by (own := [("statement", 1)]) (N := ["program", "statement"]) (sc := defScope s_frozen) (by decide +kernel)) (fun _ _ _ _ _ => (pg_name (i := 1) sc_frozen.nd rfl (.inl rfl))) (fun _ _ _ _ _ => pts_nil) (fun _ _ _ _ _ => (pe_fn (f__frozen T) hr (by decide) T.g__frozen passS0 (pa_cons (pv 1) pa_nil)))))), ?_⟩
  refine ⟨_, rfl, _, rfl, ⟨_, SqL.of P.l⟩, fun D nD => ?_⟩
  refine lc_list (K := K) (a := l) (xs := [.ref t]) (fun i H' => Same H H' ∧ ((i = 0 ∧ H' D = some (.lst [])) ∨ (i = 1 ∧ ∃ t', Prg H' D t' u))) ⟨same_upd nD, .inl ⟨rfl, upd_same⟩⟩ (fun i H' _ q => SqL.of (q.1 _ _ P.l)) (fun i x H' hx q => ?_) (fun H' q => ?_)
  · have hi : i = 0 := by
      have := (List.getElem?_eq_some_iff.mp hx).1
      simp at this
      exact this
    subst hi
    cases hx
    obtain ⟨sm, q⟩ := q
    rcases q with ⟨_, hD⟩ | ⟨z, _⟩
    · refine ⟨rfl, ?_⟩
      refine ⟨_, rfl, (t, u), rfl, sm _ _ P.t, fun H2 t' s2 nt ht' => ?_⟩
      refine ⟨_, s2 _ _ hD, by rw [sizeLine_eq]; decide, same_put (sm.trans s2) nD, .inr ⟨rfl, t', upd_same, ?_, ?_⟩⟩
      · rw [upd_ne fun z => by rw [z, hD] at nt; cases nt]
        exact ht'
      · rw [upd_ne fun z => by rw [← z, P.u] at nD; cases nD]
        exact (sm.trans s2) _ _ P.u
    · cases z
  · obtain ⟨sm, q⟩ := q
    rcases q with ⟨z, _⟩ | ⟨_, t', q⟩
    · cases z
    · exact h _ D t' sm nD q

end
end K47
namespace K47
open PySem PySem.Spec PyProof.Rows L2
open PySem.W (Frag)
section
variable {w : World} {K : Frag} {mg : Str → Option Value} {base : Heap}
/-! objects made -/
/-- x is at work as u; P: what else was made; B: what stood before -/
structure Led (B H : Hp) (x : Addr) (u : HO) (P : List (Addr × HO)) : Prop where
  sm : Same B H
  ob : H x = some u
  at_ : ∀ p ∈ P, H p.1 = some p.2
  nd : (x :: P.map (·.1)).Nodup
  bx : B x = none
  fr : ∀ p ∈ P, B p.1 = none
theorem Led.start {B H : Hp} {x : Addr} {u : HO} (s : Same B H) (h : H x = some u) (b : B x = none) : Led B H x u [] := ⟨s, h, (fun p m => by cases m), (by simp), b, (fun p m => by cases m)⟩
theorem Led.nx {B H : Hp} {x : Addr} {u : HO} {P : List (Addr × HO)} (L : Led B H x u P) {p : Addr} (n : H p = none) : x ≠ p := ne_of_none L.ob n
theorem Led.nP {B H : Hp} {x : Addr} {u : HO} {P : List (Addr × HO)} (L : Led B H x u P) {p : Addr} (n : H p = none) : p ∉ x :: P.map (·.1) := fun m => by
  rcases List.mem_cons.mp m with e | e
  · exact L.nx n e.symm
  · obtain ⟨q, hq, e⟩ := List.mem_map.mp e
    have := L.at_ q hq
    rw [e, n] at this
    cases this
theorem Led.put {B H : Hp} {x : Addr} {u : HO} {P : List (Addr × HO)} (L : Led B H x u P) (o : HO) : Led B (upd H x o) x o P :=
  ⟨same_put L.sm L.bx, upd_same, (fun p m => by
    have n : p.1 ≠ x := fun z => (List.nodup_cons.mp L.nd).1 (by rw [← z]; exact List.mem_map_of_mem m)
    rw [upd_ne n]
    exact L.at_ p m), L.nd, L.bx, L.fr⟩
theorem Led.add {B H : Hp} {x p : Addr} {u o : HO} {P : List (Addr × HO)} (L : Led B H x u P) (h : H p = some o) (n : p ∉ x :: P.map (·.1)) (b : B p = none) : Led B H x u ((p, o) :: P) := by
  refine ⟨L.sm, L.ob, fun q m => ?_, ?_, L.bx, fun q m => ?_⟩
  · rcases List.mem_cons.mp m with e | e
    · rw [e]; exact h
    · exact L.at_ q e
  · have h1 := List.nodup_cons.mp L.nd
    have n1 : p ≠ x ∧ p ∉ P.map (·.1) := ⟨fun z => n (by simp [z]), fun z => n (List.mem_cons_of_mem _ z)⟩
    refine List.nodup_cons.mpr ⟨fun z => ?_, List.nodup_cons.mpr ⟨n1.2, h1.2⟩⟩
    rcases List.mem_cons.mp z with e | e
    · exact n1.1 e.symm
    · exact h1.1 e
  · rcases List.mem_cons.mp m with e | e
    · rw [e]; exact b
    · exact L.fr q e
theorem Led.mono {B H H' : Hp} {x : Addr} {u : HO} {P : List (Addr × HO)} (L : Led B H x u P) (s : Same H H') : Led B H' x u P := ⟨L.sm.trans s, s _ _ L.ob, fun p m => s _ _ (L.at_ p m), L.nd, L.bx, L.fr⟩
theorem Led.new {B H : Hp} {x p : Addr} {u : HO} {P : List (Addr × HO)} (L : Led B H x u P) (n : H p = none) (o : HO) : Led B (upd H p o) x u ((p, o) :: P) :=
  (L.mono (same_upd n)).add upd_same (L.nP n) (L.sm.free n)
theorem sc_Node_init : FnScope ["self", "kind", "owner"] ["self", "kind", "owner"] (defScope s_Node_init) := ⟨rfl, rfl, rfl, by decide +kernel, rfl, by decide +kernel, by decide +kernel⟩
def sp_Node_init (K : Frag) : Sp := SpX (fun x : Addr × Addr × Str × Option Nat × Hp => [.ref x.1, .str x.2.2.1, ownV x.2.2.2.1]) fun ⟨x, dx, k, o, B⟩ H Q E => H x = some (.ins (He.ga K "Node") dx []) ∧ Same B H ∧ B x = none ∧
  ∀ H', Same B H' → NodeOk K H' x ⟨k, o, true, []⟩ → Q .non H'
theorem f_Node_init (T : Txt w K mg) : Fn CX0 prog w K mg base 1 (He.ma K (He.ga K "Node") "__init__") ["self", "kind", "owner"] (sp_Node_init K) :=
  Txt.fnx T 55 d_Node_init rfl rfl sc_Node_init (fun _ _ _ _ _ _ us hl => match us, hl with | [_, _, _], _ => rfl) (fun _ => rfl)
  fun cdv A outer s H ⟨x, dx, k, o, B⟩ Q E hr ⟨hx, sB, bx, h⟩ => by
  refine ⟨_, (pss_cons (T.q_Node_kind (pv 0) (pv 1))
    (pss_cons (T.q_Node_owner (pv 0) (pv 2))
    (pss_cons (T.q_Node_active (pv 0) pe_bl)
    (pss_cons (T.q_Node_value (pv 0) pe_non)
    (pss_cons (T.q_Node_pairs (pv 0) (pe_tup pa_nil))
    (pss_cons (T.q_Node_program (pv 0) (pe_lst pa_nil))
    (pss_cons (T.q_Node_setting (pv 0) pe_dnewK)
    (pss_cons (T.q_Node_store (pv 0) pe_non)
    (pss_cons (T.q_Node_name (pv 0) pe_non)
    (pss_cons (T.q_Node_kept (pv 0) pe_non)
    (pss_cons (T.q_Node_reads (pv 0) pe_non)
    (pss_cons (T.q_Node_checked (pv 0) (pe_un un_neg pe_int))
    (pss_cons (T.q_Node_cleanups (pv 0) (pe_tup pa_nil))
    (pss_cons (T.q_Node_provided (pv 0) (pe_tup pa_nil))
    (pss_cons (T.q_Node_latest (pv 0) pe_non)
    (pss_one (T.q_Node_children (pv 0) (pe_tup pa_nil)))))))))))))))))), ?_⟩
  have L := Led.start sB hx bx
  refine ⟨_, rfl, _, rfl, _, _, [], rfl, L.ob, Nat.le_refl _, ?_⟩
  have L := L.put (Ins (He.ga K "Node") dx nodeNs (setA [] 0 (.str k)))
  refine ⟨_, rfl, _, rfl, _, _, _, rfl, L.ob, Nat.le_refl _, ?_⟩
  have L := L.put (Ins (He.ga K "Node") dx nodeNs (setA (setA [] 0 (.str k)) 1 (ownV o)))
  refine ⟨_, rfl, _, _, _, rfl, L.ob, Nat.le_refl _, ?_⟩
  have L := L.put (Ins (He.ga K "Node") dx nodeNs [.str k, ownV o, .bl true])
  refine ⟨_, rfl, _, _, _, rfl, L.ob, Nat.le_refl _, ?_⟩
  have L := L.put (Ins (He.ga K "Node") dx nodeNs [.str k, ownV o, .bl true, .non])
  refine ⟨Nat.zero_le _, fun t1 n1 => ?_⟩
  have L := L.new n1 (.tup [])
  refine ⟨_, rfl, _, _, _, rfl, L.ob, Nat.le_refl _, ?_⟩
  have L := L.put (Ins (He.ga K "Node") dx nodeNs [.str k, ownV o, .bl true, .non, .ref t1])
  refine ⟨Nat.zero_le _, fun t2 n2 => ?_⟩
  have L := L.new n2 (.lst [])
  refine ⟨_, rfl, _, _, _, rfl, L.ob, Nat.le_refl _, ?_⟩
  have L := L.put (Ins (He.ga K "Node") dx nodeNs [.str k, ownV o, .bl true, .non, .ref t1, .ref t2])
  intro t3 n3
  have L := L.new n3 (.dK [])
  refine ⟨_, rfl, _, _, _, rfl, L.ob, Nat.le_refl _, ?_⟩
  have L := L.put (Ins (He.ga K "Node") dx nodeNs [.str k, ownV o, .bl true, .non, .ref t1, .ref t2, .ref t3])
  refine ⟨_, rfl, _, _, _, rfl, L.ob, Nat.le_refl _, ?_⟩
  have L := L.put (Ins (He.ga K "Node") dx nodeNs [.str k, ownV o, .bl true, .non, .ref t1, .ref t2, .ref t3, .non])
  refine ⟨_, rfl, _, _, _, rfl, L.ob, Nat.le_refl _, ?_⟩
  have L := L.put (Ins (He.ga K "Node") dx nodeNs [.str k, ownV o, .bl true, .non, .ref t1, .ref t2, .ref t3, .non, .non])
  refine ⟨_, rfl, _, _, _, rfl, L.ob, Nat.le_refl _, ?_⟩
  have L := L.put (Ins (He.ga K "Node") dx nodeNs [.str k, ownV o, .bl true, .non, .ref t1, .ref t2, .ref t3, .non, .non, .non])
  refine ⟨_, rfl, _, _, _, rfl, L.ob, Nat.le_refl _, ?_⟩
  have L := L.put (Ins (He.ga K "Node") dx nodeNs [.str k, ownV o, .bl true, .non, .ref t1, .ref t2, .ref t3, .non, .non, .non, .non])
  refine ⟨_, rfl, _, rfl, _, _, _, rfl, L.ob, Nat.le_refl _, ?_⟩
  have L := L.put (Ins (He.ga K "Node") dx nodeNs [.str k, ownV o, .bl true, .non, .ref t1, .ref t2, .ref t3, .non, .non, .non, .non, .int (-1)])
  refine ⟨Nat.zero_le _, fun t4 n4 => ?_⟩
  have L := L.new n4 (.tup [])
  refine ⟨_, rfl, _, _, _, rfl, L.ob, Nat.le_refl _, ?_⟩
  have L := L.put (Ins (He.ga K "Node") dx nodeNs [.str k, ownV o, .bl true, .non, .ref t1, .ref t2, .ref t3, .non, .non, .non, .non, .int (-1), .ref t4])
  refine ⟨Nat.zero_le _, fun t5 n5 => ?_⟩
  have L := L.new n5 (.tup [])
  refine ⟨_, rfl, _, _, _, rfl, L.ob, Nat.le_refl _, ?_⟩
  have L := L.put (Ins (He.ga K "Node") dx nodeNs [.str k, ownV o, .bl true, .non, .ref t1, .ref t2, .ref t3, .non, .non, .non, .non, .int (-1), .ref t4, .ref t5])
  refine ⟨_, rfl, _, _, _, rfl, L.ob, Nat.le_refl _, ?_⟩
  have L := L.put (Ins (He.ga K "Node") dx nodeNs [.str k, ownV o, .bl true, .non, .ref t1, .ref t2, .ref t3, .non, .non, .non, .non, .int (-1), .ref t4, .ref t5, .non])
  refine ⟨Nat.zero_le _, fun t6 n6 => ?_⟩
  have L := L.new n6 (.tup [])
  refine ⟨_, rfl, _, _, _, rfl, L.ob, Nat.le_refl _, ?_⟩
  have L := L.put (Ins (He.ga K "Node") dx nodeNs [.str k, ownV o, .bl true, .non, .ref t1, .ref t2, .ref t3, .non, .non, .non, .non, .int (-1), .ref t4, .ref t5, .non, .ref t6])
  refine h _ L.sm ⟨dx, ⟨.non, .ref t1, .ref t2, .ref t3, .non, .non, .non, .non, .int (-1), .non, .ref t6⟩, t4, t5, L.ob, L.at_ (t4, .tup []) (by simp), ⟨[], L.at_ (t5, .tup []) (by simp), .nil⟩⟩
theorem sc_Node_copy : FnScope ["self", "other"] ["self"] (defScope s_Node_copy) := ⟨rfl, rfl, rfl, by decide +kernel, rfl, by decide +kernel, by decide +kernel⟩
def sp_Node_copy (K : Frag) : Sp := SpX (fun x : Addr × Nd => [.ref x.1]) fun ⟨a, d⟩ H Q E => NodeOk K H a d ∧ ∀ H' a', Same H H' → H a' = none → NodeOk K H' a' d → Q (.ref a') H'
theorem f_Node_copy (T : Txt w K mg) : Fn CX0 prog w K mg base 3 (He.ma K (He.ga K "Node") "copy") ["self"] (sp_Node_copy K) :=
  Txt.fnx T 56 d_Node_copy rfl rfl sc_Node_copy (fun _ _ _ _ _ _ us hl => match us, hl with | [_], _ => rfl) (fun _ => rfl)
  fun cdv A outer s H ⟨a, d⟩ Q E hr ⟨hn, h⟩ => by
  obtain ⟨adx, aw, ac, ap, ha, hc, hp⟩ := hn
  refine ⟨_, (pss_cons (ps_set (i := 1) sc_Node_copy.nd rfl (.inl rfl) (pe_mk1 T.k_Node (f_Node_init T) hr (by decide) T.g_Node passS0 (pa_cons (T.p_Node_kind (pv 0)) (pa_cons (T.p_Node_owner (pv 0)) pa_nil))))
    (pss_cons (T.q_Node_active (pv 1) (T.p_Node_active (pv 0)))
    (pss_cons (T.q_Node_value (pv 1) (T.p_Node_value (pv 0)))
    (pss_cons (T.q_Node_pairs (pv 1) (T.p_Node_pairs (pv 0)))
    (pss_cons (T.q_Node_program (pv 1) (T.p_Node_program (pv 0)))
    (pss_cons (T.q_Node_setting (pv 1) (T.p_Node_setting (pv 0)))
    (pss_cons (T.q_Node_store (pv 1) (T.p_Node_store (pv 0)))
    (pss_cons (T.q_Node_name (pv 1) (T.p_Node_name (pv 0)))
    (pss_cons (T.q_Node_kept (pv 1) (T.p_Node_kept (pv 0)))
    (pss_cons (T.q_Node_reads (pv 1) (T.p_Node_reads (pv 0)))
    (pss_cons (T.q_Node_checked (pv 1) (T.p_Node_checked (pv 0)))
    (pss_cons (T.q_Node_cleanups (pv 1) (T.p_Node_cleanups (pv 0)))
    (pss_cons (T.q_Node_provided (pv 1) (T.p_Node_provided (pv 0)))
    (pss_cons (T.q_Node_latest (pv 1) (T.p_Node_latest (pv 0)))
    (pss_cons (T.q_Node_children (pv 1) (T.p_Node_children (pv 0)))
    (pss_one (ps_ret (pv 1)))))))))))))))))), ?_⟩
  refine ⟨_, rfl, _, _, _, _, rfl, ha, rfl, _, rfl, _, _, _, _, rfl, ha, rfl, fun x dx nx ndx ne => ?_⟩
  have nax : a ≠ x := ne_of_none ha nx
  refine ⟨(x, dx, d.kind, d.own, H), rfl, upd_same, fun b o e => ?_, nx, fun H1 s1 hx1 => ⟨rfl, ?_⟩⟩
  · rw [upd_ne (ne_of_none e nx), upd_ne (ne_of_none e ndx)]
    exact e
  obtain ⟨xdx, xw, xc, xp, hx, hxc, hxp⟩ := hx1
  have L := Led.start s1 hx nx
  refine ⟨_, rfl, _, _, _, _, rfl, L.sm _ _ ha, rfl, _, rfl, _, _, _, rfl, L.ob, by show 2 ≤ 16; omega, ?_⟩
  have L := L.put (Ins (He.ga K "Node") xdx nodeNs [.str d.kind, ownV d.own, .bl d.act, xw.value, xw.pairs, xw.program, xw.setting, xw.store, xw.name, xw.kept, xw.reads, xw.checked, .ref xc, .ref xp, xw.latest, xw.children])
  refine ⟨_, rfl, _, _, _, _, rfl, L.sm _ _ ha, rfl, _, rfl, _, _, _, rfl, L.ob, by show 3 ≤ 16; omega, ?_⟩
  have L := L.put (Ins (He.ga K "Node") xdx nodeNs [.str d.kind, ownV d.own, .bl d.act, aw.value, xw.pairs, xw.program, xw.setting, xw.store, xw.name, xw.kept, xw.reads, xw.checked, .ref xc, .ref xp, xw.latest, xw.children])
  refine ⟨_, rfl, _, _, _, _, rfl, L.sm _ _ ha, rfl, _, rfl, _, _, _, rfl, L.ob, by show 4 ≤ 16; omega, ?_⟩
  have L := L.put (Ins (He.ga K "Node") xdx nodeNs [.str d.kind, ownV d.own, .bl d.act, aw.value, aw.pairs, xw.program, xw.setting, xw.store, xw.name, xw.kept, xw.reads, xw.checked, .ref xc, .ref xp, xw.latest, xw.children])
  refine ⟨_, rfl, _, _, _, _, rfl, L.sm _ _ ha, rfl, _, rfl, _, _, _, rfl, L.ob, by show 5 ≤ 16; omega, ?_⟩
  have L := L.put (Ins (He.ga K "Node") xdx nodeNs [.str d.kind, ownV d.own, .bl d.act, aw.value, aw.pairs, aw.program, xw.setting, xw.store, xw.name, xw.kept, xw.reads, xw.checked, .ref xc, .ref xp, xw.latest, xw.children])
  refine ⟨_, rfl, _, _, _, _, rfl, L.sm _ _ ha, rfl, _, rfl, _, _, _, rfl, L.ob, by show 6 ≤ 16; omega, ?_⟩
  have L := L.put (Ins (He.ga K "Node") xdx nodeNs [.str d.kind, ownV d.own, .bl d.act, aw.value, aw.pairs, aw.program, aw.setting, xw.store, xw.name, xw.kept, xw.reads, xw.checked, .ref xc, .ref xp, xw.latest, xw.children])
  refine ⟨_, rfl, _, _, _, _, rfl, L.sm _ _ ha, rfl, _, rfl, _, _, _, rfl, L.ob, by show 7 ≤ 16; omega, ?_⟩
  have L := L.put (Ins (He.ga K "Node") xdx nodeNs [.str d.kind, ownV d.own, .bl d.act, aw.value, aw.pairs, aw.program, aw.setting, aw.store, xw.name, xw.kept, xw.reads, xw.checked, .ref xc, .ref xp, xw.latest, xw.children])
  refine ⟨_, rfl, _, _, _, _, rfl, L.sm _ _ ha, rfl, _, rfl, _, _, _, rfl, L.ob, by show 8 ≤ 16; omega, ?_⟩
  have L := L.put (Ins (He.ga K "Node") xdx nodeNs [.str d.kind, ownV d.own, .bl d.act, aw.value, aw.pairs, aw.program, aw.setting, aw.store, aw.name, xw.kept, xw.reads, xw.checked, .ref xc, .ref xp, xw.latest, xw.children])
  refine ⟨_, rfl, _, _, _, _, rfl, L.sm _ _ ha, rfl, _, rfl, _, _, _, rfl, L.ob, by show 9 ≤ 16; omega, ?_⟩
  have L := L.put (Ins (He.ga K "Node") xdx nodeNs [.str d.kind, ownV d.own, .bl d.act, aw.value, aw.pairs, aw.program, aw.setting, aw.store, aw.name, aw.kept, xw.reads, xw.checked, .ref xc, .ref xp, xw.latest, xw.children])
  refine ⟨_, rfl, _, _, _, _, rfl, L.sm _ _ ha, rfl, _, rfl, _, _, _, rfl, L.ob, by show 10 ≤ 16; omega, ?_⟩
  have L := L.put (Ins (He.ga K "Node") xdx nodeNs [.str d.kind, ownV d.own, .bl d.act, aw.value, aw.pairs, aw.program, aw.setting, aw.store, aw.name, aw.kept, aw.reads, xw.checked, .ref xc, .ref xp, xw.latest, xw.children])
  refine ⟨_, rfl, _, _, _, _, rfl, L.sm _ _ ha, rfl, _, rfl, _, _, _, rfl, L.ob, by show 11 ≤ 16; omega, ?_⟩
  have L := L.put (Ins (He.ga K "Node") xdx nodeNs [.str d.kind, ownV d.own, .bl d.act, aw.value, aw.pairs, aw.program, aw.setting, aw.store, aw.name, aw.kept, aw.reads, aw.checked, .ref xc, .ref xp, xw.latest, xw.children])
  refine ⟨_, rfl, _, _, _, _, rfl, L.sm _ _ ha, rfl, _, rfl, _, _, _, rfl, L.ob, by show 12 ≤ 16; omega, ?_⟩
  have L := L.put (Ins (He.ga K "Node") xdx nodeNs [.str d.kind, ownV d.own, .bl d.act, aw.value, aw.pairs, aw.program, aw.setting, aw.store, aw.name, aw.kept, aw.reads, aw.checked, .ref ac, .ref xp, xw.latest, xw.children])
  refine ⟨_, rfl, _, _, _, _, rfl, L.sm _ _ ha, rfl, _, rfl, _, _, _, rfl, L.ob, by show 13 ≤ 16; omega, ?_⟩
  have L := L.put (Ins (He.ga K "Node") xdx nodeNs [.str d.kind, ownV d.own, .bl d.act, aw.value, aw.pairs, aw.program, aw.setting, aw.store, aw.name, aw.kept, aw.reads, aw.checked, .ref ac, .ref ap, xw.latest, xw.children])
  refine ⟨_, rfl, _, _, _, _, rfl, L.sm _ _ ha, rfl, _, rfl, _, _, _, rfl, L.ob, by show 14 ≤ 16; omega, ?_⟩
  have L := L.put (Ins (He.ga K "Node") xdx nodeNs [.str d.kind, ownV d.own, .bl d.act, aw.value, aw.pairs, aw.program, aw.setting, aw.store, aw.name, aw.kept, aw.reads, aw.checked, .ref ac, .ref ap, aw.latest, xw.children])
  refine ⟨_, rfl, _, _, _, _, rfl, L.sm _ _ ha, rfl, _, rfl, _, _, _, rfl, L.ob, by show 15 ≤ 16; omega, ?_⟩
  have L := L.put (Ins (He.ga K "Node") xdx nodeNs [.str d.kind, ownV d.own, .bl d.act, aw.value, aw.pairs, aw.program, aw.setting, aw.store, aw.name, aw.kept, aw.reads, aw.checked, .ref ac, .ref ap, aw.latest, aw.children])
  refine ⟨_, rfl, ?_⟩
  exact h _ x L.sm nx ⟨xdx, aw, ac, ap, L.ob, L.sm _ _ hc, hp.keep (tupK_same L.sm)⟩

end
end K47
namespace K47
open PySem PySem.Spec PyProof.Rows L2
open PySem.W (Frag)
section
variable {w : World} {K : Frag} {mg : Str → Option Value} {base : Heap}
theorem tupK_hide {H : Hp} {l : List Addr} (h : ∀ a ∈ l, ∀ t, H a ≠ some (.tup t)) : TupK H (hide H l) := fun a t e => by
  rw [hide_out fun m => h a m t e]
  exact e
def root : Nd := ⟨"scope", none, true, []⟩
theorem sc_State_init : FnScope ["self"] ["self"] (defScope s_State_init) := ⟨rfl, rfl, rfl, by decide +kernel, rfl, by decide +kernel, by decide +kernel⟩
def sp_State_init (K : Frag) : Sp := SpX (fun x : Addr × Addr × Hp => [.ref x.1]) fun ⟨x, dx, B⟩ H Q E => H x = some (.ins (He.ga K "State") dx []) ∧ Same B H ∧ B x = none ∧
  ∀ H' s, Same B H' → s.st = x → StAt K H' s [root] [] → (∀ a ∈ s.all, B a = none) → Q .non H'
theorem f_State_init (T : Txt w K mg) : Fn CX0 prog w K mg base 3 (He.ma K (He.ga K "State") "__init__") ["self"] (sp_State_init K) :=
  Txt.fnx T 57 d_State_init rfl rfl sc_State_init (fun _ _ _ _ _ _ us hl => match us, hl with | [_], _ => rfl) (fun _ => rfl)
  fun cdv A outer s H ⟨x, dx, B⟩ Q E hr ⟨hx, sB, bx, h⟩ => by
  refine ⟨_, (pss_cons (T.q_State_nodes (pv 0) (pe_lst (pa_cons (pe_mk1 T.k_Node (f_Node_init T) hr (by decide) T.g_Node passS0 (pa_cons pe_str (pa_cons pe_non pa_nil))) pa_nil)))
    (pss_cons (T.q_State_defaults (pv 0) (pe_lst pa_nil))
    (pss_cons (T.q_State_requests (pv 0) (pe_lst pa_nil))
    (pss_cons (T.q_State_subscriptions (pv 0) (pe_lst pa_nil))
    (pss_cons (T.q_State_pulls (pv 0) (pe_lst pa_nil))
    (pss_one (T.q_State_delivered (pv 0) (pe_lst pa_nil)))))))), ?_⟩
  refine fun y dy ny ndy ne => ⟨(y, dy, "scope", none, H), rfl, upd_same, fun b o e => ?_, ny, fun H1 s1 hy => ⟨rfl, by show 1 ≤ sizeLine; rw [sizeLine_eq]; omega, fun l1 n1 => ?_⟩⟩
  · rw [upd_ne (ne_of_none e ny), upd_ne (ne_of_none e ndy)]
    exact e
  obtain ⟨ydx, yw, yc, yp, hy1, hy2, hy3⟩ := hy
  have nyx : y ≠ x := (ne_of_none hx ny).symm
  have t2 : TupK H1 (hide H1 [x, y]) := tupK_hide fun a m t z => by
    simp only [List.mem_cons, List.not_mem_nil, or_false] at m
    rcases m with m | m
    · rw [m, s1 _ _ hx] at z; cases z
    · rw [m, hy1] at z; cases z
  have L := Led.start (B := hide H1 [x, y]) (hide_same _ _) (s1 _ _ hx) (hide_in (by simp))
  have L := L.add (p := y) hy1 (by simpa using nyx) (hide_in (by simp))
  have L := L.new n1 (.lst [.ref y])
  refine ⟨_, rfl, _, _, [], rfl, L.ob, Nat.zero_le _, ?_⟩
  have L := L.put (Ins (He.ga K "State") dx stNs [.ref l1])
  refine ⟨Nat.zero_le _, fun l2 n2 => ?_⟩
  have L := L.new n2 (.lst [])
  refine ⟨_, rfl, _, _, _, rfl, L.ob, Nat.le_refl _, ?_⟩
  have L := L.put (Ins (He.ga K "State") dx stNs [.ref l1, .ref l2])
  refine ⟨Nat.zero_le _, fun l3 n3 => ?_⟩
  have L := L.new n3 (.lst [])
  refine ⟨_, rfl, _, _, _, rfl, L.ob, Nat.le_refl _, ?_⟩
  have L := L.put (Ins (He.ga K "State") dx stNs [.ref l1, .ref l2, .ref l3])
  refine ⟨Nat.zero_le _, fun l4 n4 => ?_⟩
  have L := L.new n4 (.lst [])
  refine ⟨_, rfl, _, _, _, rfl, L.ob, Nat.le_refl _, ?_⟩
  have L := L.put (Ins (He.ga K "State") dx stNs [.ref l1, .ref l2, .ref l3, .ref l4])
  refine ⟨Nat.zero_le _, fun l5 n5 => ?_⟩
  have L := L.new n5 (.lst [])
  refine ⟨_, rfl, _, _, _, rfl, L.ob, Nat.le_refl _, ?_⟩
  have L := L.put (Ins (He.ga K "State") dx stNs [.ref l1, .ref l2, .ref l3, .ref l4, .ref l5])
  refine ⟨Nat.zero_le _, fun l6 n6 => ?_⟩
  have L := L.new n6 (.lst [])
  refine ⟨_, rfl, _, _, _, rfl, L.ob, Nat.le_refl _, ?_⟩
  have L := L.put (Ins (He.ga K "State") dx stNs [.ref l1, .ref l2, .ref l3, .ref l4, .ref l5, .ref l6])
  have sB1 : Same B (hide H1 [x, y]) := same_hide (sB.trans s1) fun a m => by
    simp only [List.mem_cons, List.not_mem_nil, or_false] at m
    rcases m with m | m
    · rw [m]; exact bx
    · rw [m]; exact sB.free ny
  have tf : TupK H1 _ := t2.trans (tupK_same L.sm)
  refine h _ ⟨x, dx, l1, l2, l3, l4, l5, l6, [y]⟩ (sB1.trans L.sm) rfl ⟨L.ob, L.at_ (l1, .lst [.ref y]) (by simp), L.at_ (l2, .lst []) (by simp), L.at_ (l3, .lst []) (by simp), L.at_ (l4, .lst []) (by simp), L.at_ (l5, .lst []) (by simp), L.at_ (l6, .lst []) (by simp), .cons ⟨ydx, yw, yc, yp, L.at_ (y, Ins (He.ga K "Node") ydx nodeNs (nodeVs root yw yc yp)) (List.mem_append_right [_, _, _, _, _, _] List.mem_cons_self), tf _ _ hy2, hy3.keep tf⟩ .nil, ?_⟩ fun a m => ?_
  · have q := L.nd
    simp only [SA.all]
    simp only [List.map_cons, List.map_nil] at q
    grind
  · simp only [SA.all, List.mem_cons, List.not_mem_nil, or_false] at m
    rcases m with m | m | m | m | m | m | m | m
    · rw [m]; exact bx
    · rw [m]; exact sB1.free (L.fr (l1, .lst [.ref y]) (by simp))
    · rw [m]; exact sB1.free (L.fr (l2, .lst []) (by simp))
    · rw [m]; exact sB1.free (L.fr (l3, .lst []) (by simp))
    · rw [m]; exact sB1.free (L.fr (l4, .lst []) (by simp))
    · rw [m]; exact sB1.free (L.fr (l5, .lst []) (by simp))
    · rw [m]; exact sB1.free (L.fr (l6, .lst []) (by simp))
    · rw [m]; exact sB.free ny
theorem take_snoc {α : Type} {l : List α} {i : Nat} {d : α} (h : l[i]? = some d) : l.take (i + 1) = l.take i ++ [d] := by
  rw [List.take_add_one, h]
  rfl
theorem sc_State_copy : FnScope ["self", "other", "node"] ["self"] (defScope s_State_copy) := ⟨rfl, rfl, rfl, by decide +kernel, rfl, by decide +kernel, by decide +kernel⟩
def sp_State_copy (K : Frag) : Sp := SpX (fun x : SA × List Nd × List V => [.ref x.1.st]) fun ⟨s, nds, dfs⟩ H Q E => StAt K H s nds dfs ∧ nds.length ≤ 1000 ∧
  ∀ H' s', Same H H' → StAt K H' s' nds dfs → (∀ a ∈ s'.all, H a = none) → Q (.ref s'.st) H'
theorem f_State_copy (T : Txt w K mg) : Fn CX0 prog w K mg base 5 (He.ma K (He.ga K "State") "copy") ["self"] (sp_State_copy K) :=
  Txt.fnx T 58 d_State_copy rfl rfl sc_State_copy (fun _ _ _ _ _ _ us hl => match us, hl with | [_], _ => rfl) (fun _ => rfl)
  fun cdv A outer s H ⟨sa, nds, dfs⟩ Q E hr ⟨S, hn, h⟩ => by
  refine ⟨_, (pss_cons (ps_set (i := 1) sc_State_copy.nd rfl (.inl rfl) (pe_mk0 T.k_State (f_State_init T) hr (by decide) T.g_State passS0))
    (pss_cons (T.q_State_nodes (pv 1) (pe_lc (own := [("node", 2)]) (g := gName 2) rfl sc_State_copy.nd (pi_list (T.p_State_nodes (pv 0))) (blkOk_by (own := [("node", 2)]) (N := ["self", "other", "node"]) (sc := defScope s_State_copy) (by decide +kernel)) (fun _ _ _ _ _ => (pg_name (i := 2) sc_State_copy.nd rfl (.inl rfl))) (fun _ _ _ _ _ => pts_nil) (fun _ _ _ _ _ => (pe_mt0 (ns := nodeNs) T.c_Node T.m_Node_copy (by decide) (f_Node_copy T) hr (by decide) passS0 (pv 2)))))
    (pss_cons (T.q_State_defaults (pv 1) (pe_callTy call_list_of (by rfl) T.b_list (by decide +kernel) (pa_cons (T.p_State_defaults (pv 0)) pa_nil)))
    (pss_cons (T.q_State_requests (pv 1) (pe_callTy call_list_of (by rfl) T.b_list (by decide +kernel) (pa_cons (T.p_State_requests (pv 0)) pa_nil)))
    (pss_cons (T.q_State_subscriptions (pv 1) (pe_callTy call_list_of (by rfl) T.b_list (by decide +kernel) (pa_cons (T.p_State_subscriptions (pv 0)) pa_nil)))
    (pss_cons (T.q_State_pulls (pv 1) (pe_callTy call_list_of (by rfl) T.b_list (by decide +kernel) (pa_cons (T.p_State_pulls (pv 0)) pa_nil)))
    (pss_cons (T.q_State_delivered (pv 1) (pe_callTy call_list_of (by rfl) T.b_list (by decide +kernel) (pa_cons (T.p_State_delivered (pv 0)) pa_nil)))
    (pss_one (ps_ret (pv 1)))))))))), ?_⟩
  refine fun x dx nx ndx ne => ⟨(x, dx, H), rfl, upd_same, fun b o e => ?_, nx, fun H1 s0 sm1 es st0 fr0 => ⟨rfl, ?_⟩⟩
  · rw [upd_ne (ne_of_none e nx), upd_ne (ne_of_none e ndx)]
    exact e
  subst es
  have S1 := S.mono sm1
  refine ⟨_, rfl, _, _, _, _, rfl, S1.o, rfl, _, rfl, ⟨_, SqL.of S1.n⟩, fun D nD => ?_⟩
  refine lc_list (K := K) (a := sa.ln) (xs := sa.nas.map V.ref) (fun i H' => Same H1 H' ∧ ∃ cs : List Addr, H' D = some (.lst (cs.map V.ref)) ∧ Paired (NodeOk K H') cs (nds.take i) ∧ cs.Nodup ∧ ∀ c ∈ cs, H1 c = none ∧ c ≠ D)
    ⟨same_upd nD, [], upd_same, .nil, List.nodup_nil, fun c m => by cases m⟩ (fun i H' _ q => SqL.of (q.1 _ _ S1.n)) (fun i v H' hv q => ?_) (fun H3 q => ?_)
  · obtain ⟨sm, cs, hD, hP, hN, hC⟩ := q
    rw [List.getElem?_map] at hv
    obtain ⟨a, ha, rfl⟩ := Option.map_eq_some_iff.mp hv
    have hi : i < nds.length := by
      rw [← S.len]
      exact (List.getElem?_eq_some_iff.mp ha).1
    have hd : nds[i]? = some nds[i] := List.getElem?_eq_getElem hi
    have na := (fall_get S1.nodes ha hd).mono sm
    obtain ⟨adx, aw, ac, ap, ao, _⟩ := id na
    have hlen := fall_len hP
    refine ⟨rfl, ?_⟩
    refine ⟨_, rfl, _, _, _, rfl, ao, (a, nds[i]), rfl, na, fun H2 a' s2 na' hn' => ?_⟩
    have nD' : a' ≠ D := fun z => by rw [z, hD] at na'; cases na'
    have k : TupK H2 (upd H2 D (.lst (cs.map V.ref ++ [.ref a']))) := tupK_lst (s2 _ _ hD)
    refine ⟨_, s2 _ _ hD, ?_, same_put (sm.trans s2) nD, cs ++ [a'], ?_, ?_, ?_, ?_⟩
    · rw [List.length_map, hlen, List.length_take, sizeLine_eq]
      omega
    · rw [upd_same, List.map_append]
      rfl
    · rw [take_snoc hd]
      exact fall_snoc (fall_imp hP fun c d m r => (r.mono s2).keep k (upd_ne (hC c m).2)) (hn'.keep k (upd_ne nD'))
    · refine nodup_snoc hN fun m => ?_
      obtain ⟨j, hj, e⟩ := List.getElem_of_mem m
      obtain ⟨_, _, _, _, q, _⟩ := fall_get hP (List.getElem?_eq_getElem hj) (List.getElem?_eq_getElem (by omega))
      rw [e, na'] at q
      cases q
    · intro c m
      rcases List.mem_append.mp m with m | m
      · exact hC c m
      · simp only [List.mem_singleton] at m
        rw [m]
        exact ⟨sm.free na', nD'⟩
  obtain ⟨sm, cs, hD, hP, hN, hC⟩ := q
  rw [List.length_map, S.len, List.take_length] at hP
  have hx3 := sm _ _ st0.o
  have nxD : s0.st ≠ D := fun z => by
    have q := st0.o
    rw [z, nD] at q
    cases q
  have cx : ∀ c ∈ cs, c ≠ s0.st := fun c m z => by
    have q := st0.o
    rw [← z, (hC c m).1] at q
    cases q
  have smB : Same H (hide H3 [s0.st, D]) := same_hide (sm1.trans sm) fun a m => by
    simp only [List.mem_cons, List.not_mem_nil, or_false] at m
    rcases m with m | m
    · rw [m]; exact nx
    · rw [m]; exact sm1.free nD
  have tB : TupK H3 (hide H3 [s0.st, D]) := tupK_hide fun a m t z => by
    simp only [List.mem_cons, List.not_mem_nil, or_false] at m
    rcases m with m | m
    · rw [m, hx3] at z; cases z
    · rw [m, hD] at z; cases z
  have hcB : Paired (NodeOk K (hide H3 [s0.st, D])) cs nds := fall_imp hP fun c d m r => r.keep tB (hide_out (by simp; exact ⟨cx c m, (hC c m).2⟩))
  have L := Led.start (B := hide H3 [s0.st, D]) (hide_same _ _) hx3 (hide_in (by simp))
  have L := L.add (p := D) hD (by simpa using Ne.symm nxD) (hide_in (by simp))
  refine ⟨_, rfl, _, _, _, rfl, L.ob, Nat.zero_le _, ?_⟩
  have L := L.put (Ins (He.ga K "State") s0.dx stNs [.ref D, .ref s0.ld, .ref s0.lr, .ref s0.ls, .ref s0.lp, .ref s0.lv])
  have S2 := S.mono (smB.trans L.sm)
  refine ⟨_, rfl, _, _, _, _, rfl, S2.o, rfl, _, _, rfl, .inl (SqL.of S2.d), fun l2 n2 => ?_⟩
  have L := L.new n2 (.lst dfs)
  refine ⟨_, rfl, _, _, _, rfl, L.ob, by show 1 ≤ 6; omega, ?_⟩
  have L := L.put (Ins (He.ga K "State") s0.dx stNs [.ref D, .ref l2, .ref s0.lr, .ref s0.ls, .ref s0.lp, .ref s0.lv])
  have S2 := S.mono (smB.trans L.sm)
  refine ⟨_, rfl, _, _, _, _, rfl, S2.o, rfl, _, _, rfl, .inl (SqL.of S2.r), fun l3 n3 => ?_⟩
  have L := L.new n3 (.lst [])
  refine ⟨_, rfl, _, _, _, rfl, L.ob, by show 2 ≤ 6; omega, ?_⟩
  have L := L.put (Ins (He.ga K "State") s0.dx stNs [.ref D, .ref l2, .ref l3, .ref s0.ls, .ref s0.lp, .ref s0.lv])
  have S2 := S.mono (smB.trans L.sm)
  refine ⟨_, rfl, _, _, _, _, rfl, S2.o, rfl, _, _, rfl, .inl (SqL.of S2.u), fun l4 n4 => ?_⟩
  have L := L.new n4 (.lst [])
  refine ⟨_, rfl, _, _, _, rfl, L.ob, by show 3 ≤ 6; omega, ?_⟩
  have L := L.put (Ins (He.ga K "State") s0.dx stNs [.ref D, .ref l2, .ref l3, .ref l4, .ref s0.lp, .ref s0.lv])
  have S2 := S.mono (smB.trans L.sm)
  refine ⟨_, rfl, _, _, _, _, rfl, S2.o, rfl, _, _, rfl, .inl (SqL.of S2.p), fun l5 n5 => ?_⟩
  have L := L.new n5 (.lst [])
  refine ⟨_, rfl, _, _, _, rfl, L.ob, by show 4 ≤ 6; omega, ?_⟩
  have L := L.put (Ins (He.ga K "State") s0.dx stNs [.ref D, .ref l2, .ref l3, .ref l4, .ref l5, .ref s0.lv])
  have S2 := S.mono (smB.trans L.sm)
  refine ⟨_, rfl, _, _, _, _, rfl, S2.o, rfl, _, _, rfl, .inl (SqL.of S2.v), fun l6 n6 => ?_⟩
  have L := L.new n6 (.lst [])
  refine ⟨_, rfl, _, _, _, rfl, L.ob, by show 5 ≤ 6; omega, ?_⟩
  have L := L.put (Ins (He.ga K "State") s0.dx stNs [.ref D, .ref l2, .ref l3, .ref l4, .ref l5, .ref l6])
  refine ⟨_, rfl, ?_⟩
  have hcs : ∀ c ∈ cs, (hide H3 [s0.st, D]) c ≠ none := fun c m z => by
    obtain ⟨j, hj, e⟩ := List.getElem_of_mem m
    obtain ⟨_, _, _, _, q, _⟩ := fall_get hcB (List.getElem?_eq_getElem hj) (List.getElem?_eq_getElem (by have := fall_len hcB; omega))
    rw [e, z] at q
    cases q
  have fr : ∀ a ∈ [s0.st, D, l2, l3, l4, l5, l6], (hide H3 [s0.st, D]) a = none := fun a m => by
    simp only [List.mem_cons, List.not_mem_nil, or_false] at m
    rcases m with m | m | m | m | m | m | m
    · rw [m]; exact L.bx
    · rw [m]; exact L.fr (D, .lst (cs.map V.ref)) (by simp)
    · rw [m]; exact L.fr (l2, .lst dfs) (by simp)
    · rw [m]; exact L.fr (l3, .lst []) (by simp)
    · rw [m]; exact L.fr (l4, .lst []) (by simp)
    · rw [m]; exact L.fr (l5, .lst []) (by simp)
    · rw [m]; exact L.fr (l6, .lst []) (by simp)
  refine h _ ⟨s0.st, s0.dx, D, l2, l3, l4, l5, l6, cs⟩ (smB.trans L.sm) ⟨L.ob, L.at_ (D, .lst (cs.map V.ref)) (by simp), L.at_ (l2, .lst dfs) (by simp), L.at_ (l3, .lst []) (by simp), L.at_ (l4, .lst []) (by simp), L.at_ (l5, .lst []) (by simp), L.at_ (l6, .lst []) (by simp), fall_imp hcB fun c d _ r => r.mono L.sm, ?_⟩ fun a m => ?_
  · show ([s0.st, D, l2, l3, l4, l5, l6] ++ cs).Nodup
    rw [List.nodup_append]
    refine ⟨?_, hN, fun a ma b mb z => hcs b mb (z ▸ fr a ma)⟩
    have q := L.nd
    simp only [List.map_cons, List.map_nil] at q
    grind
  · have m' : a ∈ [s0.st, D, l2, l3, l4, l5, l6] ++ cs := m
    rcases List.mem_append.mp m' with m | m
    · exact smB.free (fr a m)
    · exact sm1.free (hC a m).1

end
end K47
namespace K47
open PySem PySem.Spec PyProof.Rows L2
open PySem.W (Frag)
section
variable {w : World} {K : Frag} {mg : Str → Option Value} {base : Heap}
theorem sc_Engine_init : FnScope ["self", "plain"] ["self", "plain"] (defScope s_Engine_init) := ⟨rfl, rfl, rfl, by decide +kernel, rfl, by decide +kernel, by decide +kernel⟩
def sp_Engine_init (K : Frag) : Sp := SpX (fun x : Addr × Addr × V × Hp => [.ref x.1, x.2.2.1]) fun ⟨x, dx, pl, B⟩ H Q E => H x = some (.ins (He.ga K "Engine") dx []) ∧ Same B H ∧ B x = none ∧
  ∀ H' ea l, En K B H' x ea [root] [] → H' l = some (.lst []) → l ∉ ea.all x → B l = none → Q .non H'
theorem f_Engine_init (T : Txt w K mg) : Fn CX0 prog w K mg base 5 (He.ma K (He.ga K "Engine") "__init__") ["self", "plain"] (sp_Engine_init K) :=
  Txt.fnx T 59 d_Engine_init rfl rfl sc_Engine_init (fun _ _ _ _ _ _ us hl => match us, hl with | [_, _], _ => rfl) (fun _ => rfl)
  fun cdv A outer s H ⟨x, dx, pl, B⟩ Q E hr ⟨hx, sB, bx, h⟩ => by
  refine ⟨_, (pss_cons (T.q_Engine_plain (pv 0) (pv 1))
    (pss_cons (T.q_Engine_state (pv 0) (pe_mk0 T.k_State (f_State_init T) hr (by decide) T.g_State passS0))
    (pss_cons (T.q_Engine_runs (pv 0) (pe_lst pa_nil))
    (pss_cons (T.q_Engine_output (pv 0) (pe_lst pa_nil))
    (pss_cons (T.q_Engine_deferred (pv 0) pe_non)
    (pss_cons (T.q_Engine_made (pv 0) pe_int)
    (pss_cons (T.q_Engine_running (pv 0) pe_non)
    (pss_cons (T.q_Engine_version (pv 0) pe_int)
    (pss_one (T.q_Engine_history (pv 0) (pe_lst pa_nil))))))))))), ?_⟩
  have L := Led.start sB hx bx
  refine ⟨_, rfl, _, rfl, _, _, [], rfl, L.ob, Nat.zero_le _, ?_⟩
  have L := L.put (Ins (He.ga K "Engine") dx enNs [pl])
  refine fun y dy ny ndy ne => ⟨(y, dy, _), rfl, upd_same, fun b o e => ?_, ny, fun H1 s0 sm1 es st0 fr0 => ⟨rfl, ?_⟩⟩
  · rw [upd_ne (ne_of_none e ny), upd_ne (ne_of_none e ndy)]
    exact e
  subst es
  have hx1 := sm1 _ _ L.ob
  have xs : x ∉ s0.all := fun m => by
    have q := fr0 x m
    rw [upd_same] at q
    cases q
  have sm0 : Same B H1 := L.sm.trans sm1
  have frB : ∀ a ∈ s0.all, B a = none := fun a m => L.sm.free (fr0 a m)
  have smB : Same B (hide H1 [x]) := same_hide sm0 fun a m => by
    simp only [List.mem_cons, List.not_mem_nil, or_false] at m
    rw [m]; exact bx
  have tB : TupK H1 (hide H1 [x]) := tupK_hide fun a m t z => by
    simp only [List.mem_cons, List.not_mem_nil, or_false] at m
    rw [m, hx1] at z; cases z
  have stB : StAt K (hide H1 [x]) s0 [root] [] := st0.keep tB fun a m => hide_out (by simp; exact fun z => xs (z ▸ m))
  have L := Led.start (B := hide H1 [x]) (hide_same _ _) hx1 (hide_in (by simp))
  refine ⟨_, rfl, _, _, _, rfl, L.ob, Nat.le_refl _, ?_⟩
  have L := L.put (Ins (He.ga K "Engine") dx enNs [pl, .ref s0.st])
  refine ⟨Nat.zero_le _, fun l1 n1 => ?_⟩
  have L := L.new n1 (.lst [])
  refine ⟨_, rfl, _, _, _, rfl, L.ob, Nat.le_refl _, ?_⟩
  have L := L.put (Ins (He.ga K "Engine") dx enNs [pl, .ref s0.st, .ref l1])
  refine ⟨Nat.zero_le _, fun l2 n2 => ?_⟩
  have L := L.new n2 (.lst [])
  refine ⟨_, rfl, _, _, _, rfl, L.ob, Nat.le_refl _, ?_⟩
  have L := L.put (Ins (He.ga K "Engine") dx enNs [pl, .ref s0.st, .ref l1, .ref l2])
  refine ⟨_, rfl, _, _, _, rfl, L.ob, Nat.le_refl _, ?_⟩
  have L := L.put (Ins (He.ga K "Engine") dx enNs [pl, .ref s0.st, .ref l1, .ref l2, .non])
  refine ⟨_, rfl, _, _, _, rfl, L.ob, Nat.le_refl _, ?_⟩
  have L := L.put (Ins (He.ga K "Engine") dx enNs [pl, .ref s0.st, .ref l1, .ref l2, .non, .int 0])
  refine ⟨_, rfl, _, _, _, rfl, L.ob, Nat.le_refl _, ?_⟩
  have L := L.put (Ins (He.ga K "Engine") dx enNs [pl, .ref s0.st, .ref l1, .ref l2, .non, .int 0, .non])
  refine ⟨_, rfl, _, _, _, rfl, L.ob, Nat.le_refl _, ?_⟩
  have L := L.put (Ins (He.ga K "Engine") dx enNs [pl, .ref s0.st, .ref l1, .ref l2, .non, .int 0, .non, .int 0])
  refine ⟨Nat.zero_le _, fun l3 n3 => ?_⟩
  have L := L.new n3 (.lst [])
  refine ⟨_, rfl, _, _, _, rfl, L.ob, Nat.le_refl _, ?_⟩
  have L := L.put (Ins (He.ga K "Engine") dx enNs [pl, .ref s0.st, .ref l1, .ref l2, .non, .int 0, .non, .int 0, .ref l3])
  have fr : ∀ a ∈ [x, l2, l3], (hide H1 [x]) a = none := fun a m => by
    simp only [List.mem_cons, List.not_mem_nil, or_false] at m
    rcases m with m | m | m
    · rw [m]; exact L.bx
    · rw [m]; exact L.fr (l2, .lst []) (by simp)
    · rw [m]; exact L.fr (l3, .lst []) (by simp)
  have q := L.nd
  simp only [List.map_cons, List.map_nil] at q
  have hl1 : (hide H1 [x]) l1 = none := L.fr (l1, .lst []) (by simp)
  refine h _ ⟨dx, l2, l3, s0, pl, .ref l1, 0, 0, [], .non⟩ l1 ⟨L.ob, L.at_ (l2, .lst []) (by simp), L.at_ (l3, .lst []) (by simp), Nat.zero_le _, stB.mono L.sm, ?_, smB.trans L.sm, fun a m => ?_⟩ (L.at_ (l1, .lst []) (by simp)) (fun m => ?_) (smB.free hl1)
  · show ([x, l2, l3] ++ s0.all).Nodup
    rw [List.nodup_append]
    refine ⟨?_, st0.nd, fun a ma b mb z => ?_⟩
    · grind
    · obtain ⟨o, q, _⟩ := stB.has mb
      rw [← z, fr a ma] at q
      cases q
  · have m' : a ∈ [x, l2, l3] ++ s0.all := m
    rcases List.mem_append.mp m' with m | m
    · exact smB.free (fr a m)
    · exact frB a m
  · have m' : l1 ∈ [x, l2, l3] ++ s0.all := m
    rcases List.mem_append.mp m' with m | m
    · grind
    · obtain ⟨o, q2, _⟩ := stB.has m
      rw [hl1] at q2
      cases q2
theorem sc_Runtime_init : FnScope ["self"] ["self"] (defScope s_Runtime_init) := ⟨rfl, rfl, rfl, by decide +kernel, rfl, by decide +kernel, by decide +kernel⟩
def sp_Runtime_init (C : Addr) (K : Frag) : Sp := SpX (fun x : Addr × Addr × Hp => [.ref x.1]) fun ⟨x, dx, B⟩ H Q E => H x = some (.ins C dx []) ∧ Same B H ∧ B x = none ∧
  ∀ H' e ea, H' x = some (Ins C dx rtNs [.ref e]) → En K (hide H' (ea.all e)) H' e ea [root] [] → Same B H' → (∀ a ∈ ea.all e, B a = none ∧ a ≠ x) → (∃ l, H' l = some (.lst []) ∧ l ∉ ea.all e ∧ l ≠ x ∧ B l = none) → Q .non H'
theorem f_Runtime_init (T : Txt w K mg) {C : Addr} {bb : Bool} (R : RT K C bb) : Fn CX0 prog w K mg base 7 (He.ma K (He.ga K "Runtime") "__init__") ["self"] (sp_Runtime_init C K) :=
  Txt.fnx T 66 d_Runtime_init rfl rfl sc_Runtime_init (fun _ _ _ _ _ _ us hl => match us, hl with | [_], _ => rfl) (fun _ => rfl)
  fun cdv A outer s H ⟨x, dx, B⟩ Q E hr ⟨hx, sB, bx, h⟩ => by
  obtain ⟨fu, fg⟩ := R.fg
  refine ⟨_, (pss_one (R.q_engine (pv 0) (pe_mk1 T.k_Engine (f_Engine_init T) hr (by decide) T.g_Engine passS0 (pa_cons (pe_con (pv 0) rfl) pa_nil)))), ?_⟩
  refine ⟨_, rfl, _, _, _, _, _, _, rfl, hx, R.c, fg, rfl, ?_⟩
  refine fun y dy ny ndy ne => ⟨(y, dy, _, H), rfl, upd_same, fun b o e => ?_, ny, fun H1 ea l N hl nl bl => ⟨rfl, ?_⟩⟩
  · rw [upd_ne (ne_of_none e ny), upd_ne (ne_of_none e ndy)]
    exact e
  have hx1 := N.sm _ _ hx
  refine ⟨_, rfl, _, _, [], rfl, hx1, Nat.zero_le _, ?_⟩
  have nx : ∀ a ∈ ea.all y, a ≠ x := fun a m z => by
    have q := N.fr a m
    rw [z, hx] at q
    cases q
  refine h _ y ea upd_same ?_ (same_put (sB.trans N.sm) bx) (fun a m => ⟨sB.free (N.fr a m), nx a m⟩) ⟨l, by rw [upd_ne (Ne.symm (ne_of_none hx bl))]; exact hl, nl, Ne.symm (ne_of_none hx bl), sB.free bl⟩
  exact N.re (tupK_ins hx1) fun a m => upd_ne (nx a m)

end
end K47
namespace K47
open PySem PySem.Spec PyProof.Rows L2
open PySem.W (Frag)
section
variable {w : World} {K : Frag} {mg : Str → Option Value} {base : Heap}
/-! contexts -/
/-- owners stand before -/
abbrev WfN (nds : List Nd) : Prop := ∀ (n : Nat) (d : Nd), nds[n]? = some d → ∀ m : Nat, d.own = some m → m < n
inductive CtxV (nds : List Nd) (dfs : List V) (c : Nat) : Option Nat → V → Prop
  | base {v : V} (h : dfs[c]? = some v) : CtxV nds dfs c none v
  | hit {n : Nat} {d : Nd} {v : V} (h : nds[n]? = some d) (l : d.prov.lookup c = some v) : CtxV nds dfs c (some n) v
  | up {n : Nat} {d : Nd} {v : V} (h : nds[n]? = some d) (l : d.prov.lookup c = none) (r : CtxV nds dfs c d.own v) : CtxV nds dfs c (some n) v
theorem lookup_cons_ne {c k : Nat} {v : V} {l : List (Nat × V)} (h : k ≠ c) : List.lookup c ((k, v) :: l) = List.lookup c l := by
  have b : (c == k) = false := beq_eq_false_iff_ne.mpr (Ne.symm h)
  rw [List.lookup_cons, b]
theorem lookup_at {c : Nat} {v : V} : ∀ {l : List (Nat × V)} {i : Nat}, (∀ j : Nat, j < i → ∀ q : Nat × V, l[j]? = some q → q.1 ≠ c) → l[i]? = some (c, v) → l.lookup c = some v
  | [], i, _, h => by cases i <;> cases h
  | (k, w) :: l, 0, _, h => by
    cases h
    simp [List.lookup]
  | (k, w) :: l, i + 1, hn, h => by
    have hk : k ≠ c := hn 0 (Nat.zero_lt_succ _) _ rfl
    rw [lookup_cons_ne hk]
    have h' : l[i]? = some (c, v) := by simpa using h
    exact lookup_at (i := i) (fun j hj q hq => hn (j + 1) (Nat.succ_lt_succ hj) q (by simpa using hq)) h'
theorem lookup_none {c : Nat} : ∀ {l : List (Nat × V)}, (∀ (j : Nat) (q : Nat × V), l[j]? = some q → q.1 ≠ c) → l.lookup c = none
  | [], _ => rfl
  | (k, w) :: l, hn => by
    rw [lookup_cons_ne (hn 0 _ rfl)]
    exact lookup_none fun j q hq => hn (j + 1) q (by simpa using hq)
theorem sc_context_value : FnScope ["state", "number", "context", "here", "other", "value"] ["state", "number", "context"] (defScope s_context_value) := ⟨rfl, rfl, rfl, by decide +kernel, rfl, by decide +kernel, by decide +kernel⟩
def sp_context_value (K : Frag) : Sp := SpX (fun x : SA × List Nd × List V × Nat × Nat × V => [.ref x.1.st, .int x.2.2.2.1, .int x.2.2.2.2.1]) fun ⟨s, nds, dfs, n, c, v⟩ H Q E => StAt K H s nds dfs ∧ WfN nds ∧ n < nds.length ∧ CtxV nds dfs c (some n) v ∧ ∀ H', Same H H' → Q v H'
theorem f_context_value (T : Txt w K mg) : Fn CX0 prog w K mg base 1 (He.ga K "context_value") ["state", "number", "context"] (sp_context_value K) :=
  Txt.fnx T 31 d_context_value rfl rfl sc_context_value (fun _ _ _ _ _ _ us hl => match us, hl with | [_, _, _], _ => rfl) (fun _ => rfl)
  fun cdv A outer s H ⟨sa, nds, dfs, n, c, v⟩ Q E hr ⟨S, wf, hn, hc, h⟩ => by
  refine ⟨_, (pss_cons (ps_set (i := 3) sc_context_value.nd rfl (.inl rfl) (pv 1))
    (pss_cons (ps_while (passes_of rfl) (pt_cmpR op_notN (pv 3) pe_non (nomark _)) (pss_cons (ps_for (passes_of rfl) rfl (pi_tup (T.p_Node_provided (pe_ix ix_list (T.p_State_nodes (pv 0)) (pv 3) (fun _ _ => rfl)))) (pg_tup rfl (pgs_cons (pg_name (i := 4) sc_context_value.nd rfl (.inl rfl)) (pgs_cons (pg_name (i := 5) sc_context_value.nd rfl (.inl rfl)) pgs_nil))) (pss_one (ps_if (pt_cmpR op_eq (pv 4) (pv 2) (nomark _)) (pss_one (ps_ret (pv 5))) pss_nil)))
      (pss_one (ps_set (i := 3) sc_context_value.nd rfl (.inl rfl) (T.p_Node_owner (pe_ix ix_list (T.p_State_nodes (pv 0)) (pv 3) (fun _ _ => rfl)))))))
    (pss_one (ps_ret (pe_ix ix_list (T.p_State_defaults (pv 0)) (pv 2) (fun _ _ => rfl)))))), ?_⟩
  refine ⟨_, rfl, ?_⟩
  refine while_by (fun σ H' => ∃ (o : Option Nat) (u w : Option V), σ = [some (.ref sa.st), some (.int n), some (.int c), some (ownV o), u, w] ∧ Same H H' ∧ CtxV nds dfs c o v ∧ (∀ m, o = some m → m < nds.length)) (fun σ _ => match σ[3]? with | some (some (V.int m)) => m.toNat + 1 | _ => 0)
    ⟨some n, _, _, rfl, Same.refl _, hc, fun m e => by cases e; exact hn⟩ (fun σ H' q => ?_) (fun σ H Q Q' hq q => ?_)
  · obtain ⟨o, u, w', rfl, sm, hc, hm⟩ := q
    have S1 := S.mono sm
    refine ⟨_, rfl, rfl, _, rfl, ?_⟩
    cases o with
    | none =>
      cases hc with
      | base hd => exact ⟨_, rfl, _, _, _, _, rfl, S1.o, rfl, _, rfl, _, _, _, _, rfl, rfl, SqL.of S1.d, atI_nat hd, h _ sm⟩
    | some m =>
      have hml := hm m rfl
      have hd : nds[m]? = some nds[m] := List.getElem?_eq_getElem hml
      obtain ⟨a, ha, hnode⟩ := S1.at hd
      obtain ⟨adx, aw, ac, ap, ao, _, hp⟩ := hnode
      obtain ⟨ts, ht, hts⟩ := hp.h
      have hat : atI (sa.nas.map V.ref) (m : Int) = some (.ref a) := atI_nat (by rw [List.getElem?_map, ha]; rfl)
      refine ⟨_, rfl, _, _, _, _, rfl, S1.o, rfl, _, rfl, _, _, _, _, rfl, rfl, SqL.of S1.n, hat, ?_⟩
      refine ⟨_, _, _, _, rfl, ao, rfl, _, rfl, ⟨_, SqT.of ht⟩, ?_⟩
      refine for_tup (K := K) (a := ap) (xs := ts.map V.ref) (fun i σ H2 => (∃ u w, σ = [some (.ref sa.st), some (.int n), some (.int c), some (.int m), u, w]) ∧ Same H' H2 ∧ ∀ j : Nat, j < i → ∀ q : Nat × V, nds[m].prov[j]? = some q → q.1 ≠ c)
        ⟨⟨_, _, rfl⟩, Same.refl _, fun j hj => absurd hj (Nat.not_lt_zero _)⟩ (fun i σ H2 _ q => SqT.of (q.2.1 _ _ ht)) (fun i x σ H2 hx q => ?_) (fun σ H2 q => ?_)
      · obtain ⟨⟨u, w', rfl⟩, s2, hne⟩ := q
        rw [List.getElem?_map] at hx
        obtain ⟨t, hti, rfl⟩ := Option.map_eq_some_iff.mp hx
        have hil : i < nds[m].prov.length := by
          rw [← fall_len hts]
          exact (List.getElem?_eq_some_iff.mp hti).1
        have hpi : nds[m].prov[i]? = some nds[m].prov[i] := List.getElem?_eq_getElem hil
        have htt := s2 _ _ (fall_get hts hti hpi)
        refine ⟨_, _, rfl, SqT.of htt, rfl, _, _, rfl, _, _, rfl, rfl, ?_⟩
        refine ⟨_, rfl, _, rfl, rfl, _, rfl, ?_⟩
        refine ite2 (fun hq => ?_) fun hq => ?_
        · have hq' : nds[m].prov[i].1 = c := by
            simp [eqV] at hq
            omega
          refine ⟨_, rfl, ?_⟩
          have hl : nds[m].prov.lookup c = some nds[m].prov[i].2 := lookup_at hne (by rw [hpi, ← hq'])
          cases hc with
          | hit h1 h2 =>
            rw [hd] at h1
            cases h1
            rw [hl] at h2
            cases h2
            exact h _ (sm.trans s2)
          | up h1 h2 _ =>
            rw [hd] at h1
            cases h1
            rw [hl] at h2
            cases h2
        · have hq' : nds[m].prov[i].1 ≠ c := by
            simp [eqV] at hq
            omega
          refine ⟨⟨_, _, rfl⟩, s2, fun j hj q hqq => ?_⟩
          by_cases e : j = i
          · rw [e, hpi] at hqq
            cases hqq
            exact hq'
          · exact hne j (by omega) q hqq
      · obtain ⟨⟨u, w', rfl⟩, s2, hne⟩ := q
        have hl : nds[m].prov.lookup c = none := lookup_none fun j q hq => by
          refine hne j ?_ q hq
          rw [List.length_map, fall_len hts]
          exact (List.getElem?_eq_some_iff.mp hq).1
        have S2 := S1.mono s2
        refine ⟨_, rfl, _, _, _, _, rfl, S2.o, rfl, _, rfl, _, _, _, _, rfl, rfl, SqL.of S2.n, hat, _, _, _, _, rfl, s2 _ _ ao, rfl, ?_⟩
        refine ⟨⟨nds[m].own, _, _, rfl, sm.trans s2, ?_, fun k hk => ?_⟩, ?_⟩
        · cases hc with
          | hit h1 h2 =>
            rw [hd] at h1
            cases h1
            rw [hl] at h2
            cases h2
          | up h1 h2 r =>
            rw [hd] at h1
            cases h1
            exact r
        · have := wf m _ hd k hk
          omega
        · cases ho : nds[m].own with
          | none => show 0 < _; exact Nat.succ_pos _
          | some k =>
            have := wf m _ hd k ho
            show (k : Int).toNat + 1 < (m : Int).toNat + 1
            omega
  · obtain ⟨v1, e1, e2, k, e3, q⟩ := q
    exact ⟨v1, e1, e2, k, e3, hq _ _ q⟩

end
end K47
namespace K47
open PySem PySem.Spec PyProof.Rows L2
open PySem.W (Frag)
section
variable {w : World} {K : Frag} {mg : Str → Option Value} {base : Heap}
theorem sc_active_count : FnScope ["state", "node"] ["state"] (defScope s_active_count) := ⟨rfl, rfl, rfl, by decide +kernel, rfl, by decide +kernel, by decide +kernel⟩
def sp_active_count (K : Frag) : Sp := SpX (fun x : SA × List Nd × List V => [.ref x.1.st]) fun ⟨s, nds, dfs⟩ H Q E => StAt K H s nds dfs ∧ nds.length ≤ 1000 ∧ ∀ H' k, Same H H' → k ≤ nds.length → Q (.int (k : Nat)) H'
theorem f_active_count (T : Txt w K mg) : Fn CX0 prog w K mg base 1 (He.ga K "active_count") ["state"] (sp_active_count K) :=
  Txt.fnx T 29 d_active_count rfl rfl sc_active_count (fun _ _ _ _ _ _ us hl => match us, hl with | [_], _ => rfl) (fun _ => rfl)
  fun cdv A outer s H ⟨sa, nds, dfs⟩ Q E hr ⟨S, hn, h⟩ => by
  refine ⟨_, (pss_one (ps_ret (pe_callB call_len_seq (by rfl) T.b_len (by decide +kernel) (pa_cons (pe_lc (own := [("node", 1)]) (g := gName 1) rfl sc_active_count.nd (pi_list (T.p_State_nodes (pv 0))) (blkOk_by (own := [("node", 1)]) (N := ["state", "node"]) (sc := defScope s_active_count) (by decide +kernel)) (fun _ _ _ _ _ => (pg_name (i := 1) sc_active_count.nd rfl (.inl rfl))) (fun _ _ _ _ _ => (pts_one (pt_val (pe_f (i := 2) T.c_Node T.n_Node_active nd_nodeNs rfl (pv 1))))) (fun _ _ _ _ _ => (pv 1))) pa_nil)))), ?_⟩
  refine ⟨_, rfl, _, _, _, _, rfl, S.o, rfl, _, rfl, ⟨_, SqL.of S.n⟩, fun D nD => ?_⟩
  refine lc_list (K := K) (a := sa.ln) (xs := sa.nas.map V.ref) (fun i H' => Same H H' ∧ ∃ acc : List V, H' D = some (.lst acc) ∧ acc.length ≤ i)
    ⟨same_upd nD, [], upd_same, Nat.le_refl _⟩ (fun i H' _ q => SqL.of (q.1 _ _ S.n)) (fun i v H' hv q => ?_) (fun H' q => ?_)
  · obtain ⟨sm, acc, hD, hl⟩ := q
    rw [List.getElem?_map] at hv
    obtain ⟨a, ha, rfl⟩ := Option.map_eq_some_iff.mp hv
    have hi : i < nds.length := by
      rw [← S.len]
      exact (List.getElem?_eq_some_iff.mp ha).1
    have hd : nds[i]? = some nds[i] := List.getElem?_eq_getElem hi
    have na := (fall_get S.nodes ha hd).mono sm
    obtain ⟨adx, aw, ac, ap, ao, _⟩ := id na
    refine ⟨rfl, ?_⟩
    refine ⟨_, rfl, _, _, _, _, rfl, ao, rfl, _, rfl, ?_⟩
    cases nds[i].act with
    | true =>
      refine ⟨_, rfl, acc, hD, by rw [sizeLine_eq]; omega, same_put sm nD, _, upd_same, ?_⟩
      rw [List.length_append]
      exact Nat.succ_le_succ hl
    | false => exact ⟨sm, acc, hD, Nat.le_succ_of_le hl⟩
  · obtain ⟨sm, acc, hD, hl⟩ := q
    rw [List.length_map, S.len] at hl
    exact ⟨_, _, rfl, .inl (SqL.of hD), h _ _ sm hl⟩
theorem sc_make : FnScope ["engine", "kind", "owner"] ["engine", "kind", "owner"] (defScope s_make) := ⟨rfl, rfl, rfl, by decide +kernel, rfl, by decide +kernel, by decide +kernel⟩
def sp_make (K : Frag) : Sp := SpX (fun x : (Addr × EA × Hp × List Nd × List V) × Str × Nat × Nd => [.ref x.1.1, .str x.2.1, .int x.2.2.1]) fun ⟨⟨e, x, B, nds, dfs⟩, k, n, d⟩ H Q E =>
  En K B H e x nds dfs ∧ nds[n]? = some d ∧ d.act = true ∧ nds.length < 24 ∧ x.made = 0 ∧ ∀ H' x', En K B H' e x' (nds ++ [⟨k, some n, true, []⟩]) dfs → Q (.int nds.length) H'
theorem f_make (T : Txt w K mg) : Fn (L2.CX prog w) prog w K mg base 3 (He.ga K "make") ["engine", "kind", "owner"] (sp_make K) :=
  Txt.fnx T 33 d_make rfl rfl sc_make (fun _ _ _ _ _ _ us hl => match us, hl with | [_, _, _], _ => rfl) (fun _ => rfl)
  fun cdv A outer s H ⟨⟨e, x, B, nds, dfs⟩, k, n, d⟩ Q E hr ⟨N, hd, ha, hl, hm, h⟩ => by
  refine ⟨_, (pss_cons (ps_expr (pe_fn (f_require_active T) hr (by decide) T.g_require_active (passSX (takes_of rfl rfl rfl rfl)) (pa_cons (pv 0) (pa_cons (pv 2) pa_nil))))
    (pss_cons (ps_if (PW.pt (pw_or (pt_cmpR op_ge (pe_fn (f_active_count T) hr (by decide) T.g_active_count passS0 (pa_cons (T.p_Engine_state (pv 0)) pa_nil)) (pg_i T.i_MOST_ACTIVE) (nomark _)) (pw_or1 (pt_cmpR op_ge (T.p_Engine_made (pv 0)) (pg_i T.i_MOST_MADE) (nomark _))))) (pss_one ps_never) pss_nil)
    (pss_cons (ps_expr (pe_bm PySem.F.plainAttrs_list PySem.F.slot_list_append PySem.F.type_list_append mt_append (T.p_State_nodes (T.p_Engine_state (pv 0))) (pa_cons (pe_mk1 T.k_Node (f_Node_init T) hr (by decide) T.g_Node passS0 (pa_cons (pv 1) (pa_cons (pv 2) pa_nil))) pa_nil)))
    (pss_cons (T.a_Engine_made (pv 0) pe_int)
    (pss_cons (T.a_Engine_version (pv 0) pe_int)
    (pss_one (ps_ret (pe_op op_sub (pe_callB call_len_seq (by rfl) T.b_len (by decide +kernel) (pa_cons (T.p_State_nodes (T.p_Engine_state (pv 0))) pa_nil)) pe_int)))))))), ?_⟩
  refine ⟨_, rfl, _, rfl, (⟨e, x, B, nds, dfs⟩, n, d), rfl, N, hd, fun _ => ?_, fun z => by rw [ha] at z; cases z⟩
  refine ⟨_, rfl, _, _, _, _, rfl, N.o, rfl, (x.s, nds, dfs), rfl, N.st, by omega, fun H1 j s1 hj => ?_⟩
  have N := N.mono s1
  refine ⟨_, _, rfl, rfl, false, blF (by omega), _, rfl, _, _, _, _, rfl, N.o, rfl, _, _, rfl, rfl, false, ?_, ?_⟩
  · rw [hm]
    exact blF (by decide)
  refine ⟨_, rfl, _, _, _, _, rfl, N.o, rfl, _, _, _, _, rfl, N.st.o, rfl, .inl ⟨rfl, _, SqL.of N.st.n⟩, _, rfl, _, rfl, fun y dy ny ndy ne => ⟨(y, dy, k, some n, H1), rfl, upd_same, fun b o e => ?_, ny, fun H2 s2 hy => ⟨rfl, ?_⟩⟩⟩
  · rw [upd_ne (ne_of_none e ny), upd_ne (ne_of_none e ndy)]
    exact e
  have N0 := N
  have N := N.mono s2
  refine ⟨_, _, _, rfl, rfl, N.st.n, ?_, ?_⟩
  · rw [List.length_map, N.st.len, sizeLine_eq]
    omega
  have N := N.app hy (N0.notNew ny) (N0.sm.free ny)
  refine ⟨_, rfl, _, _, _, _, rfl, N.o, rfl, _, rfl, _, _, N.o, by show 5 ≤ 9; omega, ?_⟩
  have N := N.upF x.rn (x.made + 1) x.ver
  refine ⟨_, rfl, _, _, _, _, rfl, N.o, rfl, _, rfl, _, _, N.o, by show 7 ≤ 9; omega, ?_⟩
  have N := N.upF x.rn (x.made + 1) (x.ver + 1)
  refine ⟨_, rfl, _, _, _, _, rfl, N.o, rfl, _, _, _, _, rfl, N.st.o, rfl, _, _, rfl, .inl (SqL.of N.st.n), _, _, rfl, rfl, ?_⟩
  have hlen : (((x.s.nas ++ [y]).map V.ref).length : Int) - 1 = nds.length := by
    have := N.st.len
    rw [List.length_append] at this
    rw [List.length_map, List.length_append]
    have e2 := N0.st.len
    simp
    omega
  show Q (.int ((((x.s.nas ++ [y]).map V.ref).length : Int) - 1)) _
  rw [hlen]
  exact h _ _ N

end
end K47
namespace K47
open PySem PySem.Spec PyProof.Rows L2
open PySem.W (Frag)
section
variable {w : World} {K : Frag} {mg : Str → Option Value} {base : Heap}
/-! what falls with a node -/
def inO (o : Option Nat) (f : List Nat) : Bool := match o with
  | none => false
  | some m => f.contains m
def dfn (nds : List Nd) (n : Nat) : Nat → List Nat
  | 0 => [n]
  | i + 1 => match nds[i]? with
    | some d => if (d.act && inO d.own (dfn nds n i)) = true then dfn nds n i ++ [i] else dfn nds n i
    | none => dfn nds n i
def offd (d : Nd) : Nd := { d with act := false }
def offb (nds : List Nd) (P : Nat → Bool) : List Nd := nds.mapIdx fun i d => if P i = true then offd d else d
theorem offb_len (nds : List Nd) (P : Nat → Bool) : (offb nds P).length = nds.length := by simp [offb]
theorem offb_get {nds : List Nd} {P : Nat → Bool} {i : Nat} : (offb nds P)[i]? = nds[i]?.map fun d => if P i = true then offd d else d := by simp [offb]
theorem offb_none (nds : List Nd) : offb nds (fun _ => false) = nds := by
  apply List.ext_getElem?
  intro i
  rw [offb_get]
  cases nds[i]? <;> rfl
theorem offb_set {nds : List Nd} {P : Nat → Bool} {j : Nat} {d : Nd} (h : (offb nds P)[j]? = some d) : (offb nds P).set j (offd d) = offb nds fun i => P i || decide (i = j) := by
  apply List.ext_getElem?
  intro i
  rw [List.getElem?_set, offb_get]
  by_cases e : j = i
  · subst e
    rw [if_pos rfl]
    have hl := (List.getElem?_eq_some_iff.mp h).1
    rw [if_pos hl]
    rw [offb_get] at h
    obtain ⟨d0, h0, h1⟩ := Option.map_eq_some_iff.mp h
    rw [offb_get, h0]
    simp only [decide_true, Bool.or_true, if_true, Option.map_some]
    rw [← h1]
    split <;> rfl
  · rw [if_neg e, offb_get]
    have : decide (i = j) = false := decide_eq_false fun z => e z.symm
    rw [this]
    simp
theorem offb_congr {nds : List Nd} {P R : Nat → Bool} (h : ∀ i, i < nds.length → P i = R i) : offb nds P = offb nds R := by
  apply List.ext_getElem?
  intro i
  rw [offb_get, offb_get]
  by_cases hl : i < nds.length
  · rw [h i hl]
  · rw [List.getElem?_eq_none (by omega)]
    rfl
theorem dfn_head (nds : List Nd) (n : Nat) : ∀ i, ∃ t, dfn nds n i = n :: t
  | 0 => ⟨[], rfl⟩
  | i + 1 => by
    obtain ⟨t, e⟩ := dfn_head nds n i
    unfold dfn
    split
    · split
      · exact ⟨t ++ [i], by rw [e]; rfl⟩
      · exact ⟨t, e⟩
    · exact ⟨t, e⟩
theorem dfn_lt {nds : List Nd} {n : Nat} : ∀ {i j : Nat}, j ∈ dfn nds n i → j = n ∨ j < i
  | 0, j, h => by
    unfold dfn at h
    simp at h
    exact .inl h
  | i + 1, j, h => by
    unfold dfn at h
    split at h
    · split at h
      · rcases List.mem_append.mp h with h | h
        · rcases dfn_lt h with e | e
          · exact .inl e
          · exact .inr (by omega)
        · simp at h
          exact .inr (by omega)
      · rcases dfn_lt h with e | e
        · exact .inl e
        · exact .inr (by omega)
    · rcases dfn_lt h with e | e
      · exact .inl e
      · exact .inr (by omega)
theorem dfn_len (nds : List Nd) (n : Nat) : ∀ i, (dfn nds n i).length ≤ i + 1
  | 0 => Nat.le_refl _
  | i + 1 => by
    have := dfn_len nds n i
    unfold dfn
    split
    · split
      · rw [List.length_append]
        exact Nat.succ_le_succ this
      · omega
    · omega
def nInts (l : List Nat) : List V := l.map fun i => V.int (i : Nat)
theorem nInts_app (l r : List Nat) : nInts (l ++ r) = nInts l ++ nInts r := List.map_append
theorem flat_nInts (l : List Nat) : (nInts l).all flatV = true := by
  rw [List.all_eq_true]
  intro y hy
  obtain ⟨z, _, rfl⟩ := List.mem_map.mp hy
  rfl
theorem inV_int (m : Nat) : ∀ l : List Nat, inV (.int (m : Nat)) (nInts l) = l.contains m
  | [] => rfl
  | k :: l => by
    have ih := inV_int m l
    have e : eqV (.int (k : Nat)) (.int (m : Nat)) = (m == k) := by
      show ((k : Int) == (m : Int)) = (m == k)
      rw [Bool.eq_iff_iff]
      simp
      omega
    show (eqV (.int (k : Nat)) (.int (m : Nat)) || inV (.int (m : Nat)) (nInts l)) = _
    rw [ih, e, List.contains_cons]
theorem inV_own (o : Option Nat) (l : List Nat) : inV (ownV o) (nInts l) = inO o l := by
  cases o with
  | none =>
    show inV .non (nInts l) = false
    unfold inV nInts
    rw [List.any_eq_false]
    intro x hx
    obtain ⟨z, _, rfl⟩ := List.mem_map.mp hx
    simp [eqV]
  | some m => exact inV_int m l
theorem flat_own (o : Option Nat) : flatV (ownV o) = true := by cases o <;> rfl
theorem sc_descendants : FnScope ["state", "number", "found", "other", "node"] ["state", "number"] (defScope s_descendants) := ⟨rfl, rfl, rfl, by decide +kernel, rfl, by decide +kernel, by decide +kernel⟩
def sp_descendants (K : Frag) : Sp := SpX (fun x : SA × List Nd × List V × Nat => [.ref x.1.st, .int x.2.2.2]) fun ⟨s, nds, dfs, n⟩ H Q E => StAt K H s nds dfs ∧ nds.length ≤ 1000 ∧
  ∀ H' l, Same H H' → H l = none → H' l = some (.lst (nInts ((dfn nds n nds.length).drop 1).reverse)) → Q (.ref l) H'
theorem f_descendants (T : Txt w K mg) : Fn CX0 prog w K mg base 1 (He.ga K "descendants") ["state", "number"] (sp_descendants K) :=
  Txt.fnx T 30 d_descendants rfl rfl sc_descendants (fun _ _ _ _ _ _ us hl => match us, hl with | [_, _], _ => rfl) (fun _ => rfl)
  fun cdv A outer s H ⟨sa, nds, dfs, n⟩ Q E hr ⟨S, hn, h⟩ => by
  refine ⟨_, (pss_cons (ps_set (i := 2) sc_descendants.nd rfl (.inl rfl) (pe_lst (pa_cons (pv 1) pa_nil)))
    (pss_cons (ps_for (passes_of rfl) rfl (pi_enum (by rfl) T.b_enumerate (pa_cons (T.p_State_nodes (pv 0)) pa_nil)) (pg_tup rfl (pgs_cons (pg_name (i := 3) sc_descendants.nd rfl (.inl rfl)) (pgs_cons (pg_name (i := 4) sc_descendants.nd rfl (.inl rfl)) pgs_nil))) (pss_one (ps_if (PW.pt (pw_and (pt_val (T.p_Node_active (pv 4))) (pw_and1 (pt_cmpR op_in_seq (T.p_Node_owner (pv 4)) (pv 2) rfl)))) (pss_one (ps_expr (pe_bm PySem.F.plainAttrs_list PySem.F.slot_list_append PySem.F.type_list_append mt_append (pv 2) (pa_cons (pv 3) pa_nil)))) pss_nil)))
    (pss_one (ps_ret (pe_revL0 (pv 2)))))), ?_⟩
  refine ⟨_, rfl, by show 1 ≤ sizeLine; rw [sizeLine_eq]; omega, fun f nf => ?_⟩
  have s0 := same_upd (o := .lst [.int n]) nf
  have S0 := S.mono s0
  refine ⟨_, rfl, _, _, _, _, rfl, S0.o, rfl, _, _, rfl, SqL.of S0.n, ?_⟩
  refine ⟨fun i m σ H' => i ≤ nds.length ∧ m = nds.length - i ∧ (∃ u w, σ = [some (.ref sa.st), some (.int n), some (.ref f), u, w]) ∧ Same H H' ∧ H' f = some (.lst (nInts (dfn nds n i))), ⟨nds.length, Nat.zero_le _, rfl, ⟨_, _, rfl⟩, s0, upd_same⟩, ?_⟩
  rintro i m σ H' ⟨hi, rfl, ⟨u, w', rfl⟩, sm, hf⟩
  have S1 := S.mono sm
  by_cases hlt : i < nds.length
  · have hd : nds[i]? = some nds[i] := List.getElem?_eq_getElem hlt
    obtain ⟨a, ha, hnode⟩ := S1.at hd
    have hai : (sa.nas.map V.ref)[i]? = some (.ref a) := by rw [List.getElem?_map, ha]; rfl
    refine .inr ⟨⟨_, _, SqL.of S1.n, hai⟩, fun σ H' => (∃ u w, σ = [some (.ref sa.st), some (.int n), some (.ref f), u, w]) ∧ Same H H' ∧ H' f = some (.lst (nInts (dfn nds n (i + 1)))), fun σ' H2 q => ⟨_, by omega, hlt, rfl, q⟩, fun v H2 y => ?_⟩
    obtain ⟨tp, v', ev, nt, eH, hv⟩ := y
    have e1 := hv _ (SqL.of S1.n)
    rw [hai] at e1
    cases e1
    subst ev eH
    have s2 := same_upd (H := H') (o := .tup [.int (i : Nat), .ref a]) nt
    obtain ⟨adx, aw, ac, ap, ao, _⟩ := hnode.mono s2
    have hf2 := s2 _ _ hf
    refine ⟨_, _, rfl, SqT.of upd_same, rfl, _, _, rfl, _, _, rfl, rfl, ?_⟩
    refine ⟨_, rfl, _, _, _, _, rfl, ao, rfl, _, rfl, ?_⟩
    have ed : dfn nds n (i + 1) = if (nds[i].act && inO nds[i].own (dfn nds n i)) = true then dfn nds n i ++ [i] else dfn nds n i := by
      show (match nds[i]? with
        | some d => if (d.act && inO d.own (dfn nds n i)) = true then dfn nds n i ++ [i] else dfn nds n i
        | none => dfn nds n i) = _
      rw [hd]
    cases hact : nds[i].act with
    | false =>
      rw [hact] at ed
      refine ⟨⟨_, _, rfl⟩, sm.trans s2, ?_⟩
      rw [ed]
      exact hf2
    | true =>
      rw [hact, Bool.true_and] at ed
      refine ⟨_, rfl, _, _, _, _, rfl, ao, rfl, _, rfl, _, _, rfl, .inl (SqL.of hf2), flat_own _, flat_nInts _, _, rfl, ?_⟩
      show if inV (ownV nds[i].own) (nInts (dfn nds n i)) = true then _ else _
      rw [inV_own]
      cases hin : inO nds[i].own (dfn nds n i) with
      | false =>
        rw [hin] at ed
        refine ⟨⟨_, _, rfl⟩, sm.trans s2, ?_⟩
        rw [ed]
        exact hf2
      | true =>
        rw [hin] at ed
        refine ⟨_, rfl, .inl ⟨rfl, _, SqL.of hf2⟩, _, rfl, f, _, _, rfl, rfl, hf2, ?_, ?_⟩
        · have := dfn_len nds n i
          unfold nInts
          rw [List.length_map, sizeLine_eq]
          omega
        · refine ⟨⟨_, _, rfl⟩, same_put (sm.trans s2) nf, ?_⟩
          rw [upd_same, ed]
          show some (HO.lst (nInts (dfn nds n i) ++ [.int (i : Nat)])) = some (HO.lst (nInts (dfn nds n i ++ [i])))
          rw [nInts_app]
          rfl
  · have e : i = nds.length := by omega
    subst e
    refine .inl ⟨⟨_, SqL.of S1.n, by rw [List.length_map, S.len]; exact Nat.le_refl _⟩, ?_⟩
    obtain ⟨t, et⟩ := dfn_head nds n nds.length
    refine ⟨_, rfl, f, _, rfl, SqL.of hf, (by rw [et]; exact fun z => nomatch z), fun p np => ?_⟩
    refine h _ p (sm.trans (same_upd np)) (sm.free np) ?_
    rw [upd_same]
    unfold nInts
    rw [← List.map_drop, ← List.map_reverse]

end
end K47
namespace K47
open PySem PySem.Spec PyProof.Rows L2
open PySem.W (Frag)
section
variable {w : World} {K : Frag} {mg : Str → Option Value} {base : Heap}
theorem upd_eq {H : Hp} {a : Addr} {o : HO} (h : H a = some o) : upd H a o = H := by
  funext b
  unfold upd
  split
  · rename_i e
    rw [e, h]
  · rfl
theorem nt_ins {H : Hp} {a C dx : Addr} {fs : List (Str × V)} (h : H a = some (.ins C dx fs)) : ∀ t, H a ≠ some (.tup t) := fun t z => by
  rw [h] at z
  cases z
theorem upd_at {H : Hp} {a b : Addr} {o o' : HO} (h : H a = some o) (h' : H b = some o') : upd H a o b = some o' := by
  rw [upd_eq h]
  exact h'
theorem prov_at {H : Hp} {a p : Addr} {o : HO} {l : List (Nat × V)} (h : H a = some o) (h' : ProvAt H p l) : ProvAt (upd H a o) p l := by
  rw [upd_eq h]
  exact h'
theorem En.lo' {B H : Hp} {e : Addr} {x : EA} {nds : List Nd} {dfs : List V} (N : En K B H e x nds dfs) : En K B (upd H x.lo (.lst [])) e x nds dfs := by
  rw [upd_eq N.lo]
  exact N
theorem sc__drop : FnScope ["engine", "number", "node"] ["engine", "number"] (defScope s__drop) := ⟨rfl, rfl, rfl, by decide +kernel, rfl, by decide +kernel, by decide +kernel⟩
def sp__drop (K : Frag) : Sp := SpX (fun x : (Addr × EA × Hp × List Nd × List V) × Nat × Nd => [.ref x.1.1, .int x.2.1]) fun ⟨⟨e, x, B, nds, dfs⟩, n, d⟩ H Q E =>
  En K B H e x nds dfs ∧ nds[n]? = some d ∧ ∀ H', En K B H' e x (nds.set n (offd d)) dfs → Q .non H'
theorem f__drop (T : Txt w K mg) : Fn CX0 prog w K mg base 2 (He.ga K "_drop") ["engine", "number"] (sp__drop K) :=
  Txt.fnx T 34 d__drop rfl rfl sc__drop (fun _ _ _ _ _ _ us hl => match us, hl with | [_, _], _ => rfl) (fun _ => rfl)
  fun cdv A outer s H ⟨⟨e, x, B, nds, dfs⟩, n, d⟩ Q E hr ⟨N, hd, h⟩ => by
  refine ⟨_, (pss_cons (ps_set (i := 2) sc__drop.nd rfl (.inl rfl) (pe_mt1 (ns := enNs) T.c_Engine T.m_Engine_node (by decide) (f_Engine_node T) hr (by decide) passS0 (pv 0) (pa_cons (pv 1) pa_nil)))
    (pss_cons (T.q_Node_active (pv 2) pe_bl)
    (pss_cons (ps_expr (pe_bm PySem.F.plainAttrs_list PySem.F.slot_list_extend PySem.F.type_list_extend mt_extT (T.p_Engine_output (pv 0)) (pa_cons (pe_revT0 (T.p_Node_cleanups (pv 2))) pa_nil)))
    (pss_one (T.q_Node_cleanups (pv 2) (pe_tup pa_nil)))))), ?_⟩
  obtain ⟨a, ha, hnode⟩ := N.st.at hd
  obtain ⟨adx, aw, ac, ap, ao, hc, hp⟩ := hnode
  have ma := N.st.mem ha
  have hl := (List.getElem?_eq_some_iff.mp hd).1
  refine ⟨_, rfl, _, _, _, rfl, N.o, _, rfl, ⟨e, x, B, nds, dfs, n, a⟩, rfl, N, ha, ?_⟩
  refine ⟨_, rfl, _, _, _, rfl, ao, by show 2 ≤ 16; omega, ?_⟩
  have k := tupK_ins (o := Ins (He.ga K "Node") adx nodeNs (nodeVs (offd d) aw ac ap)) ao
  have N := N.upS ma (N.st.set (d' := offd d) ha (nt_ins ao) ⟨adx, aw, ac, ap, upd_same, k _ _ hc, hp.keep k⟩)
  have ao : upd H a (Ins (He.ga K "Node") adx nodeNs (nodeVs (offd d) aw ac ap)) a = some (Ins (He.ga K "Node") adx nodeNs (nodeVs (offd d) aw ac ap)) := upd_same
  have hc := k _ _ hc
  have hp := hp.keep k
  refine ⟨_, rfl, _, _, _, _, rfl, N.o, rfl, .inl ⟨rfl, _, SqL.of N.lo⟩, _, rfl, _, _, _, _, rfl, ao, rfl, _, rfl, SqT.of hc, fun p np => ?_⟩
  have N := N.mono (same_upd (o := .tup []) np)
  have ao := same_upd (o := .tup []) np _ _ ao
  have hp := hp.keep (tupK_same (same_upd (o := .tup []) np))
  refine ⟨_, _, _, _, rfl, rfl, N.lo, SqT.of upd_same, Nat.zero_le _, ?_⟩
  have ao := upd_at N.lo ao
  have hp := prov_at N.lo hp
  have N := N.lo'
  refine ⟨Nat.zero_le _, fun q nq => ?_⟩
  have N := N.mono (same_upd (o := .tup []) nq)
  have ao := same_upd (o := .tup []) nq _ _ ao
  have hp := hp.keep (tupK_same (same_upd (o := .tup []) nq))
  refine ⟨_, rfl, _, _, _, rfl, ao, by show 12 ≤ 16; omega, ?_⟩
  have k := tupK_ins (o := Ins (He.ga K "Node") adx nodeNs (nodeVs (offd d) aw q ap)) ao
  have N := N.upS ma (N.st.set (d' := offd d) ha (nt_ins ao) ⟨adx, aw, q, ap, upd_same, k _ _ upd_same, hp.keep k⟩)
  rw [List.set_set] at N
  exact h _ N
theorem sc_drop_descendants : FnScope ["engine", "number", "other"] ["engine", "number"] (defScope s_drop_descendants) := ⟨rfl, rfl, rfl, by decide +kernel, rfl, by decide +kernel, by decide +kernel⟩
def sp_drop_descendants (K : Frag) : Sp := SpX (fun x : (Addr × EA × Hp × List Nd × List V) × Nat => [.ref x.1.1, .int x.2]) fun ⟨⟨e, x, B, nds, dfs⟩, n⟩ H Q E =>
  En K B H e x nds dfs ∧ n < nds.length ∧ nds.length ≤ 1000 ∧ ∀ H' x', En K B H' e x' (offb nds fun i => decide (i ∈ ((dfn nds n nds.length).drop 1).reverse)) dfs → Q .non H'
theorem f_drop_descendants (T : Txt w K mg) : Fn CX0 prog w K mg base 3 (He.ga K "drop_descendants") ["engine", "number"] (sp_drop_descendants K) :=
  Txt.fnx T 35 d_drop_descendants rfl rfl sc_drop_descendants (fun _ _ _ _ _ _ us hl => match us, hl with | [_, _], _ => rfl) (fun _ => rfl)
  fun cdv A outer s H ⟨⟨e, x, B, nds, dfs⟩, n⟩ Q E hr ⟨N, hn, hl, h⟩ => by
  refine ⟨_, (pss_cons (T.a_Engine_version (pv 0) pe_int)
    (pss_one (ps_for (passes_of rfl) rfl (pi_list (pe_fn (f_descendants T) hr (by decide) T.g_descendants passS0 (pa_cons (T.p_Engine_state (pv 0)) (pa_cons (pv 1) pa_nil)))) (pg_name (i := 2) sc_drop_descendants.nd rfl (.inl rfl)) (pss_one (ps_expr (pe_fn (f__drop T) hr (by decide) T.g__drop passS0 (pa_cons (pv 0) (pa_cons (pv 2) pa_nil)))))))), ?_⟩
  refine ⟨_, rfl, _, _, _, _, rfl, N.o, rfl, _, rfl, _, _, N.o, by show 7 ≤ 9; omega, ?_⟩
  have N := N.upF x.rn x.made (x.ver + 1)
  refine ⟨_, rfl, _, _, _, _, rfl, N.o, rfl, _, rfl, (x.s, nds, dfs, n), rfl, N.st, hl, fun H1 l s1 nl hl1 => ?_⟩
  have nin := N.notNew nl
  have N := N.mono s1
  have lB : hide H1 (({ x with ver := x.ver + 1 } : EA).all e) l = some (.lst (nInts ((dfn nds n nds.length).drop 1).reverse)) := by
    rw [hide_out nin]
    exact hl1
  have Bl := N.below
  refine ⟨_, rfl, ⟨_, SqL.of hl1⟩, ?_⟩
  refine for_list (xs := nInts ((dfn nds n nds.length).drop 1).reverse) (fun i σ H' => (∃ u, σ = [some (.ref e), some (.int n), u]) ∧ ∃ x', En K (hide H1 (({ x with ver := x.ver + 1 } : EA).all e)) H' e x' (offb nds fun j => decide (j ∈ (((dfn nds n nds.length).drop 1).reverse).take i)) dfs)
    ⟨⟨_, rfl⟩, _, by rw [List.take_zero, offb_congr (R := fun _ => false) (fun i _ => by simp), offb_none]; exact N.hide⟩ (fun i σ H' _ q => ?_) (fun i v σ H' hv q => ?_) (fun σ H' q => ?_)
  · obtain ⟨_, x', N'⟩ := q
    exact SqL.of (N'.sm _ _ lB)
  · obtain ⟨⟨u, rfl⟩, x', N'⟩ := q
    unfold nInts at hv
    rw [List.getElem?_map] at hv
    obtain ⟨j, hj, rfl⟩ := Option.map_eq_some_iff.mp hv
    have hjl : j < nds.length := by
      have m := List.mem_of_getElem? hj
      rw [List.mem_reverse] at m
      have m := List.mem_of_mem_drop m
      rcases dfn_lt m with e | e
      · omega
      · exact e
    have hdj : (offb nds fun j => decide (j ∈ (((dfn nds n nds.length).drop 1).reverse).take i))[j]? = some _ := List.getElem?_eq_getElem (by rw [offb_len]; exact hjl)
    refine ⟨_, rfl, _, rfl, (⟨e, x', _, _, dfs⟩, j, _), rfl, N', hdj, fun H2 N2 => ?_⟩
    refine ⟨⟨_, rfl⟩, x', ?_⟩
    rw [offb_set hdj] at N2
    rw [take_snoc hj]
    rw [offb_congr (R := fun i_1 => decide (i_1 ∈ (((dfn nds n nds.length).drop 1).reverse).take i) || decide (i_1 = j)) (fun i _ => by simp [Bool.decide_or])]
    exact N2
  · obtain ⟨_, x', N'⟩ := q
    unfold nInts at N'
    rw [List.length_map, List.take_length] at N'
    exact h _ _ (N'.back Bl)
theorem sc_drop : FnScope ["engine", "number"] ["engine", "number"] (defScope s_drop) := ⟨rfl, rfl, rfl, by decide +kernel, rfl, by decide +kernel, by decide +kernel⟩
def sp_drop (K : Frag) : Sp := SpX (fun x : (Addr × EA × Hp × List Nd × List V) × Nat × Nd => [.ref x.1.1, .int x.2.1]) fun ⟨⟨e, x, B, nds, dfs⟩, n, d⟩ H Q E =>
  En K B H e x nds dfs ∧ nds[n]? = some d ∧ nds.length ≤ 1000 ∧ ∀ H' x', En K B H' e x' (if d.act = true then offb nds fun i => decide (i ∈ dfn nds n nds.length) else nds) dfs → Q .non H'
theorem f_drop (T : Txt w K mg) : Fn CX0 prog w K mg base 4 (He.ga K "drop") ["engine", "number"] (sp_drop K) :=
  Txt.fnx T 36 d_drop rfl rfl sc_drop (fun _ _ _ _ _ _ us hl => match us, hl with | [_, _], _ => rfl) (fun _ => rfl)
  fun cdv A outer s H ⟨⟨e, x, B, nds, dfs⟩, n, d⟩ Q E hr ⟨N, hd, hl, h⟩ => by
  obtain ⟨a, ha, hnode⟩ := N.st.at hd
  obtain ⟨adx, aw, ac, ap, ao, hc, hp⟩ := hnode
  have hn := (List.getElem?_eq_some_iff.mp hd).1
  refine ⟨_, (pss_one (ps_if (pt_val (T.p_Node_active (pe_mt1 (ns := enNs) T.c_Engine T.m_Engine_node (by decide) (f_Engine_node T) hr (by decide) passS0 (pv 0) (pa_cons (pv 1) pa_nil)))) (pss_cons (ps_expr (pe_fn (f_drop_descendants T) hr (by decide) T.g_drop_descendants passS0 (pa_cons (pv 0) (pa_cons (pv 1) pa_nil))))
      (pss_one (ps_expr (pe_fn (f__drop T) hr (by decide) T.g__drop passS0 (pa_cons (pv 0) (pa_cons (pv 1) pa_nil)))))) pss_nil)), ?_⟩
  refine ⟨_, rfl, _, _, _, rfl, N.o, _, rfl, ⟨e, x, B, nds, dfs, n, a⟩, rfl, N, ha, ?_⟩
  refine ⟨_, _, _, _, rfl, ao, rfl, _, rfl, ?_⟩
  cases hact : d.act with
  | false =>
    have h := h H x
    rw [hact] at h
    exact h N
  | true =>
    refine ⟨_, rfl, _, rfl, (⟨e, x, B, nds, dfs⟩, n), rfl, N, hn, hl, fun H1 x1 N1 => ?_⟩
    obtain ⟨d1, hd1⟩ : ∃ d1, (offb nds fun i => decide (i ∈ ((dfn nds n nds.length).drop 1).reverse))[n]? = some d1 := ⟨_, List.getElem?_eq_getElem (by rw [offb_len]; exact hn)⟩
    refine ⟨_, rfl, _, rfl, (⟨e, x1, B, _, dfs⟩, n, d1), rfl, N1, hd1, fun H2 N2 => ?_⟩
    have h := h H2 x1
    rw [hact] at h
    rw [offb_set hd1] at N2
    obtain ⟨t, et⟩ := dfn_head nds n nds.length
    refine h ?_
    rw [if_pos rfl, offb_congr (R := fun i => decide (i ∈ ((dfn nds n nds.length).drop 1).reverse) || decide (i = n)) fun i _ => ?_]
    · exact N2
    · rw [et]
      simp [Bool.or_comm]
theorem sc_dispose : FnScope ["engine", "number"] ["engine", "number"] (defScope s_dispose) := ⟨rfl, rfl, rfl, by decide +kernel, rfl, by decide +kernel, by decide +kernel⟩
def sp_dispose (K : Frag) : Sp := SpX (fun x : (Addr × EA × Hp × List Nd × List V) × Nat × Nd => [.ref x.1.1, .int x.2.1]) fun ⟨⟨e, x, B, nds, dfs⟩, n, d⟩ H Q E =>
  En K B H e x nds dfs ∧ nds[n]? = some d ∧ 0 < n ∧ nds.length ≤ 1000 ∧ ∀ H' x', En K B H' e x' (if d.act = true then offb nds fun i => decide (i ∈ dfn nds n nds.length) else nds) dfs → Q .non H'
theorem f_dispose (T : Txt w K mg) : Fn CX0 prog w K mg base 5 (He.ga K "dispose") ["engine", "number"] (sp_dispose K) :=
  Txt.fnx T 37 d_dispose rfl rfl sc_dispose (fun _ _ _ _ _ _ us hl => match us, hl with | [_, _], _ => rfl) (fun _ => rfl)
  fun cdv A outer s H ⟨⟨e, x, B, nds, dfs⟩, n, d⟩ Q E hr ⟨N, hd, h0, hl, h⟩ => by
  refine ⟨_, (pss_cons (ps_if (pt_cmpR op_eq (pv 1) pe_int (nomark _)) (pss_one ps_never) pss_nil)
    (pss_cons (ps_if (PW.pt (pw_and (pt_cmpR op_notN (T.p_Engine_running (pv 0)) pe_non (nomark _)) (pw_and1 (pt_val pe_never)))) (pss_one ps_never) pss_nil)
    (pss_one (ps_expr (pe_fn (f_drop T) hr (by decide) T.g_drop passS0 (pa_cons (pv 0) (pa_cons (pv 1) pa_nil))))))), ?_⟩
  refine ⟨_, rfl, rfl, _, rfl, ?_⟩
  refine ite2 (fun hq => ?_) fun _ => ?_
  · exfalso
    simp [eqV] at hq
    omega
  refine ⟨_, rfl, _, _, _, _, rfl, N.o, rfl, rfl, _, rfl, ?_⟩
  exact ⟨_, rfl, _, rfl, (⟨e, x, B, nds, dfs⟩, n, d), rfl, N, hd, hl, h⟩
theorem sc_Engine_dispose : FnScope ["self", "number"] ["self", "number"] (defScope s_Engine_dispose) := ⟨rfl, rfl, rfl, by decide +kernel, rfl, by decide +kernel, by decide +kernel⟩
def sp_Engine_dispose (K : Frag) : Sp := sp_dispose K
theorem Txt.mkA (T : Txt w K mg) : He.ga K "make_changing" = He.ga K "make" := of_decide_eq_true (T.e 6 (f := fun K => decide (He.ga K "make_changing" = He.ga K "make")) rfl)
theorem Txt.dsA (T : Txt w K mg) : He.ga K "dispose_changing" = He.ga K "dispose" := of_decide_eq_true (T.e 7 (f := fun K => decide (He.ga K "dispose_changing" = He.ga K "dispose")) rfl)
theorem f_Engine_dispose (T : Txt w K mg) : Fn CX0 prog w K mg base 6 (He.ma K (He.ga K "Engine") "dispose") ["self", "number"] (sp_Engine_dispose K) :=
  Txt.fnx T 63 d_Engine_dispose rfl rfl sc_Engine_dispose (fun _ _ _ _ _ _ us hl => match us, hl with | [_, _], _ => rfl) (fun _ => rfl)
  fun cdv A outer s H ⟨⟨e, x, B, nds, dfs⟩, n, d⟩ Q E hr ⟨N, hd, h0, hl, h⟩ => by
  refine ⟨_, (pss_one (ps_expr (pe_fn (f_dispose T) hr (by decide) (T.dsA ▸ T.g_dispose_changing) passS0 (pa_cons (pv 0) (pa_cons (pv 1) pa_nil))))), ?_⟩
  exact ⟨_, rfl, _, rfl, (⟨e, x, B, nds, dfs⟩, n, d), rfl, N, hd, h0, hl, h⟩
theorem sc_Engine_make : FnScope ["self", "kind", "owner"] ["self", "kind", "owner"] (defScope s_Engine_make) := ⟨rfl, rfl, rfl, by decide +kernel, rfl, by decide +kernel, by decide +kernel⟩
def sp_Engine_make (K : Frag) : Sp := sp_make K
theorem f_Engine_make (T : Txt w K mg) : Fn (L2.CX prog w) prog w K mg base 4 (He.ma K (He.ga K "Engine") "make") ["self", "kind", "owner"] (sp_Engine_make K) :=
  Txt.fnx T 62 d_Engine_make rfl rfl sc_Engine_make (fun _ _ _ _ _ _ us hl => match us, hl with | [_, _, _], _ => rfl) (fun _ => rfl)
  fun cdv A outer s H ⟨⟨e, x, B, nds, dfs⟩, k, n, d⟩ Q E hr h => by
  refine ⟨_, (pss_one (ps_ret (pe_fn (f_make T) hr (by decide) (T.mkA ▸ T.g_make_changing) (passSX (takes_of rfl rfl rfl rfl)) (pa_cons (pv 0) (pa_cons (pv 1) (pa_cons (pv 2) pa_nil)))))), ?_⟩
  exact ⟨_, rfl, _, rfl, _, rfl, (⟨e, x, B, nds, dfs⟩, k, n, d), rfl, h⟩
theorem sc_Engine_use : FnScope ["self", "number", "context"] ["self", "number", "context"] (defScope s_Engine_use) := ⟨rfl, rfl, rfl, by decide +kernel, rfl, by decide +kernel, by decide +kernel⟩
def sp_Engine_use (K : Frag) : Sp := SpX (fun x : (Addr × EA × Hp × List Nd × List V) × Nat × Nd × Nat × V => [.ref x.1.1, .int x.2.1, .int x.2.2.2.1]) fun ⟨⟨e, x, B, nds, dfs⟩, n, d, c, v⟩ H Q E =>
  En K B H e x nds dfs ∧ WfN nds ∧ nds[n]? = some d ∧ CtxV nds dfs c (some n) v ∧ (d.act = true → ∀ H', Same H H' → Q v H') ∧ (d.act = false → Err K E H "disposed")
theorem f_Engine_use (T : Txt w K mg) : Fn (L2.CX prog w) prog w K mg base 3 (He.ma K (He.ga K "Engine") "use") ["self", "number", "context"] (sp_Engine_use K) :=
  Txt.fnx T 61 d_Engine_use rfl rfl sc_Engine_use (fun _ _ _ _ _ _ us hl => match us, hl with | [_, _, _], _ => rfl) (fun _ => rfl)
  fun cdv A outer s H ⟨⟨e, x, B, nds, dfs⟩, n, d, c, v⟩ Q E hr ⟨N, wf, hd, hc, h1, h2⟩ => by
  refine ⟨_, (pss_cons (ps_expr (pe_fn (f_require_active T) hr (by decide) T.g_require_active (passSX (takes_of rfl rfl rfl rfl)) (pa_cons (pv 0) (pa_cons (pv 1) pa_nil))))
    (pss_one (ps_ret (pe_fn (f_context_value T) hr (by decide) T.g_context_value passS0 (pa_cons (T.p_Engine_state (pv 0)) (pa_cons (pv 1) (pa_cons (pv 2) pa_nil))))))), ?_⟩
  refine ⟨_, rfl, _, rfl, (⟨e, x, B, nds, dfs⟩, n, d), rfl, N, hd, fun ha => ?_, h2⟩
  exact ⟨_, rfl, _, _, _, _, rfl, N.o, rfl, _, rfl, _, rfl, (x.s, nds, dfs, n, c, v), rfl, N.st, wf, (List.getElem?_eq_some_iff.mp hd).1, hc, h1 ha⟩

end
end K47
namespace K47
open PySem PySem.Spec PyProof.Rows L2
open PySem.W (Frag)
section
variable {w : World} {K : Frag} {mg : Str → Option Value} {base : Heap}
/-! the engine's round -/
def KindOk (nds : List Nd) : Prop := ∀ d ∈ nds, d.kind = "scope" ∨ d.kind = "boundary"
theorem sc_Engine_remember : FnScope ["self", "before"] ["self", "before"] (defScope s_Engine_remember) := ⟨rfl, rfl, rfl, by decide +kernel, rfl, by decide +kernel, by decide +kernel⟩
def sp_Engine_remember (K : Frag) : Sp := SpX (fun x : (Addr × EA × Hp × List Nd × List V) × V => [.ref x.1.1, x.2]) fun ⟨⟨e, x, B, nds, dfs⟩, b⟩ H Q E => En K B H e x nds dfs ∧ ∀ H' x', En K B H' e x' nds dfs → Q .non H'
theorem f_Engine_remember (T : Txt w K mg) : Fn CX0 prog w K mg base 1 (He.ma K (He.ga K "Engine") "remember") ["self", "before"] (sp_Engine_remember K) :=
  Txt.fnx T 64 d_Engine_remember rfl rfl sc_Engine_remember (fun _ _ _ _ _ _ us hl => match us, hl with | [_, _], _ => rfl) (fun _ => rfl)
  fun cdv A outer s H ⟨⟨e, x, B, nds, dfs⟩, b⟩ Q E hr ⟨N, h⟩ => by
  refine ⟨_, (pss_cons (ps_expr (pe_bm PySem.F.plainAttrs_list PySem.F.slot_list_append PySem.F.type_list_append mt_append (T.p_Engine_history (pv 0)) (pa_cons (pv 1) pa_nil)))
    (pss_one (ps_if (pt_cmpR op_gt (pe_callB call_len_seq (by rfl) T.b_len (by decide +kernel) (pa_cons (T.p_Engine_history (pv 0)) pa_nil)) (pg_i T.i_MOST_STATES) (nomark _)) (pss_one (T.q_Engine_history (pv 0) (pe_slice sl_list (T.p_Engine_history (pv 0)) (po_some pe_int) po_none))) pss_nil))), ?_⟩
  refine ⟨_, rfl, _, _, _, _, rfl, N.o, rfl, .inl ⟨rfl, _, SqL.of N.lh⟩, _, rfl, _, _, _, rfl, rfl, N.lh, ?_, ?_⟩
  · have := N.hl
    rw [sizeLine_eq]
    omega
  obtain ⟨n1, n2, n3, n4, n5, n6⟩ := N.ne
  have eo : upd H x.lh (.lst (x.hs ++ [b])) e = some (enO K x) := by rw [upd_ne n2]; exact N.o
  have el : upd H x.lh (.lst (x.hs ++ [b])) x.lh = some (.lst (x.hs ++ [b])) := upd_same
  refine ⟨_, rfl, _, _, _, _, rfl, eo, rfl, _, _, rfl, .inl (SqL.of el), _, _, rfl, rfl, _, rfl, ?_⟩
  refine ite2 (fun hq => ?_) fun hq => ?_
  · refine ⟨_, rfl, _, _, _, _, rfl, eo, rfl, 1, rfl, _, _, rfl, SqL.of el, fun p np => ?_⟩
    have pe : p ≠ e := fun z => by rw [z, eo] at np; cases np
    have pl : p ≠ x.lo := fun z => by
      rw [z, upd_ne n4, N.lo] at np
      cases np
    have pB : B p = none := by
      have := np
      by_cases z : p = x.lh
      · rw [z]; exact N.fr _ (by simp [EA.all])
      · rw [upd_ne z] at this
        exact N.sm.free this
    have ps : p ∉ x.s.all := fun m => by
      obtain ⟨o, q, _⟩ := N.st.has m
      by_cases z : p = x.lh
      · exact n6 (z ▸ m)
      · rw [upd_ne z, q] at np
        cases np
    have st1 : StAt K (upd (upd H x.lh (.lst (x.hs ++ [b]))) p (.lst (cutV (x.hs ++ [b]) (some 1) none))) x.s nds dfs := (N.st.out n6 fun t z => by rw [N.lh] at z; cases z).mono (same_upd np)
    have sm1 : Same B (upd (upd H x.lh (.lst (x.hs ++ [b]))) p (.lst (cutV (x.hs ++ [b]) (some 1) none))) := (same_put N.sm (N.fr _ (by simp [EA.all]))).trans (same_upd np)
    have e1 : upd (upd H x.lh (.lst (x.hs ++ [b]))) p (.lst (cutV (x.hs ++ [b]) (some 1) none)) e = some (enO K x) := by rw [upd_ne (Ne.symm pe)]; exact eo
    refine ⟨_, rfl, _, _, _, rfl, e1, by show 8 ≤ 9; omega, ?_⟩
    refine h _ { x with lh := p, hs := cutV (x.hs ++ [b]) (some 1) none } ⟨upd_same, ?_, ?_, ?_, ?_, ?_, same_put sm1 (N.fr _ (by simp [EA.all])), ?_⟩
    · rw [upd_ne (Ne.symm n1), upd_ne (Ne.symm pl), upd_ne n4]
      exact N.lo
    · rw [upd_ne pe]
      exact upd_same
    · have h1 := cutV_length (x.hs ++ [b]) (some 1) none
      have h2 : (cutV (x.hs ++ [b]) (some 1) none).length ≤ (x.hs ++ [b]).length - 1 := by
        unfold cutV
        rw [List.length_take, List.length_drop]
        have : HT.sIx (x.hs ++ [b]).length 0 (some 1) = 1 := by
          have hl : 1 ≤ (x.hs ++ [b]).length := by rw [List.length_append]; exact Nat.le_add_left _ _
          simp [HT.sIx] <;> omega
        omega
      have := N.hl
      have e3 : (x.hs ++ [b]).length = x.hs.length + 1 := by rw [List.length_append]; rfl
      show (cutV (x.hs ++ [b]) (some 1) none).length ≤ 16
      omega
    · exact st1.out n3 fun t z => by rw [e1] at z; cases z
    · have q := N.nd
      unfold EA.all at q ⊢
      simp only [List.nodup_cons, List.mem_cons, not_or] at q ⊢
      exact ⟨⟨q.1.1, Ne.symm pe, q.1.2.2⟩, ⟨Ne.symm pl, q.2.1.2⟩, ps, q.2.2.2⟩
    · intro a m
      unfold EA.all at m
      simp only [List.mem_cons] at m
      rcases m with m | m | m | m
      · exact N.fr a (by simp [EA.all, m])
      · exact N.fr a (by simp [EA.all, m])
      · rw [m]; exact pB
      · exact N.fr a (by simp [EA.all, m])
  · have hl : (x.hs ++ [b]).length ≤ 16 := by
      simp at hq
      simp
      omega
    exact h _ _ (N.upH hl)
theorem sc__pass : FnScope ["engine", "last", "executed", "number", "writes", "told", "node", "cause"] ["engine", "last"] (defScope s__pass) := ⟨rfl, rfl, rfl, by decide +kernel, rfl, by decide +kernel, by decide +kernel⟩
def sp__pass (K : Frag) : Sp := SpX (fun x : (Addr × EA × Hp × List Nd × List V) × V => [.ref x.1.1, x.2]) fun ⟨⟨e, x, B, nds, dfs⟩, b⟩ H Q E => En K B H e x nds dfs ∧ KindOk nds ∧ ∀ H' x', En K B H' e x' nds dfs → Q (.bl false) H'
theorem f__pass (T : Txt w K mg) : Fn CX0 prog w K mg base 2 (He.ga K "_pass") ["engine", "last"] (sp__pass K) :=
  Txt.fnx T 38 d__pass rfl rfl sc__pass (fun _ _ _ _ _ _ us hl => match us, hl with | [_, _], _ => rfl) (fun _ => rfl)
  fun cdv A outer s H ⟨⟨e, x, B, nds, dfs⟩, b⟩ Q E hr ⟨N, kk, h⟩ => by
  refine ⟨_, (pss_cons (ps_set (i := 2) sc__pass.nd rfl (.inl rfl) pe_bl)
    (pss_cons (T.q_Engine_deferred (pv 0) (pe_lst pa_nil))
    (pss_cons (ps_set (i := 3) sc__pass.nd rfl (.inl rfl) pe_int)
    (pss_cons (ps_while (passes_of rfl) (pt_cmpR op_lt (pv 3) (pe_callB call_len_seq (by rfl) T.b_len (by decide +kernel) (pa_cons (T.p_State_nodes (T.p_Engine_state (pv 0))) pa_nil)) (nomark _)) (pss_cons (ps_set (i := 6) sc__pass.nd rfl (.inl rfl) (pe_mt1 (ns := enNs) T.c_Engine T.m_Engine_node (by decide) (f_Engine_node T) hr (by decide) passS0 (pv 0) (pa_cons (pv 3) pa_nil)))
      (pss_cons (ps_if (PW.pt (pw_and (pt_val (T.p_Node_active (pv 6))) (pw_and1 (pt_cmpR op_in_seq (T.p_Node_kind (pv 6)) (pe_tup (pa_cons pe_str (pa_cons pe_str pa_nil))) rfl)))) (pss_cons ps_never
        (pss_one (ps_if (pt_cmpR op_notN (pv 7) pe_non (nomark _)) (pss_cons ps_never
          (pss_cons (ps_set (i := 2) sc__pass.nd rfl (.inl rfl) pe_bl)
          (pss_one ps_never))) pss_nil))) pss_nil)
      (pss_one (ps_aug (i := 3) sc__pass.nd rfl (.inl rfl) pe_int ip_add)))))
    (pss_cons (ps_set (i := 4) sc__pass.nd rfl (.inl rfl) (T.p_Engine_deferred (pv 0)))
    (pss_cons (T.q_Engine_deferred (pv 0) pe_non)
    (pss_cons (ps_for (passes_of rfl) rfl (pi_list (pv 4)) (pg_name (i := 5) sc__pass.nd rfl (.inl rfl)) (pss_one ps_never))
    (pss_one (ps_ret (pv 2)))))))))), ?_⟩
  refine ⟨Nat.zero_le _, fun dl nd => ?_⟩
  have N := N.mono (same_upd (o := .lst []) nd)
  refine ⟨_, rfl, _, _, _, rfl, N.o, by show 4 ≤ 9; omega, ?_⟩
  have ndl : dl ∉ ({ x with df := .ref dl } : EA).all e := ‹En K B H e x nds dfs›.notNew nd
  have hdl : upd (upd H dl (.lst [])) e (enO K { x with df := .ref dl }) dl = some (.lst []) := by
    rw [upd_ne fun z => ndl (by simp [EA.all, z])]
    exact upd_same
  have N := N.upD (.ref dl)
  obtain ⟨H2, hH2⟩ : ∃ H2, H2 = upd (upd H dl (.lst [])) e (enO K { x with df := .ref dl }) := ⟨_, rfl⟩
  rw [← hH2] at N hdl
  refine ⟨fun m σ H' => ∃ (i : Nat) (u : Option V), i ≤ nds.length ∧ m = nds.length - i ∧ σ = [some (.ref e), some b, some (.bl false), some (.int i), none, none, u, none] ∧ Same H2 H', ⟨nds.length, 0, _, Nat.zero_le _, rfl, rfl, by rw [hH2]; exact Same.refl _⟩, ?_⟩
  rintro m σ H' ⟨i, u, hi, rfl, rfl, sm⟩
  have N' := N.mono sm
  refine ⟨_, rfl, _, rfl, _, _, _, _, rfl, N'.o, rfl, _, _, _, _, rfl, N'.st.o, rfl, _, _, rfl, .inl (SqL.of N'.st.n), _, _, rfl, rfl, _, rfl, ?_⟩
  refine ite2 (fun hq => ?_) fun hq => ?_
  · have hlt : i < nds.length := by
      simp at hq
      rw [N'.st.len] at hq
      exact hq
    have hd : nds[i]? = some nds[i] := List.getElem?_eq_getElem hlt
    obtain ⟨a, ha, hnode⟩ := N'.st.at hd
    obtain ⟨adx, aw, ac, ap, ao, _⟩ := hnode
    refine ⟨fun σ' H'' => ∃ u, σ' = [some (.ref e), some b, some (.bl false), some (.int ((i + 1 : Nat) : Int)), none, none, u, none] ∧ Same H2 H'', fun σ' H'' ⟨u, e1, s1⟩ => ⟨nds.length - (i + 1), by omega, i + 1, u, hlt, rfl, e1, s1⟩, ?_⟩
    refine ⟨_, rfl, _, _, _, rfl, N'.o, _, rfl, ⟨e, _, B, nds, dfs, i, a⟩, rfl, N', ha, ?_⟩
    refine ⟨_, rfl, _, _, _, _, rfl, ao, rfl, _, rfl, ?_⟩
    have last : ∀ H3, Same H' H3 → ∃ u, ([some (.ref e), some b, some (.bl false), some (.int ((i : Int) + 1)), none, none, some (.ref a), none] : List (Option V)) = [some (.ref e), some b, some (.bl false), some (.int ((i + 1 : Nat) : Int)), none, none, u, none] ∧ Same H2 H3 := fun H3 s3 => ⟨some (.ref a), by rw [Int.natCast_succ], sm.trans s3⟩
    cases hact : nds[i].act with
    | false => exact ⟨_, rfl, _, _, rfl, rfl, last _ (Same.refl _)⟩
    | true =>
      refine ⟨_, rfl, _, _, _, _, rfl, ao, rfl, by show 2 ≤ sizeLine; rw [sizeLine_eq]; omega, fun t nt => ?_⟩
      refine ⟨_, _, rfl, .inr (SqT.of upd_same), rfl, rfl, _, rfl, ?_⟩
      have hk : inV (.str nds[i].kind) [.str "effect", .str "keyed"] = false := by
        rcases kk nds[i] (List.getElem_mem hlt) with z | z <;> rw [z] <;> decide +kernel
      show if inV (.str nds[i].kind) [.str "effect", .str "keyed"] = true then _ else _
      rw [hk]
      exact ⟨_, rfl, _, _, rfl, rfl, last _ (same_upd nt)⟩
  · refine ⟨_, rfl, _, _, _, _, rfl, N'.o, rfl, ?_⟩
    refine ⟨_, rfl, _, _, _, rfl, N'.o, by show 4 ≤ 9; omega, ?_⟩
    have hdl' : upd H' e (enO K { ({ x with df := .ref dl } : EA) with df := .non }) dl = some (.lst []) := by
      rw [upd_ne fun z => ndl (by simp [EA.all, z])]
      exact sm _ _ hdl
    have N' := N'.upD .non
    refine ⟨_, rfl, dl, rfl, ⟨_, SqL.of hdl'⟩, ?_⟩
    refine for_list (xs := []) (fun _ σ H3 => σ[2]? = some (some (.bl false)) ∧ H3 = upd H' e (enO K { ({ x with df := .ref dl } : EA) with df := .non })) ⟨rfl, rfl⟩ (fun i σ H _ q => by rw [q.2]; exact SqL.of hdl') (fun i x σ H hx q => by cases i <;> cases hx) (fun σ H3 q => ?_)
    refine ⟨_, q.1, ?_⟩
    rw [q.2]
    exact h _ _ N'
theorem sc_propagate : FnScope ["engine", "passes"] ["engine"] (defScope s_propagate) := ⟨rfl, rfl, rfl, by decide +kernel, rfl, by decide +kernel, by decide +kernel⟩
def sp_propagate (K : Frag) : Sp := SpX (fun x : (Addr × EA × Hp × List Nd × List V) => [.ref x.1]) fun ⟨e, x, B, nds, dfs⟩ H Q E => En K B H e x nds dfs ∧ KindOk nds ∧ ∀ H' x', En K B H' e x' nds dfs → Q .non H'
theorem f_propagate (T : Txt w K mg) : Fn CX0 prog w K mg base 3 (He.ga K "propagate") ["engine"] (sp_propagate K) :=
  Txt.fnx T 39 d_propagate rfl rfl sc_propagate (fun _ _ _ _ _ _ us hl => match us, hl with | [_], _ => rfl) (fun _ => rfl)
  fun cdv A outer s H ⟨e, x, B, nds, dfs⟩ Q E hr ⟨N, kk, h⟩ => by
  refine ⟨_, (pss_cons (ps_set (i := 1) sc_propagate.nd rfl (.inl rfl) pe_int)
    (pss_one (ps_while (passes_of rfl) (pt_val (pe_fn (f__pass T) hr (by decide) T.g__pass passS0 (pa_cons (pv 0) (pa_cons (pe_cmpR op_eq (pv 1) (pg_i T.i_MOST_PASSES) (nomark _)) pa_nil)))) (pss_one (ps_aug (i := 1) sc_propagate.nd rfl (.inl rfl) pe_int ip_add))))), ?_⟩
  refine ⟨fun m σ H' => m = 0 ∧ (∃ i : Int, σ = [some (.ref e), some (.int i)]) ∧ ∃ x', En K B H' e x' nds dfs, ⟨0, rfl, ⟨_, rfl⟩, x, N⟩, ?_⟩
  rintro m σ H' ⟨rfl, ⟨i, rfl⟩, x', N'⟩
  refine ⟨_, rfl, _, rfl, rfl, (⟨e, x', B, nds, dfs⟩, _), rfl, N', kk, fun H2 x2 N2 => ⟨_, rfl, ?_⟩⟩
  exact h H2 x2 N2
theorem sc_make_requests : FnScope ["engine", "number", "node"] ["engine"] (defScope s_make_requests) := ⟨rfl, rfl, rfl, by decide +kernel, rfl, by decide +kernel, by decide +kernel⟩
def sp_make_requests (K : Frag) : Sp := SpX (fun x : (Addr × EA × Hp × List Nd × List V) => [.ref x.1]) fun ⟨e, x, B, nds, dfs⟩ H Q E => En K B H e x nds dfs ∧ KindOk nds ∧ nds.length ≤ 1000 ∧ Q .non H
theorem f_make_requests (T : Txt w K mg) : Fn CX0 prog w K mg base 2 (He.ga K "make_requests") ["engine"] (sp_make_requests K) :=
  Txt.fnx T 27 d_make_requests rfl rfl sc_make_requests (fun _ _ _ _ _ _ us hl => match us, hl with | [_], _ => rfl) (fun _ => rfl)
  fun cdv A outer s H ⟨e, x, B, nds, dfs⟩ Q E hr ⟨N, kk, hl, h⟩ => by
  refine ⟨_, (pss_one (ps_for (passes_of rfl) rfl (pi_range1 (by rfl) T.b_range (pa_cons (pe_callB call_len_seq (by rfl) T.b_len (by decide +kernel) (pa_cons (T.p_State_nodes (T.p_Engine_state (pv 0))) pa_nil)) pa_nil)) (pg_name (i := 1) sc_make_requests.nd rfl (.inl rfl)) (pss_cons (ps_set (i := 2) sc_make_requests.nd rfl (.inl rfl) (pe_mt1 (ns := enNs) T.c_Engine T.m_Engine_node (by decide) (f_Engine_node T) hr (by decide) passS0 (pv 0) (pa_cons (pv 1) pa_nil)))
      (pss_one (ps_if (PW.pt (pw_and (pt_val (T.p_Node_active (pv 2))) (pw_and1 (pt_cmpR op_eq (T.p_Node_kind (pv 2)) pe_str (nomark _))))) (pss_one ps_never) pss_nil))))), ?_⟩
  refine ⟨_, rfl, _, _, _, _, rfl, N.o, rfl, _, _, _, _, rfl, N.st.o, rfl, _, _, rfl, .inl (SqL.of N.st.n), _, rfl, by omega, ?_, ?_⟩
  · rw [List.length_map, N.st.len]
    omega
  rw [List.length_map, N.st.len]
  refine for_range (lo := 0) (n := nds.length) (fun i σ H' => H' = H ∧ ∃ u v, σ = [some (.ref e), u, v]) ⟨rfl, _, _, rfl⟩ (fun i σ H' hi q => ?_) (fun σ H' q => ?_)
  · obtain ⟨rfl, u, v, rfl⟩ := q
    have hd : nds[i]? = some nds[i] := List.getElem?_eq_getElem hi
    obtain ⟨a, ha, hnode⟩ := N.st.at hd
    obtain ⟨adx, aw, ac, ap, ao, _⟩ := hnode
    have e0 : (0 : Int) + (i : Int) = i := Int.zero_add _
    rw [e0]
    refine ⟨_, rfl, _, _, _, rfl, N.o, _, rfl, ⟨e, x, B, nds, dfs, i, a⟩, rfl, N, ha, ?_⟩
    refine ⟨_, rfl, _, _, _, _, rfl, ao, rfl, _, rfl, ?_⟩
    cases hact : nds[i].act with
    | false => exact ⟨rfl, _, _, rfl⟩
    | true =>
      refine ⟨_, rfl, _, _, _, _, rfl, ao, rfl, rfl, _, rfl, ?_⟩
      refine ite2 (fun hq => ?_) fun hq => ⟨rfl, _, _, rfl⟩
      exfalso
      rcases kk nds[i] (List.getElem_mem hi) with z | z <;> rw [z] at hq <;> revert hq <;> decide +kernel
  · obtain ⟨rfl, _⟩ := q
    exact h
theorem sc_serve : FnScope ["engine", "subscriptions", "at"] ["engine"] (defScope s_serve) := ⟨rfl, rfl, rfl, by decide +kernel, rfl, by decide +kernel, by decide +kernel⟩
def sp_serve (K : Frag) : Sp := SpX (fun x : (Addr × EA × Hp × List Nd × List V) => [.ref x.1]) fun ⟨e, x, B, nds, dfs⟩ H Q E => En K B H e x nds dfs ∧ Q .non H
theorem f_serve (T : Txt w K mg) : Fn CX0 prog w K mg base 1 (He.ga K "serve") ["engine"] (sp_serve K) :=
  Txt.fnx T 28 d_serve rfl rfl sc_serve (fun _ _ _ _ _ _ us hl => match us, hl with | [_], _ => rfl) (fun _ => rfl)
  fun cdv A outer s H ⟨e, x, B, nds, dfs⟩ Q E hr ⟨N, h⟩ => by
  refine ⟨_, (pss_cons (ps_set (i := 1) sc_serve.nd rfl (.inl rfl) (T.p_State_subscriptions (T.p_Engine_state (pv 0))))
    (pss_one (ps_for (passes_of rfl) rfl (pi_range1 (by rfl) T.b_range (pa_cons (pe_callB call_len_seq (by rfl) T.b_len (by decide +kernel) (pa_cons (pv 1) pa_nil)) pa_nil)) (pg_name (i := 2) sc_serve.nd rfl (.inl rfl)) (pss_one ps_never)))), ?_⟩
  refine ⟨_, rfl, _, _, _, _, rfl, N.o, rfl, _, _, _, _, rfl, N.st.o, rfl, ?_⟩
  refine ⟨_, rfl, _, _, rfl, .inl (SqL.of N.st.u), _, rfl, by decide, by decide, ?_⟩
  refine for_range (lo := 0) (n := 0) (fun i σ H' => H' = H) rfl (fun i σ H' hi q => absurd hi (Nat.not_lt_zero _)) (fun σ H' q => ?_)
  rw [q]
  exact h

end
end K47
namespace K47
open PySem PySem.Spec PyProof.Rows L2
open PySem.W (Frag)
section
variable {w : World} {K : Frag} {mg : Str → Option Value} {base : Heap}
/-! the run of the one program -/
theorem Err.mono {K : Frag} {E : XK} {H H' : Hp} {m : Str} (h : Err K E H m) (s : Same H H') : Err K E H' m := fun d H2 s2 n q => h d H2 (s.trans s2) (s.free n) q
structure RunAt (K : Frag) (H : Hp) (r e n d tc c : Nat) : Prop where
  o : ∃ rdx rl, H r = some (Ins (He.ga K "Run") rdx runNs [.ref e, .str "transaction", .non, .int n, .ref d, .ref rl])
  s : Stg H d tc c
theorem RunAt.mono {K : Frag} {H H' : Hp} {r e n d tc c : Nat} (h : RunAt K H r e n d tc c) (s : Same H H') : RunAt K H' r e n d tc c := by
  obtain ⟨rdx, rl, q⟩ := h.o
  exact ⟨⟨rdx, rl, s _ _ q⟩, h.s.mono s⟩
theorem sc_Run_init : FnScope ["self", "engine", "mode", "number", "owner", "setting"] ["self", "engine", "mode", "number", "owner", "setting"] (defScope s_Run_init) := ⟨rfl, rfl, rfl, by decide +kernel, rfl, by decide +kernel, by decide +kernel⟩
def sp_Run_init (K : Frag) : Sp := SpX (fun x : Nat × Nat × Nat × Nat × Nat × Nat × Nat × Hp => [.ref x.1, .ref x.2.1, .str "transaction", .non, .int x.2.2.1, .ref x.2.2.2.1]) fun ⟨r, e, n, d, tc, c, rdx, B⟩ H Q E =>
  H r = some (.ins (He.ga K "Run") rdx []) ∧ Same B H ∧ B r = none ∧ Stg B d tc c ∧ ∀ H' d', Same B H' → RunAt K H' r e n d' tc c → Q .non H'
theorem f_Run_init (T : Txt w K mg) : Fn CX0 prog w K mg base 1 (He.ma K (He.ga K "Run") "__init__") ["self", "engine", "mode", "number", "owner", "setting"] (sp_Run_init K) :=
  Txt.fnx T 53 d_Run_init rfl rfl sc_Run_init (fun _ _ _ _ _ _ us hl => match us, hl with | [_, _, _, _, _, _], _ => rfl) (fun _ => rfl)
  fun cdv A outer s H ⟨r, e, n, d, tc, c, rdx, B⟩ Q E hr ⟨hx, sB, bx, S, h⟩ => by
  refine ⟨_, (pss_cons (T.q_Run_engine (pv 0) (pv 1))
    (pss_cons (T.q_Run_mode (pv 0) (pv 2))
    (pss_cons (T.q_Run_number (pv 0) (pv 3))
    (pss_cons (T.q_Run_owner (pv 0) (pv 4))
    (pss_cons (T.q_Run_variables (pv 0) (pe_callTy call_dictD (by rfl) T.b_dict (by decide +kernel) (pa_cons (pv 5) pa_nil)))
    (pss_one (T.q_Run_reads (pv 0) (pe_lst pa_nil)))))))), ?_⟩
  have L := Led.start sB hx bx
  refine ⟨_, rfl, _, rfl, _, _, [], rfl, L.ob, Nat.zero_le _, ?_⟩
  have L := L.put (Ins (He.ga K "Run") rdx runNs [.ref e])
  refine ⟨_, rfl, _, rfl, _, _, _, rfl, L.ob, Nat.le_refl _, ?_⟩
  have L := L.put (Ins (He.ga K "Run") rdx runNs [.ref e, .str "transaction"])
  refine ⟨_, rfl, _, rfl, _, _, _, rfl, L.ob, Nat.le_refl _, ?_⟩
  have L := L.put (Ins (He.ga K "Run") rdx runNs [.ref e, .str "transaction", .non])
  refine ⟨_, rfl, _, rfl, _, _, _, rfl, L.ob, Nat.le_refl _, ?_⟩
  have L := L.put (Ins (He.ga K "Run") rdx runNs [.ref e, .str "transaction", .non, .int n])
  refine ⟨_, rfl, _, _, rfl, .inl (L.sm _ _ S.d), fun p np => ?_⟩
  have L := L.new np (.dK [(.inr "v", .ref tc)])
  refine ⟨_, rfl, _, _, _, rfl, L.ob, Nat.le_refl _, ?_⟩
  have L := L.put (Ins (He.ga K "Run") rdx runNs [.ref e, .str "transaction", .non, .int n, .ref p])
  refine ⟨Nat.zero_le _, fun l nl => ?_⟩
  have L := L.new nl (.lst [])
  refine ⟨_, rfl, _, _, _, rfl, L.ob, Nat.le_refl _, ?_⟩
  have L := L.put (Ins (He.ga K "Run") rdx runNs [.ref e, .str "transaction", .non, .int n, .ref p, .ref l])
  exact h _ p L.sm ⟨⟨_, _, L.ob⟩, L.at_ (p, .dK [(.inr "v", .ref tc)]) (by simp), L.sm _ _ S.t⟩
theorem sc_Run_needs : FnScope ["self", "allowed"] ["self", "allowed"] (defScope s_Run_needs) := ⟨rfl, rfl, rfl, by decide +kernel, rfl, by decide +kernel, by decide +kernel⟩
def sp_Run_needs (K : Frag) : Sp := SpX (fun x : Nat => [.ref x, .bl true]) fun x H Q E => Q .non H
theorem f_Run_needs (T : Txt w K mg) : Fn CX0 prog w K mg base 1 (He.ma K (He.ga K "Run") "needs") ["self", "allowed"] (sp_Run_needs K) :=
  Txt.fnx T 54 d_Run_needs rfl rfl sc_Run_needs (fun _ _ _ _ _ _ us hl => match us, hl with | [_, _], _ => rfl) (fun _ => rfl)
  fun cdv A outer s H x Q E hr h => by
  refine ⟨_, (pss_one (ps_if (pt_not (pt_val (pv 1))) (pss_one ps_never) pss_nil)), ?_⟩
  exact ⟨_, rfl, _, rfl, h⟩
theorem sc_variable : FnScope ["run", "name"] ["run", "name"] (defScope s_variable) := ⟨rfl, rfl, rfl, by decide +kernel, rfl, by decide +kernel, by decide +kernel⟩
def sp_variable (K : Frag) : Sp := SpX (fun x : Nat × Nat × Nat × Nat × Nat × Nat => [.ref x.1, .str "v"]) fun ⟨r, e, n, d, tc, c⟩ H Q E => RunAt K H r e n d tc c ∧ Q (.ref tc) H
theorem f_variable (T : Txt w K mg) : Fn CX0 prog w K mg base 1 (He.ga K "variable") ["run", "name"] (sp_variable K) :=
  Txt.fnx T 20 d_variable rfl rfl sc_variable (fun _ _ _ _ _ _ us hl => match us, hl with | [_, _], _ => rfl) (fun _ => rfl)
  fun cdv A outer s H ⟨r, e, n, d, tc, c⟩ Q E hr ⟨R, h⟩ => by
  refine ⟨_, (pss_cons (ps_if (pt_cmp (pc_dnotin (hu_of hr) (pv 1) (T.p_Run_variables (pv 0)))) (pss_one ps_never) pss_nil)
    (pss_one (ps_ret (pe_dget (hu_of hr) (T.p_Run_variables (pv 0)) (pv 1) (fun _ _ => rfl))))), ?_⟩
  obtain ⟨rdx, rl, ro⟩ := R.o
  have g := DGet.k (k := .inr "v") R.s.d
  refine ⟨_, rfl, _, rfl, _, _, _, _, rfl, ro, rfl, d, _, rfl, g, _, rfl, ?_⟩
  exact ⟨_, rfl, _, _, _, _, rfl, ro, rfl, _, rfl, d, _, rfl, g, h⟩
theorem sc_context_in : FnScope ["run", "name", "thing"] ["run", "name"] (defScope s_context_in) := ⟨rfl, rfl, rfl, by decide +kernel, rfl, by decide +kernel, by decide +kernel⟩
def sp_context_in (K : Frag) : Sp := SpX (fun x : Nat × Nat × Nat × Nat × Nat × Nat => [.ref x.1, .str "v"]) fun ⟨r, e, n, d, tc, c⟩ H Q E => RunAt K H r e n d tc c ∧ Q (.int c) H
theorem f_context_in (T : Txt w K mg) : Fn CX0 prog w K mg base 2 (He.ga K "context_in") ["run", "name"] (sp_context_in K) :=
  Txt.fnx T 21 d_context_in rfl rfl sc_context_in (fun _ _ _ _ _ _ us hl => match us, hl with | [_, _], _ => rfl) (fun _ => rfl)
  fun cdv A outer s H ⟨r, e, n, d, tc, c⟩ Q E hr ⟨R, h⟩ => by
  refine ⟨_, (pss_cons (ps_set (i := 2) sc_context_in.nd rfl (.inl rfl) (pe_fn (f_variable T) hr (by decide) T.g_variable passS0 (pa_cons (pv 0) (pa_cons (pv 1) pa_nil))))
    (pss_cons (ps_if (PW.pt (pw_or (pt_not (pt_val (pe_callB call_isi (by rfl) T.b_isinstance (by decide +kernel) (pa_cons (pv 2) (pa_cons (pg_ty (n := "tuple") T.b_tuple (by decide +kernel)) pa_nil))))) (pw_or1 (pt_cmpR op_ne (pe_ix ix_tup (pv 2) pe_int (fun _ _ => rfl)) pe_str (nomark _))))) (pss_one ps_never) pss_nil)
    (pss_one (ps_ret (pe_ix ix_tup (pv 2) pe_int (fun _ _ => rfl)))))), ?_⟩
  have ht := R.s.t
  refine ⟨_, rfl, _, rfl, (r, e, n, d, tc, c), rfl, R, ?_⟩
  refine ⟨_, rfl, _, _, _, _, true, rfl, .ty _, .base (.tup ht), kit_ty (by decide +kernel), _, rfl, ?_⟩
  refine ⟨_, rfl, _, _, _, _, rfl, rfl, SqT.of ht, atI_nat (j := 0) rfl, rfl, _, rfl, ?_⟩
  exact ⟨_, rfl, _, _, _, _, rfl, rfl, SqT.of ht, atI_nat (j := 1) rfl, h⟩
/-- what a use in a transaction needs -/
structure UseAt (K : Frag) (B H : Hp) (e : Addr) (x : EA) (nds : List Nd) (dfs : List V) (n : Nat) (d : Nd) (c : Nat) (v : V) : Prop where
  N : En K B H e x nds dfs
  wf : WfN nds
  hd : nds[n]? = some d
  c : CtxV nds dfs c (some n) v
theorem UseAt.mono {K : Frag} {B H H' : Hp} {e : Addr} {x : EA} {nds : List Nd} {dfs : List V} {n : Nat} {d : Nd} {c : Nat} {v : V} (h : UseAt K B H e x nds dfs n d c v) (s : Same H H') : UseAt K B H' e x nds dfs n d c v := ⟨h.N.mono s, h.wf, h.hd, h.c⟩
abbrev UD : Type := (Addr × EA × Hp × List Nd × List V) × Nat × Nd × Nat × V
abbrev useP (K : Frag) (x : UD) (H : Hp) : Prop := UseAt K x.1.2.2.1 H x.1.1 x.1.2.1 x.1.2.2.2.1 x.1.2.2.2.2 x.2.1 x.2.2.1 x.2.2.2.1 x.2.2.2.2
theorem sc__use : FnScope ["run", "e"] ["run", "e"] (defScope s__use) := ⟨rfl, rfl, rfl, by decide +kernel, rfl, by decide +kernel, by decide +kernel⟩
def sp__use (K : Frag) : Sp := SpX (fun x : UD × Nat × Nat × Nat × Nat => [.ref x.2.1, .ref x.2.2.1]) fun ⟨⟨⟨e, x, B, nds, dfs⟩, n, d, c, v⟩, r, u, dd, tc⟩ H Q E =>
  UseAt K B H e x nds dfs n d c v ∧ RunAt K H r e n dd tc c ∧ H u = some (.tup [.str "use", .str "v"]) ∧ (d.act = true → ∀ H', Same H H' → Q v H') ∧ (d.act = false → Err K E H "disposed")
theorem f__use (T : Txt w K mg) : Fn (L2.CX prog w) prog w K mg base 4 (He.ga K "_use") ["run", "e"] (sp__use K) :=
  Txt.fnx T 22 d__use rfl rfl sc__use (fun _ _ _ _ _ _ us hl => match us, hl with | [_, _], _ => rfl) (fun _ => rfl)
  fun cdv A outer s H ⟨⟨⟨e, x, B, nds, dfs⟩, n, d, c, v⟩, r, u, dd, tc⟩ Q E hr ⟨U, R, hu, h1, h2⟩ => by
  refine ⟨_, (pss_cons (ps_expr (pe_mt1 (ns := runNs) T.c_Run T.m_Run_needs (by decide) (f_Run_needs T) hr (by decide) passS0 (pv 0) (pa_cons (pe_cmpR op_ne (T.p_Run_mode (pv 0)) (pg_s T.z_READ_ONLY) (nomark _)) pa_nil)))
    (pss_one (ps_ret (pe_mt1 (ns := enNs) T.c_Engine T.m_Engine_use (by decide) (f_Engine_use T) hr (by decide) (passSX (takes_of rfl rfl rfl rfl)) (T.p_Run_engine (pv 0)) (pa_cons (T.p_Run_owner (pv 0)) (pa_cons (pe_fn (f_context_in T) hr (by decide) T.g_context_in passS0 (pa_cons (pv 0) (pa_cons (pe_ix ix_tup (pv 1) pe_int (fun _ _ => rfl)) pa_nil))) pa_nil)))))), ?_⟩
  obtain ⟨rdx, rl, ro⟩ := R.o
  refine ⟨_, rfl, _, _, _, rfl, ro, _, rfl, _, _, _, _, rfl, ro, rfl, rfl, r, rfl, ?_⟩
  refine ⟨_, rfl, _, _, _, _, rfl, ro, rfl, _, _, _, rfl, U.N.o, ?_⟩
  refine ⟨_, rfl, _, _, _, _, rfl, ro, rfl, ?_⟩
  refine ⟨_, rfl, _, rfl, _, _, _, _, rfl, rfl, SqT.of hu, atI_nat (j := 1) rfl, (r, e, n, dd, tc, c), rfl, R, ?_⟩
  exact ⟨(⟨e, x, B, nds, dfs⟩, n, d, c, v), rfl, U.N, U.wf, U.hd, U.c, h1, h2⟩
theorem sc_evaluate : FnScope ["run", "e", "kind", "one", "two"] ["run", "e"] (defScope s_evaluate) := ⟨rfl, rfl, rfl, by decide +kernel, rfl, by decide +kernel, by decide +kernel⟩
def sp_evaluate (K : Frag) : Sp := sp__use K
theorem f_evaluate (T : Txt w K mg) : Fn (L2.CX prog w) prog w K mg base 5 (He.ga K "evaluate") ["run", "e"] (sp_evaluate K) :=
  Txt.fnx T 23 d_evaluate rfl rfl sc_evaluate (fun _ _ _ _ _ _ us hl => match us, hl with | [_, _], _ => rfl) (fun _ => rfl)
  fun cdv A outer s H ⟨⟨⟨e, x, B, nds, dfs⟩, n, d, c, v⟩, r, u, dd, tc⟩ Q E hr ⟨U, R, hu, h1, h2⟩ => by
  refine ⟨_, (pss_cons (ps_set (i := 2) sc_evaluate.nd rfl (.inl rfl) (pe_ix ix_tup (pv 1) pe_int (fun _ _ => rfl)))
    (pss_cons (ps_if (pt_cmpR op_eq (pv 2) pe_str (nomark _)) (pss_one ps_never) pss_nil)
    (pss_cons (ps_if (pt_cmpR op_eq (pv 2) pe_str (nomark _)) (pss_one ps_never) pss_nil)
    (pss_cons (ps_if (pt_cmpR op_in_seq (pv 2) (pe_tup (pa_cons pe_str (pa_cons pe_str (pa_cons pe_str (pa_cons pe_str pa_nil))))) rfl) (pss_one ps_never) pss_nil)
    (pss_cons (ps_if (pt_cmpR op_in_seq (pv 2) (pe_tup (pa_cons pe_str (pa_cons pe_str pa_nil))) rfl) (pss_one ps_never) pss_nil)
    (pss_cons (ps_if (pt_cmpR op_eq (pv 2) pe_str (nomark _)) (pss_one (ps_ret (pe_fn (f__use T) hr (by decide) T.g__use (passSX (takes_of rfl rfl rfl rfl)) (pa_cons (pv 0) (pa_cons (pv 1) pa_nil))))) pss_nil)
    (pss_cons (ps_if (pt_cmpR op_eq (pv 2) pe_str (nomark _)) (pss_one ps_never) pss_nil)
    (pss_cons ps_never
    (pss_cons ps_never
    (pss_one ps_never)))))))))), ?_⟩
  refine ⟨_, rfl, _, _, _, _, rfl, rfl, SqT.of hu, atI_nat (j := 0) rfl, ?_⟩
  refine ⟨_, rfl, rfl, _, rfl, ?_⟩
  refine ⟨_, rfl, rfl, _, rfl, ?_⟩
  refine ⟨_, rfl, by show 4 ≤ sizeLine; rw [sizeLine_eq]; omega, fun t1 n1 => ?_⟩
  refine ⟨_, _, rfl, .inr (SqT.of upd_same), rfl, rfl, _, rfl, ?_⟩
  have s1 := same_upd (o := .tup [.str "read", .str "peek", .str "state", .str "size"]) n1
  refine ⟨_, rfl, by show 2 ≤ sizeLine; rw [sizeLine_eq]; omega, fun t2 n2 => ?_⟩
  refine ⟨_, _, rfl, .inr (SqT.of upd_same), rfl, rfl, _, rfl, ?_⟩
  have s2 := s1.trans (same_upd (o := .tup [.str "get", .str "has"]) n2)
  refine ⟨_, rfl, rfl, _, rfl, ?_⟩
  exact ⟨_, rfl, _, rfl, (⟨⟨e, x, B, nds, dfs⟩, n, d, c, v⟩, r, u, dd, tc), rfl, U.mono s2, R.mono s2, s2 _ _ hu, fun a H' s3 => h1 a H' (s2.trans s3), fun a => (h2 a).mono s2⟩

end
end K47
namespace K47
open PySem PySem.Spec PyProof.Rows L2
open PySem.W (Frag)
section
variable {w : World} {K : Frag} {mg : Str → Option Value} {base : Heap}
theorem sc_run_statement : FnScope ["run", "s", "kind"] ["run", "s"] (defScope s_run_statement) := ⟨rfl, rfl, rfl, by decide +kernel, rfl, by decide +kernel, by decide +kernel⟩
def sp_run_statement (K : Frag) : Sp := SpX (fun x : UD × Nat × Nat × Nat × Nat × Nat => [.ref x.2.1, .ref x.2.2.1]) fun ⟨⟨⟨e, x, B, nds, dfs⟩, n, d, c, v⟩, r, t, u, dd, tc⟩ H Q E =>
  UseAt K B H e x nds dfs n d c v ∧ RunAt K H r e n dd tc c ∧ H t = some (.tup [.str "return", .ref u]) ∧ H u = some (.tup [.str "use", .str "v"]) ∧ (d.act = true → ∀ H' q, Same H H' → H' q = some (.tup [v]) → Q (.ref q) H') ∧ (d.act = false → Err K E H "disposed")
theorem f_run_statement (T : Txt w K mg) : Fn (L2.CX prog w) prog w K mg base 6 (He.ga K "run_statement") ["run", "s"] (sp_run_statement K) :=
  Txt.fnx T 24 d_run_statement rfl rfl sc_run_statement (fun _ _ _ _ _ _ us hl => match us, hl with | [_, _], _ => rfl) (fun _ => rfl)
  fun cdv A outer s H ⟨⟨⟨e, x, B, nds, dfs⟩, n, d, c, v⟩, r, t, u, dd, tc⟩ Q E hr ⟨U, R, ht, hu, h1, h2⟩ => by
  refine ⟨_, (pss_cons (ps_set (i := 2) sc_run_statement.nd rfl (.inl rfl) (pe_ix ix_tup (pv 1) pe_int (fun _ _ => rfl)))
    (pss_cons (ps_expr (pe_mt1 (ns := runNs) T.c_Run T.m_Run_needs (by decide) (f_Run_needs T) hr (by decide) passS0 (pv 0) (pa_cons (pe_or (pe_cmpR op_ne (T.p_Run_mode (pv 0)) (pg_s T.z_READ_ONLY) (nomark _)) (pe_one (pe_cmpR op_in_seq (pv 2) (pg_r T.g_QUIET) rfl))) pa_nil)))
    (pss_cons (ps_expr (pe_mt1 (ns := runNs) T.c_Run T.m_Run_needs (by decide) (f_Run_needs T) hr (by decide) passS0 (pv 0) (pa_cons (pe_or (pe_cmpR op_eq (T.p_Run_mode (pv 0)) (pg_s T.z_TRANSACTION) (nomark _)) (pe_one (pe_cmpR op_ne (pv 2) pe_str (nomark _)))) pa_nil)))
    (pss_cons (ps_if (pt_cmpR op_eq (pv 2) pe_str (nomark _)) (pss_one (ps_ret (pe_tup (pa_cons (pe_fn (f_evaluate T) hr (by decide) T.g_evaluate (passSX (takes_of rfl rfl rfl rfl)) (pa_cons (pv 0) (pa_cons (pe_ix ix_tup (pv 1) pe_int (fun _ _ => rfl)) pa_nil))) pa_nil)))) pss_nil)
    (pss_cons (ps_if (pt_cmpR op_eq (pv 2) pe_str (nomark _)) (pss_one ps_never) pss_nil)
    (pss_cons (ps_if (pt_cmpR op_eq (pv 2) pe_str (nomark _)) (pss_one ps_never) pss_nil)
    (pss_cons (ps_if (pt_cmpR op_eq (pv 2) pe_str (nomark _)) (pss_one ps_never) pss_nil)
    (pss_cons (ps_if (pt_cmpR op_eq (pv 2) pe_str (nomark _)) (pss_one ps_never) pss_nil)
    (pss_cons (ps_if (pt_cmpR op_eq (pv 2) pe_str (nomark _)) (pss_one ps_never) pss_nil)
    (pss_cons (ps_if (pt_cmpR op_eq (pv 2) pe_str (nomark _)) (pss_one ps_never) (pss_one (ps_if (pt_cmpR op_in_seq (pv 2) (pg_r T.g_MAKING) rfl) (pss_one ps_never) (pss_one (ps_if (pt_cmpR op_in_seq (pv 2) (pe_tup (pa_cons pe_str (pa_cons pe_str (pa_cons pe_str pa_nil)))) rfl) (pss_one ps_never) (pss_one ps_never))))))
    (pss_one (ps_ret pe_non)))))))))))), ?_⟩
  obtain ⟨rdx, rl, ro⟩ := R.o
  refine ⟨_, rfl, _, _, _, _, rfl, rfl, SqT.of ht, atI_nat (j := 0) rfl, ?_⟩
  refine ⟨_, rfl, _, _, _, rfl, ro, _, rfl, _, _, _, _, rfl, ro, rfl, rfl, true, rfl, r, rfl, ?_⟩
  refine ⟨_, rfl, _, _, _, rfl, ro, _, rfl, _, _, _, _, rfl, ro, rfl, rfl, true, rfl, r, rfl, ?_⟩
  refine ⟨_, rfl, rfl, _, rfl, ?_⟩
  refine ⟨_, rfl, _, rfl, _, _, _, _, rfl, rfl, SqT.of ht, atI_nat (j := 1) rfl, (⟨⟨e, x, B, nds, dfs⟩, n, d, c, v⟩, r, u, dd, tc), rfl, U, R, hu, fun a H1 s1 => ?_, h2⟩
  exact ⟨by show 1 ≤ sizeLine; rw [sizeLine_eq]; omega, fun q nq => h1 a _ q (s1.trans (same_upd nq)) upd_same⟩
theorem sc_run_block : FnScope ["run", "block", "s", "told"] ["run", "block"] (defScope s_run_block) := ⟨rfl, rfl, rfl, by decide +kernel, rfl, by decide +kernel, by decide +kernel⟩
def sp_run_block (K : Frag) : Sp := SpX (fun x : UD × Nat × Nat × Nat × Nat × Nat × Nat => [.ref x.2.1, .ref x.2.2.1]) fun ⟨⟨⟨e, x, B, nds, dfs⟩, n, d, c, v⟩, r, l, t, u, dd, tc⟩ H Q E =>
  UseAt K B H e x nds dfs n d c v ∧ RunAt K H r e n dd tc c ∧ Prg H l t u ∧ (d.act = true → ∀ H' q, Same H H' → H' q = some (.tup [v]) → Q (.ref q) H') ∧ (d.act = false → Err K E H "disposed")
theorem f_run_block (T : Txt w K mg) : Fn (L2.CX prog w) prog w K mg base 7 (He.ga K "run_block") ["run", "block"] (sp_run_block K) :=
  Txt.fnx T 25 d_run_block rfl rfl sc_run_block (fun _ _ _ _ _ _ us hl => match us, hl with | [_, _], _ => rfl) (fun _ => rfl)
  fun cdv A outer s H ⟨⟨⟨e, x, B, nds, dfs⟩, n, d, c, v⟩, r, l, t, u, dd, tc⟩ Q E hr ⟨U, R, P, h1, h2⟩ => by
  refine ⟨_, (pss_cons (ps_for (passes_of rfl) rfl (pi_list (pv 1)) (pg_name (i := 2) sc_run_block.nd rfl (.inl rfl)) (pss_cons (ps_set (i := 3) sc_run_block.nd rfl (.inl rfl) (pe_fn (f_run_statement T) hr (by decide) T.g_run_statement (passSX (takes_of rfl rfl rfl rfl)) (pa_cons (pv 0) (pa_cons (pv 2) pa_nil))))
      (pss_one (ps_if (pt_cmpR op_notN (pv 3) pe_non (nomark _)) (pss_one (ps_ret (pv 3))) pss_nil))))
    (pss_one (ps_ret pe_non))), ?_⟩
  refine ⟨_, rfl, _, rfl, ⟨_, SqL.of P.l⟩, ?_⟩
  refine for_list (xs := [.ref t]) (fun i σ H' => i = 0 ∧ H' = H ∧ ∃ a b, σ = [some (.ref r), some (.ref l), a, b]) ⟨rfl, rfl, _, _, rfl⟩ (fun i σ H' _ q => by rw [q.2.1]; exact SqL.of P.l) (fun i x' σ H' hx q => ?_) (fun σ H' q => by cases q.1)
  obtain ⟨rfl, rfl, a, b, rfl⟩ := q
  cases hx
  refine ⟨_, rfl, _, rfl, (⟨⟨e, x, B, nds, dfs⟩, n, d, c, v⟩, r, t, u, dd, tc), rfl, U, R, P.t, P.u, fun a H1 q s1 hq => ?_, h2⟩
  exact ⟨_, rfl, rfl, _, rfl, _, rfl, h1 a H1 q s1 hq⟩
theorem sc_run_program : FnScope ["run", "program", "told"] ["run", "program"] (defScope s_run_program) := ⟨rfl, rfl, rfl, by decide +kernel, rfl, by decide +kernel, by decide +kernel⟩
def sp_run_program (K : Frag) : Sp := SpX (fun x : UD × Nat × Nat × Nat × Nat × Nat × Nat => [.ref x.2.1, .ref x.2.2.1]) fun ⟨⟨⟨e, x, B, nds, dfs⟩, n, d, c, v⟩, r, l, t, u, dd, tc⟩ H Q E =>
  UseAt K B H e x nds dfs n d c v ∧ RunAt K H r e n dd tc c ∧ Prg H l t u ∧ (d.act = true → ∀ H', Same H H' → Q v H') ∧ (d.act = false → Err K E H "disposed")
theorem f_run_program (T : Txt w K mg) : Fn (L2.CX prog w) prog w K mg base 8 (He.ga K "run_program") ["run", "program"] (sp_run_program K) :=
  Txt.fnx T 26 d_run_program rfl rfl sc_run_program (fun _ _ _ _ _ _ us hl => match us, hl with | [_, _], _ => rfl) (fun _ => rfl)
  fun cdv A outer s H ⟨⟨⟨e, x, B, nds, dfs⟩, n, d, c, v⟩, r, l, t, u, dd, tc⟩ Q E hr ⟨U, R, P, h1, h2⟩ => by
  refine ⟨_, (pss_cons (ps_set (i := 2) sc_run_program.nd rfl (.inl rfl) (pe_fn (f_run_block T) hr (by decide) T.g_run_block (passSX (takes_of rfl rfl rfl rfl)) (pa_cons (pv 0) (pa_cons (pv 1) pa_nil))))
    (pss_cons (ps_if (pt_cmpR op_isN (pv 2) pe_non (nomark _)) (pss_one (ps_ret pe_non)) pss_nil)
    (pss_one (ps_ret (pe_ix ix_tup (pv 2) pe_int (fun _ _ => rfl)))))), ?_⟩
  refine ⟨_, rfl, _, rfl, (⟨⟨e, x, B, nds, dfs⟩, n, d, c, v⟩, r, l, t, u, dd, tc), rfl, U, R, P, fun a H1 q s1 hq => ?_, h2⟩
  exact ⟨_, rfl, rfl, _, rfl, _, rfl, _, _, _, _, rfl, rfl, SqT.of hq, atI_nat (j := 0) rfl, h1 a H1 s1⟩
/-- the deeds, what they leave, what they give (none: the error) -/
inductive Deed (H : Hp) (nds : List Nd) (dfs : List V) (t : Addr) : List Nd → Option V → Prop
  | make {k : Str} {n : Nat} {d : Nd} (h : H t = some (.tup [.str k, .int n])) (hk : k = "scope" ∨ k = "boundary") (hd : nds[n]? = some d) (ha : d.act = true) : Deed H nds dfs t (nds ++ [⟨k, some n, true, []⟩]) (some (.int nds.length))
  | disp {n : Nat} {d : Nd} (h : H t = some (.tup [.str "dispose", .int n])) (hd : nds[n]? = some d) (h0 : 0 < n) : Deed H nds dfs t (if d.act = true then offb nds fun i => decide (i ∈ dfn nds n nds.length) else nds) (some .non)
  | tran {n : Nat} {d : Nd} {l p u dd tc c : Nat} {v : V} (h : H t = some (.tup [.str "transaction", .int n, .ref l, .ref dd])) (P : Prg H l p u) (S : Stg H dd tc c) (hd : nds[n]? = some d) (hc : CtxV nds dfs c (some n) v) :
      Deed H nds dfs t nds (if d.act = true then some v else none)
theorem Deed.mono {H H' : Hp} {nds nds' : List Nd} {dfs : List V} {t : Addr} {r : Option V} (h : Deed H nds dfs t nds' r) (s : Same H H') : Deed H' nds dfs t nds' r := by
  cases h with
  | make h hk hd ha => exact .make (s _ _ h) hk hd ha
  | disp h hd h0 => exact .disp (s _ _ h) hd h0
  | tran h P S hd hc => exact .tran (s _ _ h) (P.mono s) (S.mono s) hd hc
theorem sc__do : FnScope ["engine", "deed", "kind", "number", "key", "answer"] ["engine", "deed"] (defScope s__do) := ⟨rfl, rfl, rfl, by decide +kernel, rfl, by decide +kernel, by decide +kernel⟩
def sp__do (K : Frag) : Sp := SpX (fun x : (Addr × EA × Hp × List Nd × List V) × Addr × List Nd × Option V => [.ref x.1.1, .ref x.2.1]) fun ⟨⟨e, x, B, nds, dfs⟩, t, nds', r⟩ H Q E =>
  En K B H e x nds dfs ∧ x.made = 0 ∧ WfN nds ∧ nds.length < 24 ∧ Deed H nds dfs t nds' r ∧ (∀ v, r = some v → ∀ H' x', En K B H' e x' nds' dfs → Q v H') ∧ (r = none → Err K E H "disposed")
theorem f__do (T : Txt w K mg) : Fn (L2.CX prog w) prog w K mg base 9 (He.ga K "_do") ["engine", "deed"] (sp__do K) :=
  Txt.fnx T 40 d__do rfl rfl sc__do (fun _ _ _ _ _ _ us hl => match us, hl with | [_, _], _ => rfl) (fun _ => rfl)
  fun cdv A outer s H ⟨⟨e, x, B, nds, dfs⟩, t, nds', r⟩ Q E hr ⟨N, hm, wf, hl, D, h1, h2⟩ => by
  refine ⟨_, (pss_cons (ps_set (i := 2) sc__do.nd rfl (.inl rfl) (pe_ix ix_tup (pv 1) pe_int (fun _ _ => rfl)))
    (pss_cons (ps_if (pt_cmpR op_in_seq (pv 2) (pe_tup (pa_cons pe_str (pa_cons pe_str pa_nil))) rfl) (pss_one (ps_ret (pe_mt1 (ns := enNs) T.c_Engine T.m_Engine_make (by decide) (f_Engine_make T) hr (by decide) (passSX (takes_of rfl rfl rfl rfl)) (pv 0) (pa_cons (pv 2) (pa_cons (pe_ix ix_tup (pv 1) pe_int (fun _ _ => rfl)) pa_nil))))) pss_nil)
    (pss_cons (ps_if (pt_cmpR op_eq (pv 2) pe_str (nomark _)) (pss_one ps_never) pss_nil)
    (pss_cons (ps_if (pt_cmpR op_eq (pv 2) pe_str (nomark _)) (pss_one ps_never) pss_nil)
    (pss_cons (ps_if (pt_cmpR op_eq (pv 2) pe_str (nomark _)) (pss_one ps_never) pss_nil)
    (pss_cons (ps_if (pt_cmpR op_eq (pv 2) pe_str (nomark _)) (pss_one (ps_ret (pe_fn (f_run_program T) hr (by decide) T.g_run_program (passSX (takes_of rfl rfl rfl rfl)) (pa_cons (pe_mk1 T.k_Run (f_Run_init T) hr (by decide) T.g_Run passS0 (pa_cons (pv 0) (pa_cons (pg_s T.z_TRANSACTION) (pa_cons pe_non (pa_cons (pe_ix ix_tup (pv 1) pe_int (fun _ _ => rfl)) (pa_cons (pe_ix ix_tup (pv 1) pe_int (fun _ _ => rfl)) pa_nil)))))) (pa_cons (pe_ix ix_tup (pv 1) pe_int (fun _ _ => rfl)) pa_nil))))) pss_nil)
    (pss_cons (ps_if (pt_cmpR op_in_seq (pv 2) (pe_tup (pa_cons pe_str (pa_cons pe_str (pa_cons pe_str pa_nil)))) rfl) (pss_one ps_never) pss_nil)
    (pss_cons (ps_if (pt_cmpR op_eq (pv 2) pe_str (nomark _)) (pss_one ps_never) (pss_one (ps_if (pt_cmpR op_eq (pv 2) pe_str (nomark _)) (pss_one ps_never) (pss_one (ps_if (pt_cmpR op_eq (pv 2) pe_str (nomark _)) (pss_one (ps_expr (pe_mt1 (ns := enNs) T.c_Engine T.m_Engine_dispose (by decide) (f_Engine_dispose T) hr (by decide) passS0 (pv 0) (pa_cons (pe_ix ix_tup (pv 1) pe_int (fun _ _ => rfl)) pa_nil)))) (pss_one (ps_if (pt_cmpR op_eq (pv 2) pe_str (nomark _)) (pss_cons ps_never
            (pss_cons ps_never
            (pss_one ps_never))) (pss_one ps_never))))))))
    (pss_one (ps_ret pe_non)))))))))), ?_⟩
  cases D with
  | @make k n d ht hk hd ha =>
    refine ⟨_, rfl, _, _, _, _, rfl, rfl, SqT.of ht, atI_nat (j := 0) rfl, ?_⟩
    refine ⟨_, rfl, by show 2 ≤ sizeLine; rw [sizeLine_eq]; omega, fun t1 n1 => ?_⟩
    have s1 := same_upd (o := .tup [.str "scope", .str "boundary"]) n1
    refine ⟨_, _, rfl, .inr (SqT.of upd_same), rfl, rfl, _, rfl, ?_⟩
    have hin : inV (.str k) [.str "scope", .str "boundary"] = true := by
      rcases hk with z | z <;> rw [z] <;> decide +kernel
    show if inV (.str k) [.str "scope", .str "boundary"] = true then _ else _
    rw [hin]
    have N1 := N.mono s1
    refine ⟨_, rfl, _, _, _, rfl, N1.o, _, rfl, _, rfl, _, _, _, _, rfl, rfl, SqT.of (s1 _ _ ht), atI_nat (j := 1) rfl, ?_⟩
    exact ⟨(⟨e, x, B, nds, dfs⟩, k, n, d), rfl, N1, hd, ha, hl, hm, fun H' x' N' => h1 _ rfl H' x' N'⟩
  | @disp n d ht hd h0 =>
    refine ⟨_, rfl, _, _, _, _, rfl, rfl, SqT.of ht, atI_nat (j := 0) rfl, ?_⟩
    refine ⟨_, rfl, by show 2 ≤ sizeLine; rw [sizeLine_eq]; omega, fun t1 n1 => ?_⟩
    have s1 := same_upd (o := .tup [.str "scope", .str "boundary"]) n1
    refine ⟨_, _, rfl, .inr (SqT.of upd_same), rfl, rfl, _, rfl, ?_⟩
    refine ⟨_, rfl, rfl, _, rfl, ?_⟩
    refine ⟨_, rfl, rfl, _, rfl, ?_⟩
    refine ⟨_, rfl, rfl, _, rfl, ?_⟩
    refine ⟨_, rfl, rfl, _, rfl, ?_⟩
    refine ⟨_, rfl, by show 3 ≤ sizeLine; rw [sizeLine_eq]; omega, fun t2 n2 => ?_⟩
    have s2 := s1.trans (same_upd (o := .tup [.str "computed", .str "effect", .str "resource"]) n2)
    refine ⟨_, _, rfl, .inr (SqT.of upd_same), rfl, rfl, _, rfl, ?_⟩
    refine ⟨_, rfl, rfl, _, rfl, ?_⟩
    refine ⟨_, rfl, rfl, _, rfl, ?_⟩
    refine ⟨_, rfl, rfl, _, rfl, ?_⟩
    have N1 := N.mono s2
    refine ⟨_, rfl, _, _, _, rfl, N1.o, _, rfl, _, _, _, _, rfl, rfl, SqT.of (s2 _ _ ht), atI_nat (j := 1) rfl, ?_⟩
    exact ⟨(⟨e, x, B, nds, dfs⟩, n, d), rfl, N1, hd, h0, by omega, fun H' x' N' => h1 _ rfl H' x' N'⟩
  | @tran n d l p u dd tc c v ht P S hd hc =>
    refine ⟨_, rfl, _, _, _, _, rfl, rfl, SqT.of ht, atI_nat (j := 0) rfl, ?_⟩
    refine ⟨_, rfl, by show 2 ≤ sizeLine; rw [sizeLine_eq]; omega, fun t1 n1 => ?_⟩
    have s1 := same_upd (o := .tup [.str "scope", .str "boundary"]) n1
    refine ⟨_, _, rfl, .inr (SqT.of upd_same), rfl, rfl, _, rfl, ?_⟩
    refine ⟨_, rfl, rfl, _, rfl, ?_⟩
    refine ⟨_, rfl, rfl, _, rfl, ?_⟩
    refine ⟨_, rfl, rfl, _, rfl, ?_⟩
    refine ⟨_, rfl, rfl, _, rfl, ?_⟩
    have ht1 := s1 _ _ ht
    refine ⟨_, rfl, _, rfl, _, _, _, _, rfl, rfl, SqT.of ht1, atI_nat (j := 1) rfl, _, rfl, _, _, _, _, rfl, rfl, SqT.of ht1, atI_nat (j := 3) rfl, fun y dy ny ndy ne => ⟨(y, e, n, dd, tc, c, dy, _), rfl, upd_same, fun b o q => ?_, ny, S.mono s1, fun H2 d2 s2 R => ⟨rfl, ?_⟩⟩⟩
    · rw [upd_ne (ne_of_none q ny), upd_ne (ne_of_none q ndy)]
      exact q
    have s3 := s1.trans s2
    refine ⟨_, rfl, _, _, _, _, rfl, rfl, SqT.of (s3 _ _ ht), atI_nat (j := 2) rfl, ?_⟩
    refine ⟨(⟨⟨e, x, B, nds, dfs⟩, n, d, c, v⟩, y, l, p, u, d2, tc), rfl, ⟨N.mono s3, wf, hd, hc⟩, R, P.mono s3, fun a H' s4 => ?_, fun a => ?_⟩
    · exact h1 v (by rw [a]; rfl) H' x (N.mono (s3.trans s4))
    · exact (h2 (by rw [a]; rfl)).mono s3

end
end K47
namespace K47
open PySem PySem.Spec PyProof.Rows L2
open PySem.W (Frag)
section
variable {w : World} {K : Frag} {mg : Str → Option Value} {base : Heap}
/-- an error with this text that leaves the engine whole -/
def ErrE (K : Frag) (B : Hp) (e : Addr) (nds : List Nd) (dfs : List V) (E : XK) (m : Str) : Prop := ∀ d H' x', En K B H' e x' nds dfs → H' d = some (msgO (.str m)) → E (.ref (RE K)) (some d) H'
theorem Deed.len {H : Hp} {nds nds' : List Nd} {dfs : List V} {t : Addr} {r : Option V} (h : Deed H nds dfs t nds' r) : nds'.length ≤ nds.length + 1 := by
  cases h with
  | make h hk hd ha => simp
  | disp h hd h0 =>
    split
    · rw [offb_len]; omega
    · omega
  | tran => omega
theorem En.lv' {B H : Hp} {e : Addr} {x : EA} {nds : List Nd} {dfs : List V} (N : En K B H e x nds dfs) : En K B (upd H x.s.lv (.lst [])) e x nds dfs := by
  rw [upd_eq N.st.v]
  exact N
def isIns : HO → Bool
  | .ins .. => true
  | _ => false
theorem Deed.keep {H H' : Hp} {nds nds' : List Nd} {dfs : List V} {t : Addr} {r : Option V} (h : Deed H nds dfs t nds' r) (k : ∀ a o, H a = some o → isIns o = false → H' a = some o) : Deed H' nds dfs t nds' r := by
  cases h with
  | make h hk hd ha => exact .make (k _ _ h rfl) hk hd ha
  | disp h hd h0 => exact .disp (k _ _ h rfl) hd h0
  | tran h P S hd hc => exact .tran (k _ _ h rfl) ⟨k _ _ P.l rfl, k _ _ P.t rfl, k _ _ P.u rfl⟩ ⟨k _ _ S.d rfl, k _ _ S.t rfl⟩ hd hc
theorem ps_try_re2 {X : Cx} {x : Str} {c : Value} {body suite : List Stmt} {b₀ : Stmt} {np pos pos' : Pos} {tb : WX → TS} {ts : Addr → Value → Option Addr → TS} {Wout : WX}
    (hs : X.stack = X.env :: X.outer) (hf : X.env.frame = some X.env.locals) (hex : X.ex = []) (hc : Names X x c) (hpa : ∀ hd : Option Value, PassesOwnAt (model X.prog X.w) (X.A.mark hd) X.A X.env X.xe) (tk : Takes X Wout)
    (hb : ∀ (W : WX) (pn : List (Addr × Obj)) (xe : Value → Shared → Prop), Takes (X.tr pn xe) W → PassesOwn (model X.prog X.w) X.A X.env xe → PSs (X.tr pn xe) body (tb W))
    (hsu : ∀ (a : Addr) (cls : Value) (d : Option Addr) (pn : List (Addr × Obj)), ReOk (suiteR X a pn) cls d Wout → PSs (suiteR X a pn) (b₀ :: suite) (ts a cls d)) :
    PS X (.Try body [.ExceptHandler (some (.Name x np)) none (b₀ :: suite) pos'] [] [] pos) (fun D σ H => tb (wOnly X.K c ts Wout D) D σ H) := ps_try_re (ts := fun _ => ts) hs hf hex hc hpa tk hb hsu
theorem sc_Engine_perform : FnScope ["self", "deed", "before", "result"] ["self", "deed"] (defScope s_Engine_perform) := ⟨rfl, rfl, rfl, by decide +kernel, rfl, by decide +kernel, by decide +kernel⟩
def sp_Engine_perform (K : Frag) : Sp := SpX (fun x : (Addr × EA × Hp × List Nd × List V) × Addr × List Nd × Option V => [.ref x.1.1, .ref x.2.1]) fun ⟨⟨e, x, B, nds, dfs⟩, t, nds', r⟩ H Q E =>
  En K B H e x nds dfs ∧ WfN nds ∧ KindOk nds' ∧ nds.length < 24 ∧ Deed H nds dfs t nds' r ∧ (∀ v, r = some v → ∀ H' x', En K B H' e x' nds' dfs → Q v H') ∧ (r = none → ErrE K B e nds dfs E "disposed")
theorem f_Engine_perform (T : Txt w K mg) : Fn (L2.CX prog w) prog w K mg base 10 (He.ma K (He.ga K "Engine") "perform") ["self", "deed"] (sp_Engine_perform K) :=
  Txt.fnx T 65 d_Engine_perform rfl rfl sc_Engine_perform (fun _ _ _ _ _ _ us hl => match us, hl with | [_, _], _ => rfl) (fun _ => rfl)
  fun cdv A outer s H ⟨⟨e, x, B, nds, dfs⟩, t, nds', r⟩ Q E hr ⟨N, wf, kk, hl, D, h1, h2⟩ => by
  refine ⟨_, (pss_cons (ps_set (i := 2) sc_Engine_perform.nd rfl (.inl rfl) (pe_mt0 (ns := stNs) T.c_State T.m_State_copy (by decide) (f_State_copy T) hr (by decide) passS0 (T.p_Engine_state (pv 0))))
    (pss_cons (T.q_Engine_output (pv 0) (pe_lst pa_nil))
    (pss_cons (T.q_Engine_made (pv 0) pe_int)
    (pss_cons (ps_try_re2 rfl rfl rfl ⟨rfl, by decide, .inl T.g_RippleError⟩ (fun hd => L2H.passesAt_of rfl hd) (takes_of rfl rfl rfl rfl) (fun W pn xe tk pw => (pss_cons (ps_set (i := 3) sc_Engine_perform.nd rfl (.inl rfl) (pe_fn (f__do T) hr (by decide) T.g__do (passSX tk) (pa_cons (pv 0) (pa_cons (pv 1) pa_nil))))
      (pss_cons (ps_expr (pe_fn (f_propagate T) hr (by decide) T.g_propagate passS0 (pa_cons (pv 0) pa_nil)))
      (pss_one (ps_expr (pe_fn (f_make_requests T) hr (by decide) T.g_make_requests passS0 (pa_cons (pv 0) pa_nil))))))) (fun a cls d pn re => (pss_cons (ps_f (i := 1) T.c_Engine T.n_Engine_state nd_enNs rfl (by decide) (pv 0) (pv 2))
      (pss_cons (ps_f (i := 4) T.c_Engine T.n_Engine_deferred nd_enNs rfl (by decide) (pv 0) pe_non)
      (pss_cons (ps_f (i := 6) T.c_Engine T.n_Engine_running nd_enNs rfl (by decide) (pv 0) pe_non)
      (pss_cons (ps_fa (i := 7) T.c_Engine T.n_Engine_version nd_enNs rfl (by decide) (pv 0) pe_int)
      (pss_one (ps_reraise re))))))))
    (pss_cons (ps_expr (pe_bm PySem.F.plainAttrs_list PySem.F.slot_list_extend PySem.F.type_list_extend mt_extend (T.p_State_delivered (T.p_Engine_state (pv 0))) (pa_cons (T.p_Engine_output (pv 0)) pa_nil)))
    (pss_cons (ps_expr (pe_fn (f_serve T) hr (by decide) T.g_serve passS0 (pa_cons (pv 0) pa_nil)))
    (pss_cons (ps_expr (pe_mt1 (ns := enNs) T.c_Engine T.m_Engine_remember (by decide) (f_Engine_remember T) hr (by decide) passS0 (pv 0) (pa_cons (pv 2) pa_nil)))
    (pss_one (ps_ret (pv 3)))))))))), ?_⟩
  refine ⟨_, rfl, _, _, _, _, rfl, N.o, rfl, _, _, _, rfl, N.st.o, (x.s, nds, dfs), rfl, N.st, by omega, fun H1 s' sm1 S1 fr1 => ?_⟩
  have N1 := N.mono sm1
  have D1 := D.mono sm1
  refine ⟨Nat.zero_le _, fun l2 n2 => ?_⟩
  have nl2 := N1.notNew n2
  have sl2 : l2 ∉ s'.all := fun m => by
    obtain ⟨o, q, _⟩ := S1.has m
    rw [n2] at q
    cases q
  have es : e ∉ s'.all := fun m => by
    have q := fr1 e m
    rw [N.o] at q
    cases q
  have hs : x.lh ∉ s'.all := fun m => by
    have q := fr1 _ m
    rw [N.lh] at q
    cases q
  have N2 := N1.mono (same_upd (o := .lst []) n2)
  have S2 := S1.mono (same_upd (o := .lst []) n2)
  have D2 := D1.mono (same_upd (o := .lst []) n2)
  refine ⟨_, rfl, _, _, _, rfl, N2.o, by show 3 ≤ 9; omega, ?_⟩
  have nd3 : (({ x with lo := l2 } : EA).all e).Nodup := by
    have q := N.nd
    unfold EA.all at q nl2 ⊢
    simp only [List.nodup_cons, List.mem_cons, not_or] at q nl2 ⊢
    exact ⟨⟨Ne.symm nl2.1, q.1.2⟩, ⟨nl2.2.2.1, nl2.2.2.2⟩, q.2.2⟩
  have fr3 : ∀ a ∈ ({ x with lo := l2 } : EA).all e, B a = none := fun a m => by
    unfold EA.all at m
    simp only [List.mem_cons] at m
    rcases m with m | m | m | m
    · exact N.fr a (by simp [EA.all, m])
    · rw [m]; exact N1.sm.free n2
    · exact N.fr a (by simp [EA.all, m])
    · exact N.fr a (by simp [EA.all, m])
  have D3 := D2.keep (H' := upd (upd H1 l2 (.lst [])) e (enO K { x with lo := l2 })) fun a o q i => by
    rw [upd_ne fun z => by rw [z, N2.o] at q; cases q; cases i]
    exact q
  have N3 := N2.upE (x' := { x with lo := l2 }) N2.st upd_same N2.lh N2.hl nd3 fr3
  have S3 := S2.out (a := e) (o := enO K { x with lo := l2 }) es (nt_ins N2.o)
  refine ⟨_, rfl, _, _, _, rfl, N3.o, by show 5 ≤ 9; omega, ?_⟩
  have D4 := D3.keep (H' := upd (upd (upd H1 l2 (.lst [])) e (enO K { x with lo := l2 })) e (enO K { x with lo := l2, made := 0 })) fun a o q i => by
    rw [upd_ne fun z => by rw [z, N3.o] at q; cases q; cases i]
    exact q
  have S4 := S3.out (a := e) (o := enO K { x with lo := l2, made := 0 }) es (nt_ins N3.o)
  have N4 := N3.upF x.rn 0 x.ver
  have hl' := D.len
  refine ⟨_, rfl, _, rfl, (⟨e, ({ x with lo := l2, made := 0 } : EA), B, nds, dfs⟩, t, nds', r), rfl, N4, rfl, wf, hl, D4, fun v hv H5 x5 N5 => ?_, fun hv d H5 s5 nd hd => ?_⟩
  · refine ⟨_, rfl, ⟨e, x5, B, nds', dfs⟩, rfl, N5, kk, fun H6 x6 N6 => ?_⟩
    refine ⟨_, rfl, ⟨e, x6, B, nds', dfs⟩, rfl, N6, kk, by omega, ?_⟩
    refine ⟨_, rfl, _, _, _, _, rfl, N6.o, rfl, _, _, _, _, rfl, N6.st.o, rfl, .inl ⟨rfl, _, SqL.of N6.st.v⟩, _, rfl, _, _, _, _, rfl, N6.o, rfl, _, _, _, _, rfl, rfl, N6.st.v, N6.lo, Nat.zero_le _, ?_⟩
    have N7 := N6.lv'
    refine ⟨_, rfl, ⟨e, x6, B, nds', dfs⟩, rfl, N7, ?_⟩
    refine ⟨_, rfl, _, _, _, rfl, N7.o, _, rfl, (⟨e, x6, B, nds', dfs⟩, _), rfl, N7, fun H8 x8 N8 => ?_⟩
    exact ⟨_, rfl, h1 v hv H8 x8 N8⟩
  · refine ⟨true, T.x_RippleError, fun _ a na => ?_, fun z => nomatch z⟩
    have N5 := N4.mono s5
    have S5 := S4.mono s5
    have nde : d ≠ e := Ne.symm (ne_of_none N4.o nd)
    refine ⟨_, rfl, _, rfl, _, _, _, rfl, N5.o, by show 1 ≤ 9; omega, ?_⟩
    have N6 := N5.upE (x' := { x with lo := l2, made := 0, s := s' }) S5 N5.lo N5.lh N5.hl ?_ ?_
    · have d6 : upd H5 e (enO K { x with lo := l2, made := 0, s := s' }) d = some (msgO (.str "disposed")) := by
        rw [upd_ne nde]
        exact hd
      refine ⟨_, rfl, _, _, _, rfl, N6.o, by show 4 ≤ 9; omega, ?_⟩
      have d7 := (upd_ne (o := enO K { x with lo := l2, made := 0, s := s', df := .non }) nde).trans d6
      have N7 := N6.upD .non
      refine ⟨_, rfl, _, _, _, rfl, N7.o, by show 6 ≤ 9; omega, ?_⟩
      have d8 := (upd_ne (o := enO K { x with lo := l2, made := 0, s := s', df := .non }) nde).trans d7
      have N8 := N7.upF x.rn 0 x.ver
      refine ⟨_, rfl, _, _, _, _, rfl, N8.o, rfl, _, rfl, _, _, N8.o, by show 7 ≤ 9; omega, ?_⟩
      have d9 := (upd_ne (o := enO K { x with lo := l2, made := 0, s := s', df := .non, ver := x.ver + 1 }) nde).trans d8
      have N9 := N8.upF x.rn 0 (x.ver + 1)
      exact h2 hv d _ _ N9 d9
    · have q := nd3
      have hnd := S1.nd
      show (e :: l2 :: x.lh :: s'.all).Nodup
      unfold EA.all at q
      simp only [List.nodup_cons, List.mem_cons, not_or] at q ⊢
      exact ⟨⟨q.1.1, q.1.2.1, es⟩, ⟨q.2.1.1, sl2⟩, hs, hnd⟩
    · intro a m
      have m' : a ∈ e :: l2 :: x.lh :: s'.all := m
      simp only [List.mem_cons] at m'
      rcases m' with m | m | m | m
      · rw [m]; exact N.fr e (by simp [EA.all])
      · rw [m]; exact N1.sm.free n2
      · rw [m]; exact N.fr _ (by simp [EA.all])
      · exact N.sm.free (fr1 a m)

end
end K47
namespace K47
open PySem PySem.Spec PyProof.Rows L2
open PySem.W (Frag)
section
variable {w : World} {K : Frag} {mg : Str → Option Value} {base : Heap}
/-! the runtimes -/
abbrev RD : Type := (Addr × Addr) × Addr × EA × Hp × List Nd × List V
/-- the runtime at r with the engine at e; B keeps the runtime -/
structure RtAt (K : Frag) (C : Addr) (B H : Hp) (r dx e : Addr) (x : EA) (nds : List Nd) (dfs : List V) : Prop where
  r : B r = some (Ins C dx rtNs [.ref e])
  n : En K B H e x nds dfs
theorem RtAt.ob {C : Addr} {B H : Hp} {r dx e : Addr} {x : EA} {nds : List Nd} {dfs : List V} (R : RtAt K C B H r dx e x nds dfs) : H r = some (Ins C dx rtNs [.ref e]) := R.n.sm _ _ R.r
theorem RtAt.mono {C : Addr} {B H H' : Hp} {r dx e : Addr} {x : EA} {nds : List Nd} {dfs : List V} (R : RtAt K C B H r dx e x nds dfs) (s : Same H H') : RtAt K C B H' r dx e x nds dfs := ⟨R.r, R.n.mono s⟩
theorem RtAt.to {C : Addr} {B H H' : Hp} {r dx e : Addr} {x x' : EA} {nds nds' : List Nd} {dfs dfs' : List V} (R : RtAt K C B H r dx e x nds dfs) (N : En K B H' e x' nds' dfs') : RtAt K C B H' r dx e x' nds' dfs' := ⟨R.r, N⟩
theorem sc_Runtimebegin : FnScope ["self"] ["self"] (defScope s_Runtimebegin) := ⟨rfl, rfl, rfl, by decide +kernel, rfl, by decide +kernel, by decide +kernel⟩
def sp_Runtimebegin (K : Frag) (C : Addr) : Sp := SpX (fun x : RD => [.ref x.1.1]) fun ⟨⟨r, dx⟩, e, x, B, nds, dfs⟩ H Q E => RtAt K C B H r dx e x nds dfs ∧ ∀ H' x', En K B H' e x' nds dfs → Q (.ref e) H'
theorem f_Runtimebegin (T : Txt w K mg) {C : Addr} {bb : Bool} (R : RT K C bb) : Fn CX0 prog w K mg base 1 (He.ma K (He.ga K "Runtime") "_begin") ["self"] (sp_Runtimebegin K C) :=
  Txt.fnx T 67 d_Runtimebegin rfl rfl sc_Runtimebegin (fun _ _ _ _ _ _ us hl => match us, hl with | [_], _ => rfl) (fun _ => rfl)
  fun cdv A outer s H ⟨⟨r, dx⟩, e, x, B, nds, dfs⟩ Q E hr ⟨A1, h⟩ => by
  refine ⟨_, (pss_cons (T.q_Engine_runs (R.p_engine (pv 0)) (pe_lst pa_nil))
    (pss_one (ps_ret (R.p_engine (pv 0))))), ?_⟩
  refine ⟨Nat.zero_le _, fun l nl => ?_⟩
  have A2 := A1.mono (same_upd (o := .lst []) nl)
  refine ⟨_, rfl, _, _, _, _, rfl, A2.ob, rfl, _, _, _, rfl, A2.n.o, by show 2 ≤ 9; omega, ?_⟩
  have N := A2.n.upF (.ref l) x.made x.ver
  exact ⟨_, rfl, _, _, _, _, rfl, (A2.to N).ob, rfl, h _ _ N⟩
theorem Txt.own (T : Txt w K mg) (H : Hp) : SqT K H (He.ga K "OWNERS") ((["scope", "boundary"] : List Str).map V.str) := tupA_ok (T.e 2 (f := fun K => tupA K (He.ga K "OWNERS") [.str "scope", .str "boundary"]) rfl) H
theorem Txt.dsp (T : Txt w K mg) (H : Hp) : SqT K H (He.ga K "DISPOSABLE_checks") ((["scope", "boundary", "effect", "keyed", "resource"] : List Str).map V.str) := tupA_ok (T.e 3 (f := fun K => tupA K (He.ga K "DISPOSABLE_checks") [.str "scope", .str "boundary", .str "effect", .str "keyed", .str "resource"]) rfl) H
theorem KindOk.in2 {nds : List Nd} (k : KindOk nds) {n : Nat} {d : Nd} (h : nds[n]? = some d) : d.kind ∈ (["scope", "boundary"] : List Str) := by
  rcases k d (List.mem_of_getElem? h) with z | z <;> rw [z] <;> simp
theorem KindOk.in5 {nds : List Nd} (k : KindOk nds) {n : Nat} {d : Nd} (h : nds[n]? = some d) : d.kind ∈ (["scope", "boundary", "effect", "keyed", "resource"] : List Str) := by
  rcases k d (List.mem_of_getElem? h) with z | z <;> rw [z] <;> simp
theorem KindOk.app {nds : List Nd} (k : KindOk nds) {z : Str} {o : Option Nat} (h : z = "scope" ∨ z = "boundary") : KindOk (nds ++ [⟨z, o, true, []⟩]) := fun d m => by
  rcases List.mem_append.mp m with m | m
  · exact k d m
  · simp at m
    rw [m]
    exact h
theorem KindOk.off {nds : List Nd} (k : KindOk nds) (P : Nat → Bool) : KindOk (offb nds P) := fun d m => by
  obtain ⟨i, hi⟩ := List.getElem?_of_mem m
  rw [offb_get] at hi
  obtain ⟨d0, h0, h1⟩ := Option.map_eq_some_iff.mp hi
  have := k d0 (List.mem_of_getElem? h0)
  rw [← h1]
  split
  · exact this
  · exact this
theorem sc_Runtime_scope : FnScope ["self", "owner"] ["self", "owner"] (defScope s_Runtime_scope) := ⟨rfl, rfl, rfl, by decide +kernel, rfl, by decide +kernel, by decide +kernel⟩
def sp_Runtime_scope (K : Frag) (C : Addr) : Sp := SpX (fun x : RD × Nat × Nd => [.ref x.1.1.1, .int x.2.1]) fun ⟨⟨⟨r, dx⟩, e, x, B, nds, dfs⟩, n, d⟩ H Q E =>
  RtAt K C B H r dx e x nds dfs ∧ WfN nds ∧ KindOk nds ∧ nds.length < 24 ∧ nds[n]? = some d ∧ d.act = true ∧ ∀ H' x', En K B H' e x' (nds ++ [⟨"scope", some n, true, []⟩]) dfs → Q (.int nds.length) H'
theorem f_Runtime_scope (T : Txt w K mg) {C : Addr} {bb : Bool} (R : RT K C bb) : Fn (L2.CX prog w) prog w K mg base 11 (He.ma K (He.ga K "Runtime") "scope") ["self", "owner"] (sp_Runtime_scope K C) :=
  Txt.fnx T 69 d_Runtime_scope rfl rfl sc_Runtime_scope (fun _ _ _ _ _ _ us hl => match us, hl with | [_, _], _ => rfl) (fun _ => rfl)
  fun cdv A outer s H ⟨⟨⟨r, dx⟩, e, x, B, nds, dfs⟩, n, d⟩ Q E hr ⟨A1, wf, kk, hl, hd, ha, h⟩ => by
  refine ⟨_, (pss_cons (ps_expr (pe_fn (f_check_node T) hr (by decide) T.g_check_node passS0 (pa_cons (pe_mt0 (ns := rtNs) R.c R.m__begin (by decide) (f_Runtimebegin T R) hr (by decide) passS0 (pv 0)) (pa_cons (pv 1) (pa_cons (pg_r T.g_OWNERS) pa_nil)))))
    (pss_one (ps_ret (pe_mt1 (ns := enNs) T.c_Engine T.m_Engine_perform (by decide) (f_Engine_perform T) hr (by decide) (passSX (takes_of rfl rfl rfl rfl)) (R.p_engine (pv 0)) (pa_cons (pe_tup (pa_cons pe_str (pa_cons (pv 1) pa_nil))) pa_nil))))), ?_⟩
  refine ⟨_, rfl, _, _, _, rfl, A1.ob, (⟨r, dx⟩, e, x, B, nds, dfs), rfl, A1, fun H1 x1 N1 => ?_⟩
  refine ⟨_, rfl, (⟨e, x1, B, nds, dfs⟩, n, d, _, _), rfl, N1, hd, T.own _, kk.in2 hd, ?_⟩
  have A2 := A1.to N1
  refine ⟨_, rfl, _, _, _, _, rfl, A2.ob, rfl, _, _, _, rfl, A2.n.o, _, rfl, by show 2 ≤ sizeLine; rw [sizeLine_eq]; omega, fun t nt => ?_⟩
  have N2 := N1.mono (same_upd (o := .tup [.str "scope", .int n]) nt)
  exact ⟨(⟨e, x1, B, nds, dfs⟩, t, _, _), rfl, N2, wf, kk.app (.inl rfl), hl, .make upd_same (.inl rfl) hd ha, fun v hv H3 x3 N3 => by cases hv; exact h H3 x3 N3, fun z => nomatch z⟩
theorem sc_Runtime_boundary : FnScope ["self", "owner"] ["self", "owner"] (defScope s_Runtime_boundary) := ⟨rfl, rfl, rfl, by decide +kernel, rfl, by decide +kernel, by decide +kernel⟩
def sp_Runtime_boundary (K : Frag) (C : Addr) : Sp := SpX (fun x : RD × Nat × Nd => [.ref x.1.1.1, .int x.2.1]) fun ⟨⟨⟨r, dx⟩, e, x, B, nds, dfs⟩, n, d⟩ H Q E =>
  RtAt K C B H r dx e x nds dfs ∧ WfN nds ∧ KindOk nds ∧ nds.length < 24 ∧ nds[n]? = some d ∧ d.act = true ∧ ∀ H' x', En K B H' e x' (nds ++ [⟨"boundary", some n, true, []⟩]) dfs → Q (.int nds.length) H'
theorem f_Runtime_boundary (T : Txt w K mg) {C : Addr} {bb : Bool} (R : RT K C bb) : Fn (L2.CX prog w) prog w K mg base 11 (He.ma K (He.ga K "Runtime") "boundary") ["self", "owner"] (sp_Runtime_boundary K C) :=
  Txt.fnx T 70 d_Runtime_boundary rfl rfl sc_Runtime_boundary (fun _ _ _ _ _ _ us hl => match us, hl with | [_, _], _ => rfl) (fun _ => rfl)
  fun cdv A outer s H ⟨⟨⟨r, dx⟩, e, x, B, nds, dfs⟩, n, d⟩ Q E hr ⟨A1, wf, kk, hl, hd, ha, h⟩ => by
  refine ⟨_, (pss_cons (ps_expr (pe_fn (f_check_node T) hr (by decide) T.g_check_node passS0 (pa_cons (pe_mt0 (ns := rtNs) R.c R.m__begin (by decide) (f_Runtimebegin T R) hr (by decide) passS0 (pv 0)) (pa_cons (pv 1) (pa_cons (pg_r T.g_OWNERS) pa_nil)))))
    (pss_one (ps_ret (pe_mt1 (ns := enNs) T.c_Engine T.m_Engine_perform (by decide) (f_Engine_perform T) hr (by decide) (passSX (takes_of rfl rfl rfl rfl)) (R.p_engine (pv 0)) (pa_cons (pe_tup (pa_cons pe_str (pa_cons (pv 1) pa_nil))) pa_nil))))), ?_⟩
  refine ⟨_, rfl, _, _, _, rfl, A1.ob, (⟨r, dx⟩, e, x, B, nds, dfs), rfl, A1, fun H1 x1 N1 => ?_⟩
  refine ⟨_, rfl, (⟨e, x1, B, nds, dfs⟩, n, d, _, _), rfl, N1, hd, T.own _, kk.in2 hd, ?_⟩
  have A2 := A1.to N1
  refine ⟨_, rfl, _, _, _, _, rfl, A2.ob, rfl, _, _, _, rfl, A2.n.o, _, rfl, by show 2 ≤ sizeLine; rw [sizeLine_eq]; omega, fun t nt => ?_⟩
  have N2 := N1.mono (same_upd (o := .tup [.str "boundary", .int n]) nt)
  exact ⟨(⟨e, x1, B, nds, dfs⟩, t, _, _), rfl, N2, wf, kk.app (.inr rfl), hl, .make upd_same (.inr rfl) hd ha, fun v hv H3 x3 N3 => by cases hv; exact h H3 x3 N3, fun z => nomatch z⟩
theorem sc_Runtime_dispose : FnScope ["self", "node"] ["self", "node"] (defScope s_Runtime_dispose) := ⟨rfl, rfl, rfl, by decide +kernel, rfl, by decide +kernel, by decide +kernel⟩
def sp_Runtime_dispose (K : Frag) (C : Addr) : Sp := SpX (fun x : RD × Nat × Nd => [.ref x.1.1.1, .int x.2.1]) fun ⟨⟨⟨r, dx⟩, e, x, B, nds, dfs⟩, n, d⟩ H Q E =>
  RtAt K C B H r dx e x nds dfs ∧ WfN nds ∧ KindOk nds ∧ nds.length < 24 ∧ nds[n]? = some d ∧ 0 < n ∧ ∀ H' x', En K B H' e x' (if d.act = true then offb nds fun i => decide (i ∈ dfn nds n nds.length) else nds) dfs → Q .non H'
theorem f_Runtime_dispose (T : Txt w K mg) {C : Addr} {bb : Bool} (R : RT K C bb) : Fn (L2.CX prog w) prog w K mg base 11 (He.ma K (He.ga K "Runtime") "dispose") ["self", "node"] (sp_Runtime_dispose K C) :=
  Txt.fnx T 74 d_Runtime_dispose rfl rfl sc_Runtime_dispose (fun _ _ _ _ _ _ us hl => match us, hl with | [_, _], _ => rfl) (fun _ => rfl)
  fun cdv A outer s H ⟨⟨⟨r, dx⟩, e, x, B, nds, dfs⟩, n, d⟩ Q E hr ⟨A1, wf, kk, hl, hd, h0, h⟩ => by
  refine ⟨_, (pss_cons (ps_expr (pe_fn (f_check_node T) hr (by decide) T.g_check_node passS0 (pa_cons (pe_mt0 (ns := rtNs) R.c R.m__begin (by decide) (f_Runtimebegin T R) hr (by decide) passS0 (pv 0)) (pa_cons (pv 1) (pa_cons (pg_r T.g_DISPOSABLE_checks) pa_nil)))))
    (pss_one (ps_expr (pe_mt1 (ns := enNs) T.c_Engine T.m_Engine_perform (by decide) (f_Engine_perform T) hr (by decide) (passSX (takes_of rfl rfl rfl rfl)) (R.p_engine (pv 0)) (pa_cons (pe_tup (pa_cons pe_str (pa_cons (pv 1) pa_nil))) pa_nil))))), ?_⟩
  refine ⟨_, rfl, _, _, _, rfl, A1.ob, (⟨r, dx⟩, e, x, B, nds, dfs), rfl, A1, fun H1 x1 N1 => ?_⟩
  refine ⟨_, rfl, (⟨e, x1, B, nds, dfs⟩, n, d, _, _), rfl, N1, hd, T.dsp _, kk.in5 hd, ?_⟩
  have A2 := A1.to N1
  refine ⟨_, rfl, _, _, _, _, rfl, A2.ob, rfl, _, _, _, rfl, A2.n.o, _, rfl, by show 2 ≤ sizeLine; rw [sizeLine_eq]; omega, fun t nt => ?_⟩
  have N2 := N1.mono (same_upd (o := .tup [.str "dispose", .int n]) nt)
  refine ⟨(⟨e, x1, B, nds, dfs⟩, t, _, _), rfl, N2, wf, ?_, hl, .disp upd_same hd h0, fun v hv H3 x3 N3 => by cases hv; exact h H3 x3 N3, fun z => nomatch z⟩
  split
  · exact kk.off _
  · exact kk
theorem sc_Runtime_context : FnScope ["self", "default"] ["self", "default"] (defScope s_Runtime_context) := ⟨rfl, rfl, rfl, by decide +kernel, rfl, by decide +kernel, by decide +kernel⟩
def sp_Runtime_context (K : Frag) (C : Addr) : Sp := SpX (fun x : RD × V => [.ref x.1.1.1, x.2]) fun ⟨⟨⟨r, dx⟩, e, x, B, nds, dfs⟩, v⟩ H Q E =>
  RtAt K C B H r dx e x nds dfs ∧ nds.length < 24 ∧ dfs.length < 24 ∧ Flat v ∧ ∀ H' x', En K B H' e x' nds (dfs ++ [v]) → Q (.int dfs.length) H'
theorem f_Runtime_context (T : Txt w K mg) {C : Addr} {bb : Bool} (R : RT K C bb) : Fn CX0 prog w K mg base 6 (He.ma K (He.ga K "Runtime") "context") ["self", "default"] (sp_Runtime_context K C) :=
  Txt.fnx T 71 d_Runtime_context rfl rfl sc_Runtime_context (fun _ _ _ _ _ _ us hl => match us, hl with | [_, _], _ => rfl) (fun _ => rfl)
  fun cdv A outer s H ⟨⟨⟨r, dx⟩, e, x, B, nds, dfs⟩, v⟩ Q E hr ⟨A1, hl, hl2, hv, h⟩ => by
  refine ⟨_, (pss_cons (ps_expr (pe_fn (f_check_value T) hr (by decide) T.g_check_value passS0 (pa_cons (pv 1) pa_nil)))
    (pss_cons (ps_expr (pe_mt1 (ns := enNs) T.c_Engine T.m_Engine_remember (by decide) (f_Engine_remember T) hr (by decide) passS0 (R.p_engine (pv 0)) (pa_cons (pe_mt0 (ns := stNs) T.c_State T.m_State_copy (by decide) (f_State_copy T) hr (by decide) passS0 (T.p_Engine_state (R.p_engine (pv 0)))) pa_nil)))
    (pss_cons (ps_expr (pe_bm PySem.F.plainAttrs_list PySem.F.slot_list_append PySem.F.type_list_append mt_append (T.p_State_defaults (T.p_Engine_state (R.p_engine (pv 0)))) (pa_cons (pv 1) pa_nil)))
    (pss_one (ps_ret (pe_op op_sub (pe_callB call_len_seq (by rfl) T.b_len (by decide +kernel) (pa_cons (T.p_State_defaults (T.p_Engine_state (R.p_engine (pv 0)))) pa_nil)) pe_int)))))), ?_⟩
  refine ⟨_, rfl, v, rfl, hv, ?_⟩
  refine ⟨_, rfl, _, _, _, _, rfl, A1.ob, rfl, _, _, _, rfl, A1.n.o, ?_⟩
  refine ⟨_, rfl, _, _, _, _, rfl, A1.ob, rfl, _, _, _, _, rfl, A1.n.o, rfl, _, _, _, rfl, A1.n.st.o, (x.s, nds, dfs), rfl, A1.n.st, by omega, fun H1 s1 sm1 _ _ => ?_⟩
  have A1 := A1.mono sm1
  refine ⟨(⟨e, x, B, nds, dfs⟩, _), rfl, A1.n, fun H2 x2 N2 => ?_⟩
  have A2 := A1.to N2
  refine ⟨_, rfl, _, _, _, _, rfl, A2.ob, rfl, _, _, _, _, rfl, N2.o, rfl, _, _, _, _, rfl, N2.st.o, rfl, .inl ⟨rfl, _, SqL.of N2.st.d⟩, _, rfl, _, _, _, rfl, rfl, N2.st.d, by rw [sizeLine_eq]; omega, ?_⟩
  have N3 := N2.upS (by simp [SA.all]) (N2.st.dapp (v := v))
  have A3 := A2.to N3
  refine ⟨_, rfl, _, _, _, _, rfl, A3.ob, rfl, _, _, _, _, rfl, N3.o, rfl, _, _, _, _, rfl, N3.st.o, rfl, _, _, rfl, .inl (SqL.of N3.st.d), _, _, rfl, rfl, ?_⟩
  show Q (.int (((dfs ++ [v]).length : Int) - 1)) _
  rw [show (((dfs ++ [v]).length : Int) - 1) = dfs.length from by rw [List.length_append]; simp]
  exact h _ _ N3

end
end K47
namespace K47
open PySem PySem.Spec PyProof.Rows L2
open PySem.W (Frag)
section
variable {w : World} {K : Frag} {mg : Str → Option Value} {base : Heap}
theorem ErrE.err {B H : Hp} {e : Addr} {x : EA} {nds : List Nd} {dfs : List V} {E : XK} {m : Str} (h : ErrE K B e nds dfs E m) (N : En K B H e x nds dfs) : Err K E H m := fun d H' s n q => h d H' x (N.mono s) q
theorem sc_Runtime_use : FnScope ["self", "node", "context"] ["self", "node", "context"] (defScope s_Runtime_use) := ⟨rfl, rfl, rfl, by decide +kernel, rfl, by decide +kernel, by decide +kernel⟩
def sp_Runtime_use (K : Frag) (C : Addr) : Sp := SpX (fun x : RD × Nat × Nd × Nat × V => [.ref x.1.1.1, .int x.2.1, .int x.2.2.2.1]) fun ⟨⟨⟨r, dx⟩, e, x, B, nds, dfs⟩, n, d, c, v⟩ H Q E =>
  RtAt K C B H r dx e x nds dfs ∧ WfN nds ∧ KindOk nds ∧ nds[n]? = some d ∧ c < dfs.length ∧ CtxV nds dfs c (some n) v ∧ (d.act = true → ∀ H' x', En K B H' e x' nds dfs → Q v H') ∧ (d.act = false → ErrE K B e nds dfs E "disposed")
theorem f_Runtime_use (T : Txt w K mg) {C : Addr} {bb : Bool} (R : RT K C bb) : Fn (L2.CX prog w) prog w K mg base 4 (He.ma K (He.ga K "Runtime") "use") ["self", "node", "context"] (sp_Runtime_use K C) :=
  Txt.fnx T 73 d_Runtime_use rfl rfl sc_Runtime_use (fun _ _ _ _ _ _ us hl => match us, hl with | [_, _, _], _ => rfl) (fun _ => rfl)
  fun cdv A outer s H ⟨⟨⟨r, dx⟩, e, x, B, nds, dfs⟩, n, d, c, v⟩ Q E hr ⟨A1, wf, kk, hd, hc, cv, h1, h2⟩ => by
  refine ⟨_, (pss_cons (ps_expr (pe_fn (f_check_node T) hr (by decide) T.g_check_node passS0 (pa_cons (R.p_engine (pv 0)) (pa_cons (pv 1) (pa_cons (pg_r T.g_OWNERS) pa_nil)))))
    (pss_cons (ps_expr (pe_fn (f_check_context T) hr (by decide) T.g_check_context passS0 (pa_cons (R.p_engine (pv 0)) (pa_cons (pv 2) pa_nil))))
    (pss_cons (ps_expr (pe_fn (f_requireX T) hr (by decide) T.g_require (passSX (takes_of rfl rfl rfl rfl)) (pa_cons (T.p_Node_active (pe_mt1 (ns := enNs) T.c_Engine T.m_Engine_node (by decide) (f_Engine_node T) hr (by decide) passS0 (R.p_engine (pv 0)) (pa_cons (pv 1) pa_nil))) (pa_cons pe_str pa_nil))))
    (pss_one (ps_ret (pe_fn (f_context_value T) hr (by decide) T.g_context_value passS0 (pa_cons (T.p_Engine_state (R.p_engine (pv 0))) (pa_cons (pv 1) (pa_cons (pv 2) pa_nil))))))))), ?_⟩
  have N := A1.n
  obtain ⟨a, ha, hnode⟩ := N.st.at hd
  obtain ⟨adx, aw, ac, ap, ao, _⟩ := hnode
  refine ⟨_, rfl, _, _, _, _, rfl, A1.ob, rfl, _, rfl, (⟨e, x, B, nds, dfs⟩, n, d, _, _), rfl, N, hd, T.own _, kk.in2 hd, ?_⟩
  refine ⟨_, rfl, _, _, _, _, rfl, A1.ob, rfl, _, rfl, (⟨e, x, B, nds, dfs⟩, c), rfl, N, hc, ?_⟩
  refine ⟨_, rfl, _, _, _, _, rfl, A1.ob, rfl, _, _, _, rfl, N.o, _, rfl, ⟨e, x, B, nds, dfs, n, a⟩, rfl, N, ha, ?_⟩
  refine ⟨_, _, _, _, rfl, ao, rfl, (d.act, "disposed"), rfl, fun q => ?_, fun q => (h2 q).err N⟩
  refine ⟨_, rfl, _, _, _, _, rfl, A1.ob, rfl, _, _, _, _, rfl, N.o, rfl, _, rfl, _, rfl, (x.s, nds, dfs, n, c, v), rfl, N.st, wf, (List.getElem?_eq_some_iff.mp hd).1, cv, fun H1 s1 => h1 q H1 x (N.mono s1)⟩
theorem sc_Runtimemake : FnScope ["self", "kind", "owner", "program", "setting", "engine"] ["self", "kind", "owner", "program", "setting"] (defScope s_Runtimemake) := ⟨rfl, rfl, rfl, by decide +kernel, rfl, by decide +kernel, by decide +kernel⟩
def sp_Runtimemake (K : Frag) (C : Addr) : Sp := SpX (fun x : RD × (Nat × Nd × Nat × V) × Addr × Addr × Addr × Addr × Addr => [.ref x.1.1.1, .str "transaction", .int x.2.1.1, .ref x.2.2.1, .ref x.2.2.2.2.2.1]) fun ⟨⟨⟨r, dx⟩, e, x, B, nds, dfs⟩, ⟨n, d, c, v⟩, l, t, u, dd, tc⟩ H Q E =>
  RtAt K C B H r dx e x nds dfs ∧ WfN nds ∧ KindOk nds ∧ nds.length < 24 ∧ nds[n]? = some d ∧ c < dfs.length ∧ CtxV nds dfs c (some n) v ∧ Prg B l t u ∧ Stg B dd tc c ∧ (d.act = true → ∀ H' x', En K B H' e x' nds dfs → Q v H') ∧ (d.act = false → ErrE K B e nds dfs E "disposed")
theorem f_Runtimemake (T : Txt w K mg) {C : Addr} {bb : Bool} (R : RT K C bb) : Fn (L2.CX prog w) prog w K mg base 11 (He.ma K (He.ga K "Runtime") "_make") ["self", "kind", "owner", "program", "setting"] (sp_Runtimemake K C) :=
  Txt.fnx T 68 d_Runtimemake rfl rfl sc_Runtimemake (fun _ _ _ _ _ _ us hl => match us, hl with | [_, _, _, _, _], _ => rfl) (fun _ => rfl)
  fun cdv A outer s H ⟨⟨⟨r, dx⟩, e, x, B, nds, dfs⟩, ⟨n, d, c, v⟩, l, t, u, dd, tc⟩ Q E hr ⟨A1, wf, kk, hl, hd, hc, cv, P, S, h1, h2⟩ => by
  refine ⟨_, (pss_cons (ps_set (i := 5) sc_Runtimemake.nd rfl (.inl rfl) (pe_mt0 (ns := rtNs) R.c R.m__begin (by decide) (f_Runtimebegin T R) hr (by decide) passS0 (pv 0)))
    (pss_cons (ps_expr (pe_fn (f_check_node T) hr (by decide) T.g_check_node passS0 (pa_cons (pv 5) (pa_cons (pv 2) (pa_cons (pg_r T.g_OWNERS) pa_nil)))))
    (pss_cons (ps_expr (pe_fn (f_check_program T) hr (by decide) T.g_check_program passS0 (pa_cons (pv 5) (pa_cons (pv 3) (pa_cons (pv 4) pa_nil)))))
    (pss_one (ps_ret (pe_mt1 (ns := enNs) T.c_Engine T.m_Engine_perform (by decide) (f_Engine_perform T) hr (by decide) (passSX (takes_of rfl rfl rfl rfl)) (pv 5) (pa_cons (pe_tup (pa_cons (pv 1) (pa_cons (pv 2) (pa_cons (pe_fn (f_frozen T) hr (by decide) T.g_frozen passS0 (pa_cons (pv 3) pa_nil)) (pa_cons (pv 4) pa_nil))))) pa_nil))))))), ?_⟩
  refine ⟨_, rfl, _, _, _, rfl, A1.ob, (⟨r, dx⟩, e, x, B, nds, dfs), rfl, A1, fun H1 x1 N1 => ?_⟩
  refine ⟨_, rfl, _, rfl, (⟨e, x1, B, nds, dfs⟩, n, d, _, _), rfl, N1, hd, T.own _, kk.in2 hd, ?_⟩
  refine ⟨_, rfl, _, rfl, _, rfl, (⟨e, x1, B, nds, dfs⟩, ⟨l, t, u⟩, dd, tc, c), rfl, N1, P.mono N1.sm, S.mono N1.sm, hc, fun H2 s2 => ?_⟩
  have N2 := N1.mono s2
  refine ⟨_, rfl, _, _, _, rfl, N2.o, _, rfl, _, rfl, _, rfl, (l, t, u), rfl, P.mono N2.sm, fun H3 l' t' s3 nl P3 => ?_⟩
  refine ⟨_, rfl, by show 4 ≤ sizeLine; rw [sizeLine_eq]; omega, fun tt nt => ?_⟩
  have s4 := same_upd (H := H3) (o := .tup [.str "transaction", .int n, .ref l', .ref dd]) nt
  have N4 := N2.mono (s3.trans s4)
  refine ⟨(⟨e, x1, B, nds, dfs⟩, tt, _, _), rfl, N4, wf, kk, hl, .tran upd_same (P3.mono s4) (S.mono N4.sm) hd cv, fun v' hv H5 x5 N5 => ?_, fun hv => ?_⟩
  · cases q : d.act with
    | true =>
      rw [q] at hv
      cases hv
      exact h1 q H5 x5 N5
    | false =>
      rw [q] at hv
      cases hv
  · cases q : d.act with
    | true =>
      rw [q] at hv
      cases hv
    | false => exact h2 q
theorem sc_Runtime_transaction : FnScope ["self", "node", "program", "setting"] ["self", "node", "program", "setting"] (defScope s_Runtime_transaction) := ⟨rfl, rfl, rfl, by decide +kernel, rfl, by decide +kernel, by decide +kernel⟩
def sp_Runtime_transaction (K : Frag) (C : Addr) : Sp := SpX (fun x : RD × (Nat × Nd × Nat × V) × Addr × Addr × Addr × Addr × Addr => [.ref x.1.1.1, .int x.2.1.1, .ref x.2.2.1, .ref x.2.2.2.2.2.1]) fun ⟨⟨⟨r, dx⟩, e, x, B, nds, dfs⟩, ⟨n, d, c, v⟩, l, t, u, dd, tc⟩ H Q E =>
  RtAt K C B H r dx e x nds dfs ∧ WfN nds ∧ KindOk nds ∧ nds.length < 24 ∧ nds[n]? = some d ∧ c < dfs.length ∧ CtxV nds dfs c (some n) v ∧ Prg B l t u ∧ Stg B dd tc c ∧ (d.act = true → ∀ H' x', En K B H' e x' nds dfs → Q v H') ∧ (d.act = false → ErrE K B e nds dfs E "disposed")
theorem f_Runtime_transaction (T : Txt w K mg) {C : Addr} {bb : Bool} (R : RT K C bb) : Fn (L2.CX prog w) prog w K mg base 12 (He.ma K (He.ga K "Runtime") "transaction") ["self", "node", "program", "setting"] (sp_Runtime_transaction K C) :=
  Txt.fnx T 75 d_Runtime_transaction rfl rfl sc_Runtime_transaction (fun _ _ _ _ _ _ us hl => match us, hl with | [_, _, _, _], _ => rfl) (fun _ => rfl)
  fun cdv A outer s H ⟨⟨⟨r, dx⟩, e, x, B, nds, dfs⟩, ⟨n, d, c, v⟩, l, t, u, dd, tc⟩ Q E hr h => by
  refine ⟨_, (pss_one (ps_ret (pe_mt1 (ns := rtNs) R.c R.m__make (by decide) (f_Runtimemake T R) hr (by decide) (passSX (takes_of rfl rfl rfl rfl)) (pv 0) (pa_cons pe_str (pa_cons (pv 1) (pa_cons (pv 2) (pa_cons (pv 3) pa_nil))))))), ?_⟩
  exact ⟨_, rfl, _, _, _, rfl, h.1.ob, _, rfl, _, rfl, _, rfl, (⟨⟨r, dx⟩, e, x, B, nds, dfs⟩, ⟨n, d, c, v⟩, l, t, u, dd, tc), rfl, h⟩
theorem sc_Runtime_provide : FnScope ["self", "node", "context", "value", "engine", "here", "other"] ["self", "node", "context", "value"] (defScope s_Runtime_provide) := ⟨rfl, rfl, rfl, by decide +kernel, rfl, by decide +kernel, by decide +kernel⟩
/-- a child of n stands -/
def kid (nds : List Nd) (n : Nat) : Bool := nds.any fun d => decide (ownV d.own = .int (n : Nat))
def sp_Runtime_provide (K : Frag) (C : Addr) : Sp := SpX (fun x : RD × Nat × Nd × Nat × V => [.ref x.1.1.1, .int x.2.1, .int x.2.2.2.1, x.2.2.2.2]) fun ⟨⟨⟨r, dx⟩, e, x, B, nds, dfs⟩, n, d, c, v⟩ H Q E =>
  RtAt K C B H r dx e x nds dfs ∧ KindOk nds ∧ nds.length < 24 ∧ nds[n]? = some d ∧ d.prov.length < 100 ∧ c < dfs.length ∧ Flat v ∧ (d.act = true → kid nds n = false → ∀ H' x', En K B H' e x' (nds.set n { d with prov := (c, v) :: d.prov }) dfs → Q .non H') ∧
  (d.act = false → ErrE K B e nds dfs E "disposed") ∧ (d.act = true → kid nds n = true → ErrE K B e nds dfs E "too late")
theorem f_Runtime_provide (T : Txt w K mg) {C : Addr} {bb : Bool} (R : RT K C bb) : Fn (L2.CX prog w) prog w K mg base 6 (He.ma K (He.ga K "Runtime") "provide") ["self", "node", "context", "value"] (sp_Runtime_provide K C) :=
  Txt.fnx T 72 d_Runtime_provide rfl rfl sc_Runtime_provide (fun _ _ _ _ _ _ us hl => match us, hl with | [_, _, _, _], _ => rfl) (fun _ => rfl)
  fun cdv A outer s H ⟨⟨⟨r, dx⟩, e, x, B, nds, dfs⟩, n, d, c, v⟩ Q E hr ⟨A1, kk, hl, hd, hp, hc, hv, h1, h2, h3⟩ => by
  refine ⟨_, (pss_cons (ps_set (i := 4) sc_Runtime_provide.nd rfl (.inl rfl) (R.p_engine (pv 0)))
    (pss_cons (ps_expr (pe_fn (f_check_node T) hr (by decide) T.g_check_node passS0 (pa_cons (pv 4) (pa_cons (pv 1) (pa_cons (pg_r T.g_OWNERS) pa_nil)))))
    (pss_cons (ps_expr (pe_fn (f_check_context T) hr (by decide) T.g_check_context passS0 (pa_cons (pv 4) (pa_cons (pv 2) pa_nil))))
    (pss_cons (ps_expr (pe_fn (f_check_value T) hr (by decide) T.g_check_value passS0 (pa_cons (pv 3) pa_nil)))
    (pss_cons (ps_expr (pe_fn (f_requireX T) hr (by decide) T.g_require (passSX (takes_of rfl rfl rfl rfl)) (pa_cons (T.p_Node_active (pe_mt1 (ns := enNs) T.c_Engine T.m_Engine_node (by decide) (f_Engine_node T) hr (by decide) passS0 (pv 4) (pa_cons (pv 1) pa_nil))) (pa_cons pe_str pa_nil))))
    (pss_cons (ps_expr (pe_fn (f_requireX T) hr (by decide) T.g_require (passSX (takes_of rfl rfl rfl rfl)) (pa_cons (pe_callB (cr_all rfl) (by rfl) T.b_all (by decide +kernel) (pa_cons (pe_lc (own := [("other", 6)]) (g := gName 6) rfl sc_Runtime_provide.nd (pi_list (T.p_State_nodes (T.p_Engine_state (pv 4)))) (blkOk_by (own := [("other", 6)]) (N := ["self", "node", "context", "value", "engine", "here", "other"]) (sc := defScope s_Runtime_provide) (by decide +kernel)) (fun _ _ _ _ _ => (pg_name (i := 6) sc_Runtime_provide.nd rfl (.inl rfl))) (fun _ _ _ _ _ => pts_nil) (fun _ _ _ _ _ => (pe_cmpR op_ne (pe_f (i := 1) T.c_Node T.n_Node_owner nd_nodeNs rfl (pv 6)) (pv 1) (nomark _)))) pa_nil)) (pa_cons pe_str pa_nil))))
    (pss_cons (ps_expr (pe_mt1 (ns := enNs) T.c_Engine T.m_Engine_remember (by decide) (f_Engine_remember T) hr (by decide) passS0 (pv 4) (pa_cons (pe_mt0 (ns := stNs) T.c_State T.m_State_copy (by decide) (f_State_copy T) hr (by decide) passS0 (T.p_Engine_state (pv 4))) pa_nil)))
    (pss_cons (ps_set (i := 5) sc_Runtime_provide.nd rfl (.inl rfl) (pe_mt1 (ns := enNs) T.c_Engine T.m_Engine_node (by decide) (f_Engine_node T) hr (by decide) passS0 (pv 4) (pa_cons (pv 1) pa_nil)))
    (pss_one (T.q_Node_provided (pv 5) (pe_op op_catT (pe_tup (pa_cons (pe_tup (pa_cons (pv 2) (pa_cons (pv 3) pa_nil))) pa_nil)) (T.p_Node_provided (pv 5))))))))))))), ?_⟩
  have N := A1.n
  obtain ⟨a, ha, hnode⟩ := N.st.at hd
  obtain ⟨adx, aw, ac, ap, ao, hac, hap⟩ := hnode
  refine ⟨_, rfl, _, _, _, _, rfl, A1.ob, rfl, ?_⟩
  refine ⟨_, rfl, _, rfl, (⟨e, x, B, nds, dfs⟩, n, d, _, _), rfl, N, hd, T.own _, kk.in2 hd, ?_⟩
  refine ⟨_, rfl, _, rfl, (⟨e, x, B, nds, dfs⟩, c), rfl, N, hc, ?_⟩
  refine ⟨_, rfl, v, rfl, hv, ?_⟩
  refine ⟨_, rfl, _, _, _, rfl, N.o, _, rfl, ⟨e, x, B, nds, dfs, n, a⟩, rfl, N, ha, ?_⟩
  refine ⟨_, _, _, _, rfl, ao, rfl, (d.act, "disposed"), rfl, fun q => ?_, fun q => (h2 q).err N⟩
  refine ⟨_, rfl, _, _, _, _, rfl, N.o, rfl, _, _, _, _, rfl, N.st.o, rfl, _, rfl, ⟨_, SqL.of N.st.n⟩, fun D nD => ?_⟩
  refine lc_list (K := K) (a := x.s.ln) (xs := x.s.nas.map V.ref) (fun i H' => Same H H' ∧ H' D = some (.lst (((nds.take i).map fun d => !decide (ownV d.own = .int (n : Nat))).map V.bl)))
    ⟨same_upd nD, upd_same⟩ (fun i H' _ q => SqL.of (q.1 _ _ N.st.n)) (fun i y H' hy q => ?_) (fun H' q => ?_)
  · obtain ⟨sm, hD⟩ := q
    rw [List.getElem?_map] at hy
    obtain ⟨b, hb, rfl⟩ := Option.map_eq_some_iff.mp hy
    have hi : i < nds.length := by
      rw [← N.st.len]
      exact (List.getElem?_eq_some_iff.mp hb).1
    have hdi : nds[i]? = some nds[i] := List.getElem?_eq_getElem hi
    obtain ⟨bdx, bw, bc, bp, bo, _⟩ := (fall_get N.st.nodes hb hdi).mono sm
    refine ⟨rfl, ?_⟩
    refine ⟨_, rfl, _, _, _, _, rfl, bo, rfl, _, rfl, ?_, _, hD, ?_, same_put sm nD, ?_⟩
    · cases nds[i].own <;> rfl
    · rw [List.length_map, List.length_map, List.length_take, sizeLine_eq]
      omega
    · rw [upd_same, take_snoc hdi, List.map_append, List.map_append]
      rfl
  · obtain ⟨sm, hD⟩ := q
    rw [List.length_map, N.st.len, List.take_length] at hD
    have ek : (nds.map fun d => !decide (ownV d.own = .int (n : Nat))).all id = !kid nds n := by
      unfold kid
      rw [List.all_map, List.any_eq_not_all_not]
      simp
    refine ⟨_, _, rfl, SqL.of hD, (!kid nds n, "too late"), ?_, fun q2 => ?_, fun q2 => (h3 q (by simpa using q2)).err (N.mono sm)⟩
    · rw [ek]
    have A2 := A1.mono sm
    have N2 := N.mono sm
    refine ⟨_, rfl, _, _, _, rfl, N2.o, _, rfl, _, _, _, _, rfl, N2.o, rfl, _, _, _, rfl, N2.st.o, (x.s, nds, dfs), rfl, N2.st, by omega, fun H3 s3 sm3 _ _ => ?_⟩
    have N3 := N2.mono sm3
    refine ⟨(⟨e, x, B, nds, dfs⟩, _), rfl, N3, fun H4 x4 N4 => ?_⟩
    obtain ⟨a4, ha4, hnode⟩ := N4.st.at hd
    obtain ⟨adx, aw, ac, ap, ao, hac, hap⟩ := hnode
    refine ⟨_, rfl, _, _, _, rfl, N4.o, _, rfl, ⟨e, x4, B, nds, dfs, n, a4⟩, rfl, N4, ha4, ?_⟩
    refine ⟨_, rfl, _, rfl, by show 2 ≤ sizeLine; rw [sizeLine_eq]; omega, fun t1 nt1 => ⟨by show 1 ≤ sizeLine; rw [sizeLine_eq]; omega, fun t2 nt2 => ?_⟩⟩
    have s5 := same_upd (o := .tup [.int c, v]) nt1
    have s6 := s5.trans (same_upd (o := .tup [.ref t1]) nt2)
    have hap6 := hap.keep (tupK_same s6)
    obtain ⟨ts, hts, hpr⟩ := hap6.h
    have N6 := N4.mono s6
    have ao6 := s6 _ _ ao
    have ht1 : upd (upd H4 t1 (.tup [.int c, v])) t2 (.tup [.ref t1]) t1 = some (.tup [.int c, v]) := same_upd nt2 _ _ upd_same
    have ma := N6.st.mem ha4
    have hlen := fall_len hpr
    have fin : ∀ H7 p7, Same (upd (upd H4 t1 (.tup [.int c, v])) t2 (.tup [.ref t1])) H7 → ProvAt H7 p7 ((c, v) :: d.prov) → Q .non (upd H7 a4 (Ins (He.ga K "Node") adx nodeNs (nodeVs { d with prov := (c, v) :: d.prov } aw ac p7))) := fun H7 p7 s7 hp7 => by
      have N7 := N6.mono s7
      have ao7 := s7 _ _ ao6
      have k := tupK_ins (o := Ins (He.ga K "Node") adx nodeNs (nodeVs { d with prov := (c, v) :: d.prov } aw ac p7)) ao7
      exact h1 q (by simpa using q2) _ x4 (N7.upS ma (N7.st.set (d' := { d with prov := (c, v) :: d.prov }) ha4 (nt_ins ao7) ⟨adx, aw, ac, p7, upd_same, k _ _ ((s6.trans s7) _ _ hac), hp7.keep k⟩))
    refine ⟨_, rfl, _, _, _, _, rfl, ao6, rfl, ?_⟩
    refine ⟨_, _, _, _, rfl, rfl, SqT.of upd_same, SqT.of hts, (fun z => nomatch z), ?_, fun z => ?_, fun z p np => ?_⟩
    · show 1 + (ts.map V.ref).length ≤ sizeLine
      rw [List.length_map, hlen, sizeLine_eq]
      omega
    · have e0 : ts = [] := List.map_eq_nil_iff.mp z
      have e1 : d.prov = [] := by
        rw [e0] at hlen
        exact List.length_eq_zero_iff.mp hlen.symm
      refine ⟨_, rfl, _, _, _, rfl, ao6, by show 13 ≤ 16; omega, ?_⟩
      refine fin _ _ (Same.refl _) ?_
      rw [e1]
      exact ⟨[t1], upd_same, .cons ht1 .nil⟩
    · have s7 := same_upd (o := .tup ([.ref t1] ++ ts.map V.ref)) np
      refine ⟨_, rfl, _, _, _, rfl, s7 _ _ ao6, by show 13 ≤ 16; omega, ?_⟩
      refine fin _ _ s7 ⟨t1 :: ts, upd_same, .cons (s7 _ _ ht1) (fall_imp hpr fun t cv _ r => s7 _ _ r)⟩

end
end K47
namespace K47
open PySem PySem.Spec PyProof.Rows L2
open PySem.W (Frag)
section
variable {w : World} {K : Frag} {mg : Str → Option Value} {base : Heap}
/-! the law's own defs -/
theorem sc__law_cell : FnScope ["_law_script", "_law_k"] ["_law_script", "_law_k"] (defScope s__law_cell) := ⟨rfl, rfl, rfl, by decide +kernel, rfl, by decide +kernel, by decide +kernel⟩
def sp__law_cell (K : Frag) : Sp := SpX (fun x : Addr × List Int × Nat => [.ref x.1, .int x.2.2]) fun ⟨a, ns, k⟩ H Q E => SqL K H a (ns.map V.int) ∧ ∀ i, Q (.int i) H
theorem f__law_cell (T : Txt w K mg) : Fn CX0 prog w K mg base 1 (He.ga K "_law_cell") ["_law_script", "_law_k"] (sp__law_cell K) :=
  Txt.fnx T 41 d__law_cell rfl rfl sc__law_cell (fun _ _ _ _ _ _ us hl => match us, hl with | [_, _], _ => rfl) (fun _ => rfl)
  fun cdv A outer s H ⟨a, ns, k⟩ Q E hr ⟨ha, h⟩ => by
  refine ⟨_, (pss_cons (ps_if (pt_cmpR op_lt (pv 1) (pe_callB call_len_seq (by rfl) T.b_len (by decide +kernel) (pa_cons (pv 0) pa_nil)) (nomark _)) (pss_one (ps_ret (pe_ix ix_list (pv 0) (pv 1) (fun _ _ => rfl)))) pss_nil)
    (pss_one (ps_ret pe_int))), ?_⟩
  refine ⟨_, rfl, _, rfl, _, _, rfl, .inl ha, _, _, rfl, rfl, _, rfl, ?_⟩
  refine ite2 (fun hq => ?_) fun hq => h _
  have hk : k < ns.length := by
    simp at hq
    exact hq
  exact ⟨_, rfl, _, rfl, _, _, _, _, rfl, rfl, ha, atI_nat (v := .int ns[k]) (by rw [List.getElem?_map, List.getElem?_eq_getElem hk]; rfl), h _⟩
theorem sc__law_row : FnScope ["_law_script", "_law_first", "_law_last", "_law_row_here", "_law_k", "_law_cell_here", "_law_turn"] ["_law_script", "_law_first", "_law_last"] (defScope s__law_row) := ⟨rfl, rfl, rfl, by decide +kernel, rfl, by decide +kernel, by decide +kernel⟩
def sp__law_row (K : Frag) : Sp := SpX (fun x : Addr × List Int => [.ref x.1, .int 0, .int 20]) fun ⟨a, ns⟩ H Q E => SqL K H a (ns.map V.int) ∧ (∀ H', Same H H' → SqL K H' a (ns.map V.int)) ∧ ∀ H' l row, Same H H' → H l = none → H' l = some (.lst ((row : List Int).map V.int)) → Q (.ref l) H'
theorem f__law_row (T : Txt w K mg) : Fn CX0 prog w K mg base 2 (He.ga K "_law_row") ["_law_script", "_law_first", "_law_last"] (sp__law_row K) :=
  Txt.fnx T 42 d__law_row rfl rfl sc__law_row (fun _ _ _ _ _ _ us hl => match us, hl with | [_, _, _], _ => rfl) (fun _ => rfl)
  fun cdv A outer s H ⟨a, ns⟩ Q E hr ⟨ha, hS, h⟩ => by
  refine ⟨_, (pss_cons (ps_set (i := 3) sc__law_row.nd rfl (.inl rfl) (pe_lst pa_nil))
    (pss_cons (ps_for (passes_of rfl) rfl (pi_range2 (by rfl) T.b_range (pa_cons (pv 1) (pa_cons (pv 2) pa_nil))) (pg_name (i := 4) sc__law_row.nd rfl (.inl rfl)) (pss_cons (ps_set (i := 5) sc__law_row.nd rfl (.inl rfl) (pe_fn (f__law_cell T) hr (by decide) T.g__law_cell passS0 (pa_cons (pv 0) (pa_cons (pv 4) pa_nil))))
      (pss_cons (ps_set (i := 5) sc__law_row.nd rfl (.inl rfl) (pe_op op_add (pe_callB call_abs (by rfl) T.b_abs (by decide +kernel) (pa_cons (pe_op op_mul pe_int (pv 5)) pa_nil)) (pe_callTy call_int1 (by rfl) T.b_int (by decide +kernel) (pa_cons (pe_cmpR op_lt (pv 5) pe_int (nomark _)) pa_nil))))
      (pss_one (ps_if (pt_cmpR op_gt (pv 5) (pe_op op_pow pe_int pe_int) (nomark _)) (pss_one (ps_for (passes_of rfl) rfl (pi_range1 (by rfl) T.b_range (pa_cons pe_int pa_nil)) (pg_name (i := 6) sc__law_row.nd rfl (.inl rfl)) (pss_one (ps_if (pt_cmpR op_gt (pv 5) pe_int (nomark _)) (pss_cons (ps_expr (pe_bm PySem.F.plainAttrs_list PySem.F.slot_list_append PySem.F.type_list_append mt_append (pv 3) (pa_cons (pe_op op_mod (pe_callTy call_int1 (by rfl) T.b_int (by decide +kernel) (pa_cons (pv 5) pa_nil)) pe_int) pa_nil)))
            (pss_one (ps_set (i := 5) sc__law_row.nd rfl (.inl rfl) (pe_op op_fdiv (pv 5) pe_int)))) pss_nil)))) (pss_one (ps_for (passes_of rfl) rfl (pi_range1 (by rfl) T.b_range (pa_cons pe_int pa_nil)) (pg_name (i := 6) sc__law_row.nd rfl (.inl rfl)) (pss_cons (ps_set (i := 5) sc__law_row.nd rfl (.inl rfl) (pe_op op_mod (pe_callTy call_int1 (by rfl) T.b_int (by decide +kernel) (pa_cons (pe_op op_add (pe_op op_add (pe_op op_mul (pv 5) pe_int) (pe_op op_mul pe_int (pe_op op_add (pv 4) (pv 6)))) pe_int) pa_nil)) pe_int))
          (pss_one (ps_expr (pe_bm PySem.F.plainAttrs_list PySem.F.slot_list_append PySem.F.type_list_append mt_append (pv 3) (pa_cons (pe_op op_mod (pe_callTy call_int1 (by rfl) T.b_int (by decide +kernel) (pa_cons (pe_op op_fdiv (pv 5) pe_int) pa_nil)) pe_int) pa_nil))))))))))))
    (pss_one (ps_ret (pv 3))))), ?_⟩
  refine ⟨Nat.zero_le _, fun l nl => ?_⟩
  refine ⟨_, rfl, _, rfl, 0, 20, rfl, ⟨by decide, by decide, by decide, by decide⟩, ?_⟩
  refine for_range (lo := 0) (n := 20) (fun i σ H' => (∃ u v w, σ = [some (.ref a), some (.int 0), some (.int 20), some (.ref l), u, v, w]) ∧ Same H H' ∧ ∃ row : List Int, H' l = some (.lst (row.map V.int)) ∧ row.length ≤ 60 * i)
    ⟨⟨_, _, _, rfl⟩, same_upd nl, [], upd_same, Nat.zero_le _⟩ (fun i σ H' hi q => ?_) (fun σ H' q => ?_)
  · obtain ⟨⟨u, v, w', rfl⟩, sm, row, hl, hlen⟩ := q
    have e0 : (0 : Int) + (i : Int) = i := Int.zero_add _
    rw [e0]
    refine ⟨_, rfl, _, rfl, (a, ns, i), rfl, hS _ sm, fun c => ?_⟩
    refine ⟨_, rfl, _, _, rfl, rfl, .inl ⟨by decide, by decide⟩, _, rfl, ?_⟩
    refine ⟨_, rfl, _, _, rfl, rfl, .inr ⟨_, rfl, ?_⟩⟩
    obtain ⟨c1, hc1⟩ : ∃ c1 : Int, c1 = (if 2 * c < 0 then -(2 * c) else 2 * c) + (if decide (c < 0) = true then 1 else 0) := ⟨_, rfl⟩
    have hpos : 0 ≤ c1 := by
      rw [hc1]
      split <;> split <;> omega
    refine ⟨_, _, rfl, rfl, ?_⟩
    refine ⟨_, rfl, _, _, rfl, rfl, ⟨by decide, by decide, by decide⟩, _, _, rfl, rfl, _, rfl, ?_⟩
    refine ite2 (fun hq => ?_) fun hq => ?_
    · refine ⟨60, rfl, by decide, by decide, ?_⟩
      refine for_range (lo := 0) (n := 60) (fun j σ H' => (∃ (c : Int) (w : Option V), σ = [some (.ref a), some (.int 0), some (.int 20), some (.ref l), some (.int i), some (.int c), w]) ∧ Same H H' ∧ ∃ row : List Int, H' l = some (.lst (row.map V.int)) ∧ row.length ≤ 60 * i + j)
        ⟨⟨_, _, rfl⟩, sm, row, hl, hlen⟩ (fun j σ H' hj q => ?_) (fun σ H' q => ?_)
      · obtain ⟨⟨c2, w2, rfl⟩, sm, row, hl, hlen⟩ := q
        refine ⟨_, rfl, _, _, rfl, rfl, _, rfl, ?_⟩
        refine ite2 (fun _ => ?_) fun _ => ⟨⟨_, _, rfl⟩, sm, row, hl, by omega⟩
        refine ⟨_, rfl, .inl ⟨rfl, _, SqL.of hl⟩, _, rfl, .inl ⟨_, rfl, _, _, rfl, rfl, (by show (0 : Int) < 840; decide), ?_⟩⟩
        refine ⟨l, _, _, rfl, rfl, hl, by rw [List.length_map, sizeLine_eq]; omega, ?_⟩
        refine ⟨_, rfl, _, _, rfl, rfl, ⟨by decide, by decide⟩, ?_⟩
        refine ⟨⟨_, _, rfl⟩, same_put sm nl, row ++ [c2 % 840], ?_, ?_⟩
        · rw [upd_same, List.map_append]
          rfl
        · rw [List.length_append]
          simp
          omega
      · obtain ⟨⟨c2, w2, rfl⟩, sm, row, hl, hlen⟩ := q
        exact ⟨⟨_, _, _, rfl⟩, sm, row, hl, by omega⟩
    · rw [hc1] at hpos
      have hc18 : (if 2 * c < 0 then -(2 * c) else 2 * c) + (if decide (c < 0) = true then 1 else 0) ≤ 10 ^ 18 := by
        have hq2 : ¬ ((10 : Int) ^ 18 < (if 2 * c < 0 then -(2 * c) else 2 * c) + (if decide (c < 0) = true then 1 else 0)) := of_decide_eq_false (eq_false_of_ne_true hq)
        omega
      refine ⟨10, rfl, by decide, by decide, ?_⟩
      refine for_range (lo := 0) (n := 10) (fun j σ H' => (∃ (c : Int) (w : Option V), σ = [some (.ref a), some (.int 0), some (.int 20), some (.ref l), some (.int i), some (.int c), w] ∧ 0 ≤ c ∧ c ≤ 10 ^ 18) ∧ Same H H' ∧ ∃ row : List Int, H' l = some (.lst (row.map V.int)) ∧ row.length ≤ 60 * i + j)
        ⟨⟨_, _, rfl, hpos, hc18⟩, sm, row, hl, hlen⟩ (fun j σ H' hj q => ?_) (fun σ H' q => ?_)
      · obtain ⟨⟨c2, w2, rfl, p1, p2⟩, sm, row, hl, hlen⟩ := q
        have e1 : (0 : Int) + (j : Int) = j := Int.zero_add _
        rw [e1]
        refine ⟨_, rfl, _, _, rfl, rfl, .inl ⟨by omega, by omega⟩, ?_⟩
        refine ⟨_, rfl, _, rfl, _, _, rfl, rfl, _, _, rfl, rfl, .inl ⟨by decide, by decide⟩, _, _, rfl, rfl, _, _, rfl, rfl, .inl ⟨_, rfl, ?_⟩⟩
        refine ⟨_, _, rfl, rfl, (by show (0 : Int) < 4294967291; decide), ?_⟩
        have p3 : 0 ≤ (c2 * 69069 + 104729 * ((i : Int) + (j : Int)) + 1) % 4294967291 ∧ (c2 * 69069 + 104729 * ((i : Int) + (j : Int)) + 1) % 4294967291 < 4294967291 := by omega
        refine ⟨_, rfl, .inl ⟨rfl, _, SqL.of hl⟩, _, rfl, _, _, rfl, rfl, ⟨by decide, by decide⟩, .inl ⟨_, rfl, _, _, rfl, rfl, (by show (0 : Int) < 840; decide), ?_⟩⟩
        refine ⟨l, _, _, rfl, rfl, hl, by rw [List.length_map, sizeLine_eq]; omega, ?_⟩
        refine ⟨⟨_, _, rfl, p3.1, by omega⟩, same_put sm nl, row ++ [(c2 * 69069 + 104729 * ((i : Int) + (j : Int)) + 1) % 4294967291 / 5003 % 840], ?_, ?_⟩
        · rw [upd_same, List.map_append]
          rfl
        · rw [List.length_append]
          simp
          omega
      · obtain ⟨⟨c2, w2, rfl, _, _⟩, sm, row, hl, hlen⟩ := q
        exact ⟨⟨_, _, _, rfl⟩, sm, row, hl, by omega⟩
  · obtain ⟨⟨u, v, w', rfl⟩, sm, row, hl, hlen⟩ := q
    exact ⟨_, rfl, h H' l row sm nl hl⟩

end
end K47
namespace K47
open PySem PySem.Spec PyProof.Rows L2
open PySem.W (Frag)
section
variable {w : World} {K : Frag} {mg : Str → Option Value} {base : Heap}
structure BoxAt (B H : Hp) (b rw : Addr) (row : List Int) : Prop where
  hr : B rw = some (.lst (row.map V.int))
  h : ∃ k : Nat, H b = some (.lst [.ref rw, .int k])
  sm : Same B H
  fr : B b = none
theorem sc__law_draw : FnScope ["_law_box", "_law_many", "_law_at"] ["_law_box", "_law_many"] (defScope s__law_draw) := ⟨rfl, rfl, rfl, by decide +kernel, rfl, by decide +kernel, by decide +kernel⟩
def sp__law_draw (K : Frag) : Sp := SpX (fun x : Addr × Nat × Hp × Addr × List Int => [.ref x.1, .int x.2.1]) fun ⟨b, many, B, rw, row⟩ H Q E => BoxAt B H b rw row ∧ 0 < many ∧ ∀ H' r, BoxAt B H' b rw row → r < many → Q (.int (r : Nat)) H'
theorem f__law_draw (T : Txt w K mg) : Fn CX0 prog w K mg base 1 (He.ga K "_law_draw") ["_law_box", "_law_many"] (sp__law_draw K) :=
  Txt.fnx T 43 d__law_draw rfl rfl sc__law_draw (fun _ _ _ _ _ _ us hl => match us, hl with | [_, _], _ => rfl) (fun _ => rfl)
  fun cdv A outer s H ⟨b, many, B, rw, row⟩ Q E hr ⟨X, hm, h⟩ => by
  refine ⟨_, (pss_cons (ps_set (i := 2) sc__law_draw.nd rfl (.inl rfl) (pe_ix ix_list (pv 0) pe_int (fun _ _ => rfl)))
    (pss_cons (ps_asg (pe_op op_add (pv 2) pe_int) (pg_sub (pv 0) pe_int set_list))
    (pss_cons (ps_if (pt_cmpR op_lt (pv 2) (pe_callB call_len_seq (by rfl) T.b_len (by decide +kernel) (pa_cons (pe_ix ix_list (pv 0) pe_int (fun _ _ => rfl)) pa_nil)) (nomark _)) (pss_one (ps_ret (pe_op op_mod (pe_callTy call_int1 (by rfl) T.b_int (by decide +kernel) (pa_cons (pe_ix ix_list (pe_ix ix_list (pv 0) pe_int (fun _ _ => rfl)) (pv 2) (fun _ _ => rfl)) pa_nil)) (pv 1)))) pss_nil)
    (pss_one (ps_ret (pe_op op_mod (pe_callTy call_int1 (by rfl) T.b_int (by decide +kernel) (pa_cons (pe_op op_add (pe_op op_mul (pv 2) pe_int) pe_int) pa_nil)) (pv 1))))))), ?_⟩
  have hrw := X.hr
  obtain ⟨k, hb⟩ := X.h
  refine ⟨_, rfl, _, _, _, _, rfl, rfl, SqL.of hb, atI_nat (j := 1) rfl, ?_⟩
  refine ⟨_, rfl, _, _, rfl, rfl, _, rfl, b, _, _, 1, rfl, rfl, hb, by rfl, ?_⟩
  have hne : rw ≠ b := fun z => by
    have := X.fr
    rw [← z, hrw] at this
    cases this
  have X2 : BoxAt B (upd H b (.lst [.ref rw, .int ((k : Int) + 1)])) b rw row := ⟨hrw, ⟨k + 1, by rw [upd_same, Int.natCast_succ]⟩, same_put X.sm X.fr, X.fr⟩
  have hb2 : upd H b (.lst [.ref rw, .int ((k : Int) + 1)]) b = some (.lst [.ref rw, .int ((k : Int) + 1)]) := upd_same
  have hr2 : upd H b (.lst [.ref rw, .int ((k : Int) + 1)]) rw = some (.lst (row.map V.int)) := by
    rw [upd_ne hne]
    exact X.sm _ _ hrw
  have fin : ∀ z : Int, Q (.int (z % (many : Int))) (upd H b (.lst [.ref rw, .int ((k : Int) + 1)])) := fun z => by
    have h0 : 0 ≤ z % (many : Int) := Int.emod_nonneg _ (by omega)
    have h1 : z % (many : Int) < many := Int.emod_lt_of_pos _ (by omega)
    have e : z % (many : Int) = ((z % (many : Int)).toNat : Int) := by omega
    rw [e]
    exact h _ _ X2 (by omega)
  refine ⟨_, rfl, _, rfl, _, _, _, _, rfl, rfl, SqL.of hb2, atI_nat (j := 0) rfl, _, _, rfl, .inl (SqL.of hr2), _, _, rfl, rfl, _, rfl, ?_⟩
  refine ite2 (fun hq => ?_) fun hq => ?_
  · have hk : k < row.length := by
      have hq2 : ((k : Int) < ((row.map V.int).length : Nat)) := of_decide_eq_true hq
      rw [List.length_map] at hq2
      omega
    refine ⟨_, rfl, _, _, _, _, rfl, rfl, SqL.of hb2, atI_nat (j := 0) rfl, _, rfl, _, _, _, _, rfl, rfl, SqL.of hr2, atI_nat (v := .int row[k]) (by rw [List.getElem?_map, List.getElem?_eq_getElem hk]; rfl), .inl ⟨_, rfl, ?_⟩⟩
    exact ⟨_, rfl, _, _, rfl, rfl, (by show (0 : Int) < (many : Int); omega), fin _⟩
  · refine ⟨_, rfl, _, _, rfl, rfl, .inr ⟨by decide, by decide⟩, _, _, rfl, rfl, .inl ⟨_, rfl, ?_⟩⟩
    exact ⟨_, rfl, _, _, rfl, rfl, (by show (0 : Int) < (many : Int); omega), fin _⟩
theorem sc__law_value : FnScope ["_law_box"] ["_law_box"] (defScope s__law_value) := ⟨rfl, rfl, rfl, by decide +kernel, rfl, by decide +kernel, by decide +kernel⟩
def lawVals : List V := [.non, .bl false, .bl true, .int 0, .int 1, .int 2, .int 3, .int 7, .int 999, .str "", .str "a", .str "b", .str "ab", .str "1", .str (repS "x" 39), .str (repS "y" 40)]
theorem flat_str {z : Str} (h : z.length ≤ 40) : Flat (.str z) := .inr (.inr (.inr ⟨z, rfl, h⟩))
theorem flat_int {i : Int} (h : 0 ≤ i ∧ i < 1000) : Flat (.int i) := .inr (.inr (.inl ⟨i, rfl, h.1, h.2⟩))
theorem lawVals_flat {r : Nat} (h : r < 16) : ∃ v, lawVals[r]? = some v ∧ Flat v := by
  have hl : lawVals.length = 16 := rfl
  refine ⟨lawVals[r]'(by omega), List.getElem?_eq_getElem _, ?_⟩
  have key : ∀ v ∈ lawVals, Flat v := by
    intro v hv
    unfold lawVals at hv
    simp only [List.mem_cons, List.not_mem_nil, or_false] at hv
    rcases hv with e | e | e | e | e | e | e | e | e | e | e | e | e | e | e | e <;> rw [e]
    · exact .inl rfl
    · exact .inr (.inl ⟨_, rfl⟩)
    · exact .inr (.inl ⟨_, rfl⟩)
    all_goals first
      | exact flat_int (by decide)
      | exact flat_str (by decide +kernel)
  exact key _ (List.getElem_mem _)
def sp__law_value (K : Frag) : Sp := SpX (fun x : Addr × Hp × Addr × List Int => [.ref x.1]) fun ⟨b, B, rw, row⟩ H Q E => BoxAt B H b rw row ∧ ∀ H' v, BoxAt B H' b rw row → Flat v → Q v H'
theorem f__law_value (T : Txt w K mg) : Fn CX0 prog w K mg base 2 (He.ga K "_law_value") ["_law_box"] (sp__law_value K) :=
  Txt.fnx T 44 d__law_value rfl rfl sc__law_value (fun _ _ _ _ _ _ us hl => match us, hl with | [_], _ => rfl) (fun _ => rfl)
  fun cdv A outer s H ⟨b, B, rw, row⟩ Q E hr ⟨X, h⟩ => by
  refine ⟨_, (pss_one (ps_ret (pe_ix ix_list (pe_lst (pa_cons pe_non (pa_cons pe_bl (pa_cons pe_bl (pa_cons pe_int (pa_cons pe_int (pa_cons pe_int (pa_cons pe_int (pa_cons pe_int (pa_cons pe_int (pa_cons pe_str (pa_cons pe_str (pa_cons pe_str (pa_cons pe_str (pa_cons pe_str (pa_cons (pe_op op_mulS pe_str pe_int) (pa_cons (pe_op op_mulS pe_str pe_int) pa_nil))))))))))))))))) (pe_fn (f__law_draw T) hr (by decide) T.g__law_draw passS0 (pa_cons (pv 0) (pa_cons pe_int pa_nil))) (fun _ _ => rfl)))), ?_⟩
  refine ⟨_, _, rfl, rfl, by decide, by decide, by decide +kernel, by decide +kernel, by decide +kernel, by decide +kernel, ?_⟩
  refine ⟨_, _, rfl, rfl, by decide, by decide, by decide +kernel, by decide +kernel, by decide +kernel, by decide +kernel, ?_⟩
  refine ⟨by show 16 ≤ sizeLine; rw [sizeLine_eq]; omega, fun l nl => ?_⟩
  have nB := X.sm.free nl
  have h1 := X.hr
  obtain ⟨k, h2⟩ := X.h
  have nb : b ≠ l := ne_of_none h2 nl
  have nr : rw ≠ l := ne_of_none h1 nB
  have X1 : BoxAt (upd B l (.lst lawVals)) (upd H l (.lst lawVals)) b rw row := by
    refine ⟨?_, ⟨k, ?_⟩, fun a o q => ?_, ?_⟩
    · rw [upd_ne nr]
      exact h1
    · rw [upd_ne nb]
      exact h2
    · by_cases z : a = l
      · rw [z, upd_same] at q ⊢
        exact q
      · rw [upd_ne z] at q ⊢
        exact X.sm _ _ q
    · rw [upd_ne nb]
      exact X.fr
  refine ⟨_, rfl, (b, 16, upd B l (.lst lawVals), rw, row), rfl, X1, by decide, fun H' r X2 hr2 => ?_⟩
  obtain ⟨v, hv, fv⟩ := lawVals_flat hr2
  have hl : H' l = some (.lst lawVals) := X2.sm _ _ upd_same
  refine ⟨_, _, _, _, rfl, rfl, SqL.of hl, atI_nat hv, h H' v ⟨h1, X2.h, fun a o q => X2.sm _ _ (by rw [upd_ne (ne_of_none q nB)]; exact q), X.fr⟩ fv⟩
theorem sc__law_is_bool : FnScope ["_law_v"] ["_law_v"] (defScope s__law_is_bool) := ⟨rfl, rfl, rfl, by decide +kernel, rfl, by decide +kernel, by decide +kernel⟩
def isB : V → Bool
  | .bl _ => true
  | _ => false
def sp__law_is_bool (K : Frag) : Sp := SpX (fun v : V => [v]) fun v H Q E => Bas v ∧ Q (.bl (isB v)) H
theorem f__law_is_bool (T : Txt w K mg) : Fn CX0 prog w K mg base 1 (He.ga K "_law_is_bool") ["_law_v"] (sp__law_is_bool K) :=
  Txt.fnx T 45 d__law_is_bool rfl rfl sc__law_is_bool (fun _ _ _ _ _ _ us hl => match us, hl with | [_], _ => rfl) (fun _ => rfl)
  fun cdv A outer s H v Q E hr ⟨hb, h⟩ => by
  refine ⟨_, (pss_one (ps_ret (pe_or (pe_cmpR op_isV (pv 0) pe_bl (nomark _)) (pe_one (pe_cmpR op_isV (pv 0) pe_bl (nomark _)))))), ?_⟩
  rcases hb with rfl | ⟨b, rfl⟩ | ⟨i, rfl⟩ | ⟨z, rfl⟩
  · exact ⟨_, rfl, _, rfl, _, rfl, _, rfl, _, rfl, h⟩
  · cases b with
    | true => exact ⟨_, rfl, _, rfl, _, rfl, h⟩
    | false => exact ⟨_, rfl, _, rfl, _, rfl, _, rfl, _, rfl, h⟩
  · exact ⟨_, rfl, _, rfl, _, rfl, _, rfl, _, rfl, h⟩
  · exact ⟨_, rfl, _, rfl, _, rfl, _, rfl, _, rfl, h⟩
theorem sc__law_equal : FnScope ["_law_a", "_law_b"] ["_law_a", "_law_b"] (defScope s__law_equal) := ⟨rfl, rfl, rfl, by decide +kernel, rfl, by decide +kernel, by decide +kernel⟩
def sp__law_equal (K : Frag) : Sp := SpX (fun v : V => [v, v]) fun v H Q E => Bas v ∧ Q (.bl true) H
theorem f__law_equal (T : Txt w K mg) : Fn CX0 prog w K mg base 2 (He.ga K "_law_equal") ["_law_a", "_law_b"] (sp__law_equal K) :=
  Txt.fnx T 46 d__law_equal rfl rfl sc__law_equal (fun _ _ _ _ _ _ us hl => match us, hl with | [_, _], _ => rfl) (fun _ => rfl)
  fun cdv A outer s H v Q E hr ⟨hb, h⟩ => by
  refine ⟨_, (pss_cons (ps_if (PW.pt (pw_or (pt_cmpR op_isN (pv 0) pe_non (nomark _)) (pw_or1 (pt_cmpR op_isN (pv 1) pe_non (nomark _))))) (pss_one (ps_ret (pe_and (pe_cmpR op_isN (pv 0) pe_non (nomark _)) (pe_one (pe_cmpR op_isN (pv 1) pe_non (nomark _)))))) pss_nil)
    (pss_cons (ps_if (PW.pt (pw_or (pt_val (pe_callB call_isi (by rfl) T.b_isinstance (by decide +kernel) (pa_cons (pv 0) (pa_cons (pg_ty (n := "str") T.b_str (by decide +kernel)) pa_nil)))) (pw_or1 (pt_val (pe_callB call_isi (by rfl) T.b_isinstance (by decide +kernel) (pa_cons (pv 1) (pa_cons (pg_ty (n := "str") T.b_str (by decide +kernel)) pa_nil))))))) (pss_one (ps_ret (pe_and (pe_callB call_isi (by rfl) T.b_isinstance (by decide +kernel) (pa_cons (pv 0) (pa_cons (pg_ty (n := "str") T.b_str (by decide +kernel)) pa_nil))) (pe_and (pe_callB call_isi (by rfl) T.b_isinstance (by decide +kernel) (pa_cons (pv 1) (pa_cons (pg_ty (n := "str") T.b_str (by decide +kernel)) pa_nil))) (pe_one (pe_cmpR op_eq (pv 0) (pv 1) (nomark _))))))) pss_nil)
    (pss_one (ps_ret (pe_and (pe_cmpR op_eq (pe_fn (f__law_is_bool T) hr (by decide) T.g__law_is_bool passS0 (pa_cons (pv 0) pa_nil)) (pe_fn (f__law_is_bool T) hr (by decide) T.g__law_is_bool passS0 (pa_cons (pv 1) pa_nil)) (nomark _)) (pe_one (pe_cmpR op_eq (pv 0) (pv 1) (nomark _)))))))), ?_⟩
  have bas := hb
  rcases hb with rfl | ⟨b, rfl⟩ | ⟨i, rfl⟩ | ⟨z, rfl⟩
  · exact ⟨_, rfl, rfl, _, rfl, _, rfl, rfl, _, rfl, _, rfl, rfl, h⟩
  · refine ⟨_, rfl, rfl, _, rfl, _, rfl, rfl, _, rfl, ?_⟩
    refine ⟨_, rfl, _, _, _, _, false, rfl, .ty _, .base (.bl _), kit_ty (by decide +kernel), _, rfl, _, rfl, _, _, _, _, false, rfl, .ty _, .base (.bl _), kit_ty (by decide +kernel), _, rfl, ?_⟩
    refine ⟨_, rfl, _, rfl, bas, _, rfl, _, rfl, bas, rfl, true, rfl, _, rfl, _, rfl, rfl, ?_⟩
    exact qT (Q := Q) rfl h
  · refine ⟨_, rfl, rfl, _, rfl, _, rfl, rfl, _, rfl, ?_⟩
    refine ⟨_, rfl, _, _, _, _, false, rfl, .ty _, .base (.int _), kit_ty (by decide +kernel), _, rfl, _, rfl, _, _, _, _, false, rfl, .ty _, .base (.int _), kit_ty (by decide +kernel), _, rfl, ?_⟩
    refine ⟨_, rfl, _, rfl, bas, _, rfl, _, rfl, bas, rfl, true, rfl, _, rfl, _, rfl, rfl, ?_⟩
    exact qT (Q := Q) rfl h
  · refine ⟨_, rfl, rfl, _, rfl, _, rfl, rfl, _, rfl, ?_⟩
    refine ⟨_, rfl, _, _, _, _, true, rfl, .ty _, .base (.str _), kit_ty (by decide +kernel), _, rfl, ?_⟩
    refine ⟨_, rfl, _, _, _, _, true, rfl, .ty _, .base (.str _), kit_ty (by decide +kernel), true, rfl, _, rfl, _, _, _, _, true, rfl, .ty _, .base (.str _), kit_ty (by decide +kernel), true, rfl, ?_⟩
    refine ⟨_, rfl, _, rfl, rfl, ?_⟩
    exact qT (Q := Q) rfl h
theorem sc__law_same : FnScope ["_law_told", "_law_due", "_law_k"] ["_law_told", "_law_due"] (defScope s__law_same) := ⟨rfl, rfl, rfl, by decide +kernel, rfl, by decide +kernel, by decide +kernel⟩
def sp__law_same0 (K : Frag) : Sp := sp__law_equal K
theorem f__law_same0 (T : Txt w K mg) : Fn CX0 prog w K mg base 3 (He.ga K "_law_same") ["_law_told", "_law_due"] (sp__law_same0 K) :=
  Txt.fnx T 47 d__law_same rfl rfl sc__law_same (fun _ _ _ _ _ _ us hl => match us, hl with | [_, _], _ => rfl) (fun _ => rfl)
  fun cdv A outer s H v Q E hr ⟨hb, h⟩ => by
  refine ⟨_, (pss_cons (ps_if (PW.pt (pw_or (pt_val (pe_callB call_isi (by rfl) T.b_isinstance (by decide +kernel) (pa_cons (pv 1) (pa_cons (pg_ty (n := "tuple") T.b_tuple (by decide +kernel)) pa_nil)))) (pw_or1 (pt_val (pe_callB call_isi (by rfl) T.b_isinstance (by decide +kernel) (pa_cons (pv 1) (pa_cons (pg_ty (n := "list") T.b_list (by decide +kernel)) pa_nil))))))) (pss_cons (ps_if (PW.pt (pw_or (pt_cmpR op_ne (pe_callB call_isi (by rfl) T.b_isinstance (by decide +kernel) (pa_cons (pv 1) (pa_cons (pg_ty (n := "tuple") T.b_tuple (by decide +kernel)) pa_nil))) (pe_callB call_isi (by rfl) T.b_isinstance (by decide +kernel) (pa_cons (pv 0) (pa_cons (pg_ty (n := "tuple") T.b_tuple (by decide +kernel)) pa_nil))) (nomark _)) (pw_or1 (pt_cmpR op_ne (pe_callB call_isi (by rfl) T.b_isinstance (by decide +kernel) (pa_cons (pv 1) (pa_cons (pg_ty (n := "list") T.b_list (by decide +kernel)) pa_nil))) (pe_callB call_isi (by rfl) T.b_isinstance (by decide +kernel) (pa_cons (pv 0) (pa_cons (pg_ty (n := "list") T.b_list (by decide +kernel)) pa_nil))) (nomark _))))) (pss_one (ps_ret pe_bl)) pss_nil)
      (pss_cons (ps_if (pt_cmpR op_ne (pe_callB call_len_seq (by rfl) T.b_len (by decide +kernel) (pa_cons (pv 0) pa_nil)) (pe_callB call_len_seq (by rfl) T.b_len (by decide +kernel) (pa_cons (pv 1) pa_nil)) (nomark _)) (pss_one (ps_ret pe_bl)) pss_nil)
      (pss_cons (ps_for (passes_of rfl) rfl (pi_range1 (by rfl) T.b_range (pa_cons (pe_callB call_len_seq (by rfl) T.b_len (by decide +kernel) (pa_cons (pv 1) pa_nil)) pa_nil)) (pg_name (i := 2) sc__law_same.nd rfl (.inl rfl)) (pss_one (ps_if (pt_not (pt_val pe_never)) (pss_one (ps_ret pe_bl)) pss_nil)))
      (pss_one (ps_ret pe_bl))))) pss_nil)
    (pss_cons (ps_if (PW.pt (pw_or (pt_val (pe_callB call_isi (by rfl) T.b_isinstance (by decide +kernel) (pa_cons (pv 0) (pa_cons (pg_ty (n := "tuple") T.b_tuple (by decide +kernel)) pa_nil)))) (pw_or1 (pt_val (pe_callB call_isi (by rfl) T.b_isinstance (by decide +kernel) (pa_cons (pv 0) (pa_cons (pg_ty (n := "list") T.b_list (by decide +kernel)) pa_nil))))))) (pss_one (ps_ret pe_bl)) pss_nil)
    (pss_one (ps_ret (pe_fn (f__law_equal T) hr (by decide) T.g__law_equal passS0 (pa_cons (pv 0) (pa_cons (pv 1) pa_nil))))))), ?_⟩
  have bas := hb
  rcases hb with rfl | ⟨b, rfl⟩ | ⟨i, rfl⟩ | ⟨z, rfl⟩
  · exact ⟨_, rfl, _, _, _, _, false, rfl, .ty _, .base .non, kit_ty (by decide +kernel), _, rfl, _, rfl, _, _, _, _, false, rfl, .ty _, .base .non, kit_ty (by decide +kernel), _, rfl, _, rfl, _, _, _, _, false, rfl, .ty _, .base .non, kit_ty (by decide +kernel), _, rfl, _, rfl, _, _, _, _, false, rfl, .ty _, .base .non, kit_ty (by decide +kernel), _, rfl, _, rfl, _, rfl, _, rfl, bas, h⟩
  · exact ⟨_, rfl, _, _, _, _, false, rfl, .ty _, .base (.bl _), kit_ty (by decide +kernel), _, rfl, _, rfl, _, _, _, _, false, rfl, .ty _, .base (.bl _), kit_ty (by decide +kernel), _, rfl, _, rfl, _, _, _, _, false, rfl, .ty _, .base (.bl _), kit_ty (by decide +kernel), _, rfl, _, rfl, _, _, _, _, false, rfl, .ty _, .base (.bl _), kit_ty (by decide +kernel), _, rfl, _, rfl, _, rfl, _, rfl, bas, h⟩
  · exact ⟨_, rfl, _, _, _, _, false, rfl, .ty _, .base (.int _), kit_ty (by decide +kernel), _, rfl, _, rfl, _, _, _, _, false, rfl, .ty _, .base (.int _), kit_ty (by decide +kernel), _, rfl, _, rfl, _, _, _, _, false, rfl, .ty _, .base (.int _), kit_ty (by decide +kernel), _, rfl, _, rfl, _, _, _, _, false, rfl, .ty _, .base (.int _), kit_ty (by decide +kernel), _, rfl, _, rfl, _, rfl, _, rfl, bas, h⟩
  · exact ⟨_, rfl, _, _, _, _, false, rfl, .ty _, .base (.str _), kit_ty (by decide +kernel), _, rfl, _, rfl, _, _, _, _, false, rfl, .ty _, .base (.str _), kit_ty (by decide +kernel), _, rfl, _, rfl, _, _, _, _, false, rfl, .ty _, .base (.str _), kit_ty (by decide +kernel), _, rfl, _, rfl, _, _, _, _, false, rfl, .ty _, .base (.str _), kit_ty (by decide +kernel), _, rfl, _, rfl, _, rfl, _, rfl, bas, h⟩
def sp__law_same1 (K : Frag) : Sp := SpX (fun x : Addr × Addr × Str × V => [.ref x.1, .ref x.2.1]) fun ⟨a, b, z, v⟩ H Q E => H a = some (.tup [.str z, v]) ∧ H b = some (.tup [.str z, v]) ∧ Bas v ∧ Q (.bl true) H
theorem f__law_same1 (T : Txt w K mg) : Fn CX0 prog w K mg base 4 (He.ga K "_law_same") ["_law_told", "_law_due"] (sp__law_same1 K) :=
  Txt.fnx T 47 d__law_same rfl rfl sc__law_same (fun _ _ _ _ _ _ us hl => match us, hl with | [_, _], _ => rfl) (fun _ => rfl)
  fun cdv A outer s H ⟨a, b, z, v⟩ Q E hr ⟨ha, hb, hv, h⟩ => by
  refine ⟨_, (pss_cons (ps_if (PW.pt (pw_or (pt_val (pe_callB call_isi (by rfl) T.b_isinstance (by decide +kernel) (pa_cons (pv 1) (pa_cons (pg_ty (n := "tuple") T.b_tuple (by decide +kernel)) pa_nil)))) (pw_or1 (pt_val (pe_callB call_isi (by rfl) T.b_isinstance (by decide +kernel) (pa_cons (pv 1) (pa_cons (pg_ty (n := "list") T.b_list (by decide +kernel)) pa_nil))))))) (pss_cons (ps_if (PW.pt (pw_or (pt_cmpR op_ne (pe_callB call_isi (by rfl) T.b_isinstance (by decide +kernel) (pa_cons (pv 1) (pa_cons (pg_ty (n := "tuple") T.b_tuple (by decide +kernel)) pa_nil))) (pe_callB call_isi (by rfl) T.b_isinstance (by decide +kernel) (pa_cons (pv 0) (pa_cons (pg_ty (n := "tuple") T.b_tuple (by decide +kernel)) pa_nil))) (nomark _)) (pw_or1 (pt_cmpR op_ne (pe_callB call_isi (by rfl) T.b_isinstance (by decide +kernel) (pa_cons (pv 1) (pa_cons (pg_ty (n := "list") T.b_list (by decide +kernel)) pa_nil))) (pe_callB call_isi (by rfl) T.b_isinstance (by decide +kernel) (pa_cons (pv 0) (pa_cons (pg_ty (n := "list") T.b_list (by decide +kernel)) pa_nil))) (nomark _))))) (pss_one (ps_ret pe_bl)) pss_nil)
      (pss_cons (ps_if (pt_cmpR op_ne (pe_callB call_len_seq (by rfl) T.b_len (by decide +kernel) (pa_cons (pv 0) pa_nil)) (pe_callB call_len_seq (by rfl) T.b_len (by decide +kernel) (pa_cons (pv 1) pa_nil)) (nomark _)) (pss_one (ps_ret pe_bl)) pss_nil)
      (pss_cons (ps_for (passes_of rfl) rfl (pi_range1 (by rfl) T.b_range (pa_cons (pe_callB call_len_seq (by rfl) T.b_len (by decide +kernel) (pa_cons (pv 1) pa_nil)) pa_nil)) (pg_name (i := 2) sc__law_same.nd rfl (.inl rfl)) (pss_one (ps_if (pt_not (pt_val (pe_fn (f__law_same0 T) hr (by decide) T.g__law_same passS0 (pa_cons (pe_ix ix_tup (pv 0) (pv 2) (fun _ _ => rfl)) (pa_cons (pe_ix ix_tup (pv 1) (pv 2) (fun _ _ => rfl)) pa_nil))))) (pss_one (ps_ret pe_bl)) pss_nil)))
      (pss_one (ps_ret pe_bl))))) pss_nil)
    (pss_cons (ps_if (PW.pt (pw_or (pt_val (pe_callB call_isi (by rfl) T.b_isinstance (by decide +kernel) (pa_cons (pv 0) (pa_cons (pg_ty (n := "tuple") T.b_tuple (by decide +kernel)) pa_nil)))) (pw_or1 (pt_val (pe_callB call_isi (by rfl) T.b_isinstance (by decide +kernel) (pa_cons (pv 0) (pa_cons (pg_ty (n := "list") T.b_list (by decide +kernel)) pa_nil))))))) (pss_one (ps_ret pe_bl)) pss_nil)
    (pss_one (ps_ret (pe_fn (f__law_equal T) hr (by decide) T.g__law_equal passS0 (pa_cons (pv 0) (pa_cons (pv 1) pa_nil))))))), ?_⟩
  refine ⟨_, rfl, _, _, _, _, true, rfl, .ty _, .base (.tup hb), kit_ty (by decide +kernel), _, rfl, ?_⟩
  refine ⟨_, rfl, _, _, _, _, true, rfl, .ty _, .base (.tup hb), kit_ty (by decide +kernel), _, rfl, _, _, _, _, true, rfl, .ty _, .base (.tup ha), kit_ty (by decide +kernel), rfl, _, rfl, ?_⟩
  refine ⟨_, rfl, _, _, _, _, false, rfl, .ty _, .base (.tup hb), kit_ty (by decide +kernel), _, rfl, _, _, _, _, false, rfl, .ty _, .base (.tup ha), kit_ty (by decide +kernel), rfl, _, rfl, ?_⟩
  refine ⟨_, rfl, _, _, rfl, .inr (SqT.of ha), _, rfl, _, _, rfl, .inr (SqT.of hb), rfl, _, rfl, ?_⟩
  refine ⟨_, rfl, _, _, rfl, .inr (SqT.of hb), _, rfl, (by show (-2 ^ 62 : Int) ≤ ((2 : Nat) : Int); decide), (by show ((2 : Nat) : Int) < 2 ^ 62; decide), ?_⟩
  refine for_range (lo := 0) (n := 2) (fun i σ H' => H' = H ∧ ∃ u, σ = [some (.ref a), some (.ref b), u]) ⟨rfl, _, rfl⟩ (fun i σ H' hi q => ?_) (fun σ H' q => ?_)
  · obtain ⟨rfl, u, rfl⟩ := q
    have e0 : (0 : Int) + (i : Int) = i := Int.zero_add _
    rw [e0]
    have hi2 : i = 0 ∨ i = 1 := by omega
    rcases hi2 with rfl | rfl
    · exact ⟨_, rfl, _, rfl, _, _, _, _, rfl, rfl, SqT.of ha, atI_nat (j := 0) rfl, _, rfl, _, rfl, _, _, _, _, rfl, rfl, SqT.of hb, atI_nat (j := 0) rfl, _, rfl, .inr (.inr (.inr ⟨_, rfl⟩)), _, rfl, rfl, _, rfl⟩
    · exact ⟨_, rfl, _, rfl, _, _, _, _, rfl, rfl, SqT.of ha, atI_nat (j := 1) rfl, _, rfl, _, rfl, _, _, _, _, rfl, rfl, SqT.of hb, atI_nat (j := 1) rfl, _, rfl, hv, _, rfl, rfl, _, rfl⟩
  · obtain ⟨rfl, u, rfl⟩ := q
    exact h

end
end K47
namespace K47
open PySem PySem.Spec PyProof.Rows L2
open PySem.W (Frag)
section
variable {w : World} {K : Frag} {mg : Str → Option Value} {base : Heap}
/-! the law's rows -/
def RowOk (H : Hp) (r : Addr × Addr) (d : Nd) : Prop := H r.1 = some (.lst [ownV d.own, .ref r.2, .bl d.act]) ∧ ∃ kvs, H r.2 = some (.dK kvs) ∧ kvs.length ≤ d.prov.length ∧ ∀ c : Nat, valV kvs (.inl (c : Int)) = d.prov.lookup c
def waAll (w : Addr) (rows : List (Addr × Addr)) : List Addr := w :: (rows.map (·.1) ++ rows.map (·.2))
structure WA (B H : Hp) (w : Addr) (rows : List (Addr × Addr)) (nds : List Nd) : Prop where
  wl : H w = some (.lst (rows.map fun r => .ref r.1))
  r : Paired (RowOk H) rows nds
  nd : (waAll w rows).Nodup
  sm : Same B H
  fr : ∀ a ∈ waAll w rows, B a = none
theorem RowOk.mono {H H' : Hp} {r : Addr × Addr} {d : Nd} (h : RowOk H r d) (s : Same H H') : RowOk H' r d := by
  obtain ⟨h1, kvs, h2, h3⟩ := h
  exact ⟨s _ _ h1, kvs, s _ _ h2, h3⟩
theorem WA.mono {B H H' : Hp} {w : Addr} {rows : List (Addr × Addr)} {nds : List Nd} (h : WA B H w rows nds) (s : Same H H') : WA B H' w rows nds := ⟨s _ _ h.wl, fall_imp h.r fun _ _ _ q => q.mono s, h.nd, h.sm.trans s, h.fr⟩
theorem WA.len {B H : Hp} {w : Addr} {rows : List (Addr × Addr)} {nds : List Nd} (h : WA B H w rows nds) : rows.length = nds.length := fall_len h.r
theorem WA.at {B H : Hp} {w : Addr} {rows : List (Addr × Addr)} {nds : List Nd} (h : WA B H w rows nds) {i : Nat} {d : Nd} (hd : nds[i]? = some d) : ∃ r, rows[i]? = some r ∧ RowOk H r d := by
  obtain ⟨r, hr⟩ := fall_ex h.r (List.getElem?_eq_some_iff.mp hd).1
  exact ⟨r, hr, fall_get h.r hr hd⟩
theorem WA.ix {B H : Hp} {w : Addr} {rows : List (Addr × Addr)} {nds : List Nd} {i : Nat} {r : Addr × Addr} (hr : rows[i]? = some r) : atI (rows.map fun r => V.ref r.1) (i : Int) = some (.ref r.1) := atI_nat (by rw [List.getElem?_map, hr]; rfl)
/-- the two answers of a try -/
def okT (v : V) : HO := .tup [.str "ok", v]
def erT (m : Str) : HO := .tup [.str "error", .str m]
theorem sc__law_due_use : FnScope ["_law_w", "_law_defaults", "_law_n", "_law_c", "_law_turn"] ["_law_w", "_law_defaults", "_law_n", "_law_c"] (defScope s__law_due_use) := ⟨rfl, rfl, rfl, by decide +kernel, rfl, by decide +kernel, by decide +kernel⟩
def sp__law_due_use (K : Frag) : Sp := SpX (fun x : (Addr × List (Addr × Addr) × List Nd × Hp) × Addr × List V × Nat × Nd × Nat × V => [.ref x.1.1, .ref x.2.1, .int x.2.2.2.1, .int x.2.2.2.2.2.1]) fun ⟨⟨w, rows, nds, B⟩, ld, dfs, n, d, c, v⟩ H Q E =>
  WA B H w rows nds ∧ H ld = some (.lst dfs) ∧ WfN nds ∧ nds.length ≤ 1000 ∧ nds[n]? = some d ∧ CtxV nds dfs c (some n) v ∧ ∀ H' t, Same H H' → H' t = some (if d.act = true then okT v else erT "disposed") → Q (.ref t) H'
theorem f__law_due_use (T : Txt w K mg) : Fn CX0 prog w K mg base 1 (He.ga K "_law_due_use") ["_law_w", "_law_defaults", "_law_n", "_law_c"] (sp__law_due_use K) :=
  Txt.fnx T 49 d__law_due_use rfl rfl sc__law_due_use (fun _ _ _ _ _ _ us hl => match us, hl with | [_, _, _, _], _ => rfl) (fun _ => rfl)
  fun cdv A outer s H ⟨⟨w, rows, nds, B⟩, ld, dfs, n, d, c, v⟩ Q E hr ⟨W, hld, wf, hlen, hd, hc, h⟩ => by
  refine ⟨_, (pss_cons (ps_if (pt_not (pt_val (pe_ix ix_list (pe_ix ix_list (pv 0) (pv 2) (fun _ _ => rfl)) pe_int (fun _ _ => rfl)))) (pss_one (ps_ret (pe_tup (pa_cons pe_str (pa_cons pe_str pa_nil))))) pss_nil)
    (pss_cons (ps_for (passes_of rfl) rfl (pi_range1 (by rfl) T.b_range (pa_cons (pe_op op_add (pe_callB call_len_seq (by rfl) T.b_len (by decide +kernel) (pa_cons (pv 0) pa_nil)) pe_int) pa_nil)) (pg_name (i := 4) sc__law_due_use.nd rfl (.inl rfl)) (pss_one (ps_if (pt_cmpR op_notN (pv 2) pe_non (nomark _)) (pss_cons (ps_if (pt_cmp (pc_din (hu_of hr) (pv 3) (pe_ix ix_list (pe_ix ix_list (pv 0) (pv 2) (fun _ _ => rfl)) pe_int (fun _ _ => rfl)))) (pss_one (ps_ret (pe_tup (pa_cons pe_str (pa_cons (pe_dget (hu_of hr) (pe_ix ix_list (pe_ix ix_list (pv 0) (pv 2) (fun _ _ => rfl)) pe_int (fun _ _ => rfl)) (pv 3) (fun _ _ => rfl)) pa_nil))))) pss_nil)
        (pss_one (ps_set (i := 2) sc__law_due_use.nd rfl (.inl rfl) (pe_ix ix_list (pe_ix ix_list (pv 0) (pv 2) (fun _ _ => rfl)) pe_int (fun _ _ => rfl))))) pss_nil)))
    (pss_one (ps_ret (pe_tup (pa_cons pe_str (pa_cons (pe_ix ix_list (pv 1) (pv 3) (fun _ _ => rfl)) pa_nil))))))), ?_⟩
  obtain ⟨r, hr1, hrow⟩ := W.at hd
  refine ⟨_, rfl, _, rfl, _, _, _, _, rfl, rfl, SqL.of W.wl, WA.ix (B := B) (H := H) (w := w) (nds := nds) hr1, _, _, _, _, rfl, rfl, SqL.of hrow.1, atI_nat (j := 2) rfl, _, rfl, ?_⟩
  cases hact : d.act with
  | false =>
    refine ⟨by show 2 ≤ sizeLine; rw [sizeLine_eq]; omega, fun t nt => h _ t (same_upd nt) ?_⟩
    rw [upd_same, hact]
    rfl
  | true =>
    rw [hact] at h
    have hn := (List.getElem?_eq_some_iff.mp hd).1
    refine ⟨_, rfl, _, _, rfl, .inl (SqL.of W.wl), _, _, rfl, rfl, _, rfl, ?_, ?_, ?_⟩
    · show (-(2 ^ 62) : Int) ≤ (((rows.map fun r => V.ref r.1).length : Nat) : Int) + 1
      omega
    · show (((rows.map fun r => V.ref r.1).length : Nat) : Int) + 1 < 2 ^ 62
      rw [List.length_map, W.len]
      omega
    have hN : ((((rows.map fun r => V.ref r.1).length : Nat) : Int) + 1).toNat = nds.length + 1 := by
      rw [List.length_map, W.len]
      omega
    refine for_range (lo := 0) (n := ((((rows.map fun r => V.ref r.1).length : Nat) : Int) + 1).toNat) (fun i σ H' => H' = H ∧ ∃ (o : Option Nat) (u : Option V), σ = [some (.ref w), some (.ref ld), some (ownV o), some (.int c), u] ∧ CtxV nds dfs c o v ∧ ∀ m, o = some m → m < nds.length ∧ m + i ≤ n) ⟨rfl, some n, _, rfl, hc, fun m e => by cases e; exact ⟨hn, Nat.le_refl _⟩⟩ (fun i σ H' hi q => ?_) (fun σ H' q => ?_)
    · obtain ⟨rfl, o, u, rfl, hcx, hm⟩ := q
      cases o with
      | none => exact ⟨_, rfl, rfl, _, rfl, rfl, none, _, rfl, hcx, fun m e => by cases e⟩
      | some m =>
        obtain ⟨hml, hmi⟩ := hm m rfl
        have hdm : nds[m]? = some nds[m] := List.getElem?_eq_getElem hml
        obtain ⟨rm, hrm, hrow1, kvs, hk1, hk2, hk3⟩ := W.at hdm
        have ixm := WA.ix (B := B) (H := H') (w := w) (nds := nds) hrm
        have g := DGet.k (k := .inl (c : Int)) hk1
        rw [hk3 c] at g
        refine ⟨_, rfl, rfl, _, rfl, ?_⟩
        refine ⟨_, rfl, _, rfl, _, rfl, _, _, _, _, rfl, rfl, SqL.of W.wl, ixm, _, _, _, _, rfl, rfl, SqL.of hrow1, atI_nat (j := 1) rfl, _, _, rfl, g, _, rfl, ?_⟩
        cases hl : nds[m].prov.lookup c with
        | some v' =>
          rw [hl] at g
          have ev : v' = v := by
            cases hcx with
            | hit h1 h2 =>
              rw [hdm] at h1
              cases h1
              rw [hl] at h2
              exact Option.some.inj h2
            | up h1 h2 _ =>
              rw [hdm] at h1
              cases h1
              rw [hl] at h2
              cases h2
          subst ev
          refine ⟨_, rfl, _, rfl, _, _, _, _, rfl, rfl, SqL.of W.wl, ixm, _, _, _, _, rfl, rfl, SqL.of hrow1, atI_nat (j := 1) rfl, _, rfl, _, _, rfl, g, by show 2 ≤ sizeLine; rw [sizeLine_eq]; omega, fun t nt => ?_⟩
          exact h _ t (same_upd nt) upd_same
        | none =>
          refine ⟨_, rfl, _, rfl, _, _, _, _, rfl, rfl, SqL.of W.wl, ixm, _, _, _, _, rfl, rfl, SqL.of hrow1, atI_nat (j := 0) rfl, ?_⟩
          refine ⟨rfl, nds[m].own, _, rfl, ?_, fun k hk => ?_⟩
          · cases hcx with
            | hit h1 h2 =>
              rw [hdm] at h1
              cases h1
              rw [hl] at h2
              cases h2
            | up h1 h2 r =>
              rw [hdm] at h1
              cases h1
              exact r
          · have := wf m _ hdm k hk
            omega
    · obtain ⟨rfl, o, u, rfl, hcx, hm⟩ := q
      cases o with
      | some m =>
        have := hm m rfl
        rw [hN] at this
        omega
      | none =>
        cases hcx with
        | base hb =>
          refine ⟨_, rfl, _, rfl, _, _, _, _, rfl, rfl, SqL.of hld, atI_nat hb, by show 2 ≤ sizeLine; rw [sizeLine_eq]; omega, fun t nt => ?_⟩
          exact h _ t (same_upd nt) upd_same

end
end K47
namespace K47
open PySem PySem.Spec PyProof.Rows L2
open PySem.W (Frag)
section
variable {w : World} {K : Frag} {mg : Str → Option Value} {base : Heap}
theorem pair_upd {α β : Type} {R S : α → β → Prop} {a : α} {b' : β} : ∀ {xs : List α} {ys : List β} {i : Nat}, Paired R xs ys → xs[i]? = some a → (∀ j x y, j ≠ i → xs[j]? = some x → R x y → S x y) → S a b' → Paired S xs (ys.set i b')
  | _, _, _, .nil, h, _, _ => by cases h
  | x :: xs, y :: ys, 0, .cons r f, h, k, q => by
    cases h
    refine .cons q (fall_imp f fun x' y' m r' => ?_)
    obtain ⟨j, hj⟩ := List.getElem?_of_mem m
    exact k (j + 1) x' y' (Nat.succ_ne_zero j) (by simpa using hj) r'
  | x :: xs, y :: ys, i + 1, .cons r f, h, k, q => by
    have h' : xs[i]? = some a := by simpa using h
    exact .cons (k 0 x y (Ne.symm (Nat.succ_ne_zero i)) rfl r) (pair_upd f h' (fun j x' y' nj hx r' => k (j + 1) x' y' (fun z => nj (Nat.succ.inj z)) (by simpa using hx) r') q)
theorem nd_ne {α : Type} {l : List α} {i j : Nat} {a b : α} (nd : l.Nodup) (n : j ≠ i) (hi : l[i]? = some a) (hj : l[j]? = some b) : b ≠ a := fun e => by
  have hl := (List.getElem?_eq_some_iff.mp hj).1
  exact n ((List.getElem?_inj hl nd).mp (by rw [hj, hi, e]))
section
variable {B H : Hp} {w : Addr} {rows : List (Addr × Addr)} {nds : List Nd}
theorem WA.nd3 (h : WA B H w rows nds) : w ∉ rows.map (·.1) ∧ w ∉ rows.map (·.2) ∧ (rows.map (·.1)).Nodup ∧ (rows.map (·.2)).Nodup ∧ ∀ a ∈ rows.map (·.1), a ∉ rows.map (·.2) := by
  have q := h.nd
  unfold waAll at q
  rw [List.nodup_cons, List.nodup_append] at q
  exact ⟨fun m => q.1 (List.mem_append_left _ m), fun m => q.1 (List.mem_append_right _ m), q.2.1, q.2.2.1, fun a m m' => q.2.2.2 a m a m' rfl⟩
theorem WA.mem1 (h : WA B H w rows nds) {i : Nat} {r : Addr × Addr} (hr : rows[i]? = some r) : r.1 ∈ rows.map (·.1) ∧ r.2 ∈ rows.map (·.2) :=
  ⟨List.mem_map_of_mem (List.mem_of_getElem? hr), List.mem_map_of_mem (List.mem_of_getElem? hr)⟩
/-- a row's flag is cleared -/
theorem WA.off (h : WA B H w rows nds) {i : Nat} {r : Addr × Addr} {d : Nd} (hr : rows[i]? = some r) (hd : nds[i]? = some d) : WA B (upd H r.1 (.lst [ownV d.own, .ref r.2, .bl false])) w rows (nds.set i (offd d)) := by
  obtain ⟨n1, n2, n3, n4, n5⟩ := h.nd3
  obtain ⟨m1, m2⟩ := h.mem1 hr
  obtain ⟨q1, kvs, q2, q3⟩ := fall_get h.r hr hd
  refine ⟨?_, pair_upd h.r hr (fun j x y nj hx r' => ?_) ⟨upd_same, kvs, ?_, q3⟩, h.nd, same_put h.sm (h.fr _ (by simp [waAll]; exact .inr (.inl ⟨r.2, List.mem_of_getElem? hr⟩))), h.fr⟩
  · rw [upd_ne fun z => n1 (by rw [z]; exact m1)]
    exact h.wl
  · obtain ⟨p1, kv, p2, p3⟩ := r'
    have e1 : x.1 ≠ r.1 := nd_ne n3 nj (by rw [List.getElem?_map, hr]; rfl) (by rw [List.getElem?_map, hx]; rfl)
    have e2 : x.2 ≠ r.1 := fun z => n5 r.1 m1 (by rw [← z]; exact (h.mem1 hx).2)
    exact ⟨by rw [upd_ne e1]; exact p1, kv, by rw [upd_ne e2]; exact p2, p3⟩
  · rw [upd_ne fun z => n5 r.1 m1 (by rw [← z]; exact m2)]
    exact q2
/-- a row's dict -/
theorem WA.put (h : WA B H w rows nds) {i : Nat} {r : Addr × Addr} {d d' : Nd} {kvs' : List (Key × V)} (hr : rows[i]? = some r) (hd : nds[i]? = some d) (e1 : d'.own = d.own) (e2 : d'.act = d.act) (hl : kvs'.length ≤ d'.prov.length) (hv : ∀ c : Nat, valV kvs' (.inl (c : Int)) = d'.prov.lookup c) :
    WA B (upd H r.2 (.dK kvs')) w rows (nds.set i d') := by
  obtain ⟨n1, n2, n3, n4, n5⟩ := h.nd3
  obtain ⟨m1, m2⟩ := h.mem1 hr
  obtain ⟨q1, kvs, q2, q3⟩ := fall_get h.r hr hd
  refine ⟨?_, pair_upd h.r hr (fun j x y nj hx r' => ?_) ⟨?_, kvs', upd_same, hl, hv⟩, h.nd, same_put h.sm (h.fr _ (by simp [waAll]; exact .inr (.inr ⟨r.1, List.mem_of_getElem? hr⟩))), h.fr⟩
  · rw [upd_ne fun z => n2 (by rw [z]; exact m2)]
    exact h.wl
  · obtain ⟨p1, kv, p2, p3⟩ := r'
    have e1 : x.2 ≠ r.2 := nd_ne n4 nj (by rw [List.getElem?_map, hr]; rfl) (by rw [List.getElem?_map, hx]; rfl)
    have e2 : x.1 ≠ r.2 := fun z => n5 x.1 (h.mem1 hx).1 (by rw [z]; exact m2)
    exact ⟨by rw [upd_ne e2]; exact p1, kv, by rw [upd_ne e1]; exact p2, p3⟩
  · rw [upd_ne fun z => n5 r.1 m1 (by rw [z]; exact m2), e1, e2]
    exact q1
end
theorem putK_len (kvs : List (Key × V)) (k : Key) (v : V) : (putK kvs k v).length ≤ kvs.length + 1 := by
  unfold putK
  split
  · rw [List.length_map]
    omega
  · rw [List.length_append]
    exact Nat.le_refl _
theorem lookup_cons_eq (c c' : Nat) (v : V) (l : List (Nat × V)) : List.lookup c' ((c, v) :: l) = if c' = c then some v else List.lookup c' l := by
  by_cases h : c' = c
  · subst h
    simp [List.lookup]
  · rw [lookup_cons_ne (Ne.symm h), if_neg h]
theorem ix_listK {X : Cx} {K : Frag} (h : X.K = K) : IxR X (rIxL K) := h ▸ ix_list
theorem sc__law_due_provide : FnScope ["_law_w", "_law_n", "_law_c", "_law_value_here", "_law_row_here"] ["_law_w", "_law_n", "_law_c", "_law_value_here"] (defScope s__law_due_provide) := ⟨rfl, rfl, rfl, by decide +kernel, rfl, by decide +kernel, by decide +kernel⟩
def sp__law_due_provide (K : Frag) : Sp := SpX (fun x : (Addr × List (Addr × Addr) × List Nd × Hp) × Nat × Nd × Nat × V => [.ref x.1.1, .int x.2.1, .int x.2.2.2.1, x.2.2.2.2]) fun ⟨⟨w, rows, nds, B⟩, n, d, c, v⟩ H Q E =>
  WA B H w rows nds ∧ nds.length ≤ 1000 ∧ nds[n]? = some d ∧ d.prov.length < 100 ∧
  (d.act = false → ∀ H' t, WA B H' w rows nds → H' t = some (erT "disposed") → Q (.ref t) H') ∧
  (d.act = true → kid nds n = true → ∀ H' t, WA B H' w rows nds → H' t = some (erT "too late") → Q (.ref t) H') ∧
  (d.act = true → kid nds n = false → ∀ H' t, WA B H' w rows (nds.set n { d with prov := (c, v) :: d.prov }) → H' t = some (okT .non) → Q (.ref t) H')
theorem f__law_due_provide (T : Txt w K mg) : Fn CX0 prog w K mg base 1 (He.ga K "_law_due_provide") ["_law_w", "_law_n", "_law_c", "_law_value_here"] (sp__law_due_provide K) :=
  Txt.fnx T 50 d__law_due_provide rfl rfl sc__law_due_provide (fun _ _ _ _ _ _ us hl => match us, hl with | [_, _, _, _], _ => rfl) (fun _ => rfl)
  fun cdv A outer s H ⟨⟨w, rows, nds, B⟩, n, d, c, v⟩ Q E hr ⟨W, hlen, hd, hp, h1, h2, h3⟩ => by
  refine ⟨_, (pss_cons (ps_if (pt_not (pt_val (pe_ix ix_list (pe_ix ix_list (pv 0) (pv 1) (fun _ _ => rfl)) pe_int (fun _ _ => rfl)))) (pss_one (ps_ret (pe_tup (pa_cons pe_str (pa_cons pe_str pa_nil))))) pss_nil)
    (pss_cons (ps_if (pt_cmpR op_gt (pe_callB call_len_seq (by rfl) T.b_len (by decide +kernel) (pa_cons (pe_lc (own := [("_law_row_here", 4)]) (g := gName 4) rfl sc__law_due_provide.nd (pi_list (pv 0)) (blkOk_by (own := [("_law_row_here", 4)]) (N := ["_law_w", "_law_n", "_law_c", "_law_value_here", "_law_row_here"]) (sc := defScope s__law_due_provide) (by decide +kernel)) (fun _ _ _ _ _ => (pg_name (i := 4) sc__law_due_provide.nd rfl (.inl rfl))) (fun _ _ _ _ _ => (pts_one (pt_cmpR op_eq (pe_ix (ix_listK (K := K) rfl) (pv 4) pe_int (fun _ _ => rfl)) (pv 1) (nomark _)))) (fun _ _ _ _ _ => (pv 4))) pa_nil)) pe_int (nomark _)) (pss_one (ps_ret (pe_tup (pa_cons pe_str (pa_cons pe_str pa_nil))))) pss_nil)
    (pss_cons (ps_dput (hu_of hr) (pe_ix ix_list (pe_ix ix_list (pv 0) (pv 1) (fun _ _ => rfl)) pe_int (fun _ _ => rfl)) (pv 2) (pv 3) rfl)
    (pss_one (ps_ret (pe_tup (pa_cons pe_str (pa_cons pe_non pa_nil)))))))), ?_⟩
  obtain ⟨r, hr1, hrow⟩ := W.at hd
  have ixn := WA.ix (B := B) (H := H) (w := w) (nds := nds) hr1
  refine ⟨_, rfl, _, rfl, _, _, _, _, rfl, rfl, SqL.of W.wl, ixn, _, _, _, _, rfl, rfl, SqL.of hrow.1, atI_nat (j := 2) rfl, _, rfl, ?_⟩
  cases hact : d.act with
  | false => exact ⟨by show 2 ≤ sizeLine; rw [sizeLine_eq]; omega, fun t nt => h1 hact _ t (W.mono (same_upd nt)) upd_same⟩
  | true =>
    refine ⟨_, rfl, _, rfl, ⟨_, SqL.of W.wl⟩, fun D nD => ?_⟩
    refine lc_list (K := K) (a := w) (xs := rows.map fun r => .ref r.1) (fun i H' => Same H H' ∧ ∃ acc : List V, H' D = some (.lst acc) ∧ acc.length ≤ i ∧ (acc.isEmpty = !(nds.take i).any fun d => decide (ownV d.own = .int (n : Nat))))
      ⟨same_upd nD, [], upd_same, Nat.le_refl _, rfl⟩ (fun i H' _ q => SqL.of (q.1 _ _ W.wl)) (fun i y H' hy q => ?_) (fun H' q => ?_)
    · obtain ⟨sm, acc, hD, hl, he⟩ := q
      rw [List.getElem?_map] at hy
      obtain ⟨r2, hr2, rfl⟩ := Option.map_eq_some_iff.mp hy
      have hi : i < nds.length := by
        rw [← W.len]
        exact (List.getElem?_eq_some_iff.mp hr2).1
      have hdi : nds[i]? = some nds[i] := List.getElem?_eq_getElem hi
      have row2 := (fall_get W.r hr2 hdi).mono sm
      refine ⟨rfl, ?_⟩
      refine ⟨_, rfl, _, _, _, _, rfl, rfl, SqL.of row2.1, atI_nat (j := 0) rfl, _, rfl, ?_, _, rfl, ?_⟩
      · cases nds[i].own <;> rfl
      refine ite2 (fun hq => ?_) fun hq => ?_
      · refine ⟨_, rfl, acc, hD, by rw [sizeLine_eq]; omega, same_put sm nD, _, upd_same, ?_, ?_⟩
        · rw [List.length_append]
          exact Nat.succ_le_succ hl
        · rw [take_snoc hdi, List.any_append]
          have hq2 : decide (ownV nds[i].own = .int (n : Nat)) = true := hq
          simp [hq2]
      · refine ⟨sm, acc, hD, Nat.le_succ_of_le hl, ?_⟩
        rw [take_snoc hdi, List.any_append, he]
        have hq2 : decide (ownV nds[i].own = .int (n : Nat)) = false := eq_false_of_ne_true hq
        simp [hq2]
    · obtain ⟨sm, acc, hD, hl, he⟩ := q
      have he2 : acc.isEmpty = !kid nds n := by
        rw [he, List.length_map, W.len, List.take_length]
        rfl
      have Wm := W.mono sm
      refine ⟨_, _, rfl, .inl (SqL.of hD), _, _, rfl, rfl, _, rfl, ?_⟩
      cases hk : kid nds n with
      | true =>
        rw [hk] at he2
        have : (0 : Int) < ((acc.length : Nat) : Int) := by
          cases acc with
          | nil => cases he2
          | cons a l => simp
        refine ite2 (fun _ => ?_) fun hq => absurd (decide_eq_true this) hq
        exact ⟨by show 2 ≤ sizeLine; rw [sizeLine_eq]; omega, fun t nt => h2 hact hk _ t (Wm.mono (same_upd nt)) upd_same⟩
      | false =>
        rw [hk] at he2
        have : acc = [] := List.isEmpty_iff.mp he2
        subst this
        refine ite2 (fun hq => absurd hq (by decide)) fun _ => ?_
        have row := hrow.mono sm
        obtain ⟨q1, kvs, q2, q3, q4⟩ := row
        refine ⟨_, rfl, _, rfl, _, rfl, _, _, _, _, rfl, rfl, SqL.of Wm.wl, ixn, _, _, _, _, rfl, rfl, SqL.of q1, atI_nat (j := 1) rfl, _, rfl, _, _, rfl, DPut.k (k := .inl (c : Int)) q2 (by rw [sizeLine_eq]; omega), ?_⟩
        have W2 := Wm.put (d' := { d with prov := (c, v) :: d.prov }) (kvs' := putK kvs (.inl (c : Int)) v) hr1 hd rfl rfl (by have := putK_len kvs (.inl (c : Int)) v; show _ ≤ d.prov.length + 1; omega) fun c' => by
          rw [L2.valV_put, lookup_cons_eq, q4 c']
          by_cases e : c' = c
          · rw [if_pos e, if_pos (by rw [e])]
          · rw [if_neg e, if_neg (fun z => e (by have := Sum.inl.inj z; omega))]
        exact ⟨by show 2 ≤ sizeLine; rw [sizeLine_eq]; omega, fun t nt => h3 hact hk _ t (W2.mono (same_upd nt)) upd_same⟩
/-- what goes with a, by owners alone -/
def gfn (nds : List Nd) (n : Nat) : Nat → List Nat
  | 0 => [n]
  | i + 1 => match nds[i]? with
    | some d => if inO d.own (gfn nds n i) = true then gfn nds n i ++ [i] else gfn nds n i
    | none => gfn nds n i
theorem gfn_lt {nds : List Nd} {n : Nat} : ∀ {i j : Nat}, j ∈ gfn nds n i → j = n ∨ j < i
  | 0, j, h => by
    unfold gfn at h
    simp at h
    exact .inl h
  | i + 1, j, h => by
    unfold gfn at h
    split at h
    · split at h
      · rcases List.mem_append.mp h with h | h
        · rcases gfn_lt h with e | e
          · exact .inl e
          · exact .inr (by omega)
        · simp at h
          exact .inr (by omega)
      · rcases gfn_lt h with e | e
        · exact .inl e
        · exact .inr (by omega)
    · rcases gfn_lt h with e | e
      · exact .inl e
      · exact .inr (by omega)
theorem gfn_len (nds : List Nd) (n : Nat) : ∀ i, (gfn nds n i).length ≤ i + 1
  | 0 => Nat.le_refl _
  | i + 1 => by
    have := gfn_len nds n i
    unfold gfn
    split
    · split
      · rw [List.length_append]
        exact Nat.succ_le_succ this
      · omega
    · omega
theorem sc__law_gone : FnScope ["_law_w", "_law_a", "_law_gone_here", "_law_n"] ["_law_w", "_law_a"] (defScope s__law_gone) := ⟨rfl, rfl, rfl, by decide +kernel, rfl, by decide +kernel, by decide +kernel⟩
def sp__law_gone (K : Frag) : Sp := SpX (fun x : (Addr × List (Addr × Addr) × List Nd × Hp) × Nat => [.ref x.1.1, .int x.2]) fun ⟨⟨w, rows, nds, B⟩, n⟩ H Q E =>
  WA B H w rows nds ∧ nds.length ≤ 1000 ∧ n < nds.length ∧ ∀ H', WA B H' w rows (offb nds fun i => decide (i ∈ gfn nds n nds.length)) → Q .non H'
theorem f__law_gone (T : Txt w K mg) : Fn CX0 prog w K mg base 1 (He.ga K "_law_gone") ["_law_w", "_law_a"] (sp__law_gone K) :=
  Txt.fnx T 51 d__law_gone rfl rfl sc__law_gone (fun _ _ _ _ _ _ us hl => match us, hl with | [_, _], _ => rfl) (fun _ => rfl)
  fun cdv A outer s H ⟨⟨w, rows, nds, B⟩, n⟩ Q E hr ⟨W, hlen, hn, h⟩ => by
  refine ⟨_, (pss_cons (ps_set (i := 2) sc__law_gone.nd rfl (.inl rfl) (pe_lst (pa_cons (pv 1) pa_nil)))
    (pss_cons (ps_for (passes_of rfl) rfl (pi_range1 (by rfl) T.b_range (pa_cons (pe_callB call_len_seq (by rfl) T.b_len (by decide +kernel) (pa_cons (pv 0) pa_nil)) pa_nil)) (pg_name (i := 3) sc__law_gone.nd rfl (.inl rfl)) (pss_one (ps_if (pt_cmpR op_in_seq (pe_ix ix_list (pe_ix ix_list (pv 0) (pv 3) (fun _ _ => rfl)) pe_int (fun _ _ => rfl)) (pv 2) rfl) (pss_one (ps_expr (pe_bm PySem.F.plainAttrs_list PySem.F.slot_list_append PySem.F.type_list_append mt_append (pv 2) (pa_cons (pv 3) pa_nil)))) pss_nil)))
    (pss_one (ps_for (passes_of rfl) rfl (pi_list (pv 2)) (pg_name (i := 3) sc__law_gone.nd rfl (.inl rfl)) (pss_one (ps_asg pe_bl (pg_sub (pe_ix ix_list (pv 0) (pv 3) (fun _ _ => rfl)) pe_int set_list))))))), ?_⟩
  refine ⟨_, rfl, by show 1 ≤ sizeLine; rw [sizeLine_eq]; omega, fun l nl => ?_⟩
  have W1 := W.mono (same_upd (o := .lst [.int n]) nl)
  refine ⟨_, rfl, _, _, rfl, .inl (SqL.of W1.wl), _, rfl, by omega, ?_, ?_⟩
  · rw [List.length_map, W.len]
    omega
  refine for_range (lo := 0) (n := (((rows.map fun r => V.ref r.1).length : Nat) : Int).toNat) (fun i σ H' => (∃ u, σ = [some (.ref w), some (.int n), some (.ref l), u]) ∧ Same H H' ∧ H' l = some (.lst (nInts (gfn nds n i)))) ⟨⟨_, rfl⟩, same_upd nl, upd_same⟩ (fun i σ H' hi q => ?_) (fun σ H' q => ?_)
  · obtain ⟨⟨u, rfl⟩, sm, hl⟩ := q
    have hi2 : i < nds.length := by
      rw [List.length_map, W.len] at hi
      omega
    have e0 : (0 : Int) + (i : Int) = i := Int.zero_add _
    rw [e0]
    have hdi : nds[i]? = some nds[i] := List.getElem?_eq_getElem hi2
    have W2 := W.mono sm
    obtain ⟨r2, hr2, row2⟩ := W2.at hdi
    have ed : gfn nds n (i + 1) = if inO nds[i].own (gfn nds n i) = true then gfn nds n i ++ [i] else gfn nds n i := by
      show (match nds[i]? with
        | some d => if inO d.own (gfn nds n i) = true then gfn nds n i ++ [i] else gfn nds n i
        | none => gfn nds n i) = _
      rw [hdi]
    refine ⟨_, rfl, _, rfl, _, _, _, _, rfl, rfl, SqL.of W2.wl, WA.ix (B := B) (H := H') (w := w) (nds := nds) hr2, _, _, _, _, rfl, rfl, SqL.of row2.1, atI_nat (j := 0) rfl, _, rfl, _, _, rfl, .inl (SqL.of hl), flat_own _, flat_nInts _, _, rfl, ?_⟩
    show if inV (ownV nds[i].own) (nInts (gfn nds n i)) = true then _ else _
    rw [inV_own]
    cases hin : inO nds[i].own (gfn nds n i) with
    | false =>
      rw [hin] at ed
      refine ⟨⟨_, rfl⟩, sm, ?_⟩
      rw [ed]
      exact hl
    | true =>
      rw [hin] at ed
      refine ⟨_, rfl, .inl ⟨rfl, _, SqL.of hl⟩, _, rfl, l, _, _, rfl, rfl, hl, ?_, ⟨_, rfl⟩, same_put sm nl, ?_⟩
      · have := gfn_len nds n i
        unfold nInts
        rw [List.length_map, sizeLine_eq]
        omega
      · rw [upd_same, ed]
        show some (HO.lst (nInts (gfn nds n i) ++ [.int (i : Nat)])) = some (HO.lst (nInts (gfn nds n i ++ [i])))
        rw [nInts_app]
        rfl
  · obtain ⟨⟨u, rfl⟩, sm, hl⟩ := q
    have eN : (((rows.map fun r => V.ref r.1).length : Nat) : Int).toNat = nds.length := by
      rw [List.length_map, W.len]
      omega
    rw [eN] at hl
    have nlw : l ∉ waAll w rows := fun m => by
      have q := W.nd
      unfold waAll at m
      rcases List.mem_cons.mp m with e | m
      · rw [e, W.wl] at nl; cases nl
      · rcases List.mem_append.mp m with m | m
        · obtain ⟨r, mr, e⟩ := List.mem_map.mp m
          obtain ⟨j, hj⟩ := List.getElem?_of_mem mr
          have hj2 : j < nds.length := by rw [← W.len]; exact (List.getElem?_eq_some_iff.mp hj).1
          have := (fall_get W.r hj (List.getElem?_eq_getElem hj2)).1
          rw [e, nl] at this
          cases this
        · obtain ⟨r, mr, e⟩ := List.mem_map.mp m
          obtain ⟨j, hj⟩ := List.getElem?_of_mem mr
          have hj2 : j < nds.length := by rw [← W.len]; exact (List.getElem?_eq_some_iff.mp hj).1
          obtain ⟨_, kvs, this, _⟩ := fall_get W.r hj (List.getElem?_eq_getElem hj2)
          rw [e, nl] at this
          cases this
    have W2 := W.mono sm
    have W3 : WA (hide H' (waAll w rows)) H' w rows nds := ⟨W2.wl, W2.r, W2.nd, hide_same _ _, fun a m => hide_in m⟩
    have lB : hide H' (waAll w rows) l = some (.lst (nInts (gfn nds n nds.length))) := by
      rw [hide_out nlw]
      exact hl
    have sB : Same B (hide H' (waAll w rows)) := same_hide W2.sm W2.fr
    refine ⟨_, rfl, l, rfl, ⟨_, SqL.of hl⟩, ?_⟩
    refine for_list (xs := nInts (gfn nds n nds.length)) (fun i σ H2 => (∃ u, σ = [some (.ref w), some (.int n), some (.ref l), u]) ∧ WA (hide H' (waAll w rows)) H2 w rows (offb nds fun j => decide (j ∈ (gfn nds n nds.length).take i)))
      ⟨⟨_, rfl⟩, by rw [List.take_zero, offb_congr (R := fun _ => false) (fun i _ => by simp), offb_none]; exact W3⟩ (fun i σ H2 _ q => SqL.of (q.2.sm _ _ lB)) (fun i y σ H2 hy q => ?_) (fun σ H2 q => ?_)
    · obtain ⟨⟨u, rfl⟩, W4⟩ := q
      unfold nInts at hy
      rw [List.getElem?_map] at hy
      obtain ⟨j, hj, rfl⟩ := Option.map_eq_some_iff.mp hy
      have hjl : j < nds.length := by
        rcases gfn_lt (List.mem_of_getElem? hj) with e | e
        · omega
        · exact e
      obtain ⟨dj, hdj⟩ : ∃ dj, (offb nds fun j => decide (j ∈ (gfn nds n nds.length).take i))[j]? = some dj := ⟨_, List.getElem?_eq_getElem (by rw [offb_len]; exact hjl)⟩
      obtain ⟨rj, hrj, rowj⟩ := W4.at hdj
      refine ⟨_, rfl, _, rfl, _, _, _, _, rfl, rfl, SqL.of W4.wl, WA.ix (B := hide H' (waAll w rows)) (H := H2) (w := w) (nds := nds) hrj, rj.1, _, _, 2, rfl, rfl, rowj.1, by rfl, ?_⟩
      refine ⟨⟨_, rfl⟩, ?_⟩
      have W5 := W4.off hrj hdj
      rw [offb_set hdj] at W5
      rw [take_snoc hj, offb_congr (R := fun i_1 => decide (i_1 ∈ (gfn nds n nds.length).take i) || decide (i_1 = j)) (fun i _ => by simp [Bool.decide_or])]
      exact W5
    · obtain ⟨_, W4⟩ := q
      unfold nInts at W4
      rw [List.length_map, List.take_length] at W4
      exact h _ ⟨W4.wl, W4.r, W4.nd, sB.trans W4.sm, W.fr⟩

end
end K47
namespace K47
open PySem PySem.Spec PyProof.Rows L2
open PySem.W (Frag)
section
variable {w : World} {K : Frag} {mg : Str → Option Value} {base : Heap}
/-! plain facts on trees of nodes -/
structure Tree (nds : List Nd) (t : Nat) : Prop where
  wf : WfN nds
  kk : KindOk nds
  act : ∀ (n : Nat) (d : Nd), nds[n]? = some d → d.act = true → ∀ m : Nat, d.own = some m → ∃ e, nds[m]? = some e ∧ e.act = true
  pl : ∀ (n : Nat) (d : Nd), nds[n]? = some d → d.prov.length ≤ t
  fl : ∀ (n : Nat) (d : Nd), nds[n]? = some d → ∀ q ∈ d.prov, Flat q.2
theorem Tree.up {nds : List Nd} {t t' : Nat} (T : Tree nds t) (h : t ≤ t') : Tree nds t' := ⟨T.wf, T.kk, T.act, fun n d q => Nat.le_trans (T.pl n d q) h, T.fl⟩
theorem tree_root : Tree [root] 0 where
  wf := fun n d h m hm => by
    have hn := (List.getElem?_eq_some_iff.mp h).1
    have : n = 0 := by simp at hn; exact hn
    subst this
    cases h
    cases hm
  kk := fun d h => by
    simp at h
    rw [h]
    exact .inl rfl
  act := fun n d h _ m hm => by
    have hn := (List.getElem?_eq_some_iff.mp h).1
    have : n = 0 := by simp at hn; exact hn
    subst this
    cases h
    cases hm
  pl := fun n d h => by
    have hn := (List.getElem?_eq_some_iff.mp h).1
    have : n = 0 := by simp at hn; exact hn
    subst this
    cases h
    exact Nat.le_refl _
  fl := fun n d h q m => by
    have hn := (List.getElem?_eq_some_iff.mp h).1
    have : n = 0 := by simp at hn; exact hn
    subst this
    cases h
    cases m
theorem lookup_mem {c : Nat} {v : V} : ∀ {l : List (Nat × V)}, l.lookup c = some v → (c, v) ∈ l
  | (k, w) :: l, h => by
    rw [lookup_cons_eq] at h
    by_cases e : c = k
    · rw [if_pos e] at h
      cases h
      rw [e]
      exact List.mem_cons_self
    · rw [if_neg e] at h
      exact List.mem_cons_of_mem _ (lookup_mem h)
theorem ctx_flat {nds : List Nd} {dfs : List V} {c t : Nat} {o : Option Nat} {v : V} (T : Tree nds t) (hf : ∀ v ∈ dfs, Flat v) (h : CtxV nds dfs c o v) : Flat v := by
  induction h with
  | base h => exact hf _ (List.mem_of_getElem? h)
  | hit h l => exact T.fl _ _ h _ (lookup_mem l)
  | up _ _ _ ih => exact ih
theorem Tree.ctx {nds : List Nd} {dfs : List V} {c t : Nat} (T : Tree nds t) (hc : c < dfs.length) : ∀ n, n < nds.length → ∃ v, CtxV nds dfs c (some n) v := by
  intro n
  induction n using Nat.strongRecOn with
  | _ n ih =>
    intro hn
    have hd : nds[n]? = some nds[n] := List.getElem?_eq_getElem hn
    cases hl : nds[n].prov.lookup c with
    | some v => exact ⟨v, .hit hd hl⟩
    | none =>
      cases ho : nds[n].own with
      | none =>
        refine ⟨dfs[c], .up hd hl ?_⟩
        rw [ho]
        exact .base (List.getElem?_eq_getElem hc)
      | some m =>
        have hm := T.wf n _ hd m ho
        obtain ⟨v, hv⟩ := ih m hm (by omega)
        refine ⟨v, .up hd hl ?_⟩
        rw [ho]
        exact hv
theorem app_get {nds : List Nd} {x : Nd} {i : Nat} {d : Nd} (h : (nds ++ [x])[i]? = some d) : nds[i]? = some d ∨ (i = nds.length ∧ d = x) := by
  by_cases hl : i < nds.length
  · rw [List.getElem?_append_left hl] at h
    exact .inl h
  · have h2 := (List.getElem?_eq_some_iff.mp h).1
    rw [List.length_append] at h2
    simp at h2
    have e : i = nds.length := by omega
    subst e
    rw [List.getElem?_append_right (Nat.le_refl _)] at h
    simp at h
    exact .inr ⟨rfl, h.symm⟩
theorem get_app {nds : List Nd} {x : Nd} {i : Nat} {d : Nd} (h : nds[i]? = some d) : (nds ++ [x])[i]? = some d := by
  rw [List.getElem?_append_left (List.getElem?_eq_some_iff.mp h).1]
  exact h
theorem Tree.app {nds : List Nd} {t n : Nat} {d : Nd} {k : Str} (T : Tree nds t) (hd : nds[n]? = some d) (ha : d.act = true) (hk : k = "scope" ∨ k = "boundary") : Tree (nds ++ [⟨k, some n, true, []⟩]) t where
  wf := fun i e h m hm => by
    rcases app_get h with h | ⟨hh, rfl⟩
    · exact T.wf i e h m hm
    · cases hm
      rw [hh]
      exact (List.getElem?_eq_some_iff.mp hd).1
  kk := T.kk.app hk
  act := fun i e h he m hm => by
    rcases app_get h with h | ⟨h, rfl⟩
    · obtain ⟨x, hx, hxa⟩ := T.act i e h he m hm
      exact ⟨x, get_app hx, hxa⟩
    · cases hm
      exact ⟨d, get_app hd, ha⟩
  pl := fun i e h => by
    rcases app_get h with h | ⟨h, rfl⟩
    · exact T.pl i e h
    · exact Nat.zero_le _
  fl := fun i e h q m => by
    rcases app_get h with h | ⟨h, rfl⟩
    · exact T.fl i e h q m
    · cases m
theorem set_get {nds : List Nd} {n i : Nat} {x d : Nd} (h : (nds.set n x)[i]? = some d) : (i ≠ n ∧ nds[i]? = some d) ∨ (i = n ∧ d = x) := by
  rw [List.getElem?_set] at h
  by_cases e : n = i
  · rw [if_pos e] at h
    split at h
    · exact .inr ⟨e.symm, (Option.some.inj h).symm⟩
    · cases h
  · rw [if_neg e] at h
    exact .inl ⟨Ne.symm e, h⟩
theorem get_set {nds : List Nd} {n i : Nat} {x d e : Nd} (hd : nds[n]? = some d) (hi : nds[i]? = some e) (ha : x.act = d.act) (hae : e.act = true) : ∃ y, (nds.set n x)[i]? = some y ∧ y.act = true := by
  rw [List.getElem?_set]
  by_cases q : n = i
  · rw [if_pos q, if_pos (by rw [q]; exact (List.getElem?_eq_some_iff.mp hi).1)]
    subst q
    rw [hd] at hi
    cases hi
    exact ⟨x, rfl, ha.trans hae⟩
  · rw [if_neg q]
    exact ⟨e, hi, hae⟩
theorem Tree.prov {nds : List Nd} {t n c : Nat} {d : Nd} {v : V} (T : Tree nds t) (hd : nds[n]? = some d) (hv : Flat v) : Tree (nds.set n { d with prov := (c, v) :: d.prov }) (t + 1) where
  wf := fun i e h m hm => by
    rcases set_get h with ⟨_, h⟩ | ⟨hh, rfl⟩
    · exact T.wf i e h m hm
    · rw [hh]
      exact T.wf n d hd m hm
  kk := fun e h => by
    obtain ⟨i, hi⟩ := List.getElem?_of_mem h
    rcases set_get hi with ⟨_, hi⟩ | ⟨_, rfl⟩
    · exact T.kk e (List.mem_of_getElem? hi)
    · exact T.kk d (List.mem_of_getElem? hd)
  act := fun i e h he m hm => by
    rcases set_get h with ⟨_, h⟩ | ⟨h, rfl⟩
    · obtain ⟨x, hx, hxa⟩ := T.act i e h he m hm
      exact get_set hd hx rfl hxa
    · obtain ⟨x, hx, hxa⟩ := T.act n d hd he m hm
      exact get_set hd hx rfl hxa
  pl := fun i e h => by
    rcases set_get h with ⟨_, h⟩ | ⟨h, rfl⟩
    · exact Nat.le_succ_of_le (T.pl i e h)
    · exact Nat.succ_le_succ (T.pl n d hd)
  fl := fun i e h q m => by
    rcases set_get h with ⟨_, h⟩ | ⟨h, rfl⟩
    · exact T.fl i e h q m
    · rcases List.mem_cons.mp m with z | m
      · rw [z]
        exact hv
      · exact T.fl n d hd q m
theorem gfn_step {nds : List Nd} {n i : Nat} {d : Nd} (hd : nds[i]? = some d) : gfn nds n (i + 1) = if inO d.own (gfn nds n i) = true then gfn nds n i ++ [i] else gfn nds n i := by
  show (match nds[i]? with
    | some d => if inO d.own (gfn nds n i) = true then gfn nds n i ++ [i] else gfn nds n i
    | none => gfn nds n i) = _
  rw [hd]
theorem dfn_step {nds : List Nd} {n i : Nat} {d : Nd} (hd : nds[i]? = some d) : dfn nds n (i + 1) = if (d.act && inO d.own (dfn nds n i)) = true then dfn nds n i ++ [i] else dfn nds n i := by
  show (match nds[i]? with
    | some d => if (d.act && inO d.own (dfn nds n i)) = true then dfn nds n i ++ [i] else dfn nds n i
    | none => dfn nds n i) = _
  rw [hd]
theorem inO_iff {o : Option Nat} {f : List Nat} : inO o f = true ↔ ∃ m, o = some m ∧ m ∈ f := by
  cases o with
  | none => simp [inO]
  | some m => simp [inO]
/-- active -/
def isA (nds : List Nd) (i : Nat) : Prop := ∃ d, nds[i]? = some d ∧ d.act = true
theorem dfn_gfn {nds : List Nd} {t n : Nat} (T : Tree nds t) (ha : isA nds n) : ∀ k, k ≤ nds.length → ∀ i, i ∈ dfn nds n k ↔ (i ∈ gfn nds n k ∧ isA nds i)
  | 0, _, i => by
    unfold dfn gfn
    simp only [List.mem_singleton]
    exact ⟨fun e => ⟨e, e ▸ ha⟩, fun h => h.1⟩
  | k + 1, hk, i => by
    have ih := dfn_gfn T ha k (by omega)
    have hd : nds[k]? = some nds[k] := List.getElem?_eq_getElem (by omega)
    rw [gfn_step hd, dfn_step hd]
    by_cases h1 : inO nds[k].own (gfn nds n k) = true
    · rw [if_pos h1]
      cases h2 : nds[k].act with
      | false =>
        rw [Bool.false_and, if_neg Bool.false_ne_true, ih i]
        constructor
        · exact fun h => ⟨List.mem_append_left _ h.1, h.2⟩
        · rintro ⟨m, hA⟩
          rcases List.mem_append.mp m with m | m
          · exact ⟨m, hA⟩
          · simp at m
            subst m
            obtain ⟨d, q1, q2⟩ := hA
            rw [hd] at q1
            cases q1
            rw [h2] at q2
            cases q2
      | true =>
        have h3 : inO nds[k].own (dfn nds n k) = true := by
          obtain ⟨m, hm, mm⟩ := inO_iff.mp h1
          obtain ⟨e, he, hea⟩ := T.act k _ hd h2 m hm
          exact inO_iff.mpr ⟨m, hm, (ih m).mpr ⟨mm, e, he, hea⟩⟩
        rw [h3, Bool.true_and, if_pos rfl]
        constructor
        · intro m
          rcases List.mem_append.mp m with m | m
          · exact ⟨List.mem_append_left _ ((ih i).mp m).1, ((ih i).mp m).2⟩
          · simp at m
            subst m
            exact ⟨List.mem_append_right _ (by simp), _, hd, h2⟩
        · rintro ⟨m, hA⟩
          rcases List.mem_append.mp m with m | m
          · exact List.mem_append_left _ ((ih i).mpr ⟨m, hA⟩)
          · exact List.mem_append_right _ m
    · rw [if_neg h1]
      have h3 : inO nds[k].own (dfn nds n k) = false := by
        cases q : inO nds[k].own (dfn nds n k) with
        | false => rfl
        | true =>
          obtain ⟨m, hm, mm⟩ := inO_iff.mp q
          exact absurd (inO_iff.mpr ⟨m, hm, ((ih m).mp mm).1⟩) h1
      rw [h3, Bool.and_false, if_neg Bool.false_ne_true]
      exact ih i
theorem gfn_dead {nds : List Nd} {t n : Nat} (T : Tree nds t) (ha : ¬ isA nds n) : ∀ k, k ≤ nds.length → ∀ i, i ∈ gfn nds n k → ¬ isA nds i
  | 0, _, i => by
    unfold gfn
    simp only [List.mem_singleton]
    exact fun e => e ▸ ha
  | k + 1, hk, i => by
    have ih := gfn_dead T ha k (by omega)
    have hd : nds[k]? = some nds[k] := List.getElem?_eq_getElem (by omega)
    rw [gfn_step hd]
    split
    · rename_i h1
      intro m
      rcases List.mem_append.mp m with m | m
      · exact ih i m
      · simp at m
        subst m
        rintro ⟨d, q1, q2⟩
        obtain ⟨m, hm, mm⟩ := inO_iff.mp h1
        rw [hd] at q1
        cases q1
        exact ih m mm (T.act i _ hd q2 m hm)
    · exact ih i
theorem offd_id {d : Nd} (h : d.act = false) : offd d = d := by
  cases d
  cases h
  rfl
theorem offb_same {nds : List Nd} {P R : Nat → Bool} (h : ∀ i d, nds[i]? = some d → (if P i = true then offd d else d) = if R i = true then offd d else d) : offb nds P = offb nds R := by
  apply List.ext_getElem?
  intro i
  rw [offb_get, offb_get]
  cases q : nds[i]? with
  | none => rfl
  | some d =>
    exact congrArg some (h i d q)
/-- dispose does as the law says -/
theorem drop_eq {nds : List Nd} {t n : Nat} {d : Nd} (T : Tree nds t) (hd : nds[n]? = some d) : (if d.act = true then offb nds fun i => decide (i ∈ dfn nds n nds.length) else nds) = offb nds fun i => decide (i ∈ gfn nds n nds.length) := by
  cases ha : d.act with
  | true =>
    rw [if_pos rfl]
    refine offb_same fun i e he => ?_
    have hi := dfn_gfn T ⟨d, hd, ha⟩ nds.length (Nat.le_refl _) i
    by_cases hg : i ∈ gfn nds n nds.length
    · cases hea : e.act with
      | true =>
        have : i ∈ dfn nds n nds.length := hi.mpr ⟨hg, e, he, hea⟩
        rw [if_pos (decide_eq_true this), if_pos (decide_eq_true hg)]
      | false =>
        rw [offd_id hea]
        simp
    · have : i ∉ dfn nds n nds.length := fun z => hg (hi.mp z).1
      rw [decide_eq_false this, decide_eq_false hg]
  | false =>
    rw [if_neg Bool.false_ne_true]
    have e0 := offb_none nds
    conv => lhs; rw [← e0]
    refine offb_same fun i e he => ?_
    by_cases hg : i ∈ gfn nds n nds.length
    · have nA := gfn_dead T (fun ⟨d', q1, q2⟩ => by rw [hd] at q1; cases q1; rw [ha] at q2; cases q2) nds.length (Nat.le_refl _) i hg
      have hea : e.act = false := by
        cases q : e.act with
        | false => rfl
        | true => exact absurd ⟨e, he, q⟩ nA
      rw [offd_id hea]
      simp
    · rw [decide_eq_false hg]
theorem gfn_sub {nds : List Nd} {n : Nat} : ∀ {k i : Nat}, i ∈ gfn nds n k → i ∈ gfn nds n (k + 1) := by
  intro k i h
  show i ∈ (match nds[k]? with
    | some d => if inO d.own (gfn nds n k) = true then gfn nds n k ++ [k] else gfn nds n k
    | none => gfn nds n k)
  split
  · split
    · exact List.mem_append_left _ h
    · exact h
  · exact h
theorem gfn_le {nds : List Nd} {n i : Nat} : ∀ {k j : Nat}, k ≤ j → i ∈ gfn nds n k → i ∈ gfn nds n j
  | k, 0, hk, h => by
    have : k = 0 := by omega
    subst this
    exact h
  | k, j + 1, hk, h => by
    by_cases e : k = j + 1
    · rw [← e]
      exact h
    · exact gfn_sub (gfn_le (by omega) h)
theorem gfn_back {nds : List Nd} {n m : Nat} : ∀ {k j : Nat}, m < j → m ∈ gfn nds n k → m ∈ gfn nds n j
  | 0, j, hm, h => gfn_le (Nat.zero_le _) h
  | k + 1, j, hm, h => by
    have h0 := h
    unfold gfn at h
    split at h
    · split at h
      · rcases List.mem_append.mp h with h | h
        · exact gfn_back hm h
        · simp at h
          subst h
          exact gfn_le (by omega) h0
      · exact gfn_back hm h
    · exact gfn_back hm h
theorem offb_get2 {nds : List Nd} {P : Nat → Bool} {i : Nat} {e : Nd} (h : (offb nds P)[i]? = some e) : ∃ d, nds[i]? = some d ∧ e.own = d.own ∧ e.prov = d.prov ∧ (e.act = true → d.act = true ∧ P i = false) := by
  rw [offb_get] at h
  obtain ⟨d, h0, h1⟩ := Option.map_eq_some_iff.mp h
  refine ⟨d, h0, ?_⟩
  rw [← h1]
  cases P i with
  | true => exact ⟨rfl, rfl, fun z => by cases z⟩
  | false => exact ⟨rfl, rfl, fun z => ⟨z, rfl⟩⟩
theorem Tree.gone {nds : List Nd} {t n : Nat} (T : Tree nds t) : Tree (offb nds fun i => decide (i ∈ gfn nds n nds.length)) t where
  wf := fun i e h m hm => by
    obtain ⟨d, hd, h1, _⟩ := offb_get2 h
    exact T.wf i d hd m (h1 ▸ hm)
  kk := T.kk.off _
  act := fun i e h he m hm => by
    obtain ⟨d, hd, h1, h2, h3⟩ := offb_get2 h
    obtain ⟨ha, hg⟩ := h3 he
    have hm' : d.own = some m := h1 ▸ hm
    obtain ⟨x, hx, hxa⟩ := T.act i d hd ha m hm'
    have hi := (List.getElem?_eq_some_iff.mp hd).1
    have hmi := T.wf i d hd m hm'
    have hg' : i ∉ gfn nds n nds.length := of_decide_eq_false hg
    have hgm : m ∉ gfn nds n nds.length := fun z => hg' (gfn_le (k := i + 1) (by omega) (by
      rw [gfn_step hd, if_pos (inO_iff.mpr ⟨m, hm', gfn_back hmi z⟩)]
      exact List.mem_append_right _ (by simp)))
    refine ⟨x, ?_, hxa⟩
    rw [offb_get, hx]
    show some (if decide (m ∈ gfn nds n nds.length) = true then offd x else x) = some x
    rw [decide_eq_false hgm]
    rfl
  pl := fun i e h => by
    obtain ⟨d, hd, h1, h2, h3⟩ := offb_get2 h
    rw [h2]
    exact T.pl i d hd
  fl := fun i e h q m => by
    obtain ⟨d, hd, h1, h2, h3⟩ := offb_get2 h
    rw [h2] at m
    exact T.fl i d hd q m

end
end K47
namespace K47
open PySem PySem.Spec PyProof.Rows L2
open PySem.W (Frag)
section
variable {w : World} {K : Frag} {mg : Str → Option Value} {base : Heap}
theorem f_rt_provide (T : Txt w K mg) (C : Addr) (h : C = He.ga K "Runtime" ∨ C = He.ga K "PlainRuntime") : Fn (L2.CX prog w) prog w K mg base 6 (He.ma K (He.ga K "Runtime") "provide") ["self", "node", "context", "value"] (sp_Runtime_provide K C) := by
  rcases h with rfl | rfl
  · exact f_Runtime_provide T T.rt1
  · exact f_Runtime_provide T T.rt2
theorem f_rt_use (T : Txt w K mg) (C : Addr) (h : C = He.ga K "Runtime" ∨ C = He.ga K "PlainRuntime") : Fn (L2.CX prog w) prog w K mg base 4 (He.ma K (He.ga K "Runtime") "use") ["self", "node", "context"] (sp_Runtime_use K C) := by
  rcases h with rfl | rfl
  · exact f_Runtime_use T T.rt1
  · exact f_Runtime_use T T.rt2
theorem f_rt_transaction (T : Txt w K mg) (C : Addr) (h : C = He.ga K "Runtime" ∨ C = He.ga K "PlainRuntime") : Fn (L2.CX prog w) prog w K mg base 12 (He.ma K (He.ga K "Runtime") "transaction") ["self", "node", "program", "setting"] (sp_Runtime_transaction K C) := by
  rcases h with rfl | rfl
  · exact f_Runtime_transaction T T.rt1
  · exact f_Runtime_transaction T T.rt2
theorem f_rt_scope (T : Txt w K mg) (C : Addr) (h : C = He.ga K "Runtime" ∨ C = He.ga K "PlainRuntime") : Fn (L2.CX prog w) prog w K mg base 11 (He.ma K (He.ga K "Runtime") "scope") ["self", "owner"] (sp_Runtime_scope K C) := by
  rcases h with rfl | rfl
  · exact f_Runtime_scope T T.rt1
  · exact f_Runtime_scope T T.rt2
theorem f_rt_boundary (T : Txt w K mg) (C : Addr) (h : C = He.ga K "Runtime" ∨ C = He.ga K "PlainRuntime") : Fn (L2.CX prog w) prog w K mg base 11 (He.ma K (He.ga K "Runtime") "boundary") ["self", "owner"] (sp_Runtime_boundary K C) := by
  rcases h with rfl | rfl
  · exact f_Runtime_boundary T T.rt1
  · exact f_Runtime_boundary T T.rt2
theorem f_rt_dispose (T : Txt w K mg) (C : Addr) (h : C = He.ga K "Runtime" ∨ C = He.ga K "PlainRuntime") : Fn (L2.CX prog w) prog w K mg base 11 (He.ma K (He.ga K "Runtime") "dispose") ["self", "node"] (sp_Runtime_dispose K C) := by
  rcases h with rfl | rfl
  · exact f_Runtime_dispose T T.rt1
  · exact f_Runtime_dispose T T.rt2
theorem f_rt_context (T : Txt w K mg) (C : Addr) (h : C = He.ga K "Runtime" ∨ C = He.ga K "PlainRuntime") : Fn CX0 prog w K mg base 6 (He.ma K (He.ga K "Runtime") "context") ["self", "default"] (sp_Runtime_context K C) := by
  rcases h with rfl | rfl
  · exact f_Runtime_context T T.rt1
  · exact f_Runtime_context T T.rt2
/-- what is tried, what it leaves, what it answers -/
inductive Tried (H : Hp) (nds : List Nd) (dfs : List V) (al : Addr) : Str → List Nd → HO → Prop
  | prov {n c : Nat} {d : Nd} {v : V} (h : H al = some (.lst [.int n, .int c, v])) (hd : nds[n]? = some d) (hp : d.prov.length < 100) (hc : c < dfs.length) (hv : Flat v) :
      Tried H nds dfs al "provide" (if d.act = true then (if kid nds n = true then nds else nds.set n { d with prov := (c, v) :: d.prov }) else nds) (if d.act = true then (if kid nds n = true then erT "too late" else okT .non) else erT "disposed")
  | use {z : Str} {n c : Nat} {d : Nd} {v : V} (hz : z = "use" ∨ z = "transaction") (h : H al = some (.lst [.int n, .int c])) (hd : nds[n]? = some d) (hc : c < dfs.length) (cv : CtxV nds dfs c (some n) v) : Tried H nds dfs al z nds (if d.act = true then okT v else erT "disposed")
theorem sc__law_try : FnScope ["_law_rt", "_law_name", "_law_args", "e"] ["_law_rt", "_law_name", "_law_args"] (defScope s__law_try) := ⟨rfl, rfl, rfl, by decide +kernel, rfl, by decide +kernel, by decide +kernel⟩
def sp__law_try (K : Frag) : Sp := SpX (fun x : Addr × RD × Str × Addr × List Nd × HO => [.ref x.2.1.1.1, .str x.2.2.1, .ref x.2.2.2.1]) fun ⟨C, ⟨⟨r, dx⟩, e, x, B, nds, dfs⟩, z, al, nds', res⟩ H Q E =>
  (C = He.ga K "Runtime" ∨ C = He.ga K "PlainRuntime") ∧ RtAt K C B H r dx e x nds dfs ∧ WfN nds ∧ KindOk nds ∧ nds.length < 24 ∧ Tried H nds dfs al z nds' res ∧ ∀ H' x' t, En K B H' e x' nds' dfs → H' t = some res → Q (.ref t) H'
theorem f__law_try (T : Txt w K mg) : Fn CX0 prog w K mg base 13 (He.ga K "_law_try") ["_law_rt", "_law_name", "_law_args"] (sp__law_try K) :=
  Txt.fnx T 48 d__law_try rfl rfl sc__law_try (fun _ _ _ _ _ _ us hl => match us, hl with | [_, _, _], _ => rfl) (fun _ => rfl)
  fun cdv A outer s H ⟨C, ⟨⟨r, dx⟩, e, x, B, nds, dfs⟩, z, al, nds', res⟩ Q E hr ⟨hC, R, wf, kk, hl, D, h⟩ => by
  refine ⟨_, (pss_one (ps_try_as (i := 3) rfl rfl sc__law_try.nd rfl rfl ⟨rfl, by decide, .inl T.g_RippleError⟩ takes0 (fun W pn xe tk _ => (pss_cons (ps_if (pt_cmpR op_eq (pv 1) pe_str (nomark _)) (pss_one (ps_ret (pe_tup (pa_cons pe_str (pa_cons (pe_mtR (ns := rtNs) (sp := fun C => sp_Runtime_provide K C) T.rt1.c T.rt2.c T.rt1.m_provide T.rt2.m_provide (by decide) (f_rt_provide T) hr (by decide) (passSX tk) (pv 0) (pa_cons (pe_ix (ix_listK (K := K) rfl) (pv 2) pe_int (fun _ _ => rfl)) (pa_cons (pe_ix (ix_listK (K := K) rfl) (pv 2) pe_int (fun _ _ => rfl)) (pa_cons (pe_ix (ix_listK (K := K) rfl) (pv 2) pe_int (fun _ _ => rfl)) pa_nil)))) pa_nil))))) pss_nil)
      (pss_cons (ps_if (pt_cmpR op_eq (pv 1) pe_str (nomark _)) (pss_one (ps_ret (pe_tup (pa_cons pe_str (pa_cons (pe_mtR (ns := rtNs) (sp := fun C => sp_Runtime_use K C) T.rt1.c T.rt2.c T.rt1.m_use T.rt2.m_use (by decide) (f_rt_use T) hr (by decide) (passSX tk) (pv 0) (pa_cons (pe_ix (ix_listK (K := K) rfl) (pv 2) pe_int (fun _ _ => rfl)) (pa_cons (pe_ix (ix_listK (K := K) rfl) (pv 2) pe_int (fun _ _ => rfl)) pa_nil))) pa_nil))))) pss_nil)
      (pss_one (ps_ret (pe_tup (pa_cons pe_str (pa_cons (pe_mtR (ns := rtNs) (sp := fun C => sp_Runtime_transaction K C) T.rt1.c T.rt2.c T.rt1.m_transaction T.rt2.m_transaction (by decide) (f_rt_transaction T) hr (by decide) (passSX tk) (pv 0) (pa_cons (pe_ix (ix_listK (K := K) rfl) (pv 2) pe_int (fun _ _ => rfl)) (pa_cons (pe_lst (pa_cons (pe_tup (pa_cons pe_str (pa_cons (pe_tup (pa_cons pe_str (pa_cons pe_str pa_nil))) pa_nil))) pa_nil)) (pa_cons (pe_disp (pps_cons pe_str (pe_tup (pa_cons pe_str (pa_cons (pe_ix (ix_listK (K := K) rfl) (pv 2) pe_int (fun _ _ => rfl)) pa_nil))) pps_nil) (by rfl) (by rfl) (fun z => by cases z) (by decide)) pa_nil)))) pa_nil)))))))) (fun a oe cls d pn hz hf => (pss_one (ps_ret (pe_tup (pa_cons pe_str (pa_cons (pe_xf T.rf.xf T.n_RippleError_message hz hf (pv 3)) pa_nil)))))))), ?_⟩
  cases D with
  | @prov n c d v ha hd hp hc hv =>
    refine ⟨_, rfl, rfl, _, rfl, ?_⟩
    refine ⟨_, rfl, r, C, dx, _, rfl, hC, R.ob, _, rfl, _, _, _, _, rfl, rfl, SqL.of ha, atI_nat (j := 0) rfl, _, rfl, _, _, _, _, rfl, rfl, SqL.of ha, atI_nat (j := 1) rfl, _, rfl, _, _, _, _, rfl, rfl, SqL.of ha, atI_nat (j := 2) rfl, ?_⟩
    refine ⟨(⟨⟨r, dx⟩, e, x, B, nds, dfs⟩, n, d, c, v), rfl, R, kk, hl, hd, hp, hc, hv, fun q1 q2 H' x' N' => ?_, fun q1 => ?_, fun q1 q2 => ?_⟩
    · rw [q1, q2] at h
      rw [q1] at N'
      exact ⟨by show 2 ≤ sizeLine; rw [sizeLine_eq]; omega, fun t nt => h _ x' t (N'.mono (same_upd nt)) upd_same⟩
    · rw [q1] at h
      refine fun d' H' x' N' hd' => ⟨true, T.x_RippleError, fun _ a na => ⟨_, rfl, rfl, rfl, _, _, _, rfl, hd', rfl, by show 2 ≤ sizeLine; rw [sizeLine_eq]; omega, fun t nt => ?_⟩, fun z => nomatch z⟩
      exact h _ x' t (N'.mono (same_upd nt)) upd_same
    · rw [q1, q2] at h
      refine fun d' H' x' N' hd' => ⟨true, T.x_RippleError, fun _ a na => ⟨_, rfl, rfl, rfl, _, _, _, rfl, hd', rfl, by show 2 ≤ sizeLine; rw [sizeLine_eq]; omega, fun t nt => ?_⟩, fun z => nomatch z⟩
      exact h _ x' t (N'.mono (same_upd nt)) upd_same
  | @use z n c d v hz ha hd hc cv =>
    rcases hz with rfl | rfl
    · refine ⟨_, rfl, rfl, _, rfl, ?_⟩
      refine ⟨_, rfl, rfl, _, rfl, ?_⟩
      refine ⟨_, rfl, r, C, dx, _, rfl, hC, R.ob, _, rfl, _, _, _, _, rfl, rfl, SqL.of ha, atI_nat (j := 0) rfl, _, rfl, _, _, _, _, rfl, rfl, SqL.of ha, atI_nat (j := 1) rfl, ?_⟩
      refine ⟨(⟨⟨r, dx⟩, e, x, B, nds, dfs⟩, n, d, c, v), rfl, R, wf, kk, hd, hc, cv, fun q1 H' x' N' => ?_, fun q1 => ?_⟩
      · rw [q1] at h
        exact ⟨by show 2 ≤ sizeLine; rw [sizeLine_eq]; omega, fun t nt => h _ x' t (N'.mono (same_upd nt)) upd_same⟩
      · rw [q1] at h
        refine fun d' H' x' N' hd' => ⟨true, T.x_RippleError, fun _ a na => ⟨_, rfl, rfl, rfl, _, _, _, rfl, hd', rfl, by show 2 ≤ sizeLine; rw [sizeLine_eq]; omega, fun t nt => ?_⟩, fun z => nomatch z⟩
        exact h _ x' t (N'.mono (same_upd nt)) upd_same
    · refine ⟨_, rfl, rfl, _, rfl, ?_⟩
      refine ⟨_, rfl, rfl, _, rfl, ?_⟩
      refine ⟨_, rfl, r, C, dx, _, rfl, hC, R.ob, _, rfl, _, _, _, _, rfl, rfl, SqL.of ha, atI_nat (j := 0) rfl, ?_⟩
      refine ⟨by show 2 ≤ sizeLine; rw [sizeLine_eq]; omega, fun u nu => ⟨by show 2 ≤ sizeLine; rw [sizeLine_eq]; omega, fun p np => ⟨by show 1 ≤ sizeLine; rw [sizeLine_eq]; omega, fun l nl => ?_⟩⟩⟩
      have s1 := same_upd (o := .tup [.str "use", .str "v"]) nu
      have s2 := same_upd (o := .tup [.str "return", .ref u]) np
      have s3 := same_upd (o := .lst [.ref p]) nl
      have s13 := s1.trans (s2.trans s3)
      intro dd ndd
      have s4 := same_upd (o := .dK []) ndd
      have s14 := s13.trans s4
      refine ⟨_, rfl, _, _, _, _, rfl, rfl, SqL.of (s14 _ _ ha), atI_nat (j := 1) rfl, by show 2 ≤ sizeLine; rw [sizeLine_eq]; omega, fun tc ntc => ?_⟩
      have s5 := same_upd (o := .tup [.str "context", .int c]) ntc
      have ddn : dd ≠ tc := fun z => by rw [← z, upd_same] at ntc; cases ntc
      refine ⟨s5 _ _ upd_same, [(.inr "v", .ref tc)], rfl, by show 1 ≤ 15; omega, ?_⟩
      have N5 := R.n.mono (s14.trans s5)
      have hdd := s5 _ _ (upd_same (H := upd (upd (upd H u (.tup [.str "use", .str "v"])) p (.tup [.str "return", .ref u])) l (.lst [.ref p])) (a := dd) (o := .dK []))
      have N6 := N5.out (o := .dK [(.inr "v", .ref tc)]) hdd rfl fun t z => by cases z
      have lA : l ∉ x.all e := (R.n.mono (s1.trans s2)).notNew nl
      have pA : p ∉ x.all e := (R.n.mono s1).notNew np
      have uA : u ∉ x.all e := R.n.notNew nu
      have dA : dd ∉ x.all e := (R.n.mono s13).notNew ndd
      have tA : tc ∉ x.all e := (R.n.mono s14).notNew ntc
      have rA : r ∉ x.all e := fun m => by
        have q := R.n.fr r m
        rw [R.r] at q
        cases q
      have k : ∀ {b : Addr} {o : HO}, b ∉ x.all e → b ≠ dd → (upd (upd (upd (upd (upd H u (.tup [.str "use", .str "v"])) p (.tup [.str "return", .ref u])) l (.lst [.ref p])) dd (.dK [])) tc (.tup [.str "context", .int c])) b = some o →
          hide (upd (upd (upd (upd (upd (upd H u (.tup [.str "use", .str "v"])) p (.tup [.str "return", .ref u])) l (.lst [.ref p])) dd (.dK [])) tc (.tup [.str "context", .int c])) dd (.dK [(.inr "v", .ref tc)])) (x.all e) b = some o := fun {b o} h1 h2 h3 => by
        rw [hide_out h1, upd_ne h2]
        exact h3
      have old : ∀ {b : Addr} {o : HO}, H b = some o → b ≠ dd := fun {b o} q z => by
        have := s13 _ _ q
        rw [z, ndd] at this
        cases this
      have sBB : Same B (hide (upd (upd (upd (upd (upd (upd H u (.tup [.str "use", .str "v"])) p (.tup [.str "return", .ref u])) l (.lst [.ref p])) dd (.dK [])) tc (.tup [.str "context", .int c])) dd (.dK [(.inr "v", .ref tc)])) (x.all e)) := fun b o q => by
        have bA : b ∉ x.all e := fun m => by
          rw [R.n.fr b m] at q
          cases q
        exact k bA (old (R.n.sm _ _ q)) ((s14.trans s5) _ _ (R.n.sm _ _ q))
      have l3 : upd (upd (upd H u (.tup [.str "use", .str "v"])) p (.tup [.str "return", .ref u])) l (.lst [.ref p]) l = some (.lst [.ref p]) := upd_same
      have p3 : upd (upd (upd H u (.tup [.str "use", .str "v"])) p (.tup [.str "return", .ref u])) l (.lst [.ref p]) p = some (.tup [.str "return", .ref u]) := s3 _ _ upd_same
      have u3 : upd (upd (upd H u (.tup [.str "use", .str "v"])) p (.tup [.str "return", .ref u])) l (.lst [.ref p]) u = some (.tup [.str "use", .str "v"]) := (s2.trans s3) _ _ upd_same
      have P : Prg (hide (upd (upd (upd (upd (upd (upd H u (.tup [.str "use", .str "v"])) p (.tup [.str "return", .ref u])) l (.lst [.ref p])) dd (.dK [])) tc (.tup [.str "context", .int c])) dd (.dK [(.inr "v", .ref tc)])) (x.all e)) l p u :=
        ⟨k lA (ne_of_none l3 ndd) ((s4.trans s5) _ _ l3), k pA (ne_of_none p3 ndd) ((s4.trans s5) _ _ p3), k uA (ne_of_none u3 ndd) ((s4.trans s5) _ _ u3)⟩
      have S : Stg (hide (upd (upd (upd (upd (upd (upd H u (.tup [.str "use", .str "v"])) p (.tup [.str "return", .ref u])) l (.lst [.ref p])) dd (.dK [])) tc (.tup [.str "context", .int c])) dd (.dK [(.inr "v", .ref tc)])) (x.all e)) dd tc c :=
        ⟨by rw [hide_out dA]; exact upd_same, k tA (Ne.symm ddn) upd_same⟩
      obtain ⟨B', hB'⟩ : ∃ B' : Hp, B' = (hide (upd (upd (upd (upd (upd (upd H u (.tup [.str "use", .str "v"])) p (.tup [.str "return", .ref u])) l (.lst [.ref p])) dd (.dK [])) tc (.tup [.str "context", .int c])) dd (.dK [(.inr "v", .ref tc)])) (x.all e)) := ⟨_, rfl⟩
      rw [← hB'] at sBB P S N6
      refine ⟨(⟨⟨r, dx⟩, e, x, B', nds, dfs⟩, ⟨n, d, c, v⟩, l, p, u, dd, tc), rfl, ⟨sBB _ _ R.r, N6⟩, wf, kk, hl, hd, hc, cv, P, S, fun q1 H' x' N' => ?_, fun q1 => ?_⟩
      · rw [q1] at h
        exact ⟨by show 2 ≤ sizeLine; rw [sizeLine_eq]; omega, fun t nt => h _ x' t ((N'.back sBB).mono (same_upd nt)) upd_same⟩
      · rw [q1] at h
        refine fun d' H' x' N' hd' => ⟨true, T.x_RippleError, fun _ a na => ⟨_, rfl, rfl, rfl, _, _, _, rfl, hd', rfl, by show 2 ≤ sizeLine; rw [sizeLine_eq]; omega, fun t nt => ?_⟩, fun z => nomatch z⟩
        exact h _ x' t ((N'.back sBB).mono (same_upd nt)) upd_same

end
end K47
namespace K47
open PySem PySem.Spec PyProof.Rows L2
open PySem.W (Frag)
section
variable {w : World} {K : Frag} {mg : Str → Option Value} {base : Heap}
/-! the law's world: two runtimes, the rows, the box -/
structure LC where
  b : Addr
  rw : Addr
  rl : Addr
  ld : Addr
  r1 : Addr
  d1 : Addr
  e1 : Addr
  r2 : Addr
  d2 : Addr
  e2 : Addr
  row : List Int
  w : Addr
  rows : List (Addr × Addr)
  x1 : EA
  x2 : EA
  n1 : List Nd
  n2 : List Nd
  nw : List Nd
  f1 : List V
  f2 : List V
  dfs : List V
def LC.cs (c : LC) : List Addr := [c.b, c.rw, c.rl, c.ld, c.r1, c.r2]
structure LS (K : Frag) (H : Hp) (c : LC) : Prop where
  hb : ∃ k : Nat, H c.b = some (.lst [.ref c.rw, .int k])
  hrw : H c.rw = some (.lst (c.row.map V.int))
  hrl : H c.rl = some (.lst [.ref c.r1, .ref c.r2])
  hld : H c.ld = some (.lst c.dfs)
  hr1 : H c.r1 = some (Ins (He.ga K "Runtime") c.d1 rtNs [.ref c.e1])
  hr2 : H c.r2 = some (Ins (He.ga K "PlainRuntime") c.d2 rtNs [.ref c.e2])
  m1 : En K (hide H (c.x1.all c.e1)) H c.e1 c.x1 c.n1 c.f1
  m2 : En K (hide H (c.x2.all c.e2)) H c.e2 c.x2 c.n2 c.f2
  wa : WA (hide H (waAll c.w c.rows)) H c.w c.rows c.nw
  c1 : ∀ a ∈ c.cs, a ∉ c.x1.all c.e1
  c2 : ∀ a ∈ c.cs, a ∉ c.x2.all c.e2
  cw : ∀ a ∈ c.cs, a ∉ waAll c.w c.rows
  d12 : ∀ a ∈ c.x1.all c.e1, a ∉ c.x2.all c.e2
  d1w : ∀ a ∈ c.x1.all c.e1, a ∉ waAll c.w c.rows
  d2w : ∀ a ∈ c.x2.all c.e2, a ∉ waAll c.w c.rows
  db : c.b ∉ [c.rw, c.rl, c.ld, c.r1, c.r2]
section
variable {H H' : Hp} {F : List Addr}
theorem kp {a : Addr} {o : HO} (s : Same (hide H F) H') (n : a ∉ F) (h : H a = some o) : H' a = some o := s _ _ (by rw [hide_out n]; exact h)
theorem kpT (s : Same (hide H F) H') (ft : ∀ a ∈ F, ∀ t, H a ≠ some (.tup t)) : TupK H H' := fun a t h => kp s (fun m => ft a m t h) h
theorem En.kp {e : Addr} {x : EA} {nds : List Nd} {dfs : List V} (N : En K (K47.hide H (x.all e)) H e x nds dfs) (s : Same (K47.hide H F) H') (ft : ∀ a ∈ F, ∀ t, H a ≠ some (.tup t)) (dj : ∀ a ∈ x.all e, a ∉ F) : En K (K47.hide H' (x.all e)) H' e x nds dfs :=
  N.re (kpT s ft) fun a m => by
    obtain ⟨o, q, _⟩ := N.has m
    rw [q]
    exact K47.kp s (dj a m) q
theorem WA.has {B : Hp} {w : Addr} {rows : List (Addr × Addr)} {nds : List Nd} (W : WA B H w rows nds) {a : Addr} (m : a ∈ waAll w rows) : ∃ o, H a = some o ∧ ∀ t, o ≠ .tup t := by
  unfold waAll at m
  rcases List.mem_cons.mp m with e | m
  · exact ⟨_, e ▸ W.wl, fun t z => by cases z⟩
  · rcases List.mem_append.mp m with m | m
    · obtain ⟨r, mr, e⟩ := List.mem_map.mp m
      obtain ⟨j, hj⟩ := List.getElem?_of_mem mr
      have hj2 : j < nds.length := by rw [← W.len]; exact (List.getElem?_eq_some_iff.mp hj).1
      have := (fall_get W.r hj (List.getElem?_eq_getElem hj2)).1
      rw [e] at this
      exact ⟨_, this, fun t z => by cases z⟩
    · obtain ⟨r, mr, e⟩ := List.mem_map.mp m
      obtain ⟨j, hj⟩ := List.getElem?_of_mem mr
      have hj2 : j < nds.length := by rw [← W.len]; exact (List.getElem?_eq_some_iff.mp hj).1
      obtain ⟨_, kvs, this, _⟩ := fall_get W.r hj (List.getElem?_eq_getElem hj2)
      rw [e] at this
      exact ⟨_, this, fun t z => by cases z⟩
theorem WA.kp {w : Addr} {rows : List (Addr × Addr)} {nds : List Nd} (W : WA (hide H (waAll w rows)) H w rows nds) (s : Same (hide H F) H') (dj : ∀ a ∈ waAll w rows, a ∉ F) : WA (hide H' (waAll w rows)) H' w rows nds := by
  refine ⟨K47.kp s (dj _ (by simp [waAll])) W.wl, ?_, W.nd, hide_same _ _, fun a m => hide_in m⟩
  refine fall_imp W.r fun r d m q => ?_
  obtain ⟨q1, kvs, q2, q3⟩ := q
  exact ⟨K47.kp s (dj _ (by simp [waAll]; exact .inr (.inl ⟨_, m⟩))) q1, kvs, K47.kp s (dj _ (by simp [waAll]; exact .inr (.inr ⟨_, m⟩))) q2, q3⟩
theorem WA.again {B : Hp} {w : Addr} {rows : List (Addr × Addr)} {nds : List Nd} (W : WA B H w rows nds) : WA (hide H (waAll w rows)) H w rows nds := ⟨W.wl, W.r, W.nd, hide_same _ _, fun a m => hide_in m⟩
/-- what stood apart from F stands apart from what F became -/
theorem djN {F' G : List Addr} (fr : ∀ a ∈ F', hide H F a = none) (hG : ∀ a ∈ G, ∃ o, H a = some o) (dj : ∀ a ∈ G, a ∉ F) : ∀ a ∈ G, a ∉ F' := fun a m m' => by
  have q := fr a m'
  obtain ⟨o, h⟩ := hG a m
  rw [hide_out (dj a m), h] at q
  cases q
end
theorem djS {F G : List Addr} (h : ∀ a ∈ F, a ∉ G) : ∀ a ∈ G, a ∉ F := fun a m m' => h a m' m
section
variable {H H' : Hp} {c : LC}
theorem LS.hcs (L : LS K H c) : ∀ a ∈ c.cs, ∃ o, H a = some o := fun a m => by
  unfold LC.cs at m
  simp only [List.mem_cons, List.not_mem_nil, or_false] at m
  obtain ⟨k, hk⟩ := L.hb
  rcases m with m | m | m | m | m | m
  · exact ⟨_, m ▸ hk⟩
  · exact ⟨_, m ▸ L.hrw⟩
  · exact ⟨_, m ▸ L.hrl⟩
  · exact ⟨_, m ▸ L.hld⟩
  · exact ⟨_, m ▸ L.hr1⟩
  · exact ⟨_, m ▸ L.hr2⟩
theorem LS.h1 (L : LS K H c) : ∀ a ∈ c.x1.all c.e1, ∃ o, H a = some o := fun a m => let ⟨o, h, _⟩ := L.m1.has m; ⟨o, h⟩
theorem LS.h2 (L : LS K H c) : ∀ a ∈ c.x2.all c.e2, ∃ o, H a = some o := fun a m => let ⟨o, h, _⟩ := L.m2.has m; ⟨o, h⟩
theorem LS.hw (L : LS K H c) : ∀ a ∈ waAll c.w c.rows, ∃ o, H a = some o := fun a m => let ⟨o, h, _⟩ := L.wa.has m; ⟨o, h⟩
theorem il_nt {o : HO} (h : il o = true) : ∀ t, o ≠ .tup t := fun t z => by
  rw [z] at h
  cases h
theorem En.ft {B : Hp} {e : Addr} {x : EA} {nds : List Nd} {dfs : List V} (N : En K B H e x nds dfs) : ∀ a ∈ x.all e, ∀ t, H a ≠ some (.tup t) := fun a m t z => by
  obtain ⟨o, h, i⟩ := N.has m
  rw [h] at z
  cases z
  cases i
theorem WA.ft {B : Hp} {w : Addr} {rows : List (Addr × Addr)} {nds : List Nd} (W : WA B H w rows nds) : ∀ a ∈ waAll w rows, ∀ t, H a ≠ some (.tup t) := fun a m t z => by
  obtain ⟨o, h, i⟩ := W.has m
  rw [h] at z
  cases z
  exact i t rfl
theorem LS.mono (L : LS K H c) (s0 : Same H H') : LS K H' c := by
  have s : Same (hide H []) H' := (hide_same H []).trans s0
  have ft : ∀ a ∈ ([] : List Addr), ∀ t, H a ≠ some (.tup t) := fun a m => by cases m
  obtain ⟨k, hk⟩ := L.hb
  exact ⟨⟨k, s0 _ _ hk⟩, s0 _ _ L.hrw, s0 _ _ L.hrl, s0 _ _ L.hld, s0 _ _ L.hr1, s0 _ _ L.hr2, L.m1.kp s ft (fun a m => by simp), L.m2.kp s ft (fun a m => by simp), L.wa.kp s (fun a m => by simp), L.c1, L.c2, L.cw, L.d12, L.d1w, L.d2w, L.db⟩
/-- the box for a draw -/
theorem LS.box (L : LS K H c) : BoxAt (hide H [c.b]) H c.b c.rw c.row := by
  have db := L.db
  simp only [List.mem_cons, List.not_mem_nil, or_false, not_or] at db
  exact ⟨by rw [hide_out (by simp; exact Ne.symm db.1)]; exact L.hrw, L.hb, hide_same _ _, hide_in (by simp)⟩
theorem LS.boxed (L : LS K H c) (X : BoxAt (hide H [c.b]) H' c.b c.rw c.row) : LS K H' c := by
  have s := X.sm
  have db := L.db
  simp only [List.mem_cons, List.not_mem_nil, or_false, not_or] at db
  obtain ⟨k, hk⟩ := L.hb
  have ft : ∀ a ∈ [c.b], ∀ t, H a ≠ some (.tup t) := fun a m t z => by
    simp only [List.mem_cons, List.not_mem_nil, or_false] at m
    rw [m, hk] at z
    cases z
  have nb : ∀ {G : List Addr}, (∀ a ∈ c.cs, a ∉ G) → ∀ a ∈ G, a ∉ [c.b] := fun h a m m' => by
    simp only [List.mem_cons, List.not_mem_nil, or_false] at m'
    exact h c.b (by simp [LC.cs]) (m' ▸ m)
  have ne : ∀ {a : Addr}, c.b ≠ a → a ∉ [c.b] := fun h m => by
    simp only [List.mem_cons, List.not_mem_nil, or_false] at m
    exact h m.symm
  exact ⟨X.h, kp s (ne db.1) L.hrw, kp s (ne db.2.1) L.hrl, kp s (ne db.2.2.1) L.hld, kp s (ne db.2.2.2.1) L.hr1, kp s (ne db.2.2.2.2) L.hr2, L.m1.kp s ft (nb L.c1), L.m2.kp s ft (nb L.c2), L.wa.kp s (nb L.cw), L.c1, L.c2, L.cw, L.d12, L.d1w, L.d2w, L.db⟩
/-- the first runtime -/
theorem LS.rt1 (L : LS K H c) : RtAt K (He.ga K "Runtime") (hide H (c.x1.all c.e1)) H c.r1 c.d1 c.e1 c.x1 c.n1 c.f1 := ⟨by rw [hide_out (L.c1 _ (by simp [LC.cs]))]; exact L.hr1, L.m1⟩
theorem LS.rt2 (L : LS K H c) : RtAt K (He.ga K "PlainRuntime") (hide H (c.x2.all c.e2)) H c.r2 c.d2 c.e2 c.x2 c.n2 c.f2 := ⟨by rw [hide_out (L.c2 _ (by simp [LC.cs]))]; exact L.hr2, L.m2⟩
theorem LS.set1 (L : LS K H c) {x : EA} {nds : List Nd} {dfs : List V} (N : En K (hide H (c.x1.all c.e1)) H' c.e1 x nds dfs) : LS K H' { c with x1 := x, n1 := nds, f1 := dfs } := by
  have s := N.sm
  obtain ⟨k, hk⟩ := L.hb
  have g : ∀ {a : Addr} {o : HO}, a ∈ c.cs → H a = some o → H' a = some o := fun m h => kp s (L.c1 _ m) h
  exact ⟨⟨k, g (by simp [LC.cs]) hk⟩, g (by simp [LC.cs]) L.hrw, g (by simp [LC.cs]) L.hrl, g (by simp [LC.cs]) L.hld, g (by simp [LC.cs]) L.hr1, g (by simp [LC.cs]) L.hr2, N.hide, L.m2.kp s L.m1.ft (djS L.d12), L.wa.kp s (djS L.d1w), djN N.fr L.hcs L.c1, L.c2, L.cw, djS (djN N.fr L.h2 (djS L.d12)), djS (djN N.fr L.hw (djS L.d1w)), L.d2w, L.db⟩
theorem LS.set2 (L : LS K H c) {x : EA} {nds : List Nd} {dfs : List V} (N : En K (hide H (c.x2.all c.e2)) H' c.e2 x nds dfs) : LS K H' { c with x2 := x, n2 := nds, f2 := dfs } := by
  have s := N.sm
  obtain ⟨k, hk⟩ := L.hb
  have g : ∀ {a : Addr} {o : HO}, a ∈ c.cs → H a = some o → H' a = some o := fun m h => kp s (L.c2 _ m) h
  exact ⟨⟨k, g (by simp [LC.cs]) hk⟩, g (by simp [LC.cs]) L.hrw, g (by simp [LC.cs]) L.hrl, g (by simp [LC.cs]) L.hld, g (by simp [LC.cs]) L.hr1, g (by simp [LC.cs]) L.hr2, L.m1.kp s L.m2.ft L.d12, N.hide, L.wa.kp s (djS L.d2w), L.c1, djN N.fr L.hcs L.c2, L.cw, djN N.fr L.h1 L.d12, L.d1w, djS (djN N.fr L.hw (djS L.d2w)), L.db⟩
theorem LS.setw (L : LS K H c) {rows : List (Addr × Addr)} {nds : List Nd} (W : WA (hide H (waAll c.w c.rows)) H' c.w rows nds) : LS K H' { c with rows := rows, nw := nds } := by
  have s := W.sm
  obtain ⟨k, hk⟩ := L.hb
  have g : ∀ {a : Addr} {o : HO}, a ∈ c.cs → H a = some o → H' a = some o := fun m h => kp s (L.cw _ m) h
  exact ⟨⟨k, g (by simp [LC.cs]) hk⟩, g (by simp [LC.cs]) L.hrw, g (by simp [LC.cs]) L.hrl, g (by simp [LC.cs]) L.hld, g (by simp [LC.cs]) L.hr1, g (by simp [LC.cs]) L.hr2, L.m1.kp s L.wa.ft L.d1w, L.m2.kp s L.wa.ft L.d2w, W.again, L.c1, L.c2, djN W.fr L.hcs L.cw, L.d12, djN W.fr L.h1 L.d1w, djN W.fr L.h2 L.d2w, L.db⟩
/-- a new row -/
theorem WA.app {B : Hp} {w : Addr} {rows : List (Addr × Addr)} {nds : List Nd} {ra da : Addr} {d : Nd} (W : WA B H w rows nds) (hra : H ra = some (.lst [ownV d.own, .ref da, .bl d.act])) (hda : H da = some (.dK [])) (hp : d.prov = []) (nr : ra ∉ waAll w rows) (ndd : da ∉ waAll w rows) (fr : B ra = none) (fd : B da = none) :
    WA B (upd H w (.lst ((rows.map fun r => V.ref r.1) ++ [.ref ra]))) w (rows ++ [(ra, da)]) (nds ++ [d]) := by
  obtain ⟨n1, n2, n3, n4, n5⟩ := W.nd3
  have nra : ra ≠ w := fun z => nr (by simp [waAll, z])
  have nda : da ≠ w := fun z => ndd (by simp [waAll, z])
  have nrd : ra ≠ da := fun z => by rw [z, hda] at hra; cases hra
  have q1 : ra ∉ rows.map (·.1) := fun m => nr (by unfold waAll; exact List.mem_cons_of_mem _ (List.mem_append_left _ m))
  have q2 : ra ∉ rows.map (·.2) := fun m => nr (by unfold waAll; exact List.mem_cons_of_mem _ (List.mem_append_right _ m))
  have q3 : da ∉ rows.map (·.1) := fun m => ndd (by unfold waAll; exact List.mem_cons_of_mem _ (List.mem_append_left _ m))
  have q4 : da ∉ rows.map (·.2) := fun m => ndd (by unfold waAll; exact List.mem_cons_of_mem _ (List.mem_append_right _ m))
  refine ⟨by rw [upd_same, List.map_append]; rfl, fall_snoc (fall_imp W.r fun r d m q => ?_) ⟨by rw [upd_ne nra]; exact hra, [], by rw [upd_ne nda]; exact hda, Nat.zero_le _, fun c => by rw [hp]; rfl⟩, ?_, same_put W.sm (W.fr _ (by simp [waAll])), fun a m => ?_⟩
  · obtain ⟨p1, kvs, p2, p3⟩ := q
    refine ⟨?_, kvs, ?_, p3⟩
    · rw [upd_ne fun z => n1 (by rw [← z]; exact List.mem_map_of_mem m)]
      exact p1
    · rw [upd_ne fun z => n2 (by rw [← z]; exact List.mem_map_of_mem m)]
      exact p2
  · unfold waAll
    rw [List.map_append, List.map_append]
    rw [List.nodup_cons, List.nodup_append]
    refine ⟨fun m => ?_, nodup_snoc n3 q1, nodup_snoc n4 q4, fun a ma b mb z => ?_⟩
    · rcases List.mem_append.mp m with m | m
      · rcases List.mem_append.mp m with m | m
        · exact n1 m
        · simp at m; exact nra m.symm
      · rcases List.mem_append.mp m with m | m
        · exact n2 m
        · simp at m; exact nda m.symm
    · subst z
      rcases List.mem_append.mp ma with ma | ma
      · rcases List.mem_append.mp mb with mb | mb
        · exact n5 a ma mb
        · simp at mb
          rw [mb] at ma
          exact q3 ma
      · simp at ma
        rcases List.mem_append.mp mb with mb | mb
        · rw [ma] at mb
          exact q2 mb
        · simp at mb
          exact nrd (ma.symm.trans mb)
  · unfold waAll at m
    rw [List.map_append, List.map_append] at m
    rcases List.mem_cons.mp m with m | m
    · exact W.fr a (by simp [waAll, m])
    · rcases List.mem_append.mp m with m | m
      · rcases List.mem_append.mp m with m | m
        · exact W.fr a (by unfold waAll; exact List.mem_cons_of_mem _ (List.mem_append_left _ m))
        · simp at m; rw [m]; exact fr
      · rcases List.mem_append.mp m with m | m
        · exact W.fr a (by unfold waAll; exact List.mem_cons_of_mem _ (List.mem_append_right _ m))
        · simp at m; rw [m]; exact fd
end

end
end K47
namespace K47
open PySem PySem.Spec PyProof.Rows L2
open PySem.W (Frag)
section
variable {w : World} {K : Frag} {mg : Str → Option Value} {base : Heap}
/-! the world by its parts -/
def pick {α : Type} (a b : α) : Bool → α
  | false => a
  | true => b
def rA (c : LC) : Bool → Addr := pick c.r1 c.r2
def eA (c : LC) : Bool → Addr := pick c.e1 c.e2
def dA (c : LC) : Bool → Addr := pick c.d1 c.d2
def CA (K : Frag) : Bool → Addr := pick (He.ga K "Runtime") (He.ga K "PlainRuntime")
theorem CA_or (s : Bool) : CA K s = He.ga K "Runtime" ∨ CA K s = He.ga K "PlainRuntime" := by
  cases s
  · exact .inl rfl
  · exact .inr rfl
def setS {α : Type} (f : Bool → α) (s : Bool) (y : α) : Bool → α := fun s' => if s' = s then y else f s'
abbrev mkC (c : LC) (x1 x2 : EA) (rows : List (Addr × Addr)) (nn : Bool → List Nd) (ff : Bool → List V) (nw : List Nd) : LC := { c with x1 := x1, x2 := x2, rows := rows, n1 := nn false, n2 := nn true, nw := nw, f1 := ff false, f2 := ff true }
/-- the world: c tells where things stand, G what else is to stay -/
def LP (K : Frag) (G H : Hp) (c : LC) (nn : Bool → List Nd) (ff : Bool → List V) (nw : List Nd) : Prop :=
  ∃ x1 x2 rows, LS K H (mkC c x1 x2 rows nn ff nw) ∧ Same G H ∧ G c.b = none ∧ (∀ a ∈ x1.all c.e1, G a = none) ∧ (∀ a ∈ x2.all c.e2, G a = none) ∧ ∀ a ∈ waAll c.w rows, G a = none
section
variable {G H H' : Hp} {c : LC} {nn : Bool → List Nd} {ff : Bool → List V} {nw : List Nd}
theorem LP.mono (L : LP K G H c nn ff nw) (s : Same H H') : LP K G H' c nn ff nw := by
  obtain ⟨x1, x2, rows, S, g, gb, g1, g2, gw⟩ := L
  exact ⟨x1, x2, rows, S.mono s, g.trans s, gb, g1, g2, gw⟩
theorem LP.less {G0 : Hp} (L : LP K G H c nn ff nw) (s : Same G0 G) : LP K G0 H c nn ff nw := by
  obtain ⟨x1, x2, rows, S, g, gb, g1, g2, gw⟩ := L
  exact ⟨x1, x2, rows, S, s.trans g, s.free gb, fun a m => s.free (g1 a m), fun a m => s.free (g2 a m), fun a m => s.free (gw a m)⟩
theorem LP.g (L : LP K G H c nn ff nw) : Same G H := by
  obtain ⟨x1, x2, rows, S, g, _⟩ := L
  exact g
/-- one more thing to stay -/
theorem LP.add {p : Addr} (L : LP K G H c nn ff nw) (n : H p = none) (o : HO) : LP K (upd G p o) (upd H p o) c nn ff nw := by
  obtain ⟨x1, x2, rows, S, g, gb, g1, g2, gw⟩ := L
  have ne : ∀ {a : Addr}, (∃ u, H a = some u) → a ≠ p := fun h z => by
    obtain ⟨u, q⟩ := h
    rw [z, n] at q
    cases q
  obtain ⟨k, hk⟩ := S.hb
  refine ⟨x1, x2, rows, S.mono (same_upd n), fun a u q => ?_, by rw [upd_ne (ne ⟨_, hk⟩)]; exact gb, fun a m => by rw [upd_ne (ne (S.h1 a m))]; exact g1 a m, fun a m => by rw [upd_ne (ne (S.h2 a m))]; exact g2 a m, fun a m => by rw [upd_ne (ne (S.hw a m))]; exact gw a m⟩
  by_cases z : a = p
  · rw [z, upd_same] at q ⊢
    exact q
  · rw [upd_ne z] at q ⊢
    exact g a u q
theorem LP.add2 {p : Addr} (L : LP K G H c nn ff nw) (n : H p = none) (s : Same H H') {o : HO} (h : H' p = some o) : LP K (upd G p o) H' c nn ff nw := by
  refine (L.add n o).mono fun a u q => ?_
  by_cases z : a = p
  · rw [z, upd_same] at q
    cases q
    rw [z]
    exact h
  · rw [upd_ne z] at q
    exact s a u q
theorem LP.hrl (L : LP K G H c nn ff nw) : H c.rl = some (.lst [.ref c.r1, .ref c.r2]) := by
  obtain ⟨x1, x2, rows, S, _⟩ := L
  exact S.hrl
theorem LP.hld (L : LP K G H c nn ff nw) : H c.ld = some (.lst c.dfs) := by
  obtain ⟨x1, x2, rows, S, _⟩ := L
  exact S.hld
theorem hide_g {F : List Addr} (g : Same G H) (f : ∀ a ∈ F, G a = none) : Same G (hide H F) := same_hide g f
theorem LP.bx (L : LP K G H c nn ff nw) : ∃ B, BoxAt B H c.b c.rw c.row ∧ ∀ H', BoxAt B H' c.b c.rw c.row → LP K G H' c nn ff nw := by
  obtain ⟨x1, x2, rows, S, g, gb, g1, g2, gw⟩ := L
  refine ⟨_, S.box, fun H' X => ⟨x1, x2, rows, S.boxed X, ?_, gb, g1, g2, gw⟩⟩
  exact (hide_g g fun a m => by
    simp only [List.mem_cons, List.not_mem_nil, or_false] at m
    rw [m]
    exact gb).trans X.sm
theorem LP.rt (L : LP K G H c nn ff nw) (s : Bool) : ∃ x B, RtAt K (CA K s) B H (rA c s) (dA c s) (eA c s) x (nn s) (ff s) ∧ ∀ H' x' nds dfs, En K B H' (eA c s) x' nds dfs → LP K G H' c (setS nn s nds) (setS ff s dfs) nw := by
  obtain ⟨x1, x2, rows, S, g, gb, g1, g2, gw⟩ := L
  cases s with
  | false =>
    refine ⟨x1, _, S.rt1, fun H' x' nds dfs N => ⟨x', x2, rows, S.set1 N, (hide_g g g1).trans N.sm, gb, fun a m => (hide_g g g1).free (N.fr a m), g2, gw⟩⟩
  | true =>
    refine ⟨x2, _, S.rt2, fun H' x' nds dfs N => ⟨x1, x', rows, S.set2 N, (hide_g g g2).trans N.sm, gb, g1, fun a m => (hide_g g g2).free (N.fr a m), gw⟩⟩
theorem LP.ww (L : LP K G H c nn ff nw) : ∃ rows B, WA B H c.w rows nw ∧ B = hide H (waAll c.w rows) ∧ ∀ H' rows' nds, WA B H' c.w rows' nds → LP K G H' c nn ff nds := by
  obtain ⟨x1, x2, rows, S, g, gb, g1, g2, gw⟩ := L
  exact ⟨rows, _, S.wa, rfl, fun H' rows' nds W => ⟨x1, x2, rows', S.setw W, (hide_g g gw).trans W.sm, gb, g1, g2, fun a m => (hide_g g gw).free (W.fr a m)⟩⟩
end
/-- both as one -/
def two {α : Type} (y : α) : Bool → α := fun _ => y
/-- the first i of the two are new -/
def upTo {α : Type} (new old : α) (i : Nat) : Bool → α := fun s => if (pick 0 1 s : Nat) < i then new else old
theorem upTo0 {α : Type} (new old : α) : upTo new old 0 = two old := by
  funext s
  cases s <;> rfl
theorem upTo2 {α : Type} (new old : α) : upTo new old 2 = two new := by
  funext s
  cases s <;> rfl
theorem upTo_at {α : Type} (new old : α) (s : Bool) : upTo new old (pick 0 1 s) s = old := by
  cases s <;> rfl
theorem upTo_set {α : Type} (new old : α) (s : Bool) : setS (upTo new old (pick 0 1 s)) s new = upTo new old (pick 0 1 s + 1) := by
  funext s'
  cases s <;> cases s' <;> rfl
theorem setS_same {α : Type} (f : Bool → α) (s : Bool) : setS f s (f s) = f := by
  funext s'
  unfold setS
  split
  · rename_i e
    rw [e]
  · rfl
/-- an item of the list of runtimes -/
theorem rt_item {c : LC} {i : Nat} {x : V} (h : ([.ref c.r1, .ref c.r2] : List V)[i]? = some x) : ∃ s : Bool, i = pick 0 1 s ∧ x = .ref (rA c s) := by
  cases i with
  | zero =>
    cases h
    exact ⟨false, rfl, rfl⟩
  | succ i =>
    cases i with
    | zero =>
      cases h
      exact ⟨true, rfl, rfl⟩
    | succ i => cases h

end
end K47
namespace K47
open PySem PySem.Spec PyProof.Rows L2
open PySem.W (Frag)
section
variable {w : World} {K : Frag} {mg : Str → Option Value} {base : Heap}
section
variable {G H H' : Hp} {c : LC} {nn : Bool → List Nd} {ff : Bool → List V} {nw : List Nd}
/-- a store to a thing that stays -/
theorem LS.put {D : Addr} {u o : HO} (L : LS K H c) (hD : H D = some u) (nt : ∀ t, u ≠ .tup t) (n1 : D ∉ c.x1.all c.e1) (n2 : D ∉ c.x2.all c.e2) (n3 : D ∉ waAll c.w c.rows) (n4 : D ∉ c.cs) : LS K (upd H D o) c := by
  have s : Same (hide H [D]) (upd H D o) := fun a v q => by
    have na : a ∉ [D] := fun m => by rw [hide_in m] at q; cases q
    rw [hide_out na] at q
    rw [upd_ne (by simpa using na)]
    exact q
  have ft : ∀ a ∈ [D], ∀ t, H a ≠ some (.tup t) := fun a m t z => by
    simp only [List.mem_cons, List.not_mem_nil, or_false] at m
    rw [m, hD] at z
    cases z
    exact nt t rfl
  have nd : ∀ {F : List Addr}, D ∉ F → ∀ a ∈ F, a ∉ [D] := fun h a m m' => by
    simp only [List.mem_cons, List.not_mem_nil, or_false] at m'
    exact h (m' ▸ m)
  have g : ∀ {a : Addr} {v : HO}, a ∈ c.cs → H a = some v → upd H D o a = some v := fun m h => kp s (nd n4 _ m) h
  obtain ⟨k, hk⟩ := L.hb
  exact ⟨⟨k, g (by simp [LC.cs]) hk⟩, g (by simp [LC.cs]) L.hrw, g (by simp [LC.cs]) L.hrl, g (by simp [LC.cs]) L.hld, g (by simp [LC.cs]) L.hr1, g (by simp [LC.cs]) L.hr2, L.m1.kp s ft (nd n1), L.m2.kp s ft (nd n2), L.wa.kp s (nd n3), L.c1, L.c2, L.cw, L.d12, L.d1w, L.d2w, L.db⟩
theorem LP.put {D : Addr} {u o : HO} (L : LP K G H c nn ff nw) (hD : G D = some u) (nt : ∀ t, u ≠ .tup t) (n4 : D ∉ c.cs) : LP K (upd G D o) (upd H D o) c nn ff nw := by
  obtain ⟨x1, x2, rows, S, g, gb, g1, g2, gw⟩ := L
  have ne : ∀ {F : List Addr}, (∀ a ∈ F, G a = none) → D ∉ F := fun h m => by
    rw [h D m] at hD
    cases hD
  have ne2 : ∀ {F : List Addr}, (∀ a ∈ F, G a = none) → ∀ a ∈ F, upd G D o a = none := fun {F} h a m => by
    rw [upd_ne fun z => ne h (by rw [← z]; exact m)]
    exact h a m
  refine ⟨x1, x2, rows, S.put (g _ _ hD) nt (ne g1) (ne g2) (ne gw) n4, fun a v q => ?_, ?_, ne2 g1, ne2 g2, ne2 gw⟩
  · by_cases z : a = D
    · rw [z, upd_same] at q ⊢
      exact q
    · rw [upd_ne z] at q ⊢
      exact g a v q
  · rw [upd_ne fun z => by rw [← z, gb] at hD; cases hD]
    exact gb
/-- the defaults -/
theorem LP.setld {D : Addr} {dfs : List V} (L : LP K G H c nn ff nw) (hD : G D = some (.lst dfs)) : LP K G H { c with ld := D, dfs := dfs } nn ff nw := by
  obtain ⟨x1, x2, rows, S, g, gb, g1, g2, gw⟩ := L
  have ne : ∀ {F : List Addr}, (∀ a ∈ F, G a = none) → D ∉ F := fun h m => by
    rw [h D m] at hD
    cases hD
  have nb : c.b ≠ D := fun z => by rw [← z, gb] at hD; cases hD
  have nc : ∀ {F : List Addr}, (∀ a ∈ (mkC c x1 x2 rows nn ff nw).cs, a ∉ F) → D ∉ F → ∀ a ∈ (mkC { c with ld := D, dfs := dfs } x1 x2 rows nn ff nw).cs, a ∉ F := fun {F} h n a m => by
    simp only [LC.cs, List.mem_cons, List.not_mem_nil, or_false] at m h
    rcases m with m | m | m | m | m | m
    · exact h a (.inl m)
    · exact h a (.inr (.inl m))
    · exact h a (.inr (.inr (.inl m)))
    · rw [m]; exact n
    · exact h a (.inr (.inr (.inr (.inr (.inl m)))))
    · exact h a (.inr (.inr (.inr (.inr (.inr m)))))
  refine ⟨x1, x2, rows, ⟨S.hb, S.hrw, S.hrl, g _ _ hD, S.hr1, S.hr2, S.m1, S.m2, S.wa, nc S.c1 (ne g1), nc S.c2 (ne g2), nc S.cw (ne gw), S.d12, S.d1w, S.d2w, ?_⟩, g, gb, g1, g2, gw⟩
  have q := S.db
  simp only [List.mem_cons, List.not_mem_nil, or_false, not_or] at q ⊢
  exact ⟨q.1, q.2.1, nb, q.2.2.2.1, q.2.2.2.2⟩
/-- the rows begin -/
theorem LP.neww {w ra da : Addr} (L : LP K G H c nn ff nw) (s : Same H H') (nwn : H w = none) (nr : H ra = none) (nd : H da = none) (hw : H' w = some (.lst [.ref ra])) (hr : H' ra = some (.lst [.non, .ref da, .bl true])) (hd : H' da = some (.dK [])) (n : w ≠ ra) :
    LP K G H' { c with w := w } nn ff [root] := by
  obtain ⟨x1, x2, rows, S, g, gb, g1, g2, gw⟩ := L
  have S' := S.mono s
  have none3 : ∀ a ∈ waAll w [(ra, da)], H a = none := fun a m => by
    unfold waAll at m
    simp only [List.map_cons, List.map_nil, List.mem_cons, List.mem_append, List.not_mem_nil, or_false] at m
    rcases m with m | m | m
    · rw [m]; exact nwn
    · rw [m]; exact nr
    · rw [m]; exact nd
  have out : ∀ {F : List Addr}, (∀ a ∈ F, ∃ o, H a = some o) → ∀ a ∈ F, a ∉ waAll w [(ra, da)] := fun h a m m' => by
    obtain ⟨o, q⟩ := h a m
    rw [none3 a m'] at q
    cases q
  have nwd : w ≠ da := fun z => by rw [z, hd] at hw; cases hw
  have nrd : ra ≠ da := fun z => by rw [z, hd] at hr; cases hr
  refine ⟨x1, x2, [(ra, da)], ⟨S'.hb, S'.hrw, S'.hrl, S'.hld, S'.hr1, S'.hr2, S'.m1, S'.m2, ?_, S.c1, S.c2, out S.hcs, S.d12, out S.h1, out S.h2, S.db⟩, g.trans s, gb, g1, g2, fun a m => g.free (none3 a m)⟩
  refine ⟨hw, .cons ⟨hr, [], hd, Nat.le_refl _, fun c => rfl⟩ .nil, ?_, hide_same _ _, fun a m => hide_in m⟩
  show (w :: [ra, da]).Nodup
  simp [n, nwd, nrd]
/-- a tuple is to stay -/
theorem LP.addT {t : Addr} {ts : List V} (L : LP K G H c nn ff nw) (h : H t = some (.tup ts)) : LP K (upd G t (.tup ts)) H c nn ff nw := by
  obtain ⟨x1, x2, rows, S, g, gb, g1, g2, gw⟩ := L
  obtain ⟨k, hk⟩ := S.hb
  have ne : ∀ {F : List Addr}, (∀ a ∈ F, ∀ z, H a ≠ some (.tup z)) → (∀ a ∈ F, G a = none) → ∀ a ∈ F, upd G t (.tup ts) a = none := fun {F} f h2 a m => by
    rw [upd_ne fun z => f a m ts (by rw [z]; exact h)]
    exact h2 a m
  refine ⟨x1, x2, rows, S, fun a u q => ?_, ?_, ne S.m1.ft g1, ne S.m2.ft g2, ne S.wa.ft gw⟩
  · by_cases z : a = t
    · rw [z, upd_same] at q
      rw [z]
      exact h.trans q
    · rw [upd_ne z] at q
      exact g a u q
  · rw [upd_ne fun z => by rw [← z, hk] at h; cases h]
    exact gb
end
abbrev cAt (b rwA rl r1 d1 e1 r2 d2 e2 l : Addr) (row : List Int) (x1 x2 : EA) : LC := ⟨b, rwA, rl, rl, r1, d1, e1, r2, d2, e2, row, l, [], x1, x2, [root], [root], [], [], [], [.ref r1, .ref r2]⟩
theorem lp_start {Hb H2 H3 : Hp} {b rwA rl r1 d1 e1 r2 d2 e2 l : Addr} {row : List Int} {x1 x2 : EA} (hb : Hb b = some (.lst [.ref rwA, .int 0])) (hrw : Hb rwA = some (.lst (row.map V.int))) (nbr : b ≠ rwA)
    (hr1 : H2 r1 = some (Ins (He.ga K "Runtime") d1 rtNs [.ref e1])) (N1 : En K (hide H2 (x1.all e1)) H2 e1 x1 [root] []) (sm1 : Same Hb H2) (fr1 : ∀ a ∈ x1.all e1, Hb a = none ∧ a ≠ r1) (nr1 : Hb r1 = none)
    (hl : H2 l = some (.lst [])) (nl : l ∉ x1.all e1) (nlr : l ≠ r1) (bl : Hb l = none)
    (hr2 : H3 r2 = some (Ins (He.ga K "PlainRuntime") d2 rtNs [.ref e2])) (N2 : En K (hide H3 (x2.all e2)) H3 e2 x2 [root] []) (sm2 : Same H2 H3) (fr2 : ∀ a ∈ x2.all e2, H2 a = none ∧ a ≠ r2) (nr2 : H2 r2 = none) (nrl : H3 rl = none) :
    LP K (fun _ => none) (upd H3 rl (.lst [.ref r1, .ref r2])) (cAt b rwA rl r1 d1 e1 r2 d2 e2 l row x1 x2) (two [root]) (two []) [] := by
  have s4 := same_upd (o := .lst [.ref r1, .ref r2]) nrl
  have s24 := sm2.trans s4
  have s14 := sm1.trans s24
  have in1 : ∀ a ∈ x1.all e1, ∃ o, H2 a = some o := fun a m => let ⟨o, h, _⟩ := N1.has m; ⟨o, h⟩
  have in2 : ∀ a ∈ x2.all e2, ∃ o, H3 a = some o := fun a m => let ⟨o, h, _⟩ := N2.has m; ⟨o, h⟩
  have ne : ∀ {X : Hp} {a z : Addr} {o : HO}, X a = some o → X z = none → a ≠ z := fun h n => ne_of_none h n
  have rl2 : H2 rl = none := sm2.free nrl
  have rlb : Hb rl = none := sm1.free rl2
  refine ⟨x1, x2, [], ⟨⟨0, s14 _ _ hb⟩, s14 _ _ hrw, upd_same, upd_same, s24 _ _ hr1, s4 _ _ hr2, (N1.mono s24).hide, (N2.mono s4).hide, ⟨s24 _ _ hl, .nil, by simp [waAll], hide_same _ _, fun a m => hide_in m⟩, ?_, ?_, ?_, ?_, ?_, ?_, ?_⟩, (fun a o q => by cases q), rfl, (fun a m => rfl), (fun a m => rfl), fun a m => rfl⟩
  · intro a m m'
    simp only [LC.cs, List.mem_cons, List.not_mem_nil, or_false] at m
    obtain ⟨o, ho⟩ := in1 a m'
    rcases m with m | m | m | m | m | m
    · rw [m] at m'; have := (fr1 _ m').1; rw [hb] at this; cases this
    · rw [m] at m'; have := (fr1 _ m').1; rw [hrw] at this; cases this
    · rw [m, rl2] at ho; cases ho
    · rw [m, rl2] at ho; cases ho
    · exact (fr1 _ m').2 m
    · rw [m, nr2] at ho; cases ho
  · intro a m m'
    simp only [LC.cs, List.mem_cons, List.not_mem_nil, or_false] at m
    obtain ⟨o, ho⟩ := in2 a m'
    have h2 := (fr2 _ m').1
    rcases m with m | m | m | m | m | m
    · rw [m, sm1 _ _ hb] at h2; cases h2
    · rw [m, sm1 _ _ hrw] at h2; cases h2
    · rw [m, nrl] at ho; cases ho
    · rw [m, nrl] at ho; cases ho
    · rw [m, hr1] at h2; cases h2
    · exact (fr2 _ m').2 m
  · intro a m m'
    simp only [LC.cs, List.mem_cons, List.not_mem_nil, or_false] at m
    have e : a = l := by simpa [waAll] using m'
    rcases m with m | m | m | m | m | m
    · rw [← e, m, hb] at bl; cases bl
    · rw [← e, m, hrw] at bl; cases bl
    · rw [← e, m, rl2] at hl; cases hl
    · rw [← e, m, rl2] at hl; cases hl
    · exact nlr (e.symm.trans m)
    · rw [← e, m, nr2] at hl; cases hl
  · intro a m m'
    obtain ⟨o, ho⟩ := in1 a m
    rw [(fr2 _ m').1] at ho
    cases ho
  · intro a m m'
    have e : a = l := by simpa [waAll] using m'
    exact nl (e ▸ m)
  · intro a m m'
    have e : a = l := by simpa [waAll] using m'
    have := (fr2 _ m).1
    rw [e, hl] at this
    cases this
  · simp only [List.mem_cons, List.not_mem_nil, or_false, not_or]
    exact ⟨nbr, ne hb rlb, ne hb rlb, ne hb nr1, ne (sm1 _ _ hb) nr2⟩
/-- a def of the text, one function object for every base -/
theorem Txt.fnU {P : Program} {D : Type} {CX : CXT} {N ps : List Str} {k : Nat} {args : D → List V} {body : D → Hp → VK → XK → Prop} (T : Txt w K mg) (i : Nat) (d : He.DefD) (hd : K47.fn[i]? = some d) (h0 : d.dfl = []) (S : FnScope N ps d.scope)
    (hb : ∀ (kV doc pm : Value) (an : Option Addr) (cdv ct : Value) (us : List Value), us.length = ps.length → bindArgs (PySem.W.fnOf d.name d.qual d.params d.body d.scope .none kV doc pm an cdv ct) ⟨us, []⟩ = pure (ps.zip us))
    (len : ∀ x, (args x).length = ps.length)
    (hbody : ∀ (base : Heap) (cdv : Value) (A : Around) (outer : List Env) (s : Shared) (H : Hp) (x : D) (Q : VK) (E : XK), Room k (A.deeper (envOfC d.qual d.scope s.heap.objs.size (He.fAd K d.at_) cdv)) → body x H Q E →
      ∃ t, PSs (cxOf CX P w K mg base N d.qual d.scope (He.fAd K d.at_) cdv A outer s H E) d.body t ∧ t { nx := fun _ H' => Q .non H', rt := Q } (start N (args x)) H) :
    ∃ fd : FuncData, (∀ (s : Shared) (us : List Value), us.length = ps.length → BindsTo s fd ⟨us, []⟩ (ps.zip us)) ∧ ∀ base : Heap, FnOk P w K mg base CX (k + 1) (He.fAd K d.at_) fd ps (SpX args body) := by
  obtain ⟨fd, F⟩ := T.t.d.def_ i (d := d) hd
  have e : d.dvs K = [] := by
    unfold He.DefD.dvs
    rw [h0]
    rfl
  rw [e] at F
  refine ⟨fd, fun s us hl => F.bindsA hb s us hl, fun base => F.ok S (fun vs H Q E ⟨x, e, _⟩ => by rw [e]; exact len x) fun cdv A outer s H vs Q E hr ⟨x, e, h⟩ => ?_⟩
  subst e
  exact hbody base cdv A outer s H x Q E hr h

end
end K47
namespace K47
open PySem PySem.Spec PyProof.Rows L2
open PySem.W (Frag)
section
variable {w : World} {K : Frag} {mg : Str → Option Value} {base : Heap}
theorem ps_imp {X : Cx} {st : Stmt} {t t2 : TS} (h : PS X st t) (i : ∀ D σ H, t2 D σ H → t D σ H) : PS X st t2 := ⟨fun pins s σ H D I q => h.run pins s σ H D I (i D σ H q)⟩
/-- the frame's slots -/
abbrev fr (c : LC) (u0 u4 u5 u6 u7 u8 u9 u10 u11 u12 u13 u14 : Option V) : L2.St := [u0, some (.ref c.b), some (.ref c.rl), some (.ref c.ld), u4, u5, u6, u7, u8, u9, u10, u11, u12, u13, u14]
/-- the contexts are told to both -/
def sCtx (K : Frag) : TS := fun D σ H => ∃ (G : Hp) (c : LC) (u0 u4 u5 u6 u7 u8 u9 u10 u11 u12 u13 u14 : Option V), LP K G H c (two [root]) (two []) [] ∧ c.dfs.length ≤ 3 ∧ (∀ v ∈ c.dfs, Flat v) ∧ σ = fr c u0 u4 u5 u6 u7 u8 u9 u10 u11 u12 u13 u14 ∧
  ∀ H' u4 u7, LP K G H' c (two [root]) (two c.dfs) [] → D.nx (fr c u0 u4 u5 u6 u7 u8 u9 u10 u11 u12 u13 u14) H'
/-- the kind of the node that comes when so many stand -/
def kindAt (k : Nat) : Str := if (k + 1) % 2 = 0 then "scope" else "boundary"
def sMake (K : Frag) : TS := fun D σ H => ∃ (G : Hp) (c : LC) (nds : List Nd) (dfs : List V) (n : Nat) (d : Nd) (u0 u4 u6 u7 u9 u10 u11 u12 u13 u14 : Option V),
  LP K G H c (two nds) (two dfs) (nds ++ [⟨kindAt nds.length, some n, true, []⟩]) ∧ WfN nds ∧ KindOk nds ∧ nds.length < 9 ∧ nds[n]? = some d ∧ d.act = true ∧ σ = fr c u0 u4 (some (.ref c.w)) u6 u7 (some (.int n)) u9 u10 u11 u12 u13 u14 ∧
  ∀ H' u4 u13, LP K G H' c (two (nds ++ [⟨kindAt nds.length, some n, true, []⟩])) (two dfs) (nds ++ [⟨kindAt nds.length, some n, true, []⟩]) → D.nx (fr c u0 u4 (some (.ref c.w)) u6 u7 (some (.int n)) u9 u10 u11 u12 u13 u14) H'
def sDisp (K : Frag) : TS := fun D σ H => ∃ (G : Hp) (c : LC) (nds nw : List Nd) (dfs : List V) (n : Nat) (d : Nd) (u0 u4 u6 u7 u9 u10 u11 u12 u13 u14 : Option V),
  LP K G H c (two nds) (two dfs) nw ∧ WfN nds ∧ KindOk nds ∧ nds.length ≤ 9 ∧ nds[n]? = some d ∧ 0 < n ∧ σ = fr c u0 u4 (some (.ref c.w)) u6 u7 (some (.int n)) u9 u10 u11 u12 u13 u14 ∧
  ∀ H' u4, LP K G H' c (two (if d.act = true then offb nds fun i => decide (i ∈ dfn nds n nds.length) else nds)) (two dfs) nw → D.nx (fr c u0 u4 (some (.ref c.w)) u6 u7 (some (.int n)) u9 u10 u11 u12 u13 u14) H'
def provN (nds : List Nd) (n : Nat) (d : Nd) (c : Nat) (v : V) : List Nd := if d.act = true then (if kid nds n = true then nds else nds.set n { d with prov := (c, v) :: d.prov }) else nds
def provR (nds : List Nd) (n : Nat) (d : Nd) : HO := if d.act = true then (if kid nds n = true then erT "too late" else okT .non) else erT "disposed"
def sProv (K : Frag) : TS := fun D σ H => ∃ (G : Hp) (c : LC) (nds nw : List Nd) (dfs : List V) (n : Nat) (d : Nd) (cc : Nat) (v : V) (t : Addr) (u0 u4 u6 u7 u10 u12 u13 : Option V),
  LP K G H c (two nds) (two dfs) nw ∧ WfN nds ∧ KindOk nds ∧ nds.length ≤ 9 ∧ nds[n]? = some d ∧ d.prov.length < 100 ∧ cc < dfs.length ∧ Flat v ∧ G t = some (provR nds n d) ∧ σ = fr c u0 u4 (some (.ref c.w)) u6 u7 (some (.int n)) (some (.int cc)) u10 (some v) u12 u13 (some (.ref t)) ∧
  ∀ H' u4, LP K G H' c (two (provN nds n d cc v)) (two dfs) nw → D.nx (fr c u0 u4 (some (.ref c.w)) u6 u7 (some (.int n)) (some (.int cc)) u10 (some v) u12 u13 (some (.ref t))) H'
def sTail (K : Frag) : TS := fun D σ H => ∃ (G : Hp) (c : LC) (nds : List Nd) (n : Nat) (d : Nd) (cc : Nat) (v : V) (u0 u4 u6 u7 u10 u11 u12 u13 u14 : Option V),
  LP K G H c (two nds) (two c.dfs) nds ∧ WfN nds ∧ KindOk nds ∧ nds.length ≤ 9 ∧ nds[n]? = some d ∧ cc < c.dfs.length ∧ CtxV nds c.dfs cc (some n) v ∧ Flat v ∧ σ = fr c u0 u4 (some (.ref c.w)) u6 u7 (some (.int n)) (some (.int cc)) u10 u11 u12 u13 u14 ∧
  ∀ H' u4 u12, LP K G H' c (two nds) (two c.dfs) nds → D.nx (fr c u0 u4 (some (.ref c.w)) u6 u7 (some (.int n)) (some (.int cc)) u10 u11 u12 u13 u14) H'
/-- one turn's deed -/
def sMid (K : Frag) : TS := fun D σ H => ∃ (G : Hp) (c : LC) (nds : List Nd) (n : Nat) (d : Nd) (cc : Nat) (v : V) (kd t : Nat) (u0 u4 u6 u7 u12 u13 u14 : Option V),
  LP K G H c (two nds) (two c.dfs) nds ∧ Tree nds t ∧ t ≤ 24 ∧ nds.length ≤ 9 ∧ nds[n]? = some d ∧ cc < c.dfs.length ∧ Flat v ∧ σ = fr c u0 u4 (some (.ref c.w)) u6 u7 (some (.int n)) (some (.int cc)) (some (.int kd)) (some v) u12 u13 u14 ∧
  ∀ H' nds' u4 u13 u14, LP K G H' c (two nds') (two c.dfs) nds' → Tree nds' (t + 1) → nds.length ≤ nds'.length → nds'.length ≤ 9 → D.nx (fr c u0 u4 (some (.ref c.w)) u6 u7 (some (.int n)) (some (.int cc)) (some (.int kd)) (some v) u12 u13 u14) H'
def sMid1 (K : Frag) : TS := sMid K
def sMid2 (K : Frag) : TS := sMid K
def sMid3 (K : Frag) : TS := sMid K
theorem sc_law : FnScope ["_law_script", "_law_box", "_law_runtimes", "_law_defaults", "_law_rt", "_law_w", "_law_turn", "_law_k", "_law_n", "_law_c", "_law_kind", "_law_value_here", "_law_name", "_law_told", "_law_due"] ["_law_script"] (defScope s_law) := ⟨rfl, rfl, rfl, by decide +kernel, rfl, by decide +kernel, by decide +kernel⟩
def sp_law (K : Frag) : Sp := SpX (fun x : Addr × List Int => [.ref x.1]) fun ⟨a, ns⟩ H Q E => SqL K H a (ns.map V.int) ∧ (∀ H', Same H H' → SqL K H' a (ns.map V.int)) ∧ ∀ H', Q (.bl true) H'
theorem setS_setS {α : Type} (f : Bool → α) (s : Bool) (a b : α) : setS (setS f s a) s b = setS f s b := by
  funext s'
  unfold setS
  split <;> rfl
theorem two_set {α : Type} (y : α) (s : Bool) : setS (two y) s y = two y := by
  funext s'
  unfold setS two
  split <;> rfl
theorem law_ok (T : Txt w K mg) : ∃ fd : FuncData, (∀ (s : Shared) (us : List Value), us.length = 1 → BindsTo s fd ⟨us, []⟩ ((["_law_script"] : List Str).zip us)) ∧ ∀ base : Heap, FnOk prog w K mg base CX0 14 (He.ga K "law") fd ["_law_script"] (sp_law K) :=
  Txt.fnU T 52 d_law rfl rfl sc_law (fun _ _ _ _ _ _ us hl => match us, hl with | [_], _ => rfl) (fun _ => rfl)
  fun base cdv A outer s H ⟨a, ns⟩ Q E hr ⟨ha, hS, h⟩ => by
  refine ⟨_, (pss_cons (ps_set (i := 1) sc_law.nd rfl (.inr rfl) (pe_lst (pa_cons (pe_fn (f__law_row T) hr (by decide) T.g__law_row passS0 (pa_cons (pv 0) (pa_cons pe_int (pa_cons pe_int pa_nil)))) (pa_cons pe_int pa_nil))))
    (pss_cons (ps_set (i := 2) sc_law.nd rfl (.inl rfl) (pe_lst (pa_cons (pe_mk0 T.rt1.k (f_Runtime_init T T.rt1) hr (by decide) T.g_Runtime passS0) (pa_cons (pe_mk0 T.rt2.k (f_Runtime_init T T.rt2) hr (by decide) T.g_PlainRuntime passS0) pa_nil))))
    (pss_cons (ps_setLc (i := 3) (own := [("_law_k", 7)]) (g := gName 7) rfl sc_law.nd rfl rfl (sw_true rfl rfl rfl (by decide +kernel)) (pi_range1 (by rfl) T.b_range (pa_cons (pe_op op_add pe_int (pe_fn (f__law_draw T) hr (by decide) T.g__law_draw passS0 (pa_cons (pv 1) (pa_cons pe_int pa_nil)))) pa_nil)) (blkOk_by (own := [("_law_k", 7)]) (N := ["_law_script", "_law_box", "_law_runtimes", "_law_defaults", "_law_rt", "_law_w", "_law_turn", "_law_k", "_law_n", "_law_c", "_law_kind", "_law_value_here", "_law_name", "_law_told", "_law_due"]) (sc := defScope s_law) (by decide +kernel)) (fun _ _ _ _ _ => (pg_name (i := 7) sc_law.nd rfl (.inl rfl))) (fun _ _ _ _ _ => pts_nil) (fun _ _ _ _ _ => (pe_fn (f__law_value T) hr (by decide) T.g__law_value passS0 (pa_cons (pv 1) pa_nil))))
    (pss_cons (ps_imp (t2 := sCtx K) (ps_for (passes_of rfl) rfl (pi_list (pv 2)) (pg_name (i := 4) sc_law.nd rfl (.inl rfl)) (pss_one (ps_for (passes_of rfl) rfl (pi_range1 (by rfl) T.b_range (pa_cons (pe_callB call_len_seq (by rfl) T.b_len (by decide +kernel) (pa_cons (pv 3) pa_nil)) pa_nil)) (pg_name (i := 7) sc_law.nd rfl (.inl rfl)) (pss_one (ps_if (pt_cmpR op_ne (pe_mtR (ns := rtNs) (sp := fun C => sp_Runtime_context K C) T.rt1.c T.rt2.c T.rt1.m_context T.rt2.m_context (by decide) (f_rt_context T) hr (by decide) passS0 (pv 4) (pa_cons (pe_ix ix_list (pv 3) (pv 7) (fun _ _ => rfl)) pa_nil)) (pv 7) (nomark _)) (pss_one (ps_ret pe_bl)) pss_nil))))) ?sCtx)
    (pss_cons (ps_set (i := 5) sc_law.nd rfl (.inl rfl) (pe_lst (pa_cons (pe_lst (pa_cons pe_non (pa_cons pe_dnewK (pa_cons pe_bl pa_nil)))) pa_nil)))
    (pss_cons (ps_for (passes_of rfl) rfl (pi_range1 (by rfl) T.b_range (pa_cons pe_int pa_nil)) (pg_name (i := 6) sc_law.nd rfl (.inl rfl)) (pss_cons (ps_set (i := 8) sc_law.nd rfl (.inl rfl) (pe_fn (f__law_draw T) hr (by decide) T.g__law_draw passS0 (pa_cons (pv 1) (pa_cons (pe_callB call_len_seq (by rfl) T.b_len (by decide +kernel) (pa_cons (pv 5) pa_nil)) pa_nil))))
      (pss_cons (ps_set (i := 9) sc_law.nd rfl (.inl rfl) (pe_fn (f__law_draw T) hr (by decide) T.g__law_draw passS0 (pa_cons (pv 1) (pa_cons (pe_callB call_len_seq (by rfl) T.b_len (by decide +kernel) (pa_cons (pv 3) pa_nil)) pa_nil))))
      (pss_cons (ps_set (i := 10) sc_law.nd rfl (.inl rfl) (pe_fn (f__law_draw T) hr (by decide) T.g__law_draw passS0 (pa_cons (pv 1) (pa_cons pe_int pa_nil))))
      (pss_cons (ps_set (i := 11) sc_law.nd rfl (.inl rfl) (pe_fn (f__law_value T) hr (by decide) T.g__law_value passS0 (pa_cons (pv 1) pa_nil)))
      (pss_cons (ps_imp (t2 := sMid1 K) (ps_if (PW.pt (pw_and (pt_cmpR op_eq (pv 10) pe_int (nomark _)) (pw_and (pt_cmpR op_lt (pe_callB call_len_seq (by rfl) T.b_len (by decide +kernel) (pa_cons (pv 5) pa_nil)) pe_int (nomark _)) (pw_and1 (pt_val (pe_ix ix_list (pe_ix ix_list (pv 5) (pv 8) (fun _ _ => rfl)) pe_int (fun _ _ => rfl))))))) (pss_cons (ps_expr (pe_bm PySem.F.plainAttrs_list PySem.F.slot_list_append PySem.F.type_list_append mt_append (pv 5) (pa_cons (pe_lst (pa_cons (pv 8) (pa_cons pe_dnewK (pa_cons pe_bl pa_nil)))) pa_nil)))
        (pss_one (ps_imp (t2 := sMake K) (ps_for (passes_of rfl) rfl (pi_list (pv 2)) (pg_name (i := 4) sc_law.nd rfl (.inl rfl)) (pss_cons (ps_set (i := 13) sc_law.nd rfl (.inl rfl) (pe_ifExp (pt_cmpR op_eq (pe_op op_mod (pe_callTy call_int1 (by rfl) T.b_int (by decide +kernel) (pa_cons (pe_callB call_len_seq (by rfl) T.b_len (by decide +kernel) (pa_cons (pv 5) pa_nil)) pa_nil)) pe_int) pe_int (nomark _)) (pe_mtR (ns := rtNs) (sp := fun C => sp_Runtime_scope K C) T.rt1.c T.rt2.c T.rt1.m_scope T.rt2.m_scope (by decide) (f_rt_scope T) hr (by decide) (passSX takes0) (pv 4) (pa_cons (pv 8) pa_nil)) (pe_mtR (ns := rtNs) (sp := fun C => sp_Runtime_boundary K C) T.rt1.c T.rt2.c T.rt1.m_boundary T.rt2.m_boundary (by decide) (f_rt_boundary T) hr (by decide) (passSX takes0) (pv 4) (pa_cons (pv 8) pa_nil))))
          (pss_one (ps_if (pt_cmpR op_ne (pv 13) (pe_op op_sub (pe_callB call_len_seq (by rfl) T.b_len (by decide +kernel) (pa_cons (pv 5) pa_nil)) pe_int) (nomark _)) (pss_one (ps_ret pe_bl)) pss_nil)))) ?sMake))) (pss_one (ps_imp (t2 := sMid2 K) (ps_if (PW.pt (pw_and (pt_cmpR op_eq (pv 10) pe_int (nomark _)) (pw_and (pt_cmpR op_gt (pv 8) pe_int (nomark _)) (pw_and1 (pt_cmpR op_eq (pe_fn (f__law_draw T) hr (by decide) T.g__law_draw passS0 (pa_cons (pv 1) (pa_cons pe_int pa_nil))) pe_int (nomark _)))))) (pss_cons (ps_expr (pe_fn (f__law_gone T) hr (by decide) T.g__law_gone passS0 (pa_cons (pv 5) (pa_cons (pv 8) pa_nil))))
          (pss_one (ps_imp (t2 := sDisp K) (ps_for (passes_of rfl) rfl (pi_list (pv 2)) (pg_name (i := 4) sc_law.nd rfl (.inl rfl)) (pss_one (ps_expr (pe_mtR (ns := rtNs) (sp := fun C => sp_Runtime_dispose K C) T.rt1.c T.rt2.c T.rt1.m_dispose T.rt2.m_dispose (by decide) (f_rt_dispose T) hr (by decide) (passSX takes0) (pv 4) (pa_cons (pv 8) pa_nil))))) ?sDisp))) (pss_one (ps_imp (t2 := sMid3 K) (ps_if (pt_cmpR op_lt (pv 10) pe_int (nomark _)) (pss_cons (ps_set (i := 14) sc_law.nd rfl (.inl rfl) (pe_fn (f__law_due_provide T) hr (by decide) T.g__law_due_provide passS0 (pa_cons (pv 5) (pa_cons (pv 8) (pa_cons (pv 9) (pa_cons (pv 11) pa_nil))))))
            (pss_one (ps_imp (t2 := sProv K) (ps_for (passes_of rfl) rfl (pi_list (pv 2)) (pg_name (i := 4) sc_law.nd rfl (.inl rfl)) (pss_one (ps_if (pt_not (pt_val (pe_fn (f__law_same1 T) hr (by decide) T.g__law_same passS0 (pa_cons (pe_fn (f__law_try T) hr (by decide) T.g__law_try passS0 (pa_cons (pv 4) (pa_cons pe_str (pa_cons (pe_lst (pa_cons (pv 8) (pa_cons (pv 9) (pa_cons (pv 11) pa_nil)))) pa_nil)))) (pa_cons (pv 14) pa_nil))))) (pss_one (ps_ret pe_bl)) pss_nil))) ?sProv))) pss_nil) ?sMid3))) ?sMid2))) ?sMid1)
      (pss_one (ps_imp (t2 := sTail K) (ps_for (passes_of rfl) rfl (pi_list (pv 2)) (pg_name (i := 4) sc_law.nd rfl (.inl rfl)) (pss_one (ps_for (passes_of rfl) rfl (pi_list (pe_lst (pa_cons pe_str (pa_cons pe_str pa_nil)))) (pg_name (i := 12) sc_law.nd rfl (.inl rfl)) (pss_one (ps_if (pt_not (pt_val (pe_fn (f__law_same1 T) hr (by decide) T.g__law_same passS0 (pa_cons (pe_fn (f__law_try T) hr (by decide) T.g__law_try passS0 (pa_cons (pv 4) (pa_cons (pv 12) (pa_cons (pe_lst (pa_cons (pv 8) (pa_cons (pv 9) pa_nil))) pa_nil)))) (pa_cons (pe_fn (f__law_due_use T) hr (by decide) T.g__law_due_use passS0 (pa_cons (pv 5) (pa_cons (pv 3) (pa_cons (pv 8) (pa_cons (pv 9) pa_nil))))) pa_nil))))) (pss_one (ps_ret pe_bl)) pss_nil))))) ?sTail))))))))
    (pss_one (ps_ret pe_bl)))))))), ?_⟩
  case sCtx =>
    rintro D σ H ⟨G, c, u0, u4, u5, u6, u7, u8, u9, u10, u11, u12, u13, u14, L, hl, hf, rfl, k⟩
    refine ⟨_, rfl, c.rl, rfl, ⟨_, SqL.of L.hrl⟩, ?_⟩
    refine for_list (xs := [.ref c.r1, .ref c.r2]) (fun i σ H' => (∃ u4 u7, σ = fr c u0 u4 u5 u6 u7 u8 u9 u10 u11 u12 u13 u14) ∧ LP K G H' c (two [root]) (upTo c.dfs [] i) []) ⟨⟨_, _, rfl⟩, by rw [upTo0]; exact L⟩ (fun i σ H' _ q => SqL.of q.2.hrl) (fun i x σ H' hx q => ?_) (fun σ H' q => ?_)
    · obtain ⟨⟨v4, v7, rfl⟩, L⟩ := q
      obtain ⟨s, rfl, rfl⟩ := rt_item hx
      refine ⟨_, rfl, _, _, rfl, .inl (SqL.of L.hld), _, rfl, by omega, by omega, ?_⟩
      refine for_range (lo := 0) (n := ((c.dfs.length : Nat) : Int).toNat) (fun k σ H' => (∃ u7, σ = fr c u0 (some (.ref (rA c s))) u5 u6 u7 u8 u9 u10 u11 u12 u13 u14) ∧ LP K G H' c (two [root]) (setS (upTo c.dfs [] (pick 0 1 s)) s (c.dfs.take k)) []) ⟨⟨_, rfl⟩, ?_⟩ (fun k σ H' hk q => ?_) (fun σ H' q => ?_)
      · have e := setS_same (upTo c.dfs [] (pick 0 1 s)) s
        rw [upTo_at] at e
        rw [List.take_zero, e]
        exact L
      · obtain ⟨⟨v7, rfl⟩, L⟩ := q
        have hk2 : k < c.dfs.length := by omega
        have hv : c.dfs[k]? = some c.dfs[k] := List.getElem?_eq_getElem hk2
        have e0 : (0 : Int) + (k : Int) = k := Int.zero_add _
        rw [e0]
        obtain ⟨x, B, R, back⟩ := L.rt s
        refine ⟨_, rfl, rA c s, CA K s, dA c s, _, rfl, CA_or s, R.ob, _, rfl, _, rfl, _, _, _, _, rfl, rfl, SqL.of L.hld, atI_nat hv, ?_⟩
        refine ⟨(⟨⟨rA c s, dA c s⟩, eA c s, x, B, _, _⟩, c.dfs[k]), rfl, R, by show 1 < 24; decide, ?_, hf _ (List.getElem_mem hk2), fun H2 x2 N2 => ?_⟩
        · show (setS _ s (c.dfs.take k) s).length < 24
          unfold setS
          rw [if_pos rfl, List.length_take]
          omega
        have L2 := back H2 x2 _ _ N2
        refine ⟨_, rfl, rfl, _, rfl, ?_⟩
        have el : (setS (upTo c.dfs [] (pick 0 1 s)) s (c.dfs.take k) s) = c.dfs.take k := by
          unfold setS
          rw [if_pos rfl]
        rw [el] at L2 ⊢
        refine ite2 (fun hq => ?_) fun _ => ?_
        · exfalso
          rw [List.length_take, Nat.min_eq_left (Nat.le_of_lt hk2)] at hq
          simp at hq
        · refine ⟨⟨_, rfl⟩, ?_⟩
          rw [take_snoc hv]
          rw [setS_setS] at L2
          have e3 := two_set ([root] : List Nd) s
          rw [show setS (two [root]) s (two [root] s) = two [root] from e3] at L2
          exact L2
      · obtain ⟨⟨v7, rfl⟩, L⟩ := q
        refine ⟨⟨_, _, rfl⟩, ?_⟩
        rw [Int.toNat_natCast, List.take_length, upTo_set] at L
        exact L
    · obtain ⟨⟨v4, v7, rfl⟩, L⟩ := q
      rw [show ([.ref c.r1, .ref c.r2] : List V).length = 2 from rfl, upTo2] at L
      exact k _ _ _ L
  case sMake =>
    rintro D σ H ⟨G, c, nds, dfs, n, d, u0, u4, u6, u7, u9, u10, u11, u12, u13, u14, L, wf, kk, hl, hd, ha, rfl, k⟩
    refine ⟨_, rfl, c.rl, rfl, ⟨_, SqL.of L.hrl⟩, ?_⟩
    refine for_list (xs := [.ref c.r1, .ref c.r2]) (fun i σ H' => (∃ u4 u13, σ = fr c u0 u4 (some (.ref c.w)) u6 u7 (some (.int n)) u9 u10 u11 u12 u13 u14) ∧ LP K G H' c (upTo (nds ++ [⟨kindAt nds.length, some n, true, []⟩]) nds i) (two dfs) (nds ++ [⟨kindAt nds.length, some n, true, []⟩])) ⟨⟨_, _, rfl⟩, by rw [upTo0]; exact L⟩ (fun i σ H' _ q => SqL.of q.2.hrl) (fun i x σ H' hx q => ?_) (fun σ H' q => ?_)
    · obtain ⟨⟨v4, v13, rfl⟩, L⟩ := q
      obtain ⟨s, rfl, rfl⟩ := rt_item hx
      obtain ⟨x, B, R, back⟩ := L.rt s
      rw [upTo_at] at R
      obtain ⟨rows1, B1, W1, _, _⟩ := L.ww
      have l1 := W1.len
      rw [List.length_append] at l1
      refine ⟨_, rfl, _, _, rfl, .inl (SqL.of W1.wl), .inl ⟨_, rfl, _, _, rfl, rfl, (by show (0 : Int) < 2; decide), rfl, _, rfl, ?_⟩⟩
      rw [List.length_map, l1]
      refine ite2 (fun hq => ?_) fun hq => ?_
      · have ek : kindAt nds.length = "scope" := by
          unfold kindAt
          rw [if_pos (by simp at hq; omega)]
        refine ⟨_, rfl, rA c s, CA K s, dA c s, _, rfl, CA_or s, R.ob, _, rfl, (⟨⟨rA c s, dA c s⟩, eA c s, x, B, _, _⟩, n, d), rfl, R, wf, kk, by omega, hd, ha, fun H2 x2 N2 => ?_⟩
        have L2 := back H2 x2 _ _ N2
        rw [← ek, upTo_set, setS_same] at L2
        obtain ⟨rows2, B2, W2, _, _⟩ := L2.ww
        have l2 := W2.len
        rw [List.length_append] at l2
        refine ⟨_, rfl, _, rfl, _, _, rfl, .inl (SqL.of W2.wl), _, _, rfl, rfl, rfl, _, rfl, ?_⟩
        refine ite2 (fun hq2 => ?_) fun _ => ⟨⟨_, _, rfl⟩, L2⟩
        exfalso
        rw [List.length_map, l2] at hq2
        simp at hq2
      · have ek : kindAt nds.length = "boundary" := by
          unfold kindAt
          rw [if_neg (by simp at hq; omega)]
        refine ⟨_, rfl, rA c s, CA K s, dA c s, _, rfl, CA_or s, R.ob, _, rfl, (⟨⟨rA c s, dA c s⟩, eA c s, x, B, _, _⟩, n, d), rfl, R, wf, kk, by omega, hd, ha, fun H2 x2 N2 => ?_⟩
        have L2 := back H2 x2 _ _ N2
        rw [← ek, upTo_set, setS_same] at L2
        obtain ⟨rows2, B2, W2, _, _⟩ := L2.ww
        have l2 := W2.len
        rw [List.length_append] at l2
        refine ⟨_, rfl, _, rfl, _, _, rfl, .inl (SqL.of W2.wl), _, _, rfl, rfl, rfl, _, rfl, ?_⟩
        refine ite2 (fun hq2 => ?_) fun _ => ⟨⟨_, _, rfl⟩, L2⟩
        exfalso
        rw [List.length_map, l2] at hq2
        simp at hq2
    · obtain ⟨⟨v4, v13, rfl⟩, L⟩ := q
      rw [show ([.ref c.r1, .ref c.r2] : List V).length = 2 from rfl, upTo2] at L
      exact k _ _ _ L
  case sDisp =>
    rintro D σ H ⟨G, c, nds, nw, dfs, n, d, u0, u4, u6, u7, u9, u10, u11, u12, u13, u14, L, wf, kk, hl, hd, h0, rfl, k⟩
    refine ⟨_, rfl, c.rl, rfl, ⟨_, SqL.of L.hrl⟩, ?_⟩
    refine for_list (xs := [.ref c.r1, .ref c.r2]) (fun i σ H' => (∃ u4, σ = fr c u0 u4 (some (.ref c.w)) u6 u7 (some (.int n)) u9 u10 u11 u12 u13 u14) ∧ LP K G H' c (upTo (if d.act = true then offb nds fun i => decide (i ∈ dfn nds n nds.length) else nds) nds i) (two dfs) nw) ⟨⟨_, rfl⟩, by rw [upTo0]; exact L⟩ (fun i σ H' _ q => SqL.of q.2.hrl) (fun i x σ H' hx q => ?_) (fun σ H' q => ?_)
    · obtain ⟨⟨v4, rfl⟩, L⟩ := q
      obtain ⟨s, rfl, rfl⟩ := rt_item hx
      obtain ⟨x, B, R, back⟩ := L.rt s
      rw [upTo_at] at R
      refine ⟨_, rfl, rA c s, CA K s, dA c s, _, rfl, CA_or s, R.ob, _, rfl, (⟨⟨rA c s, dA c s⟩, eA c s, x, B, _, _⟩, n, d), rfl, R, wf, kk, by omega, hd, h0, fun H2 x2 N2 => ?_⟩
      have L2 := back H2 x2 _ _ N2
      rw [upTo_set, setS_same] at L2
      exact ⟨⟨_, rfl⟩, L2⟩
    · obtain ⟨⟨v4, rfl⟩, L⟩ := q
      rw [show ([.ref c.r1, .ref c.r2] : List V).length = 2 from rfl, upTo2] at L
      exact k _ _ L
  case sProv =>
    rintro D σ H ⟨G, c, nds, nw, dfs, n, d, cc, v, t, u0, u4, u6, u7, u10, u12, u13, L, wf, kk, hl, hd, hp, hcc, hv, ht, rfl, k⟩
    refine ⟨_, rfl, c.rl, rfl, ⟨_, SqL.of L.hrl⟩, ?_⟩
    refine for_list (xs := [.ref c.r1, .ref c.r2]) (fun i σ H' => (∃ u4, σ = fr c u0 u4 (some (.ref c.w)) u6 u7 (some (.int n)) (some (.int cc)) u10 (some v) u12 u13 (some (.ref t))) ∧ LP K G H' c (upTo (provN nds n d cc v) nds i) (two dfs) nw) ⟨⟨_, rfl⟩, by rw [upTo0]; exact L⟩ (fun i σ H' _ q => SqL.of q.2.hrl) (fun i x σ H' hx q => ?_) (fun σ H' q => ?_)
    · obtain ⟨⟨v4, rfl⟩, L⟩ := q
      obtain ⟨s, rfl, rfl⟩ := rt_item hx
      refine ⟨_, rfl, _, rfl, _, rfl, _, rfl, by show 3 ≤ sizeLine; rw [sizeLine_eq]; omega, fun al nal => ?_⟩
      have L1 := L.mono (same_upd (o := .lst [.int n, .int cc, v]) nal)
      obtain ⟨x, B, R, back⟩ := L1.rt s
      rw [upTo_at] at R
      refine ⟨(CA K s, ⟨⟨rA c s, dA c s⟩, eA c s, x, B, _, _⟩, "provide", al, _, _), rfl, CA_or s, R, wf, kk, by omega, .prov upd_same hd hp hcc hv, fun H2 x2 t2 N2 h2 => ?_⟩
      have L2 := back H2 x2 _ _ N2
      have ht2 : H2 t = some (provR nds n d) := L2.g _ _ ht
      have fin : ∀ {z : Str} {v' : V}, H2 t2 = some (.tup [.str z, v']) → H2 t = some (.tup [.str z, v']) → Bas v' → ∃ y : Addr × Addr × Str × V, [V.ref t2, V.ref t] = [.ref y.1, .ref y.2.1] ∧ H2 y.1 = some (.tup [.str y.2.2.1, y.2.2.2]) ∧ H2 y.2.1 = some (.tup [.str y.2.2.1, y.2.2.2]) ∧ Bas y.2.2.2 := fun {z v'} a b c => ⟨(t2, t, z, v'), rfl, a, b, c⟩
      have key : ∃ z v', H2 t2 = some (.tup [.str z, v']) ∧ H2 t = some (.tup [.str z, v']) ∧ Bas v' := by
        unfold provR at ht2
        by_cases q1 : d.act = true
        · rw [if_pos q1] at ht2 h2
          by_cases q2 : kid nds n = true
          · rw [if_pos q2] at ht2 h2
            exact ⟨_, _, h2, ht2, .inr (.inr (.inr ⟨_, rfl⟩))⟩
          · rw [if_neg q2] at ht2 h2
            exact ⟨_, _, h2, ht2, .inl rfl⟩
        · rw [if_neg q1] at ht2 h2
          exact ⟨_, _, h2, ht2, .inr (.inr (.inr ⟨_, rfl⟩))⟩
      obtain ⟨z, v', k1, k2, k3⟩ := key
      refine ⟨_, rfl, (t2, t, z, v'), rfl, k1, k2, k3, _, rfl, ?_⟩
      have L3 : LP K G H2 c (setS (upTo (provN nds n d cc v) nds (pick 0 1 s)) s (provN nds n d cc v)) (setS (two dfs) s (two dfs s)) nw := L2
      rw [upTo_set, setS_same] at L3
      exact ⟨⟨_, rfl⟩, L3⟩
    · obtain ⟨⟨v4, rfl⟩, L⟩ := q
      rw [show ([.ref c.r1, .ref c.r2] : List V).length = 2 from rfl, upTo2] at L
      exact k _ _ L
  case sTail =>
    rintro D σ H ⟨G, c, nds, n, d, cc, v, u0, u4, u6, u7, u10, u11, u12, u13, u14, L, wf, kk, hl, hd, hcc, cv, hv, rfl, k⟩
    refine ⟨_, rfl, c.rl, rfl, ⟨_, SqL.of L.hrl⟩, ?_⟩
    refine for_list (xs := [.ref c.r1, .ref c.r2]) (fun i σ H' => (∃ u4 u12, σ = fr c u0 u4 (some (.ref c.w)) u6 u7 (some (.int n)) (some (.int cc)) u10 u11 u12 u13 u14) ∧ LP K G H' c (two nds) (two c.dfs) nds) ⟨⟨_, _, rfl⟩, L⟩ (fun i σ H' _ q => SqL.of q.2.hrl) (fun i x σ H' hx q => ?_) (fun σ H' q => ?_)
    · obtain ⟨⟨v4, v12, rfl⟩, L⟩ := q
      obtain ⟨s, rfl, rfl⟩ := rt_item hx
      refine ⟨by show 2 ≤ sizeLine; rw [sizeLine_eq]; omega, fun ln nln => ⟨ln, rfl, ⟨_, SqL.of upd_same⟩, ?_⟩⟩
      have L1 := L.add nln (.lst [.str "use", .str "transaction"])
      refine for_list (xs := [.str "use", .str "transaction"]) (fun j σ H' => (∃ u12, σ = fr c u0 (some (.ref (rA c s))) (some (.ref c.w)) u6 u7 (some (.int n)) (some (.int cc)) u10 u11 u12 u13 u14) ∧ LP K (upd G ln (.lst [.str "use", .str "transaction"])) H' c (two nds) (two c.dfs) nds) ⟨⟨_, rfl⟩, L1⟩ (fun j σ H' _ q => SqL.of (q.2.g _ _ upd_same)) (fun j x σ H' hx q => ?_) (fun σ H' q => ?_)
      · obtain ⟨⟨v12, rfl⟩, L2⟩ := q
        obtain ⟨z, hz, rfl⟩ : ∃ z : Str, (z = "use" ∨ z = "transaction") ∧ x = .str z := by
          cases j with
          | zero => cases hx; exact ⟨_, .inl rfl, rfl⟩
          | succ j =>
            cases j with
            | zero => cases hx; exact ⟨_, .inr rfl, rfl⟩
            | succ j => cases hx
        refine ⟨_, rfl, _, rfl, _, rfl, _, rfl, by show 2 ≤ sizeLine; rw [sizeLine_eq]; omega, fun al nal => ?_⟩
        have L3 := L2.mono (same_upd (o := .lst [.int n, .int cc]) nal)
        obtain ⟨x, B, R, back⟩ := L3.rt s
        refine ⟨(CA K s, ⟨⟨rA c s, dA c s⟩, eA c s, x, B, _, _⟩, z, al, _, _), rfl, CA_or s, R, wf, kk, (by show nds.length < 24; omega), .use hz upd_same hd hcc cv, fun H2 x2 t2 N2 h2 => ?_⟩
        have L4 : LP K _ H2 c (setS (two nds) s (two nds s)) (setS (two c.dfs) s (two c.dfs s)) nds := back H2 x2 _ _ N2
        rw [setS_same, setS_same] at L4
        obtain ⟨rows, B4, W4, _, _⟩ := L4.ww
        refine ⟨_, rfl, _, rfl, _, rfl, _, rfl, (⟨c.w, rows, nds, B4⟩, c.ld, c.dfs, n, d, cc, v), rfl, W4, L4.hld, wf, by omega, hd, cv, fun H5 t5 s5 h5 => ?_⟩
        have key : ∃ z v', H5 t2 = some (.tup [.str z, v']) ∧ H5 t5 = some (.tup [.str z, v']) ∧ Bas v' := by
          have h2' := s5 _ _ h2
          by_cases q1 : d.act = true
          · rw [if_pos q1] at h2' h5
            exact ⟨_, _, h2', h5, hv.bas⟩
          · rw [if_neg q1] at h2' h5
            exact ⟨_, _, h2', h5, .inr (.inr (.inr ⟨_, rfl⟩))⟩
        obtain ⟨z', v', k1, k2, k3⟩ := key
        exact ⟨(t2, t5, z', v'), rfl, k1, k2, k3, _, rfl, ⟨_, rfl⟩, L4.mono s5⟩
      · obtain ⟨⟨v12, rfl⟩, L2⟩ := q
        have ng : G ln = none := L.g.free nln
        exact ⟨⟨_, _, rfl⟩, L2.less (same_upd ng)⟩
    · obtain ⟨⟨v4, v12, rfl⟩, L⟩ := q
      exact k _ _ _ L
  case sMid1 =>
    rintro D σ H ⟨G, c, nds, n, d, cc, v, kd, t, u0, u4, u6, u7, u12, u13, u14, L, Tr, ht, h9, hd, hcc, hv, rfl, k⟩
    have hn := (List.getElem?_eq_some_iff.mp hd).1
    refine ⟨_, rfl, rfl, _, rfl, ?_⟩
    refine ite2 (fun _ => ?_) fun _ => ⟨G, c, nds, n, d, cc, v, kd, t, _, _, _, _, _, _, _, L, Tr, ht, h9, hd, hcc, hv, rfl, k⟩
    obtain ⟨rows, B, W, eB, back⟩ := L.ww
    refine ⟨_, rfl, _, _, rfl, .inl (SqL.of W.wl), _, _, rfl, rfl, _, rfl, ?_⟩
    refine ite2 (fun hq => ?_) fun _ => ⟨G, c, nds, n, d, cc, v, kd, t, _, _, _, _, _, _, _, L, Tr, ht, h9, hd, hcc, hv, rfl, k⟩
    have hl9 : nds.length < 9 := by
      rw [List.length_map, W.len] at hq
      have hq2 : ((nds.length : Nat) : Int) < 9 := of_decide_eq_true hq
      omega
    obtain ⟨r, hr1, hrow⟩ := W.at hd
    refine ⟨_, rfl, _, rfl, _, _, _, _, rfl, rfl, SqL.of W.wl, WA.ix (B := B) (H := H) (w := c.w) (nds := nds) hr1, _, _, _, _, rfl, rfl, SqL.of hrow.1, atI_nat (j := 2) rfl, _, rfl, ?_⟩
    cases hact : d.act with
    | false => exact ⟨G, c, nds, n, d, cc, v, kd, t, _, _, _, _, _, _, _, L, Tr, ht, h9, hd, hcc, hv, rfl, k⟩
    | true =>
      refine ⟨_, rfl, .inl ⟨rfl, _, SqL.of W.wl⟩, _, rfl, fun da nda => ⟨by show 3 ≤ sizeLine; rw [sizeLine_eq]; omega, fun ra nra => ?_⟩⟩
      have s1 := same_upd (o := .dK []) nda
      have s2 := same_upd (o := .lst [.int n, .ref da, .bl true]) nra
      have s12 := s1.trans s2
      have W2 := W.mono s12
      have dA : da ∉ waAll c.w rows := fun m => by
        obtain ⟨o, q, _⟩ := W.has m
        rw [nda] at q
        cases q
      have rAA : ra ∉ waAll c.w rows := fun m => by
        obtain ⟨o, q, _⟩ := (W.mono s1).has m
        rw [nra] at q
        cases q
      have hda2 := s2 _ _ (upd_same (H := H) (a := da) (o := .dK []))
      refine ⟨c.w, _, _, rfl, rfl, W2.wl, by rw [List.length_map, W.len, sizeLine_eq]; omega, ?_⟩
      have W3 := W2.app (d := ⟨kindAt nds.length, some n, true, []⟩) upd_same hda2 rfl rAA dA (W.sm.free (s1.free nra)) (W.sm.free nda)
      have L3 := back _ _ _ W3
      refine ⟨G, c, nds, c.dfs, n, d, _, _, _, _, _, _, _, _, _, _, L3, Tr.wf, Tr.kk, hl9, hd, hact, rfl, fun H' v4 v13 L4 => ?_⟩
      refine k H' _ v4 v13 _ L4 ((Tr.app hd hact ?_).up (Nat.le_succ _)) ?_ ?_
      · unfold kindAt
        split
        · exact .inl rfl
        · exact .inr rfl
      · rw [List.length_append]; omega
      · rw [List.length_append]; exact hl9
  case sMid2 =>
    rintro D σ H ⟨G, c, nds, n, d, cc, v, kd, t, u0, u4, u6, u7, u12, u13, u14, L, Tr, ht, h9, hd, hcc, hv, rfl, k⟩
    have hn := (List.getElem?_eq_some_iff.mp hd).1
    refine ⟨_, rfl, rfl, _, rfl, ?_⟩
    refine ite2 (fun _ => ?_) fun _ => ⟨G, c, nds, n, d, cc, v, kd, t, _, _, _, _, _, _, _, L, Tr, ht, h9, hd, hcc, hv, rfl, k⟩
    refine ⟨_, rfl, _, _, rfl, rfl, _, rfl, ?_⟩
    refine ite2 (fun hq => ?_) fun _ => ⟨G, c, nds, n, d, cc, v, kd, t, _, _, _, _, _, _, _, L, Tr, ht, h9, hd, hcc, hv, rfl, k⟩
    have hn0 : 0 < n := by
      simp at hq
      omega
    obtain ⟨B0, X0, back0⟩ := L.bx
    refine ⟨_, rfl, (c.b, 4, B0, c.rw, c.row), rfl, X0, by decide, fun H1 r X1 hr1 => ?_⟩
    have L := back0 H1 X1
    refine ⟨rfl, _, rfl, ?_⟩
    refine ite2 (fun _ => ?_) fun _ => ⟨G, c, nds, n, d, cc, v, kd, t, _, _, _, _, _, _, _, L, Tr, ht, h9, hd, hcc, hv, rfl, k⟩
    obtain ⟨rows, B, W, eB, back⟩ := L.ww
    refine ⟨_, rfl, _, rfl, (⟨c.w, rows, nds, B⟩, n), rfl, W, by omega, hn, fun H2 W2 => ?_⟩
    have L2 := back _ _ _ W2
    refine ⟨G, c, nds, _, c.dfs, n, d, _, _, _, _, _, _, _, _, _, _, L2, Tr.wf, Tr.kk, h9, hd, hn0, rfl, fun H' v4 L3 => ?_⟩
    rw [drop_eq Tr hd] at L3
    refine k H' _ v4 _ _ L3 (Tr.gone.up (Nat.le_succ _)) ?_ ?_
    · rw [offb_len]; exact Nat.le_refl _
    · rw [offb_len]; exact h9
  case sMid3 =>
    rintro D σ H ⟨G, c, nds, n, d, cc, v, kd, t, u0, u4, u6, u7, u12, u13, u14, L, Tr, ht, h9, hd, hcc, hv, rfl, k⟩
    have hn := (List.getElem?_eq_some_iff.mp hd).1
    have hpl := Tr.pl n d hd
    refine ⟨_, rfl, _, _, rfl, rfl, _, rfl, ?_⟩
    refine ite2 (fun _ => ?_) fun _ => k H nds _ _ _ L (Tr.up (Nat.le_succ _)) (Nat.le_refl _) h9
    obtain ⟨rows, B, W, eB, back⟩ := L.ww
    have fin : ∀ (H2 : Hp) (t2 : Addr) (W2 : WA B H2 c.w rows (provN nds n d cc v)) (ts : List V), H2 t2 = some (.tup ts) → provR nds n d = .tup ts → LP K (upd G t2 (provR nds n d)) H2 c (two nds) (two c.dfs) (provN nds n d cc v) := fun H2 t2 W2 ts h1 h2 => by
      rw [h2]
      exact (back _ _ _ W2).addT h1
    have trp : Tree (provN nds n d cc v) (t + 1) := by
      unfold provN
      split
      · split
        · exact Tr.up (Nat.le_succ _)
        · exact Tr.prov hd hv
      · exact Tr.up (Nat.le_succ _)
    have lenp : (provN nds n d cc v).length = nds.length := by
      unfold provN
      split
      · split
        · rfl
        · rw [List.length_set]
      · rfl
    have sG : ∀ (H2 : Hp) (t2 : Addr) (ts : List V), Same G H2 → H2 t2 = some (.tup ts) → provR nds n d = .tup ts → Same G (upd G t2 (provR nds n d)) := fun H2 t2 ts s1 h1 h2 b o q => by
      rw [h2]
      by_cases z : b = t2
      · rw [z, upd_same, ← h1, ← z]
        exact s1 _ _ q
      · rw [upd_ne z]
        exact q
    refine ⟨_, rfl, _, rfl, _, rfl, _, rfl, (⟨c.w, rows, nds, B⟩, n, d, cc, v), rfl, W, by omega, hd, by omega, fun q1 H2 t2 W2 h2 => ?_, fun q1 q2 H2 t2 W2 h2 => ?_, fun q1 q2 H2 t2 W2 h2 => ?_⟩
    · have eN : provN nds n d cc v = nds := by unfold provN; rw [if_neg (by rw [q1]; exact Bool.false_ne_true)]
      have eR : provR nds n d = erT "disposed" := by unfold provR; rw [if_neg (by rw [q1]; exact Bool.false_ne_true)]
      have W3 : WA B H2 c.w rows (provN nds n d cc v) := by rw [eN]; exact W2
      have L2 := fin H2 t2 W3 _ h2 eR
      have s3 := sG H2 t2 _ (back _ _ _ W3).g h2 eR
      exact ⟨_, c, nds, _, c.dfs, n, d, cc, v, t2, _, _, _, _, _, _, _, L2, Tr.wf, Tr.kk, h9, hd, by omega, hcc, hv, upd_same, rfl, fun H' v4 L3 => k H' _ v4 _ _ (L3.less s3) trp (by rw [lenp]; exact Nat.le_refl _) (by rw [lenp]; exact h9)⟩
    · have eN : provN nds n d cc v = nds := by unfold provN; rw [if_pos q1, if_pos q2]
      have eR : provR nds n d = erT "too late" := by unfold provR; rw [if_pos q1, if_pos q2]
      have W3 : WA B H2 c.w rows (provN nds n d cc v) := by rw [eN]; exact W2
      have L2 := fin H2 t2 W3 _ h2 eR
      have s3 := sG H2 t2 _ (back _ _ _ W3).g h2 eR
      exact ⟨_, c, nds, _, c.dfs, n, d, cc, v, t2, _, _, _, _, _, _, _, L2, Tr.wf, Tr.kk, h9, hd, by omega, hcc, hv, upd_same, rfl, fun H' v4 L3 => k H' _ v4 _ _ (L3.less s3) trp (by rw [lenp]; exact Nat.le_refl _) (by rw [lenp]; exact h9)⟩
    · have eN : provN nds n d cc v = nds.set n { d with prov := (cc, v) :: d.prov } := by unfold provN; rw [if_pos q1, if_neg (by rw [q2]; exact Bool.false_ne_true)]
      have eR : provR nds n d = okT .non := by unfold provR; rw [if_pos q1, if_neg (by rw [q2]; exact Bool.false_ne_true)]
      have W3 : WA B H2 c.w rows (provN nds n d cc v) := by rw [eN]; exact W2
      have L2 := fin H2 t2 W3 _ h2 eR
      have s3 := sG H2 t2 _ (back _ _ _ W3).g h2 eR
      exact ⟨_, c, nds, _, c.dfs, n, d, cc, v, t2, _, _, _, _, _, _, _, L2, Tr.wf, Tr.kk, h9, hd, by omega, hcc, hv, upd_same, rfl, fun H' v4 L3 => k H' _ v4 _ _ (L3.less s3) trp (by rw [lenp]; exact Nat.le_refl _) (by rw [lenp]; exact h9)⟩
  refine ⟨_, rfl, (a, ns), rfl, ha, hS, fun H1 rwA row s1 nrw hrw => ⟨by show 2 ≤ sizeLine; rw [sizeLine_eq]; omega, fun b nb => ?_⟩⟩
  have nbr : b ≠ rwA := fun z => by rw [z, hrw] at nb; cases nb
  refine fun r1 d1 nr1 nd1 ne1 => ⟨(r1, d1, upd H1 b (.lst [.ref rwA, .int 0])), rfl, upd_same, fun b' o e => ?_, nr1, fun H2 e1 x1 hr1 N1 sm1 fr1 hl0 => ⟨rfl, fun r2 d2 nr2 nd2 ne2 => ⟨(r2, d2, H2), rfl, upd_same, fun b' o e => ?_, nr2, fun H3 e2 x2 hr2 N2 sm2 fr2 _ => ⟨rfl, by show 2 ≤ sizeLine; rw [sizeLine_eq]; omega, fun rl nrl => ?_⟩⟩⟩⟩
  · rw [upd_ne (ne_of_none e nr1), upd_ne (ne_of_none e nd1)]
    exact e
  · rw [upd_ne (ne_of_none e nr2), upd_ne (ne_of_none e nd2)]
    exact e
  obtain ⟨l, hl, nl, nlr, bl⟩ := hl0
  have L := lp_start (b := b) (rwA := rwA) (row := row) upd_same (same_upd nb _ _ hrw) nbr hr1 N1 sm1 fr1 nr1 hl nl nlr bl hr2 N2 sm2 fr2 nr2 nrl
  obtain ⟨B, X, back⟩ := L.bx
  refine ⟨_, rfl, (b, 3, B, rwA, row), rfl, X, by decide, fun H5 r X5 hr5 => ⟨_, _, rfl, rfl, _, rfl, by omega, by omega, fun D nD => ?_⟩⟩
  have L5 := back H5 X5
  have hDc : D ∉ (cAt b rwA rl r1 d1 e1 r2 d2 e2 l row x1 x2).cs := fun m => by
    obtain ⟨y1, y2, rows, S, _⟩ := L5
    obtain ⟨o, q⟩ := S.hcs D m
    rw [nD] at q
    cases q
  refine lc_range (lo := 0) (n := ((1 : Int) + (r : Int)).toNat) (fun i H' => ∃ acc : List V, acc.length = i ∧ (∀ v ∈ acc, Flat v) ∧ LP K (upd (fun _ => none) D (.lst acc)) H' (cAt b rwA rl r1 d1 e1 r2 d2 e2 l row x1 x2) (two [root]) (two []) []) ⟨[], rfl, (fun v m => by cases m), L5.add nD _⟩ (fun i H' hi q => ?_) (fun H7 q => ?_)
  · obtain ⟨acc, hal, haf, L'⟩ := q
    refine ⟨rfl, ?_⟩
    obtain ⟨B', X', back'⟩ := L'.bx
    refine ⟨_, rfl, (b, B', rwA, row), rfl, X', fun H6 v X6 fv => ?_⟩
    have L6 := back' H6 X6
    refine ⟨acc, L6.g _ _ upd_same, by rw [sizeLine_eq]; omega, acc ++ [v], by simp [hal], fun u m => ?_, ?_⟩
    · rcases List.mem_append.mp m with m | m
      · exact haf u m
      · simp at m
        rw [m]
        exact fv
    · have L7 := L6.put (o := .lst (acc ++ [v])) upd_same (fun t z => by cases z) hDc
      rw [upd_upd] at L7
      exact L7
  obtain ⟨acc, hal, haf, L'⟩ := q
  have L1 := L'.setld upd_same
  have hacc : 1 ≤ acc.length ∧ acc.length ≤ 3 := by omega
  refine ⟨_, _, _, _, _, _, _, _, _, _, _, _, _, _, L1, hacc.2, haf, rfl, fun H8 u4 u7 L8 => ?_⟩
  refine fun da nda => ⟨by show 3 ≤ sizeLine; rw [sizeLine_eq]; omega, fun ra nra => ⟨by show 1 ≤ sizeLine; rw [sizeLine_eq]; omega, fun w nwn => ?_⟩⟩
  have t1 := same_upd (o := .dK []) nda
  have t2 := same_upd (o := .lst [.non, .ref da, .bl true]) nra
  have t3 := same_upd (o := .lst [.ref ra]) nwn
  have nwr : w ≠ ra := fun z => by
    rw [z, upd_same] at nwn
    cases nwn
  have L9 := L8.neww (w := w) (ra := ra) (da := da) (t1.trans (t2.trans t3)) (t1.free (t2.free nwn)) (t1.free nra) nda upd_same (t3 _ _ upd_same) ((t2.trans t3) _ _ upd_same) nwr
  obtain ⟨c2, hfr, ea, ew, L10⟩ : ∃ c2 : LC, (∀ u0 u4 u5 u6 u7 u8 u9 u10 u11 u12 u13 u14, fr c2 u0 u4 u5 u6 u7 u8 u9 u10 u11 u12 u13 u14 = [u0, some (.ref b), some (.ref rl), some (.ref D), u4, u5, u6, u7, u8, u9, u10, u11, u12, u13, u14]) ∧ c2.dfs = acc ∧ c2.w = w ∧
      LP K (upd (fun _ => none) D (.lst acc)) (upd (upd (upd H8 da (.dK [])) ra (.lst [.non, .ref da, .bl true])) w (.lst [.ref ra])) c2 (two [root]) (two c2.dfs) [root] := ⟨_, fun _ _ _ _ _ _ _ _ _ _ _ _ => rfl, rfl, rfl, L9⟩
  refine ⟨24, rfl, by decide, by decide, ?_⟩
  refine for_range (lo := 0) (n := 24) (fun i σ H' => ∃ (nds : List Nd) (u4 u6 u7 u8 u9 u10 u11 u12 u13 u14 : Option V), LP K (upd (fun _ => none) D (.lst acc)) H' c2 (two nds) (two c2.dfs) nds ∧ Tree nds i ∧ 0 < nds.length ∧ nds.length ≤ 9 ∧ σ = fr c2 (some (.ref a)) u4 (some (.ref c2.w)) u6 u7 u8 u9 u10 u11 u12 u13 u14)
    ⟨[root], _, _, _, _, _, _, _, _, _, _, L10, tree_root, Nat.zero_lt_one, by show 1 ≤ 9; omega, by rw [ew]; exact (hfr _ _ _ _ _ _ _ _ _ _ _ _).symm⟩ (fun i σ H' hi q => ?_) (fun σ H' q => ?_)
  · obtain ⟨nds, u4, u6, u7, u8, u9, u10, u11, u12, u13, u14, L, Tr, h0, h9, rfl⟩ := q
    obtain ⟨B1, X1, back1⟩ := L.bx
    obtain ⟨rows1, B1', W1, _, _⟩ := L.ww
    refine ⟨_, rfl, _, rfl, _, _, rfl, .inl (SqL.of W1.wl), (c2.b, (rows1.map fun r => V.ref r.1).length, B1, c2.rw, c2.row), rfl, X1, by rw [List.length_map, W1.len]; exact h0, fun G1 n Y1 hn => ?_⟩
    rw [List.length_map, W1.len] at hn
    have L := back1 G1 Y1
    have hd : nds[n]? = some nds[n] := List.getElem?_eq_getElem hn
    obtain ⟨B2, X2, back2⟩ := L.bx
    refine ⟨_, rfl, _, rfl, _, _, rfl, .inl (SqL.of L.hld), (c2.b, c2.dfs.length, B2, c2.rw, c2.row), rfl, X2, by rw [ea]; exact hacc.1, fun G2 cc Y2 hcc => ?_⟩
    have L := back2 G2 Y2
    obtain ⟨B3, X3, back3⟩ := L.bx
    refine ⟨_, rfl, (c2.b, 5, B3, c2.rw, c2.row), rfl, X3, by decide, fun G3 kd Y3 hkd => ?_⟩
    have L := back3 G3 Y3
    obtain ⟨B4, X4, back4⟩ := L.bx
    refine ⟨_, rfl, (c2.b, B4, c2.rw, c2.row), rfl, X4, fun G4 v Y4 hv => ?_⟩
    have L := back4 G4 Y4
    refine ⟨_, c2, nds, n, _, cc, v, kd, i, _, _, _, _, _, _, _, L, Tr, by omega, h9, hd, hcc, hv, rfl, fun G5 nds' v4 v13 v14 L5 Tr5 hle hle9 => ?_⟩
    have hd5 : nds'[n]? = some nds'[n] := List.getElem?_eq_getElem (by omega)
    have hfl : ∀ v ∈ c2.dfs, Flat v := by rw [ea]; exact haf
    obtain ⟨v5, cv5⟩ := Tr5.ctx hcc n (by omega)
    exact ⟨_, c2, nds', n, _, cc, v5, _, _, _, _, _, _, _, _, _, L5, Tr5.wf, Tr5.kk, hle9, hd5, hcc, cv5, ctx_flat Tr5 hfl cv5, rfl, fun G6 w4 w12 L6 => ⟨nds', _, _, _, _, _, _, _, _, _, _, L6, Tr5, by omega, hle9, rfl⟩⟩
  · exact h H'

end
end K47
namespace K47
open PySem PySem.Spec PyProof.Rows L2
theorem txt_of {w : World} {K : PySem.W.Frag} {mg : Str → Option Value} {h : Heap} (X : K.In h) (G : h.Ns mainGlobals mg) (c : He.SaysT fa fn ts w K) (e : ex K = true) (r : reObs K = reVal) : Txt w K mg := ⟨c, e, r, h, X, G⟩
theorem law_end {w : World} {K : PySem.W.Frag} {mg : Str → Option Value} {f : Addr} (T : Txt w K mg) (hf : mg ("law" : Str) = some (.ref f)) :
    ∃ fd : FuncData, (∀ (s : Shared) (u : Value), BindsTo s fd ⟨[u], []⟩ [("_law_script", u)]) ∧ ∀ base : Heap, FnOk prog w K mg base CX0 14 f fd ["_law_script"] (sp_law K) := by
  have e := hf.symm.trans T.g_law
  cases e
  obtain ⟨fd, b, F⟩ := law_ok T
  exact ⟨fd, fun s u => b s [u] rfl, F⟩
end K47
open PySem PySem.W PySem.Calls PyProof.Rows
theorem PySem.Challenge.cw_ripplewell_k47_contexts_holds : PySem.Challenge.rw_ripplewell_k47_contexts.Holds := by
  w_on; o_law
  refine HandSHeadRun.head_any (r := OpenLaw.row PySem.Challenge.rw_ripplewell_k47_contexts) (q := K47.vw) (H := K47.hk) (ob := K47.ob) (M := 40000) (loose := K47.lo) (d := HandSHeadRun.topDef (OpenLaw.row PySem.Challenge.rw_ripplewell_k47_contexts).prog 170) (kwd := []) K47.ob_eq
    (by kernel_rfl) (fun s => by kernel_rfl) K47.run (by kernel_rfl) (by kernel_rfl) (by kernel_rfl) (by rfl) (by first | assumption | decide +kernel) (by decide +kernel) ⟨rfl, rfl, rfl, rfl, rfl, by decide +kernel⟩ ?hw ?hc
  case hw => w_witness2
  case hc =>
    refine L2.walk_ofE (l := PySem.Challenge.rw_ripplewell_k47_contexts) (n := 63) (k := 14) (x := "_law_script") (CX := L2.CX0) rfl (by decide) (by kernel_rfl) ⟨rfl, by decide, by decide⟩ ?F (fun _ _ _ _ z => z)
    intro w mg fa h Y G hmg0
    obtain ⟨K, KX, c, e, r⟩ := Y
    have hmg : mg ("law" : PySem.Str) = some (.ref fa) := by
      have e : (HandSHeadRun.topDef (OpenLaw.row PySem.Challenge.rw_ripplewell_k47_contexts).prog 170).name = ("law" : PySem.Str) := by kernel_rfl
      rw [← e]
      exact hmg0
    have T := K47.txt_of KX G c e r
    obtain ⟨fd, hb, hF⟩ := K47.law_end T hmg
    exact ⟨K, fd, K47.sp_law K, KX, hb, fun H a ns hl _ hS => ⟨(a, ns), rfl, hS, fun H' s => s.seq hS, fun _ => rfl⟩, fun base _ _ => hF base⟩

import PyProof.Rows.All
import Wide.All
import OpenK.AllK
import Wide.FinOn
import KE.KStateDown
import HandS.ForMost
import HandS.Defaults
import HandS.Steps
import HandS.Style
import HandS.IsInst
import HandS.Conv
import HandS.MakeKwOnly
import HandS.CallLocal
import HandS.Codes
import HandS.Head0
import HandS.Head1
import HandS.Head2
import HandS.HeadEnd
import HandS.HeadHook1
import HandS.HeadHook2
import HandS.HeadHook3
import HandS.HeadHook4
import PySem.Challenge.RW_plinth_k98_whole_the_audit_after_all_dee
set_option Elab.async false
set_option linter.all false
set_option maxRecDepth 100000
set_option maxHeartbeats 4000000
/-! The text by places; the facts that the head tells. -/
namespace Pl
open PySem PySem.Spec PyProof.Rows L2
abbrev RW : PySem.W.OpenLaw := PySem.Challenge.rw_plinth_k98_whole_the_audit_after_all_dee
def top (i : Nat) : Stmt := PySem.Challenge.pw_plinth_k98_whole_the_audit_after_all_dee.main.body.getD i (.Pass ⟨0, 0, 0, 0⟩)
abbrev s_codes_of : Stmt := top 13
abbrev s_Translator_init : Stmt := inClass (top 30) 0
abbrev s_Translator_popped : Stmt := inClass (top 30) 1
abbrev s_Translator_number : Stmt := inClass (top 30) 2
abbrev s_Translator_put_node : Stmt := inClass (top 30) 3
abbrev s_Translator_emit : Stmt := inClass (top 30) 4
abbrev s_Translator_end_numeral : Stmt := inClass (top 30) 5
abbrev s_Translator_paired : Stmt := inClass (top 30) 6
abbrev s_Translator_bracket : Stmt := inClass (top 30) 7
abbrev s_Translator_sign : Stmt := inClass (top 30) 8
abbrev s_Translator_take : Stmt := inClass (top 30) 9
abbrev s_Translator_finish : Stmt := inClass (top 30) 10
abbrev s_translate : Stmt := top 31
abbrev s_due : Stmt := top 38
abbrev s_first_difference : Stmt := top 39
abbrev s_audit : Stmt := top 40
abbrev s_rung_text : Stmt := top 47
abbrev s_nodes_of : Stmt := top 49
abbrev s_image_of : Stmt := top 50
abbrev s_table_of : Stmt := top 51
abbrev s_d_push : Stmt := top 58
abbrev s_d_plus : Stmt := top 59
abbrev s_d_minus : Stmt := top 60
abbrev s_d_digit : Stmt := top 61
abbrev s_d_less : Stmt := top 62
abbrev s_d_same : Stmt := top 63
abbrev s_d_load : Stmt := top 64
abbrev s_d_keep : Stmt := top 65
abbrev s_d_assign : Stmt := top 66
abbrev s_d_take : Stmt := top 67
abbrev s_d_rewind : Stmt := top 68
abbrev s_d_emit : Stmt := top 69
abbrev s_d_cell : Stmt := top 70
abbrev s_d_drop : Stmt := top 71
abbrev s_d_double : Stmt := top 72
abbrev s_d_exchange : Stmt := top 73
abbrev s_d_test : Stmt := top 74
abbrev s_d_call : Stmt := top 75
abbrev s_d_call_low : Stmt := top 76
abbrev s_d_return : Stmt := top 77
abbrev s_State_init : Stmt := inClass (top 79) 0
abbrev s_State_pull : Stmt := inClass (top 79) 1
abbrev s_State_has_ended : Stmt := inClass (top 79) 2
abbrev s_State_step : Stmt := inClass (top 79) 3
abbrev s_State_advance : Stmt := inClass (top 79) 4
abbrev s_run : Stmt := top 80
abbrev s_is_trap : Stmt := top 98
abbrev s_is_plantable : Stmt := top 99
abbrev s_beginning : Stmt := top 100
abbrev s_comparison : Stmt := top 101
abbrev s_writing : Stmt := top 102
abbrev s_copying : Stmt := top 103
abbrev s_trap_nodes : Stmt := top 104
abbrev s_plant : Stmt := top 105
abbrev s_Entry_init : Stmt := inClass (top 108) 0
abbrev s_check_new : Stmt := top 109
abbrev s_Shelf_init : Stmt := inClass (top 110) 0
abbrev s_Shelf_entry : Stmt := inClass (top 110) 1
abbrev s_Shelf_names : Stmt := inClass (top 110) 2
abbrev s_Shelf_kind : Stmt := inClass (top 110) 3
abbrev s_Shelf_text : Stmt := inClass (top 110) 4
abbrev s_Shelf_binary : Stmt := inClass (top 110) 5
abbrev s_Shelf_put : Stmt := inClass (top 110) 6
abbrev s_Shelf_build : Stmt := inClass (top 110) 7
abbrev s_Shelf_swap : Stmt := inClass (top 110) 8
abbrev s_Shelf_clone : Stmt := inClass (top 110) 9
abbrev s_Shelf_damage : Stmt := inClass (top 110) 10
abbrev s_Shelf_trap : Stmt := inClass (top 110) 11
abbrev s_law_number : Stmt := top 112
abbrev s_law_draws : Stmt := top 113
abbrev s_law_next : Stmt := top 114
abbrev s_law_pull : Stmt := top 115
abbrev s_law_emit : Stmt := top 116
abbrev s_law_branch : Stmt := top 117
abbrev s_law_pair : Stmt := top 118
abbrev s_law_code : Stmt := top 119
abbrev s_law_translate : Stmt := top 120
abbrev s_law_trap : Stmt := top 121
abbrev s_law_is_integer : Stmt := top 122
abbrev s_law_is_integers : Stmt := top 123
abbrev s_law_char : Stmt := top 124
abbrev s_law_codes : Stmt := top 125
abbrev s_law_text : Stmt := top 126
abbrev s_law_due : Stmt := top 127
abbrev s_law_place : Stmt := top 128
abbrev s_law_audited : Stmt := top 129
abbrev s_law_written : Stmt := top 130
abbrev s_law_build : Stmt := top 131
abbrev s_law_char_of : Stmt := top 132
abbrev s_law_plant : Stmt := top 133
abbrev s_law_again : Stmt := top 134
abbrev s_law_move : Stmt := top 135
abbrev s_law : Stmt := top 136
/-! ### the head's facts -/
def D_codes_of : He.DefD := ⟨("codes_of", none), "codes_of", "codes_of", defArgs s_codes_of, defBody s_codes_of, defScope s_codes_of, [], []⟩
def D_Translator_init : He.DefD := ⟨("Translator", some "__init__"), "__init__", "Translator.__init__", defArgs s_Translator_init, defBody s_Translator_init, defScope s_Translator_init, [], [("first", .int 200), ("by", .int 1)]⟩
def D_Translator_popped : He.DefD := ⟨("Translator", some "popped"), "popped", "Translator.popped", defArgs s_Translator_popped, defBody s_Translator_popped, defScope s_Translator_popped, [], []⟩
def D_Translator_number : He.DefD := ⟨("Translator", some "number"), "number", "Translator.number", defArgs s_Translator_number, defBody s_Translator_number, defScope s_Translator_number, [], []⟩
def D_Translator_put_node : He.DefD := ⟨("Translator", some "put_node"), "put_node", "Translator.put_node", defArgs s_Translator_put_node, defBody s_Translator_put_node, defScope s_Translator_put_node, [], []⟩
def D_Translator_emit : He.DefD := ⟨("Translator", some "emit"), "emit", "Translator.emit", defArgs s_Translator_emit, defBody s_Translator_emit, defScope s_Translator_emit, [], []⟩
def D_Translator_end_numeral : He.DefD := ⟨("Translator", some "end_numeral"), "end_numeral", "Translator.end_numeral", defArgs s_Translator_end_numeral, defBody s_Translator_end_numeral, defScope s_Translator_end_numeral, [], []⟩
def D_Translator_paired : He.DefD := ⟨("Translator", some "paired"), "paired", "Translator.paired", defArgs s_Translator_paired, defBody s_Translator_paired, defScope s_Translator_paired, [], []⟩
def D_Translator_bracket : He.DefD := ⟨("Translator", some "bracket"), "bracket", "Translator.bracket", defArgs s_Translator_bracket, defBody s_Translator_bracket, defScope s_Translator_bracket, [], []⟩
def D_Translator_sign : He.DefD := ⟨("Translator", some "sign"), "sign", "Translator.sign", defArgs s_Translator_sign, defBody s_Translator_sign, defScope s_Translator_sign, [], []⟩
def D_Translator_take : He.DefD := ⟨("Translator", some "take"), "take", "Translator.take", defArgs s_Translator_take, defBody s_Translator_take, defScope s_Translator_take, [], []⟩
def D_Translator_finish : He.DefD := ⟨("Translator", some "finish"), "finish", "Translator.finish", defArgs s_Translator_finish, defBody s_Translator_finish, defScope s_Translator_finish, [], []⟩
def D_translate : He.DefD := ⟨("translate", none), "translate", "translate", defArgs s_translate, defBody s_translate, defScope s_translate, [], [("first", .int 200), ("by", .int 1)]⟩
def D_due : He.DefD := ⟨("due", none), "due", "due", defArgs s_due, defBody s_due, defScope s_due, [], []⟩
def D_first_difference : He.DefD := ⟨("first_difference", none), "first_difference", "first_difference", defArgs s_first_difference, defBody s_first_difference, defScope s_first_difference, [], []⟩
def D_audit : He.DefD := ⟨("audit", none), "audit", "audit", defArgs s_audit, defBody s_audit, defScope s_audit, [], []⟩
def D_rung_text : He.DefD := ⟨("rung_text", none), "rung_text", "rung_text", defArgs s_rung_text, defBody s_rung_text, defScope s_rung_text, [], []⟩
def D_nodes_of : He.DefD := ⟨("nodes_of", none), "nodes_of", "nodes_of", defArgs s_nodes_of, defBody s_nodes_of, defScope s_nodes_of, [], []⟩
def D_image_of : He.DefD := ⟨("image_of", none), "image_of", "image_of", defArgs s_image_of, defBody s_image_of, defScope s_image_of, [], []⟩
def D_table_of : He.DefD := ⟨("table_of", none), "table_of", "table_of", defArgs s_table_of, defBody s_table_of, defScope s_table_of, [], []⟩
def D_d_push : He.DefD := ⟨("_push", none), "_push", "_push", defArgs s_d_push, defBody s_d_push, defScope s_d_push, [], []⟩
def D_d_plus : He.DefD := ⟨("_plus", none), "_plus", "_plus", defArgs s_d_plus, defBody s_d_plus, defScope s_d_plus, [], []⟩
def D_d_minus : He.DefD := ⟨("_minus", none), "_minus", "_minus", defArgs s_d_minus, defBody s_d_minus, defScope s_d_minus, [], []⟩
def D_d_digit : He.DefD := ⟨("_digit", none), "_digit", "_digit", defArgs s_d_digit, defBody s_d_digit, defScope s_d_digit, [], []⟩
def D_d_less : He.DefD := ⟨("_less", none), "_less", "_less", defArgs s_d_less, defBody s_d_less, defScope s_d_less, [], []⟩
def D_d_same : He.DefD := ⟨("_same", none), "_same", "_same", defArgs s_d_same, defBody s_d_same, defScope s_d_same, [], []⟩
def D_d_load : He.DefD := ⟨("_load", none), "_load", "_load", defArgs s_d_load, defBody s_d_load, defScope s_d_load, [], []⟩
def D_d_keep : He.DefD := ⟨("_keep", none), "_keep", "_keep", defArgs s_d_keep, defBody s_d_keep, defScope s_d_keep, [], []⟩
def D_d_assign : He.DefD := ⟨("_assign", none), "_assign", "_assign", defArgs s_d_assign, defBody s_d_assign, defScope s_d_assign, [], []⟩
def D_d_take : He.DefD := ⟨("_take", none), "_take", "_take", defArgs s_d_take, defBody s_d_take, defScope s_d_take, [], []⟩
def D_d_rewind : He.DefD := ⟨("_rewind", none), "_rewind", "_rewind", defArgs s_d_rewind, defBody s_d_rewind, defScope s_d_rewind, [], []⟩
def D_d_emit : He.DefD := ⟨("_emit", none), "_emit", "_emit", defArgs s_d_emit, defBody s_d_emit, defScope s_d_emit, [], []⟩
def D_d_cell : He.DefD := ⟨("_cell", none), "_cell", "_cell", defArgs s_d_cell, defBody s_d_cell, defScope s_d_cell, [], []⟩
def D_d_drop : He.DefD := ⟨("_drop", none), "_drop", "_drop", defArgs s_d_drop, defBody s_d_drop, defScope s_d_drop, [], []⟩
def D_d_double : He.DefD := ⟨("_double", none), "_double", "_double", defArgs s_d_double, defBody s_d_double, defScope s_d_double, [], []⟩
def D_d_exchange : He.DefD := ⟨("_exchange", none), "_exchange", "_exchange", defArgs s_d_exchange, defBody s_d_exchange, defScope s_d_exchange, [], []⟩
def D_d_test : He.DefD := ⟨("_test", none), "_test", "_test", defArgs s_d_test, defBody s_d_test, defScope s_d_test, [], []⟩
def D_d_call : He.DefD := ⟨("_call", none), "_call", "_call", defArgs s_d_call, defBody s_d_call, defScope s_d_call, [], []⟩
def D_d_call_low : He.DefD := ⟨("_call_low", none), "_call_low", "_call_low", defArgs s_d_call_low, defBody s_d_call_low, defScope s_d_call_low, [], []⟩
def D_d_return : He.DefD := ⟨("_return", none), "_return", "_return", defArgs s_d_return, defBody s_d_return, defScope s_d_return, [], []⟩
def D_State_init : He.DefD := ⟨("State", some "__init__"), "__init__", "State.__init__", defArgs s_State_init, defBody s_State_init, defScope s_State_init, [], []⟩
def D_State_pull : He.DefD := ⟨("State", some "pull"), "pull", "State.pull", defArgs s_State_pull, defBody s_State_pull, defScope s_State_pull, [], []⟩
def D_State_has_ended : He.DefD := ⟨("State", some "has_ended"), "has_ended", "State.has_ended", defArgs s_State_has_ended, defBody s_State_has_ended, defScope s_State_has_ended, [], []⟩
def D_State_step : He.DefD := ⟨("State", some "step"), "step", "State.step", defArgs s_State_step, defBody s_State_step, defScope s_State_step, [], []⟩
def D_State_advance : He.DefD := ⟨("State", some "advance"), "advance", "State.advance", defArgs s_State_advance, defBody s_State_advance, defScope s_State_advance, [], []⟩
def D_run : He.DefD := ⟨("run", none), "run", "run", defArgs s_run, defBody s_run, defScope s_run, [], []⟩
def D_is_trap : He.DefD := ⟨("is_trap", none), "is_trap", "is_trap", defArgs s_is_trap, defBody s_is_trap, defScope s_is_trap, [], []⟩
def D_is_plantable : He.DefD := ⟨("is_plantable", none), "is_plantable", "is_plantable", defArgs s_is_plantable, defBody s_is_plantable, defScope s_is_plantable, [], []⟩
def D_beginning : He.DefD := ⟨("beginning", none), "beginning", "beginning", defArgs s_beginning, defBody s_beginning, defScope s_beginning, [], []⟩
def D_comparison : He.DefD := ⟨("comparison", none), "comparison", "comparison", defArgs s_comparison, defBody s_comparison, defScope s_comparison, [], []⟩
def D_writing : He.DefD := ⟨("writing", none), "writing", "writing", defArgs s_writing, defBody s_writing, defScope s_writing, [], []⟩
def D_copying : He.DefD := ⟨("copying", none), "copying", "copying", defArgs s_copying, defBody s_copying, defScope s_copying, [], []⟩
def D_trap_nodes : He.DefD := ⟨("trap_nodes", none), "trap_nodes", "trap_nodes", defArgs s_trap_nodes, defBody s_trap_nodes, defScope s_trap_nodes, [], []⟩
def D_plant : He.DefD := ⟨("plant", none), "plant", "plant", defArgs s_plant, defBody s_plant, defScope s_plant, [], []⟩
def D_Entry_init : He.DefD := ⟨("Entry", some "__init__"), "__init__", "Entry.__init__", defArgs s_Entry_init, defBody s_Entry_init, defScope s_Entry_init, [], []⟩
def D_check_new : He.DefD := ⟨("check_new", none), "check_new", "check_new", defArgs s_check_new, defBody s_check_new, defScope s_check_new, [], []⟩
def D_Shelf_init : He.DefD := ⟨("Shelf", some "__init__"), "__init__", "Shelf.__init__", defArgs s_Shelf_init, defBody s_Shelf_init, defScope s_Shelf_init, [], []⟩
def D_Shelf_entry : He.DefD := ⟨("Shelf", some "entry"), "entry", "Shelf.entry", defArgs s_Shelf_entry, defBody s_Shelf_entry, defScope s_Shelf_entry, [], []⟩
def D_Shelf_names : He.DefD := ⟨("Shelf", some "names"), "names", "Shelf.names", defArgs s_Shelf_names, defBody s_Shelf_names, defScope s_Shelf_names, [], []⟩
def D_Shelf_kind : He.DefD := ⟨("Shelf", some "kind"), "kind", "Shelf.kind", defArgs s_Shelf_kind, defBody s_Shelf_kind, defScope s_Shelf_kind, [], []⟩
def D_Shelf_text : He.DefD := ⟨("Shelf", some "text"), "text", "Shelf.text", defArgs s_Shelf_text, defBody s_Shelf_text, defScope s_Shelf_text, [], []⟩
def D_Shelf_binary : He.DefD := ⟨("Shelf", some "binary"), "binary", "Shelf.binary", defArgs s_Shelf_binary, defBody s_Shelf_binary, defScope s_Shelf_binary, [], []⟩
def D_Shelf_put : He.DefD := ⟨("Shelf", some "put"), "put", "Shelf.put", defArgs s_Shelf_put, defBody s_Shelf_put, defScope s_Shelf_put, [], []⟩
def D_Shelf_build : He.DefD := ⟨("Shelf", some "build"), "build", "Shelf.build", defArgs s_Shelf_build, defBody s_Shelf_build, defScope s_Shelf_build, [], [("fuel", .int 100000)]⟩
def D_Shelf_swap : He.DefD := ⟨("Shelf", some "swap"), "swap", "Shelf.swap", defArgs s_Shelf_swap, defBody s_Shelf_swap, defScope s_Shelf_swap, [], []⟩
def D_Shelf_clone : He.DefD := ⟨("Shelf", some "clone"), "clone", "Shelf.clone", defArgs s_Shelf_clone, defBody s_Shelf_clone, defScope s_Shelf_clone, [], []⟩
def D_Shelf_damage : He.DefD := ⟨("Shelf", some "damage"), "damage", "Shelf.damage", defArgs s_Shelf_damage, defBody s_Shelf_damage, defScope s_Shelf_damage, [], []⟩
def D_Shelf_trap : He.DefD := ⟨("Shelf", some "trap"), "trap", "Shelf.trap", defArgs s_Shelf_trap, defBody s_Shelf_trap, defScope s_Shelf_trap, [], []⟩
def D_law_number : He.DefD := ⟨("_law_number", none), "_law_number", "_law_number", defArgs s_law_number, defBody s_law_number, defScope s_law_number, [], []⟩
def D_law_draws : He.DefD := ⟨("_law_draws", none), "_law_draws", "_law_draws", defArgs s_law_draws, defBody s_law_draws, defScope s_law_draws, [], []⟩
def D_law_next : He.DefD := ⟨("_law_next", none), "_law_next", "_law_next", defArgs s_law_next, defBody s_law_next, defScope s_law_next, [], []⟩
def D_law_pull : He.DefD := ⟨("_law_pull", none), "_law_pull", "_law_pull", defArgs s_law_pull, defBody s_law_pull, defScope s_law_pull, [], []⟩
def D_law_emit : He.DefD := ⟨("_law_emit", none), "_law_emit", "_law_emit", defArgs s_law_emit, defBody s_law_emit, defScope s_law_emit, [], []⟩
def D_law_branch : He.DefD := ⟨("_law_branch", none), "_law_branch", "_law_branch", defArgs s_law_branch, defBody s_law_branch, defScope s_law_branch, [], []⟩
def D_law_pair : He.DefD := ⟨("_law_pair", none), "_law_pair", "_law_pair", defArgs s_law_pair, defBody s_law_pair, defScope s_law_pair, [], []⟩
def D_law_code : He.DefD := ⟨("_law_code", none), "_law_code", "_law_code", defArgs s_law_code, defBody s_law_code, defScope s_law_code, [], []⟩
def D_law_translate : He.DefD := ⟨("_law_translate", none), "_law_translate", "_law_translate", defArgs s_law_translate, defBody s_law_translate, defScope s_law_translate, [], []⟩
def D_law_trap : He.DefD := ⟨("_law_trap", none), "_law_trap", "_law_trap", defArgs s_law_trap, defBody s_law_trap, defScope s_law_trap, [], []⟩
def D_law_is_integer : He.DefD := ⟨("_law_is_integer", none), "_law_is_integer", "_law_is_integer", defArgs s_law_is_integer, defBody s_law_is_integer, defScope s_law_is_integer, [], []⟩
def D_law_is_integers : He.DefD := ⟨("_law_is_integers", none), "_law_is_integers", "_law_is_integers", defArgs s_law_is_integers, defBody s_law_is_integers, defScope s_law_is_integers, [], []⟩
def D_law_char : He.DefD := ⟨("_law_char", none), "_law_char", "_law_char", defArgs s_law_char, defBody s_law_char, defScope s_law_char, [], []⟩
def D_law_codes : He.DefD := ⟨("_law_codes", none), "_law_codes", "_law_codes", defArgs s_law_codes, defBody s_law_codes, defScope s_law_codes, [], []⟩
def D_law_text : He.DefD := ⟨("_law_text", none), "_law_text", "_law_text", defArgs s_law_text, defBody s_law_text, defScope s_law_text, [], []⟩
def D_law_due : He.DefD := ⟨("_law_due", none), "_law_due", "_law_due", defArgs s_law_due, defBody s_law_due, defScope s_law_due, [], []⟩
def D_law_place : He.DefD := ⟨("_law_place", none), "_law_place", "_law_place", defArgs s_law_place, defBody s_law_place, defScope s_law_place, [], []⟩
def D_law_audited : He.DefD := ⟨("_law_audited", none), "_law_audited", "_law_audited", defArgs s_law_audited, defBody s_law_audited, defScope s_law_audited, [], []⟩
def D_law_written : He.DefD := ⟨("_law_written", none), "_law_written", "_law_written", defArgs s_law_written, defBody s_law_written, defScope s_law_written, [], []⟩
def D_law_build : He.DefD := ⟨("_law_build", none), "_law_build", "_law_build", defArgs s_law_build, defBody s_law_build, defScope s_law_build, [], []⟩
def D_law_char_of : He.DefD := ⟨("_law_char_of", none), "_law_char_of", "_law_char_of", defArgs s_law_char_of, defBody s_law_char_of, defScope s_law_char_of, [], []⟩
def D_law_plant : He.DefD := ⟨("_law_plant", none), "_law_plant", "_law_plant", defArgs s_law_plant, defBody s_law_plant, defScope s_law_plant, [], []⟩
def D_law_again : He.DefD := ⟨("_law_again", none), "_law_again", "_law_again", defArgs s_law_again, defBody s_law_again, defScope s_law_again, [], []⟩
def D_law_move : He.DefD := ⟨("_law_move", none), "_law_move", "_law_move", defArgs s_law_move, defBody s_law_move, defScope s_law_move, [], []⟩
def D_law : He.DefD := ⟨("law", none), "law", "law", defArgs s_law, defBody s_law, defScope s_law, [], []⟩
def fnL : List He.DefD := [D_codes_of, D_Translator_init, D_Translator_popped, D_Translator_number, D_Translator_put_node, D_Translator_emit, D_Translator_end_numeral, D_Translator_paired, D_Translator_bracket, D_Translator_sign, D_Translator_take, D_Translator_finish, D_translate, D_due, D_first_difference, D_audit, D_rung_text, D_nodes_of, D_image_of, D_table_of, D_d_push, D_d_plus, D_d_minus, D_d_digit, D_d_less, D_d_same, D_d_load, D_d_keep, D_d_assign, D_d_take, D_d_rewind, D_d_emit, D_d_cell, D_d_drop, D_d_double, D_d_exchange, D_d_test, D_d_call, D_d_call_low, D_d_return, D_State_init, D_State_pull, D_State_has_ended, D_State_step, D_State_advance, D_run, D_is_trap, D_is_plantable, D_beginning, D_comparison, D_writing, D_copying, D_trap_nodes, D_plant, D_Entry_init, D_check_new, D_Shelf_init, D_Shelf_entry, D_Shelf_names, D_Shelf_kind, D_Shelf_text, D_Shelf_binary, D_Shelf_put, D_Shelf_build, D_Shelf_swap, D_Shelf_clone, D_Shelf_damage, D_Shelf_trap, D_law_number, D_law_draws, D_law_next, D_law_pull, D_law_emit, D_law_branch, D_law_pair, D_law_code, D_law_translate, D_law_trap, D_law_is_integer, D_law_is_integers, D_law_char, D_law_codes, D_law_text, D_law_due, D_law_place, D_law_audited, D_law_written, D_law_build, D_law_char_of, D_law_plant, D_law_again, D_law_move, D_law]
/-- a text that the top binds: a constant, or constants joined by + -/
def strX : Expr → Str
  | .Constant (.str x) _ _ => x
  | .BinOp a .Add b _ => strX a ++ strX b
  | _ => Str.empty
def strE : Stmt → Str
  | .Assign _ v _ => strX v
  | _ => Str.empty
def faL : List He.Fa := [.glo "codes_of",
  .glo "translate",
  .glo "due",
  .glo "first_difference",
  .glo "audit",
  .glo "rung_text",
  .glo "nodes_of",
  .glo "image_of",
  .glo "table_of",
  .glo "_push",
  .glo "_plus",
  .glo "_minus",
  .glo "_digit",
  .glo "_less",
  .glo "_same",
  .glo "_load",
  .glo "_keep",
  .glo "_assign",
  .glo "_take",
  .glo "_rewind",
  .glo "_emit",
  .glo "_cell",
  .glo "_drop",
  .glo "_double",
  .glo "_exchange",
  .glo "_test",
  .glo "_call",
  .glo "_call_low",
  .glo "_return",
  .glo "run",
  .glo "is_trap",
  .glo "is_plantable",
  .glo "beginning",
  .glo "comparison",
  .glo "writing",
  .glo "copying",
  .glo "trap_nodes",
  .glo "plant",
  .glo "check_new",
  .glo "_law_number",
  .glo "_law_draws",
  .glo "_law_next",
  .glo "_law_pull",
  .glo "_law_emit",
  .glo "_law_branch",
  .glo "_law_pair",
  .glo "_law_code",
  .glo "_law_translate",
  .glo "_law_trap",
  .glo "_law_is_integer",
  .glo "_law_is_integers",
  .glo "_law_char",
  .glo "_law_codes",
  .glo "_law_text",
  .glo "_law_due",
  .glo "_law_place",
  .glo "_law_audited",
  .glo "_law_written",
  .glo "_law_build",
  .glo "_law_char_of",
  .glo "_law_plant",
  .glo "_law_again",
  .glo "_law_move",
  .glo "law",
  .glo "Translator",
  .cls "Translator",
  .mkr "Translator",
  .meth "Translator" "popped",
  .meth "Translator" "number",
  .meth "Translator" "put_node",
  .meth "Translator" "emit",
  .meth "Translator" "end_numeral",
  .meth "Translator" "paired",
  .meth "Translator" "bracket",
  .meth "Translator" "sign",
  .meth "Translator" "take",
  .meth "Translator" "finish",
  .noat "Translator" "by",
  .noat "Translator" "finished",
  .noat "Translator" "image",
  .noat "Translator" "k",
  .noat "Translator" "m",
  .noat "Translator" "numeral",
  .noat "Translator" "over",
  .noat "Translator" "pile",
  .noat "Translator" "waiting",
  .glo "State",
  .cls "State",
  .mkr "State",
  .meth "State" "pull",
  .meth "State" "has_ended",
  .meth "State" "step",
  .meth "State" "advance",
  .noat "State" "at",
  .noat "State" "back",
  .noat "State" "image",
  .noat "State" "numbers",
  .noat "State" "output",
  .noat "State" "place",
  .noat "State" "stack",
  .noat "State" "steps",
  .noat "State" "store",
  .noat "State" "table",
  .glo "Entry",
  .cls "Entry",
  .mkr "Entry",
  .noat "Entry" "binary",
  .noat "Entry" "kind",
  .noat "Entry" "text",
  .glo "Shelf",
  .cls "Shelf",
  .mkr "Shelf",
  .meth "Shelf" "entry",
  .meth "Shelf" "names",
  .meth "Shelf" "kind",
  .meth "Shelf" "text",
  .meth "Shelf" "binary",
  .meth "Shelf" "put",
  .meth "Shelf" "build",
  .meth "Shelf" "swap",
  .meth "Shelf" "clone",
  .meth "Shelf" "damage",
  .meth "Shelf" "trap",
  .noat "Shelf" "entries",
  .free "any",
  .free "bool",
  .free "enumerate",
  .free "int",
  .free "isinstance",
  .free "len",
  .free "list",
  .free "ord",
  .free "range",
  .free "tuple",
  .str "PRINTABLE" (strE (top 12)),
  .int "BLANK" 32,
  .int "QUOTE" 39,
  .int "RETURN_translate" 41,
  .int "COLON" 58,
  .int "SEMICOLON" 59,
  .int "ASSIGN" 61,
  .int "PUSH_translate" 35,
  .int "TEST_translate" 63,
  .str "DIGITS" (strE (top 33)),
  .str "SHORT" (strE (top 34)),
  .str "PLAIN_audit" (strE (top 35)),
  .glo "KINDS",
  .glo "TEXTS",
  .int "FIRST_LETTER" 97,
  .int "LAST_LETTER" 122,
  .int "FIRST_CAPITAL" 65,
  .int "LAST_CAPITAL" 90,
  .int "LAST_LOW" 199,
  .glo "DEEDS",
  .int "BASE" 1000000,
  .int "MOST_LURE" 12,
  .int "MOST_EXTRA" 24,
  .int "FIXED" 14,
  .int "PUSH_traps" 35,
  .int "CELL" 38,
  .int "CALL" 40,
  .int "RETURN_traps" 41,
  .int "PLUS" 43,
  .int "TAKE" 44,
  .int "GIVE" 46,
  .int "DOUBLE" 34,
  .int "TEST_traps" 63,
  .int "REWIND" 94,
  .int "DROP" 95,
  .int "SAME" 126,
  .int "LONGEST_NAME" 12]
def deedL : List (Int × Str) := [(35, "_push"), (43, "_plus"), (45, "_minus"), (42, "_digit"), (60, "_less"), (126, "_same"), (64, "_load"), (33, "_keep"), (61, "_assign"), (44, "_take"), (94, "_rewind"), (46, "_emit"), (38, "_cell"), (95, "_drop"), (34, "_double"), (92, "_exchange"), (63, "_test"), (40, "_call"), (36, "_call_low"), (41, "_return")]
def keyI (e : DictEntry) : Option (Int × Int × Value) := match e.key with
  | .int k _ => some (k, e.hash, e.val)
  | _ => none
def deedsB (K : PySem.W.Frag) : Bool := match K.lookup (He.ga K "DEEDS") with
  | some ⟨.type c, none, .dict es _, sl⟩ => decide (c = "dict") && (sl.isEmpty && (!(He.ga K "DEEDS" == sysModules) && decide (es.toList.map keyI = deedL.map fun q => some (q.1, hashInt q.1, Value.ref (He.ga K q.2)))))
  | _ => false
def kindsL : List He.Dv := [.str "digits", .str "short", .str "plain", .str "turned"]
def textsL : List (Str × He.Dv) := [("plain", .str (strE (top 44))), ("turned", .str (strE (top 45)))]
def natsB : List Nat → List Nat → Bool
  | [], [] => true
  | a :: r, b :: q => Nat.beq a b && natsB r q
  | _, _ => false
def textB (K : PySem.W.Frag) (z x : Str) : Bool := match PySem.W.nsIn K (He.ga K "TEXTS") z with
  | some (some (.str u _)) => natsB u.cps.toList x.cps.toList
  | _ => false
def exB1 (K : PySem.W.Frag) : Bool := deedsB K && He.tupB K "KINDS" kindsL
def exB2 (K : PySem.W.Frag) : Bool := textB K "plain" (strE (top 44)) && textB K "turned" (strE (top 45))
def exB (K : PySem.W.Frag) : Bool := exB1 K && exB2 K
def tabL : List He.Tab := [(fun K => He.ga K "TEXTS", ["first", "second", "plain", "turned"])]
/-- the addresses at which the defs, their codes, the classes and tables stand -/
def adL : List Addr := [3, 156, 155, 321, 320, 248, 247, 241, 255, 254, 262, 261, 269, 268, 276, 275, 283, 282, 290, 289, 297, 296, 304, 303, 311, 310, 318, 317, 333, 332, 326, 334, 341, 340, 348, 347, 355, 354, 356, 363, 362, 368, 367, 375, 374, 382, 381, 389, 388, 396, 395, 403, 402, 410, 409, 417, 416, 424, 423, 431, 430, 438, 437, 445, 444, 452, 451, 459, 458, 466, 465, 473, 472, 480, 479, 487, 486, 494, 493, 501, 500, 508, 507, 515, 514, 522, 521, 523, 574, 573, 538, 537, 545, 544, 552, 551, 559, 558, 566, 565, 585, 584, 590, 589, 597, 596, 604, 603, 611, 610, 618, 617, 625, 624, 632, 631, 639, 638, 656, 655, 653, 652, 667, 666, 762, 761, 681, 680, 688, 687, 695, 694, 702, 701, 709, 708, 716, 715, 723, 722, 731, 730, 724, 738, 737, 745, 744, 752, 751, 759, 758, 773, 772, 780, 779, 787, 786, 794, 793, 801, 800, 808, 807, 815, 814, 822, 821, 829, 828, 836, 835, 843, 842, 850, 849, 857, 856, 862, 861, 869, 868, 876, 875, 883, 882, 890, 889, 897, 896, 902, 901, 909, 908, 916, 915, 923, 922, 928, 927, 935, 934]
abbrev AlL : Type := He.AlT × Bool
def obsL (g : Addr → Option Obj) : AlL := (He.obsT faL fnL tabL (He.frG g adL), exB (He.frG g adL))
def hk : PySem.W.Hook where
  α := AlL
  obs := fun s => obsL s.heap.get?
  val := fun w => (He.valT fnL tabL w, true)
  says := fun w h => ∃ K : PySem.W.Frag, K.In h ∧ He.SaysT faL fnL tabL w K ∧ exB K = true
  of := fun _ _ e => ⟨_, He.frG_in, congrArg (fun z : AlL => z.1) e, congrArg (fun z : AlL => z.2) e⟩
  keeps := fun _ _ _ ⟨K, hK, c⟩ k => ⟨K, PySem.W.Frag.In.keeps hK k, c⟩
def ob (s : PySem.W.SharedT) : AlL := obsL (HandSHeadRun.getT s)
theorem ob_eq (s : PySem.W.SharedT) : ob s = hk.obs s.abs := by
  have e : HandSHeadRun.getT s = s.abs.heap.get? := funext (HandSHeadRun.getT_eq s)
  show obsL (HandSHeadRun.getT s) = obsL s.abs.heap.get?
  rw [e]
abbrev R : PySem.W.OpenRow := PySem.W.OpenLaw.row RW
def loose0 : List Str := ["__name__", "PlinthError", "NotText", "BadFuel", "BadTrap", "NotPlantable", "BadName", "BadKind", "NoEntry", "OutOfRange", "NoRung", "PRINTABLE", "codes_of", "readable", "is_digit", "read_digits", "ShortReader", "translate_short", "BLANK", "QUOTE", "RETURN_translate", "COLON", "SEMICOLON", "ASSIGN", "PUSH_translate", "TEST_translate", "Translator", "translate", "DIGITS", "SHORT"]
def loose1 : List Str := ["PLAIN_audit", "TURNED_audit", "KINDS", "due", "first_difference", "audit", "FIRST", "SECOND", "PLAIN_rungs", "TURNED_rungs", "TEXTS", "rung_text", "nodes_of", "image_of", "table_of", "FIRST_LETTER", "LAST_LETTER", "FIRST_CAPITAL", "LAST_CAPITAL", "LAST_LOW", "_push", "_plus", "_minus", "_digit", "_less", "_same", "_load", "_keep", "_assign", "_take"]
def loose2 : List Str := ["_rewind", "_emit", "_cell", "_drop", "_double", "_exchange", "_test", "_call", "_call_low", "_return", "DEEDS", "State", "run", "BASE", "MOST_LURE", "MOST_EXTRA", "FIXED", "PUSH_traps", "CELL", "CALL", "RETURN_traps", "PLUS", "TAKE", "GIVE", "DOUBLE", "TEST_traps", "REWIND", "DROP", "SAME", "is_trap"]
def loose3 : List Str := ["is_plantable", "beginning", "comparison", "writing", "copying", "trap_nodes", "plant", "LONGEST_NAME", "Entry", "check_new", "Shelf", "_law_number", "_law_draws", "_law_next", "_law_pull", "_law_emit", "_law_branch", "_law_pair", "_law_code", "_law_translate", "_law_trap", "_law_is_integer", "_law_is_integers", "_law_char", "_law_codes", "_law_text", "_law_due", "_law_place", "_law_audited", "_law_written"]
def loose4 : List Str := ["_law_build", "_law_char_of", "_law_plant", "_law_again", "_law_move"]
def looseL : List Str := loose0 ++ (loose1 ++ (loose2 ++ (loose3 ++ (loose4))))
end Pl

set_option Elab.async false
set_option linter.all false
set_option maxRecDepth 100000
set_option maxHeartbeats 0
namespace Pl
open PySem PySem.W PySem.Spec PyProof.Rows L2 HandSHeadRun
theorem run_lk_false (w : World) (os : OsState) : (endF (stepQ (denQ tabQ) R.prog (w.withFollow "special-get-raises" false)) 12000 R.prog (w.withFollow "special-get-raises" false) os).map (fun s => (looksF R.prog (boot_heap (w.withFollow "special-get-raises" false).params) s.abs, seenQ (view R.prog [136]) looseL (importedModules R.prog.main.body) (fun s => xlAt (view R.prog [136]) [] s && recOk R.toRowW.records s) s.abs)) = some (true, openGood (view R.prog [136]) looseL) := by kernel_rfl
theorem run_f1_false (w : World) (os : OsState) : (endF (stepQ (denQ tabQ) R.prog (w.withFollow "special-get-raises" false)) 12000 R.prog (w.withFollow "special-get-raises" false) os).map (fun s => faL.all fun f => f.ok (He.frG (getT s) adL)) = some true := by kernel_rfl
theorem run_fm_false (w : World) (os : OsState) : (endF (stepQ (denQ tabQ) R.prog (w.withFollow "special-get-raises" false)) 12000 R.prog (w.withFollow "special-get-raises" false) os).map (fun s => (fnL.all fun d => d.ok (He.frG (getT s) adL), fnL.map fun d => He.fnW (He.frG (getT s) adL) d.at_, (tabL.map fun t => He.dicW (He.frG (getT s) adL) (t.1 (He.frG (getT s) adL)), exB1 (He.frG (getT s) adL)))) = some (true, (fnL.map He.DefD.val), (tabL.map fun t => some (He.keysIn (w.withFollow "special-get-raises" false).params t.2), true)) := by kernel_rfl
theorem run_f6_false (w : World) (os : OsState) : (endF (stepQ (denQ tabQ) R.prog (w.withFollow "special-get-raises" false)) 12000 R.prog (w.withFollow "special-get-raises" false) os).map (fun s => exB2 (He.frG (getT s) adL)) = some true := by kernel_rfl
theorem run_lk_true (w : World) (os : OsState) : (endF (stepQ (denQ tabQ) R.prog (w.withFollow "special-get-raises" true)) 12000 R.prog (w.withFollow "special-get-raises" true) os).map (fun s => (looksF R.prog (boot_heap (w.withFollow "special-get-raises" true).params) s.abs, seenQ (view R.prog [136]) looseL (importedModules R.prog.main.body) (fun s => xlAt (view R.prog [136]) [] s && recOk R.toRowW.records s) s.abs)) = some (true, openGood (view R.prog [136]) looseL) := by kernel_rfl
theorem run_f1_true (w : World) (os : OsState) : (endF (stepQ (denQ tabQ) R.prog (w.withFollow "special-get-raises" true)) 12000 R.prog (w.withFollow "special-get-raises" true) os).map (fun s => faL.all fun f => f.ok (He.frG (getT s) adL)) = some true := by kernel_rfl
theorem run_fm_true (w : World) (os : OsState) : (endF (stepQ (denQ tabQ) R.prog (w.withFollow "special-get-raises" true)) 12000 R.prog (w.withFollow "special-get-raises" true) os).map (fun s => (fnL.all fun d => d.ok (He.frG (getT s) adL), fnL.map fun d => He.fnW (He.frG (getT s) adL) d.at_, (tabL.map fun t => He.dicW (He.frG (getT s) adL) (t.1 (He.frG (getT s) adL)), exB1 (He.frG (getT s) adL)))) = some (true, (fnL.map He.DefD.val), (tabL.map fun t => some (He.keysIn (w.withFollow "special-get-raises" true).params t.2), true)) := by kernel_rfl
theorem run_f6_true (w : World) (os : OsState) : (endF (stepQ (denQ tabQ) R.prog (w.withFollow "special-get-raises" true)) 12000 R.prog (w.withFollow "special-get-raises" true) os).map (fun s => exB2 (He.frG (getT s) adL)) = some true := by kernel_rfl
theorem glue {S A B : Type} {o : Option S} {f : S → A} {g : S → B} {a : A} {b : B} (h1 : o.map f = some a) (h2 : o.map g = some b) : o.map (fun s => (f s, g s)) = some (a, b) := by
  cases o with
  | none => cases h1
  | some s =>
    show some (f s, g s) = _
    rw [Option.some.inj h1, Option.some.inj h2]
theorem fst_ {S A B : Type} {o : Option S} {f : S → A} {g : S → B} {a : A} {b : B} (h : o.map (fun s => (f s, g s)) = some (a, b)) : o.map f = some a := by
  cases o with
  | none => cases h
  | some s => exact congrArg (fun z : A × B => some z.1) (Option.some.inj h)
theorem snd_ {S A B : Type} {o : Option S} {f : S → A} {g : S → B} {a : A} {b : B} (h : o.map (fun s => (f s, g s)) = some (a, b)) : o.map g = some b := by
  cases o with
  | none => cases h
  | some s => exact congrArg (fun z : A × B => some z.2) (Option.some.inj h)
theorem glueB {S : Type} {o : Option S} {f g : S → Bool} (h1 : o.map f = some true) (h2 : o.map g = some true) : o.map (fun s => f s && g s) = some true := by
  cases o with
  | none => cases h1
  | some s =>
    show some (f s && g s) = _
    rw [Option.some.inj h1, Option.some.inj h2]
    rfl
theorem glue3 {S A B C : Type} {o : Option S} {f : S → A × B} {g : S → C} {a : A} {b : B} {c : C} (h1 : o.map f = some (a, b)) (h2 : o.map g = some c) : o.map (fun s => ((f s).1, (f s).2, g s)) = some (a, b, c) := by
  cases o with
  | none => cases h1
  | some s =>
    show some ((f s).1, (f s).2, g s) = _
    rw [Option.some.inj h1, Option.some.inj h2]
theorem runs_false (w : World) : RunEq R (view R.prog [136]) hk ob 12000 looseL (w.withFollow "special-get-raises" false) := fun os => by
  have h2 := glue (glue (glue (glueB (run_f1_false w os) (fst_ (run_fm_false w os))) (fst_ (snd_ (run_fm_false w os)))) (fst_ (snd_ (snd_ (run_fm_false w os))))) (glueB (snd_ (snd_ (snd_ (run_fm_false w os)))) (run_f6_false w os))
  have h := glue3 (run_lk_false w os) h2
  exact h
theorem runs_true (w : World) : RunEq R (view R.prog [136]) hk ob 12000 looseL (w.withFollow "special-get-raises" true) := fun os => by
  have h2 := glue (glue (glue (glueB (run_f1_true w os) (fst_ (run_fm_true w os))) (fst_ (snd_ (run_fm_true w os)))) (fst_ (snd_ (snd_ (run_fm_true w os))))) (glueB (snd_ (snd_ (snd_ (run_fm_true w os)))) (run_f6_true w os))
  have h := glue3 (run_lk_true w os) h2
  exact h
theorem runs (w : World) : RunEq R (view R.prog [136]) hk ob 12000 looseL w := byRow2 "special-get-raises" (P := fun w => RunEq R (view R.prog [136]) hk ob 12000 looseL w) runs_false runs_true w
end Pl

set_option Elab.async false
set_option linter.all false
set_option maxRecDepth 100000
set_option maxHeartbeats 4000000
/-! The machine, as a plain function; stacks top first, the output from its end, the input as what is left of it. -/
namespace Pl
abbrev Node := Int × Int × Int
structure M where
  at_ : Int
  stk : List Int
  sto : Int → Int
  bk : List Int
  rest : List Int
  out : List Int
def set (f : Int → Int) (a v : Int) : Int → Int := fun x => if x = a then v else f x
def z0 : Int → Int := fun _ => 0
def b2 (b : Bool) : Int := if b = true then 1 else 0
/-- the cell that `&` reads -/
def cellOf (im : List Int) (i : Int) : Int := if 0 ≤ i then im.getD i.toNat 0 else if -(im.length : Int) ≤ i then im.getD (i + im.length).toNat 0 else 0
/-- one operation; `at_` is the successor already -/
def act (lo : Int → Bool) (im nums : List Int) (op arg : Int) (m : M) : M :=
  if op = 35 then { m with stk := arg :: m.stk }
  else if 97 ≤ op ∧ op ≤ 122 then { m with stk := m.sto op :: m.stk }
  else if op = 61 then { m with sto := set m.sto arg (m.stk.headD 0), stk := m.stk.tail }
  else if op = 63 then { m with at_ := if m.stk.headD 0 = 0 then arg else m.at_, stk := m.stk.tail }
  else if op = 40 then { m with at_ := m.stk.headD 0, bk := m.at_ :: m.bk, stk := m.stk.tail }
  else if op = 41 then (match m.bk with | [] => m | b :: r => { m with at_ := b, bk := r })
  else if op = 46 then { m with out := m.stk.headD 0 :: m.out, stk := m.stk.tail }
  else if op = 44 then (match m.rest with | [] => { m with stk := -1 :: m.stk } | x :: r => { m with stk := x :: m.stk, rest := r })
  else if op = 43 then { m with stk := (m.stk.tail.headD 0 + m.stk.headD 0) :: m.stk.tail.tail }
  else if op = 45 then { m with stk := (m.stk.tail.headD 0 - m.stk.headD 0) :: m.stk.tail.tail }
  else if op = 42 then { m with stk := (10 * m.stk.tail.headD 0 + m.stk.headD 0) :: m.stk.tail.tail }
  else if op = 60 then { m with stk := b2 (decide (m.stk.tail.headD 0 < m.stk.headD 0)) :: m.stk.tail.tail }
  else if op = 126 then { m with stk := b2 (decide (m.stk.tail.headD 0 = m.stk.headD 0)) :: m.stk.tail.tail }
  else if op = 34 then { m with stk := m.stk.headD 0 :: m.stk.headD 0 :: m.stk.tail }
  else if op = 95 then { m with stk := m.stk.tail }
  else if op = 36 then (if lo (m.stk.headD 0) = true then { m with at_ := m.stk.headD 0, bk := m.at_ :: m.bk, stk := m.stk.tail } else { m with stk := m.stk.headD 0 :: m.stk.tail })
  else if op = 38 then { m with stk := cellOf im (m.stk.headD 0) :: m.stk.tail }
  else if op = 94 then { m with rest := nums }
  else if op = 64 then { m with stk := m.sto (m.stk.headD 0) :: m.stk.tail }
  else if op = 33 then { m with sto := set m.sto (m.stk.headD 0) (m.stk.tail.headD 0), stk := m.stk.tail.tail }
  else if op = 92 then { m with stk := m.stk.tail.headD 0 :: m.stk.headD 0 :: m.stk.tail.tail }
  else if 65 ≤ op ∧ op ≤ 90 then { m with at_ := op, bk := m.at_ :: m.bk }
  else m
def stepM (T : Int → Option Node) (lo : Int → Bool) (im nums : List Int) (m : M) : Option M := match T m.at_ with
  | none => none
  | some (op, arg, nx) => some (act lo im nums op arg { m with at_ := nx })
def stepsM (T : Int → Option Node) (lo : Int → Bool) (im nums : List Int) : Nat → M → Option M
  | 0, m => some m
  | n + 1, m => match stepM T lo im nums m with
    | none => none
    | some m' => stepsM T lo im nums n m'
inductive Tree where
  | e
  | n (l : Tree) (k : Int) (v : Node) (r : Tree)
def Tree.get : Tree → Int → Option Node
  | .e, _ => none
  | .n l k v r, x => if x = k then some v else if x < k then l.get x else r.get x
def loB (n : Int) : Bool := decide (n = 39) || decide (n = 49) || decide (n = 50) || decide (n = 51) || decide (n = 58) || decide (n = 59) || decide (n = 61) || decide (n = 91) || decide (n = 93) || decide (n = 123) || decide (n = 124) || decide (n = 125)
/-! ### the translation -/
structure Tr where
  img : List Int
  m : Int
  k : Int
  pile : List Int
  num : Option Int
  wait : Int
def Tr.emit (by_ op arg : Int) (t : Tr) : Tr := { t with img := t.k :: arg :: op :: t.m :: t.img, m := t.k, k := t.k + by_ }
def Tr.endNum (by_ : Int) (t : Tr) : Tr := match t.num with
  | none => t
  | some v => { t.emit by_ 35 v with num := none }
def Tr.bracket (by_ c : Int) (t : Tr) : Tr :=
  if c = 91 then ({ t with k := t.k + by_, pile := t.k :: t.pile } : Tr).emit by_ 63 t.k
  else if c = 124 then { t with img := t.k :: 0 :: 32 :: t.m :: t.img, m := t.pile.headD 0, k := t.k + by_, pile := t.k :: t.pile.tail }
  else if c = 93 then { t with img := t.pile.headD 0 :: 0 :: 32 :: t.m :: t.img, m := t.pile.headD 0, pile := t.pile.tail }
  else if c = 123 then { t with img := t.k :: 0 :: 32 :: t.m :: t.img, m := t.k, k := t.k + by_, pile := t.k :: t.pile }
  else { t with img := t.pile.headD 0 :: t.k :: 63 :: t.m :: t.img, m := t.k, k := t.k + by_, pile := t.pile.tail }
def Tr.sign (by_ c : Int) (t : Tr) : Tr :=
  if c ≤ 32 then t
  else if c = 39 ∨ c = 61 ∨ c = 58 then { t with wait := c }
  else if c = 91 ∨ c = 93 ∨ (123 ≤ c ∧ c ≤ 125) then t.bracket by_ c
  else if c = 59 then { t with img := 1 :: 0 :: 41 :: t.m :: t.img, m := t.pile.headD 0, pile := t.pile.tail }
  else t.emit by_ c 0
def Tr.paired (by_ c : Int) (t : Tr) : Tr :=
  if t.wait = 39 then { t.emit by_ 35 c with wait := 0 }
  else if t.wait = 61 then { t.emit by_ 61 c with wait := 0 }
  else { t with pile := t.m :: t.pile, m := c, wait := 0 }
def Tr.take (by_ c : Int) (t : Tr) : Tr :=
  if t.wait ≠ 0 then t.paired by_ c
  else if 48 ≤ c ∧ c ≤ 57 then { t with num := some (10 * t.num.getD 0 + c - 48) }
  else (t.endNum by_).sign by_ c
def Tr.fin (by_ : Int) (t : Tr) : Tr := (({ t with wait := 0 } : Tr).endNum by_).emit by_ 41 0
def Tr.start (first by_ : Int) : Tr := ⟨[first, 0, 32, 0], first, first + by_, [], none, 0⟩
def Tr.run (by_ : Int) (l : List Int) (t : Tr) : Tr := l.foldl (fun t c => t.take by_ c) t
/-- the translation of a program -/
def trans (first by_ : Int) (l : List Int) : List Int := (((Tr.start first by_).run by_ l).fin by_).img.reverse
/-! ### the machine at the head of the compilers' loop, and behind the numeral -/
structure Rel (L : Int) (b : List Int) (t : Tr) (r : List Int) (m : M) : Prop where
  at_ : m.at_ = L
  stk : m.stk = t.pile
  bk : m.bk = b
  rest : m.rest = r
  out : m.out = t.img
  sm : m.sto 109 = t.m
  sk : m.sto 107 = t.k
  se : m.sto 101 = 0
  sn : (t.num = none ∧ m.sto 114 = 0 ∧ m.sto 102 = 0) ∨ ∃ v, t.num = some v ∧ m.sto 114 = v ∧ m.sto 102 = 1
  w : t.wait = 0
structure Mid (A : Int) (b : List Int) (t : Tr) (r : List Int) (c : Int) (m : M) : Prop where
  at_ : m.at_ = A
  stk : m.stk = t.pile
  bk : m.bk = b
  rest : m.rest = r
  out : m.out = t.img
  sm : m.sto 109 = t.m
  sk : m.sto 107 = t.k
  se : m.sto 101 = 0
  sr : m.sto 114 = 0
  sf : m.sto 102 = 0
  sc : m.sto 99 = c
  num : t.num = none
  w : t.wait = 0
theorem if_b2 {p : Prop} [Decidable p] {a b : Int} : (if b2 (decide p) = 0 then a else b) = if p then b else a := by
  unfold b2
  by_cases h : p <;> simp [h]
theorem set_same {s : Int → Int} {a v : Int} : set s a v a = v := by simp [set]
theorem stepsM_tr {T : Int → Option Node} {lo : Int → Bool} {im nums : List Int} : ∀ {n k : Nat} {m m1 m2 : M}, stepsM T lo im nums n m = some m1 → stepsM T lo im nums k m1 = some m2 → stepsM T lo im nums (n + k) m = some m2
  | 0, k, m, m1, m2, h1, h2 => by
    have e : m = m1 := Option.some.inj h1
    rw [Nat.zero_add, e]
    exact h2
  | n + 1, k, m, m1, m2, h1, h2 => by
    rw [show n + 1 + k = (n + k) + 1 by omega]
    unfold stepsM at h1 ⊢
    cases e : stepM T lo im nums m with
    | none => rw [e] at h1; cases h1
    | some m' =>
      rw [e] at h1
      exact stepsM_tr h1 h2
end Pl

set_option Elab.async false
set_option linter.all false
set_option maxRecDepth 100000
set_option maxHeartbeats 4000000
namespace Pl
/-! ### the P compiler's table and segments -/
def treeP : Tree := (.n (.n (.n (.n (.n (.n (.n (.n .e 39 (44, 0, 292) .e) 49 (61, 110, 270) (.n .e 50 (107, 0, 281) .e)) 51 (107, 0, 286) (.n (.n .e 58 (44, 0, 322) .e) 59 (35, 41, 389) .e)) 61 (44, 0, 307) (.n (.n (.n .e 91 (35, 50, 336) .e) 93 (61, 116, 356) (.n .e 123 (35, 50, 365) .e)) 124 (35, 50, 345) (.n (.n .e 125 (61, 115, 377) .e) 200 (35, 200, 201) .e))) 201 (61, 107, 202) (.n (.n (.n (.n .e 202 (35, 32, 203) .e) 203 (35, 0, 204) (.n .e 204 (35, 51, 205) .e)) 205 (40, 0, 206) (.n (.n .e 206 (32, 0, 207) .e) 207 (44, 0, 208) .e)) 208 (61, 99, 209) (.n (.n (.n .e 209 (35, 47, 210) .e) 210 (99, 0, 211) .e) 211 (60, 0, 212) (.n (.n .e 212 (63, 213, 214) .e) 213 (35, 0, 219) .e)))) 214 (99, 0, 215) (.n (.n (.n (.n (.n .e 215 (35, 58, 216) .e) 216 (60, 0, 217) (.n .e 217 (32, 0, 218) .e)) 218 (63, 220, 221) (.n (.n .e 219 (32, 0, 218) .e) 220 (102, 0, 231) .e)) 221 (114, 0, 222) (.n (.n (.n .e 222 (99, 0, 223) .e) 223 (35, 48, 224) .e) 224 (45, 0, 225) (.n (.n .e 225 (42, 0, 226) .e) 226 (61, 114, 227) .e))) 227 (35, 1, 228) (.n (.n (.n (.n .e 228 (61, 102, 229) .e) 229 (32, 0, 230) (.n .e 230 (101, 0, 262) .e)) 231 (63, 232, 233) (.n (.n .e 232 (99, 0, 242) .e) 233 (35, 35, 234) .e)) 234 (114, 0, 235) (.n (.n (.n .e 235 (35, 51, 236) .e) 236 (40, 0, 237) .e) 237 (35, 0, 238) (.n (.n .e 238 (34, 0, 239) .e) 239 (61, 114, 240) .e))))) 240 (61, 102, 241) (.n (.n (.n (.n (.n (.n .e 241 (32, 0, 232) .e) 242 (35, 33, 243) (.n .e 243 (60, 0, 244) .e)) 244 (63, 245, 246) (.n (.n .e 245 (99, 0, 252) .e) 246 (99, 0, 247) .e)) 247 (35, 0, 248) (.n (.n (.n .e 248 (60, 0, 249) .e) 249 (61, 101, 250) .e) 250 (32, 0, 251) (.n (.n .e 251 (32, 0, 230) .e) 252 (36, 0, 253) .e))) 253 (34, 0, 254) (.n (.n (.n (.n .e 254 (63, 255, 256) .e) 255 (95, 0, 261) (.n .e 256 (35, 0, 257) .e)) 257 (35, 51, 258) (.n (.n .e 258 (40, 0, 259) .e) 259 (32, 0, 260) .e)) 260 (32, 0, 251) (.n (.n (.n .e 261 (32, 0, 260) .e) 262 (35, 0, 263) .e) 263 (126, 0, 264) (.n (.n .e 264 (63, 265, 207) .e) 265 (35, 41, 266) .e)))) 266 (35, 0, 267) (.n (.n (.n (.n (.n .e 267 (35, 51, 268) .e) 268 (40, 0, 269) (.n .e 269 (41, 0, 396) .e)) 270 (61, 97, 271) (.n (.n .e 271 (61, 111, 272) .e) 272 (109, 0, 273) .e)) 273 (46, 0, 274) (.n (.n (.n .e 274 (111, 0, 275) .e) 275 (46, 0, 276) .e) 276 (97, 0, 277) (.n (.n .e 277 (46, 0, 278) .e) 278 (110, 0, 279) .e))) 279 (46, 0, 280) (.n (.n (.n (.n .e 280 (41, 0, 1) .e) 281 (107, 0, 282) (.n .e 282 (35, 1, 283) .e)) 283 (43, 0, 284) (.n (.n .e 284 (61, 107, 285) .e) 285 (41, 0, 1) .e)) 286 (35, 49, 287) (.n (.n (.n .e 287 (40, 0, 288) .e) 288 (35, 50, 289) .e) 289 (40, 0, 290) (.n (.n .e 290 (61, 109, 291) .e) 291 (41, 0, 1) .e)))))) 292 (34, 0, 293) (.n (.n (.n (.n (.n (.n (.n .e 293 (61, 99, 294) .e) 294 (35, 0, 295) (.n .e 295 (60, 0, 296) .e)) 296 (63, 297, 298) (.n (.n .e 297 (35, 35, 302) .e) 298 (35, 1, 299) .e)) 299 (61, 101, 300) (.n (.n (.n .e 300 (32, 0, 301) .e) 301 (35, 0, 306) .e) 302 (99, 0, 303) (.n (.n .e 303 (35, 51, 304) .e) 304 (40, 0, 305) .e))) 305 (32, 0, 301) (.n (.n (.n (.n .e 306 (41, 0, 1) .e) 307 (34, 0, 308) (.n .e 308 (61, 99, 309) .e)) 309 (35, 0, 310) (.n (.n .e 310 (60, 0, 311) .e) 311 (63, 312, 313) .e)) 312 (35, 61, 317) (.n (.n (.n .e 313 (35, 1, 314) .e) 314 (61, 101, 315) .e) 315 (32, 0, 316) (.n (.n .e 316 (35, 0, 321) .e) 317 (99, 0, 318) .e)))) 318 (35, 51, 319) (.n (.n (.n (.n (.n .e 319 (40, 0, 320) .e) 320 (32, 0, 316) (.n .e 321 (41, 0, 1) .e)) 322 (34, 0, 323) (.n (.n .e 323 (61, 99, 324) .e) 324 (35, 0, 325) .e)) 325 (60, 0, 326) (.n (.n (.n .e 326 (63, 327, 328) .e) 327 (109, 0, 332) .e) 328 (35, 1, 329) (.n (.n .e 329 (61, 101, 330) .e) 330 (32, 0, 331) .e))) 331 (35, 0, 335) (.n (.n (.n (.n .e 332 (99, 0, 333) .e) 333 (61, 109, 334) (.n .e 334 (32, 0, 331) .e)) 335 (41, 0, 1) (.n (.n .e 336 (40, 0, 337) .e) 337 (34, 0, 338) .e)) 338 (61, 116, 339) (.n (.n (.n .e 339 (35, 63, 340) .e) 340 (116, 0, 341) .e) 341 (35, 51, 342) (.n (.n .e 342 (40, 0, 343) .e) 343 (35, 0, 344) .e))))) 344 (41, 0, 1) (.n (.n (.n (.n (.n (.n .e 345 (40, 0, 346) .e) 346 (61, 116, 347) (.n .e 347 (35, 32, 348) .e)) 348 (35, 0, 349) (.n (.n .e 349 (116, 0, 350) .e) 350 (35, 49, 351) .e)) 351 (40, 0, 352) (.n (.n (.n .e 352 (61, 109, 353) .e) 353 (116, 0, 354) .e) 354 (35, 0, 355) (.n (.n .e 355 (41, 0, 1) .e) 356 (35, 32, 357) .e))) 357 (35, 0, 358) (.n (.n (.n (.n .e 358 (116, 0, 359) .e) 359 (35, 49, 360) (.n .e 360 (40, 0, 361) .e)) 361 (116, 0, 362) (.n (.n .e 362 (61, 109, 363) .e) 363 (35, 0, 364) .e)) 364 (41, 0, 1) (.n (.n (.n .e 365 (40, 0, 366) .e) 366 (61, 116, 367) .e) 367 (35, 32, 368) (.n (.n .e 368 (35, 0, 369) .e) 369 (116, 0, 370) .e)))) 370 (35, 49, 371) (.n (.n (.n (.n (.n .e 371 (40, 0, 372) .e) 372 (116, 0, 373) (.n .e 373 (61, 109, 374) .e)) 374 (116, 0, 375) (.n (.n .e 375 (35, 0, 376) .e) 376 (41, 0, 1) .e)) 377 (35, 50, 378) (.n (.n (.n .e 378 (40, 0, 379) .e) 379 (61, 116, 380) .e) 380 (35, 63, 381) (.n (.n .e 381 (116, 0, 382) .e) 382 (115, 0, 383) .e))) 383 (35, 49, 384) (.n (.n (.n (.n .e 384 (40, 0, 385) .e) 385 (116, 0, 386) (.n .e 386 (61, 109, 387) .e)) 387 (35, 0, 388) (.n (.n .e 388 (41, 0, 1) .e) 389 (35, 0, 390) .e)) 390 (35, 1, 391) (.n (.n (.n .e 391 (35, 49, 392) .e) 392 (40, 0, 393) .e) 393 (61, 109, 394) (.n (.n .e 394 (35, 0, 395) .e) 395 (41, 0, 1) .e)))))))
def lookP (x : Int) : Option Node := treeP.get x
abbrev RP (im nums : List Int) := stepsM lookP loB im nums
theorem P_start (im nums : List Int) (b : List Int) (r : List Int) (o : List Int) : RP im nums 32 ⟨200, [], z0, b, r, o⟩ = some ⟨207, [], (set (set (set (set (set (set z0 107 200) 110 200) 97 0) 111 32) 107 201) 109 200), b, r, 200 :: 0 :: 32 :: 0 :: o⟩ := by
  kernel_rfl
theorem P_A (im nums : List Int) (c : Int) (st : List Int) (s : Int → Int) (b : List Int) (r : List Int) (o : List Int) : RP im nums 6 ⟨207, st, s, b, c :: r, o⟩ = some ⟨(if (b2 (decide (47 < c))) = 0 then 213 else 214), st, (set s 99 c), b, r, o⟩ := by
  kernel_rfl
theorem P_Aend (im nums : List Int) (st : List Int) (s : Int → Int) (b : List Int) (o : List Int) : RP im nums 11 ⟨207, st, s, b, [], o⟩ = some ⟨(if (s 102) = 0 then 232 else 233), st, (set s 99 (-1)), b, [], o⟩ := by
  kernel_rfl
theorem P_B1 (im nums : List Int) (st : List Int) (s : Int → Int) (b : List Int) (r : List Int) (o : List Int) : RP im nums 5 ⟨214, st, s, b, r, o⟩ = some ⟨(if (b2 (decide ((s 99) < 58))) = 0 then 220 else 221), st, s, b, r, o⟩ := by
  kernel_rfl
theorem P_B2 (im nums : List Int) (st : List Int) (s : Int → Int) (b : List Int) (r : List Int) (o : List Int) : RP im nums 3 ⟨213, st, s, b, r, o⟩ = some ⟨220, st, s, b, r, o⟩ := by
  kernel_rfl
theorem P_D (im nums : List Int) (st : List Int) (s : Int → Int) (b : List Int) (r : List Int) (o : List Int) : RP im nums 9 ⟨221, st, s, b, r, o⟩ = some ⟨230, st, (set (set s 114 (10 * (s 114) + ((s 99) - 48))) 102 1), b, r, o⟩ := by
  kernel_rfl
theorem P_F (im nums : List Int) (st : List Int) (s : Int → Int) (b : List Int) (r : List Int) (o : List Int) : RP im nums 2 ⟨220, st, s, b, r, o⟩ = some ⟨(if (s 102) = 0 then 232 else 233), st, s, b, r, o⟩ := by
  kernel_rfl
theorem P_F1 (im nums : List Int) (st : List Int) (s : Int → Int) (b : List Int) (r : List Int) (o : List Int) : RP im nums 34 ⟨233, st, s, b, r, o⟩ = some ⟨232, st, (set (set (set (set (set (set (set s 110 (s 107)) 97 (s 114)) 111 35) 107 ((s 107) + 1)) 109 (s 107)) 114 0) 102 0), b, r, (s 107) :: (s 114) :: 35 :: (s 109) :: o⟩ := by
  kernel_rfl
theorem P_G (im nums : List Int) (st : List Int) (s : Int → Int) (b : List Int) (r : List Int) (o : List Int) : RP im nums 4 ⟨232, st, s, b, r, o⟩ = some ⟨(if (b2 (decide ((s 99) < 33))) = 0 then 245 else 246), st, s, b, r, o⟩ := by
  kernel_rfl
theorem P_G1 (im nums : List Int) (st : List Int) (s : Int → Int) (b : List Int) (r : List Int) (o : List Int) : RP im nums 6 ⟨246, st, s, b, r, o⟩ = some ⟨230, st, (set s 101 (b2 (decide ((s 99) < 0)))), b, r, o⟩ := by
  kernel_rfl
theorem P_H (im nums : List Int) (st : List Int) (s : Int → Int) (b : List Int) (r : List Int) (o : List Int) : RP im nums 2 ⟨245, st, s, b, r, o⟩ = some (if loB (s 99) = true then ⟨(s 99), st, s, 253 :: b, r, o⟩ else ⟨253, (s 99) :: st, s, b, r, o⟩) := by
  kernel_rfl
theorem P_I0 (im nums : List Int) (c : Int) (st : List Int) (s : Int → Int) (b : List Int) (r : List Int) (o : List Int) : RP im nums 2 ⟨253, c :: st, s, b, r, o⟩ = some ⟨(if c = 0 then 255 else 256), c :: st, s, b, r, o⟩ := by
  kernel_rfl
theorem P_I1 (im nums : List Int) (c : Int) (st : List Int) (s : Int → Int) (b : List Int) (r : List Int) (o : List Int) : RP im nums 31 ⟨256, c :: st, s, b, r, o⟩ = some ⟨230, st, (set (set (set (set (set s 110 (s 107)) 97 0) 111 c) 107 ((s 107) + 1)) 109 (s 107)), b, r, (s 107) :: 0 :: c :: (s 109) :: o⟩ := by
  kernel_rfl
theorem P_h_br (im nums : List Int) (st : List Int) (s : Int → Int) (b : List Int) (r : List Int) (o : List Int) : RP im nums 47 ⟨91, st, s, 253 :: b, r, o⟩ = some ⟨230, (s 107) :: st, (set (set (set (set (set (set (set s 107 ((s 107) + 1)) 116 (s 107)) 110 ((s 107) + 1)) 97 (s 107)) 111 63) 107 (((s 107) + 1) + 1)) 109 ((s 107) + 1)), b, r, ((s 107) + 1) :: (s 107) :: 63 :: (s 109) :: o⟩ := by
  kernel_rfl
theorem P_h_bar (im nums : List Int) (st : List Int) (s : Int → Int) (b : List Int) (r : List Int) (o : List Int) : RP im nums 36 ⟨124, st, s, 253 :: b, r, o⟩ = some ⟨230, (s 107) :: st.tail, (set (set (set (set (set (set s 107 ((s 107) + 1)) 116 (s 107)) 110 (s 107)) 97 0) 111 32) 109 (st.headD 0)), b, r, (s 107) :: 0 :: 32 :: (s 109) :: o⟩ := by
  kernel_rfl
theorem P_h_ket (im nums : List Int) (st : List Int) (s : Int → Int) (b : List Int) (r : List Int) (o : List Int) : RP im nums 28 ⟨93, st, s, 253 :: b, r, o⟩ = some ⟨230, st.tail, (set (set (set (set (set s 116 (st.headD 0)) 110 (st.headD 0)) 97 0) 111 32) 109 (st.headD 0)), b, r, (st.headD 0) :: 0 :: 32 :: (s 109) :: o⟩ := by
  kernel_rfl
theorem P_h_lb (im nums : List Int) (st : List Int) (s : Int → Int) (b : List Int) (r : List Int) (o : List Int) : RP im nums 37 ⟨123, st, s, 253 :: b, r, o⟩ = some ⟨230, (s 107) :: st, (set (set (set (set (set (set s 107 ((s 107) + 1)) 116 (s 107)) 110 (s 107)) 97 0) 111 32) 109 (s 107)), b, r, (s 107) :: 0 :: 32 :: (s 109) :: o⟩ := by
  kernel_rfl
theorem P_h_rb (im nums : List Int) (st : List Int) (s : Int → Int) (b : List Int) (r : List Int) (o : List Int) : RP im nums 37 ⟨125, st, s, 253 :: b, r, o⟩ = some ⟨230, st.tail, (set (set (set (set (set (set (set s 115 (st.headD 0)) 107 ((s 107) + 1)) 116 (s 107)) 110 (st.headD 0)) 97 (s 107)) 111 63) 109 (s 107)), b, r, (st.headD 0) :: (s 107) :: 63 :: (s 109) :: o⟩ := by
  kernel_rfl
theorem P_h_semi (im nums : List Int) (st : List Int) (s : Int → Int) (b : List Int) (r : List Int) (o : List Int) : RP im nums 26 ⟨59, st, s, 253 :: b, r, o⟩ = some ⟨230, st.tail, (set (set (set (set s 110 1) 97 0) 111 41) 109 (st.headD 0)), b, r, 1 :: 0 :: 41 :: (s 109) :: o⟩ := by
  kernel_rfl
theorem P_h_q0 (im nums : List Int) (d : Int) (st : List Int) (s : Int → Int) (b : List Int) (r : List Int) (o : List Int) : RP im nums 6 ⟨39, st, s, 253 :: b, d :: r, o⟩ = some ⟨(if (b2 (decide (d < 0))) = 0 then 297 else 298), st, (set s 99 d), 253 :: b, r, o⟩ := by
  kernel_rfl
theorem P_h_q1 (im nums : List Int) (st : List Int) (s : Int → Int) (b : List Int) (r : List Int) (o : List Int) : RP im nums 38 ⟨297, st, s, 253 :: b, r, o⟩ = some ⟨230, st, (set (set (set (set (set s 110 (s 107)) 97 (s 99)) 111 35) 107 ((s 107) + 1)) 109 (s 107)), b, r, (s 107) :: (s 99) :: 35 :: (s 109) :: o⟩ := by
  kernel_rfl
theorem P_h_qe (im nums : List Int) (st : List Int) (s : Int → Int) (b : List Int) (o : List Int) : RP im nums 17 ⟨39, st, s, 253 :: b, [], o⟩ = some ⟨230, st, (set (set s 99 (-1)) 101 1), b, [], o⟩ := by
  kernel_rfl
theorem P_h_as0 (im nums : List Int) (d : Int) (st : List Int) (s : Int → Int) (b : List Int) (r : List Int) (o : List Int) : RP im nums 6 ⟨61, st, s, 253 :: b, d :: r, o⟩ = some ⟨(if (b2 (decide (d < 0))) = 0 then 312 else 313), st, (set s 99 d), 253 :: b, r, o⟩ := by
  kernel_rfl
theorem P_h_as1 (im nums : List Int) (st : List Int) (s : Int → Int) (b : List Int) (r : List Int) (o : List Int) : RP im nums 38 ⟨312, st, s, 253 :: b, r, o⟩ = some ⟨230, st, (set (set (set (set (set s 110 (s 107)) 97 (s 99)) 111 61) 107 ((s 107) + 1)) 109 (s 107)), b, r, (s 107) :: (s 99) :: 61 :: (s 109) :: o⟩ := by
  kernel_rfl
theorem P_h_ase (im nums : List Int) (st : List Int) (s : Int → Int) (b : List Int) (o : List Int) : RP im nums 17 ⟨61, st, s, 253 :: b, [], o⟩ = some ⟨230, st, (set (set s 99 (-1)) 101 1), b, [], o⟩ := by
  kernel_rfl
theorem P_h_co0 (im nums : List Int) (d : Int) (st : List Int) (s : Int → Int) (b : List Int) (r : List Int) (o : List Int) : RP im nums 6 ⟨58, st, s, 253 :: b, d :: r, o⟩ = some ⟨(if (b2 (decide (d < 0))) = 0 then 327 else 328), st, (set s 99 d), 253 :: b, r, o⟩ := by
  kernel_rfl
theorem P_h_co1 (im nums : List Int) (st : List Int) (s : Int → Int) (b : List Int) (r : List Int) (o : List Int) : RP im nums 12 ⟨327, st, s, 253 :: b, r, o⟩ = some ⟨230, (s 109) :: st, (set s 109 (s 99)), b, r, o⟩ := by
  kernel_rfl
theorem P_h_coe (im nums : List Int) (st : List Int) (s : Int → Int) (b : List Int) (o : List Int) : RP im nums 17 ⟨58, st, s, 253 :: b, [], o⟩ = some ⟨230, st, (set (set s 99 (-1)) 101 1), b, [], o⟩ := by
  kernel_rfl
theorem P_tail (im nums : List Int) (st : List Int) (s : Int → Int) (b : List Int) (r : List Int) (o : List Int) : RP im nums 4 ⟨230, st, s, b, r, o⟩ = some ⟨(if (b2 (decide ((s 101) = 0))) = 0 then 265 else 207), st, s, b, r, o⟩ := by
  kernel_rfl
theorem P_E (im nums : List Int) (st : List Int) (s : Int → Int) (b : List Int) (r : List Int) (o : List Int) : RP im nums 29 ⟨265, st, s, b, r, o⟩ = some ⟨269, st, (set (set (set (set (set s 110 (s 107)) 97 0) 111 41) 107 ((s 107) + 1)) 109 (s 107)), b, r, (s 107) :: 0 :: 41 :: (s 109) :: o⟩ := by
  kernel_rfl
/-! ### the T compiler's table and segments -/
def treeT : Tree := (.n (.n (.n (.n (.n (.n (.n (.n .e 39 (44, 0, 294) .e) 49 (61, 110, 272) (.n .e 50 (107, 0, 283) .e)) 51 (107, 0, 288) (.n (.n .e 58 (44, 0, 324) .e) 59 (35, 41, 391) .e)) 61 (44, 0, 309) (.n (.n (.n .e 91 (35, 50, 338) .e) 93 (61, 116, 358) (.n .e 123 (35, 50, 367) .e)) 124 (35, 50, 347) (.n (.n .e 125 (61, 115, 379) .e) 200 (35, 0, 201) .e))) 201 (35, 1, 202) (.n (.n (.n (.n .e 202 (45, 0, 203) .e) 203 (61, 107, 204) (.n .e 204 (35, 32, 205) .e)) 205 (35, 0, 206) (.n (.n .e 206 (35, 51, 207) .e) 207 (40, 0, 208) .e)) 208 (32, 0, 209) (.n (.n (.n .e 209 (44, 0, 210) .e) 210 (61, 99, 211) .e) 211 (35, 47, 212) (.n (.n .e 212 (99, 0, 213) .e) 213 (60, 0, 214) .e)))) 214 (63, 215, 216) (.n (.n (.n (.n (.n .e 215 (35, 0, 221) .e) 216 (99, 0, 217) (.n .e 217 (35, 58, 218) .e)) 218 (60, 0, 219) (.n (.n .e 219 (32, 0, 220) .e) 220 (63, 222, 223) .e)) 221 (32, 0, 220) (.n (.n (.n .e 222 (102, 0, 233) .e) 223 (114, 0, 224) .e) 224 (99, 0, 225) (.n (.n .e 225 (35, 48, 226) .e) 226 (45, 0, 227) .e))) 227 (42, 0, 228) (.n (.n (.n (.n .e 228 (61, 114, 229) .e) 229 (35, 1, 230) (.n .e 230 (61, 102, 231) .e)) 231 (32, 0, 232) (.n (.n .e 232 (101, 0, 264) .e) 233 (63, 234, 235) .e)) 234 (99, 0, 244) (.n (.n (.n .e 235 (35, 35, 236) .e) 236 (114, 0, 237) .e) 237 (35, 51, 238) (.n (.n .e 238 (40, 0, 239) .e) 239 (35, 0, 240) .e))))) 240 (34, 0, 241) (.n (.n (.n (.n (.n (.n .e 241 (61, 114, 242) .e) 242 (61, 102, 243) (.n .e 243 (32, 0, 234) .e)) 244 (35, 33, 245) (.n (.n .e 245 (60, 0, 246) .e) 246 (63, 247, 248) .e)) 247 (99, 0, 254) (.n (.n (.n .e 248 (99, 0, 249) .e) 249 (35, 0, 250) (.n .e 250 (60, 0, 251) .e)) 251 (61, 101, 252) (.n (.n .e 252 (32, 0, 253) .e) 253 (32, 0, 232) .e))) 254 (36, 0, 255) (.n (.n (.n (.n .e 255 (34, 0, 256) .e) 256 (63, 257, 258) (.n .e 257 (95, 0, 263) .e)) 258 (35, 0, 259) (.n (.n .e 259 (35, 51, 260) .e) 260 (40, 0, 261) .e)) 261 (32, 0, 262) (.n (.n (.n .e 262 (32, 0, 253) .e) 263 (32, 0, 262) .e) 264 (35, 0, 265) (.n (.n .e 265 (126, 0, 266) .e) 266 (63, 267, 209) .e)))) 267 (35, 41, 268) (.n (.n (.n (.n (.n .e 268 (35, 0, 269) .e) 269 (35, 51, 270) (.n .e 270 (40, 0, 271) .e)) 271 (41, 0, 398) (.n (.n .e 272 (61, 97, 273) .e) 273 (61, 111, 274) .e)) 274 (109, 0, 275) (.n (.n (.n .e 275 (46, 0, 276) .e) 276 (111, 0, 277) .e) 277 (46, 0, 278) (.n (.n .e 278 (97, 0, 279) .e) 279 (46, 0, 280) .e))) 280 (110, 0, 281) (.n (.n (.n (.n .e 281 (46, 0, 282) .e) 282 (41, 0, 1) (.n .e 283 (107, 0, 284) .e)) 284 (35, 1, 285) (.n (.n .e 285 (45, 0, 286) .e) 286 (61, 107, 287) .e)) 287 (41, 0, 1) (.n (.n (.n .e 288 (35, 49, 289) .e) 289 (40, 0, 290) .e) 290 (35, 50, 291) (.n (.n .e 291 (40, 0, 292) .e) 292 (61, 109, 293) .e)))))) 293 (41, 0, 1) (.n (.n (.n (.n (.n (.n (.n .e 294 (34, 0, 295) .e) 295 (61, 99, 296) (.n .e 296 (35, 0, 297) .e)) 297 (60, 0, 298) (.n (.n .e 298 (63, 299, 300) .e) 299 (35, 35, 304) .e)) 300 (35, 1, 301) (.n (.n (.n .e 301 (61, 101, 302) .e) 302 (32, 0, 303) (.n .e 303 (35, 0, 308) .e)) 304 (99, 0, 305) (.n (.n .e 305 (35, 51, 306) .e) 306 (40, 0, 307) .e))) 307 (32, 0, 303) (.n (.n (.n (.n .e 308 (41, 0, 1) .e) 309 (34, 0, 310) (.n .e 310 (61, 99, 311) .e)) 311 (35, 0, 312) (.n (.n .e 312 (60, 0, 313) .e) 313 (63, 314, 315) .e)) 314 (35, 61, 319) (.n (.n (.n .e 315 (35, 1, 316) .e) 316 (61, 101, 317) .e) 317 (32, 0, 318) (.n (.n .e 318 (35, 0, 323) .e) 319 (99, 0, 320) .e)))) 320 (35, 51, 321) (.n (.n (.n (.n (.n .e 321 (40, 0, 322) .e) 322 (32, 0, 318) (.n .e 323 (41, 0, 1) .e)) 324 (34, 0, 325) (.n (.n .e 325 (61, 99, 326) .e) 326 (35, 0, 327) .e)) 327 (60, 0, 328) (.n (.n (.n .e 328 (63, 329, 330) .e) 329 (109, 0, 334) .e) 330 (35, 1, 331) (.n (.n .e 331 (61, 101, 332) .e) 332 (32, 0, 333) .e))) 333 (35, 0, 337) (.n (.n (.n (.n .e 334 (99, 0, 335) .e) 335 (61, 109, 336) (.n .e 336 (32, 0, 333) .e)) 337 (41, 0, 1) (.n (.n .e 338 (40, 0, 339) .e) 339 (34, 0, 340) .e)) 340 (61, 116, 341) (.n (.n (.n .e 341 (35, 63, 342) .e) 342 (116, 0, 343) .e) 343 (35, 51, 344) (.n (.n .e 344 (40, 0, 345) .e) 345 (35, 0, 346) .e))))) 346 (41, 0, 1) (.n (.n (.n (.n (.n (.n .e 347 (40, 0, 348) .e) 348 (61, 116, 349) (.n .e 349 (35, 32, 350) .e)) 350 (35, 0, 351) (.n (.n .e 351 (116, 0, 352) .e) 352 (35, 49, 353) .e)) 353 (40, 0, 354) (.n (.n (.n .e 354 (61, 109, 355) .e) 355 (116, 0, 356) .e) 356 (35, 0, 357) (.n (.n .e 357 (41, 0, 1) .e) 358 (35, 32, 359) .e))) 359 (35, 0, 360) (.n (.n (.n (.n .e 360 (116, 0, 361) .e) 361 (35, 49, 362) (.n .e 362 (40, 0, 363) .e)) 363 (116, 0, 364) (.n (.n .e 364 (61, 109, 365) .e) 365 (35, 0, 366) .e)) 366 (41, 0, 1) (.n (.n (.n .e 367 (40, 0, 368) .e) 368 (61, 116, 369) .e) 369 (35, 32, 370) (.n (.n .e 370 (35, 0, 371) .e) 371 (116, 0, 372) .e)))) 372 (35, 49, 373) (.n (.n (.n (.n (.n .e 373 (40, 0, 374) .e) 374 (116, 0, 375) (.n .e 375 (61, 109, 376) .e)) 376 (116, 0, 377) (.n (.n .e 377 (35, 0, 378) .e) 378 (41, 0, 1) .e)) 379 (35, 50, 380) (.n (.n (.n .e 380 (40, 0, 381) .e) 381 (61, 116, 382) .e) 382 (35, 63, 383) (.n (.n .e 383 (116, 0, 384) .e) 384 (115, 0, 385) .e))) 385 (35, 49, 386) (.n (.n (.n (.n .e 386 (40, 0, 387) .e) 387 (116, 0, 388) (.n .e 388 (61, 109, 389) .e)) 389 (35, 0, 390) (.n (.n .e 390 (41, 0, 1) .e) 391 (35, 0, 392) .e)) 392 (35, 1, 393) (.n (.n (.n .e 393 (35, 49, 394) .e) 394 (40, 0, 395) .e) 395 (61, 109, 396) (.n (.n .e 396 (35, 0, 397) .e) 397 (41, 0, 1) .e)))))))
def lookT (x : Int) : Option Node := treeT.get x
abbrev RT (im nums : List Int) := stepsM lookT loB im nums
theorem T_start (im nums : List Int) (b : List Int) (r : List Int) (o : List Int) : RT im nums 34 ⟨200, [], z0, b, r, o⟩ = some ⟨209, [], (set (set (set (set (set (set z0 107 (-1)) 110 (-1)) 97 0) 111 32) 107 (-2)) 109 (-1)), b, r, (-1) :: 0 :: 32 :: 0 :: o⟩ := by
  kernel_rfl
theorem T_A (im nums : List Int) (c : Int) (st : List Int) (s : Int → Int) (b : List Int) (r : List Int) (o : List Int) : RT im nums 6 ⟨209, st, s, b, c :: r, o⟩ = some ⟨(if (b2 (decide (47 < c))) = 0 then 215 else 216), st, (set s 99 c), b, r, o⟩ := by
  kernel_rfl
theorem T_Aend (im nums : List Int) (st : List Int) (s : Int → Int) (b : List Int) (o : List Int) : RT im nums 11 ⟨209, st, s, b, [], o⟩ = some ⟨(if (s 102) = 0 then 234 else 235), st, (set s 99 (-1)), b, [], o⟩ := by
  kernel_rfl
theorem T_B1 (im nums : List Int) (st : List Int) (s : Int → Int) (b : List Int) (r : List Int) (o : List Int) : RT im nums 5 ⟨216, st, s, b, r, o⟩ = some ⟨(if (b2 (decide ((s 99) < 58))) = 0 then 222 else 223), st, s, b, r, o⟩ := by
  kernel_rfl
theorem T_B2 (im nums : List Int) (st : List Int) (s : Int → Int) (b : List Int) (r : List Int) (o : List Int) : RT im nums 3 ⟨215, st, s, b, r, o⟩ = some ⟨222, st, s, b, r, o⟩ := by
  kernel_rfl
theorem T_D (im nums : List Int) (st : List Int) (s : Int → Int) (b : List Int) (r : List Int) (o : List Int) : RT im nums 9 ⟨223, st, s, b, r, o⟩ = some ⟨232, st, (set (set s 114 (10 * (s 114) + ((s 99) - 48))) 102 1), b, r, o⟩ := by
  kernel_rfl
theorem T_F (im nums : List Int) (st : List Int) (s : Int → Int) (b : List Int) (r : List Int) (o : List Int) : RT im nums 2 ⟨222, st, s, b, r, o⟩ = some ⟨(if (s 102) = 0 then 234 else 235), st, s, b, r, o⟩ := by
  kernel_rfl
theorem T_F1 (im nums : List Int) (st : List Int) (s : Int → Int) (b : List Int) (r : List Int) (o : List Int) : RT im nums 34 ⟨235, st, s, b, r, o⟩ = some ⟨234, st, (set (set (set (set (set (set (set s 110 (s 107)) 97 (s 114)) 111 35) 107 ((s 107) + (-1))) 109 (s 107)) 114 0) 102 0), b, r, (s 107) :: (s 114) :: 35 :: (s 109) :: o⟩ := by
  kernel_rfl
theorem T_G (im nums : List Int) (st : List Int) (s : Int → Int) (b : List Int) (r : List Int) (o : List Int) : RT im nums 4 ⟨234, st, s, b, r, o⟩ = some ⟨(if (b2 (decide ((s 99) < 33))) = 0 then 247 else 248), st, s, b, r, o⟩ := by
  kernel_rfl
theorem T_G1 (im nums : List Int) (st : List Int) (s : Int → Int) (b : List Int) (r : List Int) (o : List Int) : RT im nums 6 ⟨248, st, s, b, r, o⟩ = some ⟨232, st, (set s 101 (b2 (decide ((s 99) < 0)))), b, r, o⟩ := by
  kernel_rfl
theorem T_H (im nums : List Int) (st : List Int) (s : Int → Int) (b : List Int) (r : List Int) (o : List Int) : RT im nums 2 ⟨247, st, s, b, r, o⟩ = some (if loB (s 99) = true then ⟨(s 99), st, s, 255 :: b, r, o⟩ else ⟨255, (s 99) :: st, s, b, r, o⟩) := by
  kernel_rfl
theorem T_I0 (im nums : List Int) (c : Int) (st : List Int) (s : Int → Int) (b : List Int) (r : List Int) (o : List Int) : RT im nums 2 ⟨255, c :: st, s, b, r, o⟩ = some ⟨(if c = 0 then 257 else 258), c :: st, s, b, r, o⟩ := by
  kernel_rfl
theorem T_I1 (im nums : List Int) (c : Int) (st : List Int) (s : Int → Int) (b : List Int) (r : List Int) (o : List Int) : RT im nums 31 ⟨258, c :: st, s, b, r, o⟩ = some ⟨232, st, (set (set (set (set (set s 110 (s 107)) 97 0) 111 c) 107 ((s 107) + (-1))) 109 (s 107)), b, r, (s 107) :: 0 :: c :: (s 109) :: o⟩ := by
  kernel_rfl
theorem T_h_br (im nums : List Int) (st : List Int) (s : Int → Int) (b : List Int) (r : List Int) (o : List Int) : RT im nums 47 ⟨91, st, s, 255 :: b, r, o⟩ = some ⟨232, (s 107) :: st, (set (set (set (set (set (set (set s 107 ((s 107) + (-1))) 116 (s 107)) 110 ((s 107) + (-1))) 97 (s 107)) 111 63) 107 (((s 107) + (-1)) + (-1))) 109 ((s 107) + (-1))), b, r, ((s 107) + (-1)) :: (s 107) :: 63 :: (s 109) :: o⟩ := by
  kernel_rfl
theorem T_h_bar (im nums : List Int) (st : List Int) (s : Int → Int) (b : List Int) (r : List Int) (o : List Int) : RT im nums 36 ⟨124, st, s, 255 :: b, r, o⟩ = some ⟨232, (s 107) :: st.tail, (set (set (set (set (set (set s 107 ((s 107) + (-1))) 116 (s 107)) 110 (s 107)) 97 0) 111 32) 109 (st.headD 0)), b, r, (s 107) :: 0 :: 32 :: (s 109) :: o⟩ := by
  kernel_rfl
theorem T_h_ket (im nums : List Int) (st : List Int) (s : Int → Int) (b : List Int) (r : List Int) (o : List Int) : RT im nums 28 ⟨93, st, s, 255 :: b, r, o⟩ = some ⟨232, st.tail, (set (set (set (set (set s 116 (st.headD 0)) 110 (st.headD 0)) 97 0) 111 32) 109 (st.headD 0)), b, r, (st.headD 0) :: 0 :: 32 :: (s 109) :: o⟩ := by
  kernel_rfl
theorem T_h_lb (im nums : List Int) (st : List Int) (s : Int → Int) (b : List Int) (r : List Int) (o : List Int) : RT im nums 37 ⟨123, st, s, 255 :: b, r, o⟩ = some ⟨232, (s 107) :: st, (set (set (set (set (set (set s 107 ((s 107) + (-1))) 116 (s 107)) 110 (s 107)) 97 0) 111 32) 109 (s 107)), b, r, (s 107) :: 0 :: 32 :: (s 109) :: o⟩ := by
  kernel_rfl
theorem T_h_rb (im nums : List Int) (st : List Int) (s : Int → Int) (b : List Int) (r : List Int) (o : List Int) : RT im nums 37 ⟨125, st, s, 255 :: b, r, o⟩ = some ⟨232, st.tail, (set (set (set (set (set (set (set s 115 (st.headD 0)) 107 ((s 107) + (-1))) 116 (s 107)) 110 (st.headD 0)) 97 (s 107)) 111 63) 109 (s 107)), b, r, (st.headD 0) :: (s 107) :: 63 :: (s 109) :: o⟩ := by
  kernel_rfl
theorem T_h_semi (im nums : List Int) (st : List Int) (s : Int → Int) (b : List Int) (r : List Int) (o : List Int) : RT im nums 26 ⟨59, st, s, 255 :: b, r, o⟩ = some ⟨232, st.tail, (set (set (set (set s 110 1) 97 0) 111 41) 109 (st.headD 0)), b, r, 1 :: 0 :: 41 :: (s 109) :: o⟩ := by
  kernel_rfl
theorem T_h_q0 (im nums : List Int) (d : Int) (st : List Int) (s : Int → Int) (b : List Int) (r : List Int) (o : List Int) : RT im nums 6 ⟨39, st, s, 255 :: b, d :: r, o⟩ = some ⟨(if (b2 (decide (d < 0))) = 0 then 299 else 300), st, (set s 99 d), 255 :: b, r, o⟩ := by
  kernel_rfl
theorem T_h_q1 (im nums : List Int) (st : List Int) (s : Int → Int) (b : List Int) (r : List Int) (o : List Int) : RT im nums 38 ⟨299, st, s, 255 :: b, r, o⟩ = some ⟨232, st, (set (set (set (set (set s 110 (s 107)) 97 (s 99)) 111 35) 107 ((s 107) + (-1))) 109 (s 107)), b, r, (s 107) :: (s 99) :: 35 :: (s 109) :: o⟩ := by
  kernel_rfl
theorem T_h_qe (im nums : List Int) (st : List Int) (s : Int → Int) (b : List Int) (o : List Int) : RT im nums 17 ⟨39, st, s, 255 :: b, [], o⟩ = some ⟨232, st, (set (set s 99 (-1)) 101 1), b, [], o⟩ := by
  kernel_rfl
theorem T_h_as0 (im nums : List Int) (d : Int) (st : List Int) (s : Int → Int) (b : List Int) (r : List Int) (o : List Int) : RT im nums 6 ⟨61, st, s, 255 :: b, d :: r, o⟩ = some ⟨(if (b2 (decide (d < 0))) = 0 then 314 else 315), st, (set s 99 d), 255 :: b, r, o⟩ := by
  kernel_rfl
theorem T_h_as1 (im nums : List Int) (st : List Int) (s : Int → Int) (b : List Int) (r : List Int) (o : List Int) : RT im nums 38 ⟨314, st, s, 255 :: b, r, o⟩ = some ⟨232, st, (set (set (set (set (set s 110 (s 107)) 97 (s 99)) 111 61) 107 ((s 107) + (-1))) 109 (s 107)), b, r, (s 107) :: (s 99) :: 61 :: (s 109) :: o⟩ := by
  kernel_rfl
theorem T_h_ase (im nums : List Int) (st : List Int) (s : Int → Int) (b : List Int) (o : List Int) : RT im nums 17 ⟨61, st, s, 255 :: b, [], o⟩ = some ⟨232, st, (set (set s 99 (-1)) 101 1), b, [], o⟩ := by
  kernel_rfl
theorem T_h_co0 (im nums : List Int) (d : Int) (st : List Int) (s : Int → Int) (b : List Int) (r : List Int) (o : List Int) : RT im nums 6 ⟨58, st, s, 255 :: b, d :: r, o⟩ = some ⟨(if (b2 (decide (d < 0))) = 0 then 329 else 330), st, (set s 99 d), 255 :: b, r, o⟩ := by
  kernel_rfl
theorem T_h_co1 (im nums : List Int) (st : List Int) (s : Int → Int) (b : List Int) (r : List Int) (o : List Int) : RT im nums 12 ⟨329, st, s, 255 :: b, r, o⟩ = some ⟨232, (s 109) :: st, (set s 109 (s 99)), b, r, o⟩ := by
  kernel_rfl
theorem T_h_coe (im nums : List Int) (st : List Int) (s : Int → Int) (b : List Int) (o : List Int) : RT im nums 17 ⟨58, st, s, 255 :: b, [], o⟩ = some ⟨232, st, (set (set s 99 (-1)) 101 1), b, [], o⟩ := by
  kernel_rfl
theorem T_tail (im nums : List Int) (st : List Int) (s : Int → Int) (b : List Int) (r : List Int) (o : List Int) : RT im nums 4 ⟨232, st, s, b, r, o⟩ = some ⟨(if (b2 (decide ((s 101) = 0))) = 0 then 267 else 209), st, s, b, r, o⟩ := by
  kernel_rfl
theorem T_E (im nums : List Int) (st : List Int) (s : Int → Int) (b : List Int) (r : List Int) (o : List Int) : RT im nums 29 ⟨267, st, s, b, r, o⟩ = some ⟨271, st, (set (set (set (set (set s 110 (s 107)) 97 0) 111 41) 107 ((s 107) + (-1))) 109 (s 107)), b, r, (s 107) :: 0 :: 41 :: (s 109) :: o⟩ := by
  kernel_rfl
end Pl

set_option Elab.async false
set_option linter.all false
set_option maxRecDepth 100000
set_option maxHeartbeats 4000000
namespace Pl

/-! ### the P compiler -/
theorem P_back (im nums : List Int) (st : List Int) (s : Int → Int) (b r o : List Int) (h : s 101 = 0) : RP im nums 4 ⟨230, st, s, b, r, o⟩ = some ⟨207, st, s, b, r, o⟩ := by
  rw [P_tail, if_b2, if_pos h]
theorem P_leave (im nums : List Int) (st : List Int) (s : Int → Int) (b r o : List Int) (h : s 101 = 1) : RP im nums 33 ⟨230, st, s, b, r, o⟩ = some ⟨269, st, (set (set (set (set (set s 110 (s 107)) 97 0) 111 41) 107 ((s 107) + 1)) 109 (s 107)), b, r, (s 107) :: 0 :: 41 :: (s 109) :: o⟩ := by
  refine stepsM_tr (n := 4) (k := 29) (m1 := ⟨265, st, s, b, r, o⟩) ?_ (P_E ..)
  show RP im nums 4 _ = _
  rw [P_tail, if_b2, if_neg (by rw [h]; decide)]
/-- behind a sign that is no digit the numeral is ended -/
theorem P_pre (im nums : List Int) {b : List Int} {t : Tr} {c : Int} {r : List Int} {m : M} (h : Rel 207 b t (c :: r) m) (hd : ¬ (48 ≤ c ∧ c ≤ 57)) :
    ∃ N m', N ≤ 60 ∧ RP im nums N m = some m' ∧ Mid 232 b (t.endNum 1) r c m' := by
  obtain ⟨at_, stk, sto, bk, rest, out⟩ := m
  obtain ⟨h1, h2, h3, h4, h5, h6, h7, h8, h9, h10⟩ := h
  dsimp only at h1 h2 h3 h4 h5 h6 h7 h8 h9
  subst h1 h2 h3 h4 h5
  have hA : ∃ N, N ≤ 11 ∧ RP im nums N ⟨207, t.pile, sto, bk, c :: r, t.img⟩ = some ⟨220, t.pile, set sto 99 c, bk, r, t.img⟩ := by
    have a := P_A im nums c t.pile sto bk r t.img
    rw [if_b2] at a
    by_cases h : 47 < c
    · rw [if_pos h] at a
      have e := P_B1 im nums t.pile (set sto 99 c) bk r t.img
      rw [set_same, if_b2, if_neg (by omega)] at e
      exact ⟨_, by decide, stepsM_tr a e⟩
    · rw [if_neg h] at a
      exact ⟨_, by decide, stepsM_tr a (P_B2 ..)⟩
  obtain ⟨N, hN, a⟩ := hA
  have f := P_F im nums t.pile (set sto 99 c) bk r t.img
  rw [show set sto 99 c 102 = sto 102 by simp [set]] at f
  rcases h9 with ⟨n1, n2, n3⟩ | ⟨v, n1, n2, n3⟩
  · rw [if_pos n3] at f
    refine ⟨_, _, ?_, stepsM_tr a f, ?_⟩
    · omega
    · have e : t.endNum 1 = t := by unfold Tr.endNum; rw [n1]
      rw [e]
      constructor <;> simp [set, *]
  · rw [if_neg (by rw [n3]; decide)] at f
    refine ⟨_, _, ?_, stepsM_tr a (stepsM_tr f (P_F1 ..)), ?_⟩
    · omega
    · have e : t.endNum 1 = { t.emit 1 35 v with num := none } := by unfold Tr.endNum; rw [n1]
      rw [e]
      constructor <;> simp [set, Tr.emit, *]
theorem P_it_digit (im nums : List Int) {b : List Int} {t : Tr} {c : Int} {r : List Int} {m : M} (h : Rel 207 b t (c :: r) m) (hd : 48 ≤ c ∧ c ≤ 57) :
    ∃ N m', N ≤ 200 ∧ RP im nums N m = some m' ∧ Rel 207 b (t.take 1 c) r m' := by
  obtain ⟨at_, stk, sto, bk, rest, out⟩ := m
  obtain ⟨h1, h2, h3, h4, h5, h6, h7, h8, h9, h10⟩ := h
  dsimp only at h1 h2 h3 h4 h5 h6 h7 h8 h9
  subst h1 h2 h3 h4 h5
  have a := P_A im nums c t.pile sto bk r t.img
  rw [if_b2, if_pos (by omega)] at a
  have e := P_B1 im nums t.pile (set sto 99 c) bk r t.img
  rw [set_same, if_b2, if_pos (by omega)] at e
  have d := P_D im nums t.pile (set sto 99 c) bk r t.img
  have z := P_back im nums t.pile (set (set (set sto 99 c) 114 (10 * (set sto 99 c 114) + ((set sto 99 c 99) - 48))) 102 1) bk r t.img (by simp [set, h8])
  refine ⟨_, _, ?_, stepsM_tr a (stepsM_tr e (stepsM_tr d z)), ?_⟩
  · decide
  · have et : t.take 1 c = { t with num := some (10 * t.num.getD 0 + c - 48) } := by
      unfold Tr.take
      rw [if_neg (by rw [h10]; simp), if_pos hd]
    have ev : t.num.getD 0 = sto 114 := by
      rcases h9 with ⟨n1, n2, n3⟩ | ⟨v, n1, n2, n3⟩
      · rw [n1, n2]; rfl
      · rw [n1, n2]; rfl
    rw [et]
    constructor <;> try simp [set, *]
    omega
/-- from the place behind the numeral, a sign that takes no other one along -/
theorem P_post (im nums : List Int) {b : List Int} {t : Tr} {c : Int} {r : List Int} {m : M} (h : Mid 232 b t r c m) (h0 : 0 ≤ c) (h2 : c ≤ 126) (hd : ¬ (48 ≤ c ∧ c ≤ 57)) (hq : ¬ (c = 39 ∨ c = 61 ∨ c = 58)) :
    ∃ N m', N ≤ 100 ∧ RP im nums N m = some m' ∧ Rel 207 b (t.sign 1 c) r m' := by
  obtain ⟨at_, stk, sto, bk, rest, out⟩ := m
  obtain ⟨h1, h2, h3, h4, h5, h6, h7, h8, h9, h10, h11, h12, h13⟩ := h
  dsimp only at h1 h2 h3 h4 h5 h6 h7 h8 h9 h10 h11
  subst h1 h2 h3 h4 h5
  have g := P_G im nums t.pile sto bk rest t.img
  rw [h11, if_b2] at g
  by_cases hs : c < 33
  · rw [if_pos hs] at g
    have g1 := P_G1 im nums t.pile sto bk rest t.img
    rw [h11, show b2 (decide (c < 0)) = 0 by unfold b2; simp; omega] at g1
    have z := P_back im nums t.pile (set sto 101 0) bk rest t.img (by simp [set])
    refine ⟨_, _, ?_, stepsM_tr g (stepsM_tr g1 z), ?_⟩
    · decide
    · have e : t.sign 1 c = t := by unfold Tr.sign; rw [if_pos (by omega)]
      rw [e]
      constructor <;> simp [set, *]
  · rw [if_neg hs] at g
    have hh := P_H im nums t.pile sto bk rest t.img
    rw [h11] at hh
    by_cases hb : c = 91 ∨ c = 124 ∨ c = 93 ∨ c = 123 ∨ c = 125 ∨ c = 59
    · have low : loB c = true := by rcases hb with rfl | rfl | rfl | rfl | rfl | rfl <;> rfl
      rw [if_pos low] at hh
      rcases hb with rfl | rfl | rfl | rfl | rfl | rfl
      · have e := P_h_br im nums t.pile sto bk rest t.img
        refine ⟨_, _, ?_, stepsM_tr g (stepsM_tr hh (stepsM_tr e (P_back _ _ _ _ _ _ _ (by simp [set, h8])))), ?_⟩
        · decide
        · constructor <;> simp [set, Tr.sign, Tr.bracket, Tr.emit, *]
      · have e := P_h_bar im nums t.pile sto bk rest t.img
        refine ⟨_, _, ?_, stepsM_tr g (stepsM_tr hh (stepsM_tr e (P_back _ _ _ _ _ _ _ (by simp [set, h8])))), ?_⟩
        · decide
        · constructor <;> simp [set, Tr.sign, Tr.bracket, Tr.emit, *]
      · have e := P_h_ket im nums t.pile sto bk rest t.img
        refine ⟨_, _, ?_, stepsM_tr g (stepsM_tr hh (stepsM_tr e (P_back _ _ _ _ _ _ _ (by simp [set, h8])))), ?_⟩
        · decide
        · constructor <;> simp [set, Tr.sign, Tr.bracket, Tr.emit, *]
      · have e := P_h_lb im nums t.pile sto bk rest t.img
        refine ⟨_, _, ?_, stepsM_tr g (stepsM_tr hh (stepsM_tr e (P_back _ _ _ _ _ _ _ (by simp [set, h8])))), ?_⟩
        · decide
        · constructor <;> simp [set, Tr.sign, Tr.bracket, Tr.emit, *]
      · have e := P_h_rb im nums t.pile sto bk rest t.img
        refine ⟨_, _, ?_, stepsM_tr g (stepsM_tr hh (stepsM_tr e (P_back _ _ _ _ _ _ _ (by simp [set, h8])))), ?_⟩
        · decide
        · constructor <;> simp [set, Tr.sign, Tr.bracket, Tr.emit, *]
      · have e := P_h_semi im nums t.pile sto bk rest t.img
        refine ⟨_, _, ?_, stepsM_tr g (stepsM_tr hh (stepsM_tr e (P_back _ _ _ _ _ _ _ (by simp [set, h8])))), ?_⟩
        · decide
        · constructor <;> simp [set, Tr.sign, Tr.bracket, Tr.emit, *]
    · have low : loB c = false := by
        unfold loB
        simp only [Bool.or_eq_false_iff, decide_eq_false_iff_not]
        refine ⟨⟨⟨⟨⟨⟨⟨⟨⟨⟨⟨?_, ?_⟩, ?_⟩, ?_⟩, ?_⟩, ?_⟩, ?_⟩, ?_⟩, ?_⟩, ?_⟩, ?_⟩, ?_⟩ <;> omega
      rw [low, if_neg Bool.false_ne_true] at hh
      have i0 := P_I0 im nums c t.pile sto bk rest t.img
      rw [if_neg (by omega)] at i0
      have i1 := P_I1 im nums c t.pile sto bk rest t.img
      refine ⟨_, _, ?_, stepsM_tr g (stepsM_tr hh (stepsM_tr i0 (stepsM_tr i1 (P_back _ _ _ _ _ _ _ (by simp [set, h8]))))), ?_⟩
      · decide
      · have e : t.sign 1 c = t.emit 1 c 0 := by
          unfold Tr.sign
          rw [if_neg (by omega), if_neg hq, if_neg (by omega), if_neg (by omega)]
        rw [e]
        constructor <;> simp [set, Tr.emit, *]
/-- a sign that takes the next one along -/
theorem P_post2 (im nums : List Int) {b : List Int} {t : Tr} {c d : Int} {r : List Int} {m : M} (h : Mid 232 b t (d :: r) c m) (h0 : 0 ≤ d) (hq : c = 39 ∨ c = 61 ∨ c = 58) :
    ∃ N m', N ≤ 100 ∧ RP im nums N m = some m' ∧ Rel 207 b (({ t with wait := c } : Tr).paired 1 d) r m' := by
  obtain ⟨at_, stk, sto, bk, rest, out⟩ := m
  obtain ⟨h1, h2, h3, h4, h5, h6, h7, h8, h9, h10, h11, h12, h13⟩ := h
  dsimp only at h1 h2 h3 h4 h5 h6 h7 h8 h9 h10 h11
  subst h1 h2 h3 h4 h5
  have g := P_G im nums t.pile sto bk (d :: r) t.img
  rw [h11, if_b2, if_neg (by omega)] at g
  have hh := P_H im nums t.pile sto bk (d :: r) t.img
  rw [h11, if_pos (by rcases hq with rfl | rfl | rfl <;> rfl)] at hh
  rcases hq with rfl | rfl | rfl
  · have e := P_h_q0 im nums d t.pile sto bk r t.img
    rw [if_b2, if_neg (by omega)] at e
    refine ⟨_, _, ?_, stepsM_tr g (stepsM_tr hh (stepsM_tr e (stepsM_tr (P_h_q1 ..) (P_back _ _ _ _ _ _ _ (by simp [set, h8]))))), ?_⟩
    · decide
    · constructor <;> simp [set, Tr.paired, Tr.emit, *]
  · have e := P_h_as0 im nums d t.pile sto bk r t.img
    rw [if_b2, if_neg (by omega)] at e
    refine ⟨_, _, ?_, stepsM_tr g (stepsM_tr hh (stepsM_tr e (stepsM_tr (P_h_as1 ..) (P_back _ _ _ _ _ _ _ (by simp [set, h8]))))), ?_⟩
    · decide
    · constructor <;> simp [set, Tr.paired, Tr.emit, *]
  · have e := P_h_co0 im nums d t.pile sto bk r t.img
    rw [if_b2, if_neg (by omega)] at e
    refine ⟨_, _, ?_, stepsM_tr g (stepsM_tr hh (stepsM_tr e (stepsM_tr (P_h_co1 ..) (P_back _ _ _ _ _ _ _ (by simp [set, h8]))))), ?_⟩
    · decide
    · constructor <;> simp [set, Tr.paired, Tr.emit, *]
/-- .. and there is none: the run leaves the loop -/
theorem P_post0 (im nums : List Int) {b : List Int} {t : Tr} {c : Int} {m : M} (h : Mid 232 b t [] c m) (hq : c = 39 ∨ c = 61 ∨ c = 58) :
    ∃ N m', N ≤ 100 ∧ RP im nums N m = some m' ∧ m'.at_ = 269 ∧ m'.bk = b ∧ m'.out = (({ t with wait := c } : Tr).fin 1).img := by
  obtain ⟨at_, stk, sto, bk, rest, out⟩ := m
  obtain ⟨h1, h2, h3, h4, h5, h6, h7, h8, h9, h10, h11, h12, h13⟩ := h
  dsimp only at h1 h2 h3 h4 h5 h6 h7 h8 h9 h10 h11
  subst h1 h2 h3 h4 h5
  have g := P_G im nums t.pile sto bk [] t.img
  rw [h11, if_b2, if_neg (by omega)] at g
  have hh := P_H im nums t.pile sto bk [] t.img
  rw [h11, if_pos (by rcases hq with rfl | rfl | rfl <;> rfl)] at hh
  have e : RP im nums 17 ⟨c, t.pile, sto, 253 :: bk, [], t.img⟩ = some ⟨230, t.pile, (set (set sto 99 (-1)) 101 1), bk, [], t.img⟩ := by
    rcases hq with rfl | rfl | rfl
    · exact P_h_qe ..
    · exact P_h_ase ..
    · exact P_h_coe ..
  refine ⟨_, _, ?_, stepsM_tr g (stepsM_tr hh (stepsM_tr e (P_leave _ _ _ _ _ _ _ (by simp [set])))), rfl, rfl, ?_⟩
  · decide
  · have e2 : ({ t with wait := c } : Tr).fin 1 = ({ t with wait := 0 } : Tr).emit 1 41 0 := by
      unfold Tr.fin Tr.endNum
      simp only [h12]
    rw [e2]
    simp [set, Tr.emit, *]
/-- the input is at its end -/
theorem P_end (im nums : List Int) {b : List Int} {t : Tr} {m : M} (h : Rel 207 b t [] m) :
    ∃ N m', N ≤ 200 ∧ RP im nums N m = some m' ∧ m'.at_ = 269 ∧ m'.bk = b ∧ m'.out = (t.fin 1).img := by
  obtain ⟨at_, stk, sto, bk, rest, out⟩ := m
  obtain ⟨h1, h2, h3, h4, h5, h6, h7, h8, h9, h10⟩ := h
  dsimp only at h1 h2 h3 h4 h5 h6 h7 h8 h9
  subst h1 h2 h3 h4 h5
  have a := P_Aend im nums t.pile sto bk t.img
  have ew : ({ t with wait := 0 } : Tr) = t := by rw [← h10]
  have key : ∃ N m1, N ≤ 60 ∧ RP im nums N ⟨207, t.pile, sto, bk, [], t.img⟩ = some m1 ∧ Mid 232 bk (t.endNum 1) [] (-1) m1 := by
    rcases h9 with ⟨n1, n2, n3⟩ | ⟨v, n1, n2, n3⟩
    · rw [if_pos n3] at a
      refine ⟨_, _, ?_, a, ?_⟩
      · decide
      · have e : t.endNum 1 = t := by unfold Tr.endNum; rw [n1]
        rw [e]
        constructor <;> simp [set, *]
    · rw [if_neg (by rw [n3]; decide)] at a
      refine ⟨_, _, ?_, stepsM_tr a (P_F1 ..), ?_⟩
      · decide
      · have e : t.endNum 1 = { t.emit 1 35 v with num := none } := by unfold Tr.endNum; rw [n1]
        rw [e]
        constructor <;> simp [set, Tr.emit, *]
  obtain ⟨N, m1, hN, r1, M1⟩ := key
  have ef : t.fin 1 = (t.endNum 1).emit 1 41 0 := by unfold Tr.fin; rw [ew]
  rw [ef]
  generalize t.endNum 1 = u at M1 ⊢
  obtain ⟨at_, stk, sto', bk', rest, out⟩ := m1
  obtain ⟨h1, h2, h3, h4, h5, h6, h7, h8, h9, h10, h11, h12, h13⟩ := M1
  dsimp only at h1 h2 h3 h4 h5 h6 h7 h8 h9 h10 h11
  subst h1 h2 h3 h4 h5
  have g := P_G im nums u.pile sto' bk' [] u.img
  rw [h11, if_b2, if_pos (by decide)] at g
  have g1 := P_G1 im nums u.pile sto' bk' [] u.img
  rw [h11, show b2 (decide ((-1 : Int) < 0)) = 1 from rfl] at g1
  refine ⟨_, _, ?_, stepsM_tr r1 (stepsM_tr g (stepsM_tr g1 (P_leave _ _ _ _ _ _ _ (by simp [set])))), rfl, rfl, ?_⟩
  · omega
  · simp [set, Tr.emit, *]
/-- THE LOOP: from its head the run comes to the closing return with the translation written -/
theorem P_loop (im nums : List Int) {b : List Int} : ∀ (n : Nat) (r : List Int), r.length ≤ n → (∀ c ∈ r, 0 ≤ c ∧ c ≤ 126) → ∀ (t : Tr) (m : M), Rel 207 b t r m →
    ∃ N m', N ≤ 200 * r.length + 200 ∧ RP im nums N m = some m' ∧ m'.at_ = 269 ∧ m'.bk = b ∧ m'.out = ((t.run 1 r).fin 1).img
  | n, [], _, _, t, m, h => by
    obtain ⟨N, m', h1, h2, h3⟩ := P_end im nums h
    exact ⟨N, m', by simpa using h1, h2, h3⟩
  | n + 1, c :: r, hn, hc, t, m, h => by
    have hc0 := hc c (List.mem_cons_self ..)
    have hr : ∀ x ∈ r, 0 ≤ x ∧ x ≤ 126 := fun x hx => hc x (List.mem_cons_of_mem _ hx)
    have hl : r.length ≤ n := by simpa using hn
    by_cases hd : 48 ≤ c ∧ c ≤ 57
    · obtain ⟨N, m1, h1, h2, h3⟩ := P_it_digit im nums h hd
      obtain ⟨K, m2, k1, k2, k3⟩ := P_loop im nums n r hl hr _ m1 h3
      exact ⟨N + K, m2, by simp only [List.length_cons]; omega, stepsM_tr h2 k2, k3⟩
    · obtain ⟨N, m1, h1, h2, h3⟩ := P_pre im nums h hd
      have et : t.take 1 c = (t.endNum 1).sign 1 c := by
        unfold Tr.take
        rw [if_neg (by rw [h.w]; simp), if_neg hd]
      by_cases hq : c = 39 ∨ c = 61 ∨ c = 58
      · have es : (t.endNum 1).sign 1 c = { t.endNum 1 with wait := c } := by
          unfold Tr.sign
          rw [if_neg (by omega), if_pos hq]
        cases r with
        | nil =>
          obtain ⟨K, m2, k1, k2, k3⟩ := P_post0 im nums h3 hq
          refine ⟨N + K, m2, by simp; omega, stepsM_tr h2 k2, ?_⟩
          show _ ∧ _ ∧ m2.out = (Tr.fin 1 (t.take 1 c)).img
          rw [et, es]
          exact k3
        | cons d r' =>
          have hd0 := hr d (List.mem_cons_self ..)
          obtain ⟨K, m2, k1, k2, k3⟩ := P_post2 im nums h3 hd0.1 hq
          have hl' : r'.length ≤ n := by simp at hl; omega
          obtain ⟨J, m3, j1, j2, j3⟩ := P_loop im nums n r' hl' (fun x hx => hr x (List.mem_cons_of_mem _ hx)) _ m2 k3
          refine ⟨N + (K + J), m3, by simp only [List.length_cons]; omega, stepsM_tr h2 (stepsM_tr k2 j2), ?_⟩
          show _ ∧ _ ∧ m3.out = (Tr.fin 1 (Tr.run 1 r' ((t.take 1 c).take 1 d))).img
          have e2 : (t.take 1 c).take 1 d = ({ t.endNum 1 with wait := c } : Tr).paired 1 d := by
            rw [et, es]
            unfold Tr.take
            rw [if_pos (by show c ≠ 0; omega)]
          rw [e2]
          exact j3
      · obtain ⟨K, m2, k1, k2, k3⟩ := P_post im nums h3 hc0.1 hc0.2 hd hq
        obtain ⟨J, m3, j1, j2, j3⟩ := P_loop im nums n r hl hr _ m2 k3
        refine ⟨N + (K + J), m3, by simp only [List.length_cons]; omega, stepsM_tr h2 (stepsM_tr k2 j2), ?_⟩
        show _ ∧ _ ∧ m3.out = (Tr.fin 1 (Tr.run 1 r (t.take 1 c))).img
        rw [et]
        exact j3
/-- the whole: from the first node to the closing return -/
theorem P_whole (im nums : List Int) (b r : List Int) (hc : ∀ c ∈ r, 0 ≤ c ∧ c ≤ 126) :
    ∃ N m', 8 ≤ N ∧ N ≤ 200 * r.length + 240 ∧ RP im nums N ⟨200, [], z0, b, r, []⟩ = some m' ∧ m'.at_ = 269 ∧ m'.bk = b ∧ m'.out.reverse = trans 200 1 r := by
  have h0 := P_start im nums b r []
  obtain ⟨N, m', h1, h2, h3, h4, h5⟩ := P_loop im nums (b := b) r.length r (Nat.le_refl _) hc (Tr.start 200 1) ⟨207, [], (set (set (set (set (set (set z0 107 200) 110 200) 97 0) 111 32) 107 201) 109 200), b, r, 200 :: 0 :: 32 :: 0 :: []⟩ (by
    constructor <;> simp [set, z0, Tr.start])
  exact ⟨_, m', by omega, by omega, stepsM_tr h0 h2, h3, h4, by rw [h5]; rfl⟩


/-! ### the T compiler -/
theorem T_back (im nums : List Int) (st : List Int) (s : Int → Int) (b r o : List Int) (h : s 101 = 0) : RT im nums 4 ⟨232, st, s, b, r, o⟩ = some ⟨209, st, s, b, r, o⟩ := by
  rw [T_tail, if_b2, if_pos h]
theorem T_leave (im nums : List Int) (st : List Int) (s : Int → Int) (b r o : List Int) (h : s 101 = 1) : RT im nums 33 ⟨232, st, s, b, r, o⟩ = some ⟨271, st, (set (set (set (set (set s 110 (s 107)) 97 0) 111 41) 107 ((s 107) + (-1))) 109 (s 107)), b, r, (s 107) :: 0 :: 41 :: (s 109) :: o⟩ := by
  refine stepsM_tr (n := 4) (k := 29) (m1 := ⟨267, st, s, b, r, o⟩) ?_ (T_E ..)
  show RT im nums 4 _ = _
  rw [T_tail, if_b2, if_neg (by rw [h]; decide)]
/-- behind a sign that is no digit the numeral is ended -/
theorem T_pre (im nums : List Int) {b : List Int} {t : Tr} {c : Int} {r : List Int} {m : M} (h : Rel 209 b t (c :: r) m) (hd : ¬ (48 ≤ c ∧ c ≤ 57)) :
    ∃ N m', N ≤ 60 ∧ RT im nums N m = some m' ∧ Mid 234 b (t.endNum (-1)) r c m' := by
  obtain ⟨at_, stk, sto, bk, rest, out⟩ := m
  obtain ⟨h1, h2, h3, h4, h5, h6, h7, h8, h9, h10⟩ := h
  dsimp only at h1 h2 h3 h4 h5 h6 h7 h8 h9
  subst h1 h2 h3 h4 h5
  have hA : ∃ N, N ≤ 11 ∧ RT im nums N ⟨209, t.pile, sto, bk, c :: r, t.img⟩ = some ⟨222, t.pile, set sto 99 c, bk, r, t.img⟩ := by
    have a := T_A im nums c t.pile sto bk r t.img
    rw [if_b2] at a
    by_cases h : 47 < c
    · rw [if_pos h] at a
      have e := T_B1 im nums t.pile (set sto 99 c) bk r t.img
      rw [set_same, if_b2, if_neg (by omega)] at e
      exact ⟨_, by decide, stepsM_tr a e⟩
    · rw [if_neg h] at a
      exact ⟨_, by decide, stepsM_tr a (T_B2 ..)⟩
  obtain ⟨N, hN, a⟩ := hA
  have f := T_F im nums t.pile (set sto 99 c) bk r t.img
  rw [show set sto 99 c 102 = sto 102 by simp [set]] at f
  rcases h9 with ⟨n1, n2, n3⟩ | ⟨v, n1, n2, n3⟩
  · rw [if_pos n3] at f
    refine ⟨_, _, ?_, stepsM_tr a f, ?_⟩
    · omega
    · have e : t.endNum (-1) = t := by unfold Tr.endNum; rw [n1]
      rw [e]
      constructor <;> simp [set, *]
  · rw [if_neg (by rw [n3]; decide)] at f
    refine ⟨_, _, ?_, stepsM_tr a (stepsM_tr f (T_F1 ..)), ?_⟩
    · omega
    · have e : t.endNum (-1) = { t.emit (-1) 35 v with num := none } := by unfold Tr.endNum; rw [n1]
      rw [e]
      constructor <;> simp [set, Tr.emit, *]
theorem T_it_digit (im nums : List Int) {b : List Int} {t : Tr} {c : Int} {r : List Int} {m : M} (h : Rel 209 b t (c :: r) m) (hd : 48 ≤ c ∧ c ≤ 57) :
    ∃ N m', N ≤ 200 ∧ RT im nums N m = some m' ∧ Rel 209 b (t.take (-1) c) r m' := by
  obtain ⟨at_, stk, sto, bk, rest, out⟩ := m
  obtain ⟨h1, h2, h3, h4, h5, h6, h7, h8, h9, h10⟩ := h
  dsimp only at h1 h2 h3 h4 h5 h6 h7 h8 h9
  subst h1 h2 h3 h4 h5
  have a := T_A im nums c t.pile sto bk r t.img
  rw [if_b2, if_pos (by omega)] at a
  have e := T_B1 im nums t.pile (set sto 99 c) bk r t.img
  rw [set_same, if_b2, if_pos (by omega)] at e
  have d := T_D im nums t.pile (set sto 99 c) bk r t.img
  have z := T_back im nums t.pile (set (set (set sto 99 c) 114 (10 * (set sto 99 c 114) + ((set sto 99 c 99) - 48))) 102 1) bk r t.img (by simp [set, h8])
  refine ⟨_, _, ?_, stepsM_tr a (stepsM_tr e (stepsM_tr d z)), ?_⟩
  · decide
  · have et : t.take (-1) c = { t with num := some (10 * t.num.getD 0 + c - 48) } := by
      unfold Tr.take
      rw [if_neg (by rw [h10]; simp), if_pos hd]
    have ev : t.num.getD 0 = sto 114 := by
      rcases h9 with ⟨n1, n2, n3⟩ | ⟨v, n1, n2, n3⟩
      · rw [n1, n2]; rfl
      · rw [n1, n2]; rfl
    rw [et]
    constructor <;> try simp [set, *]
    omega
/-- from the place behind the numeral, a sign that takes no other one along -/
theorem T_post (im nums : List Int) {b : List Int} {t : Tr} {c : Int} {r : List Int} {m : M} (h : Mid 234 b t r c m) (h0 : 0 ≤ c) (h2 : c ≤ 126) (hd : ¬ (48 ≤ c ∧ c ≤ 57)) (hq : ¬ (c = 39 ∨ c = 61 ∨ c = 58)) :
    ∃ N m', N ≤ 100 ∧ RT im nums N m = some m' ∧ Rel 209 b (t.sign (-1) c) r m' := by
  obtain ⟨at_, stk, sto, bk, rest, out⟩ := m
  obtain ⟨h1, h2, h3, h4, h5, h6, h7, h8, h9, h10, h11, h12, h13⟩ := h
  dsimp only at h1 h2 h3 h4 h5 h6 h7 h8 h9 h10 h11
  subst h1 h2 h3 h4 h5
  have g := T_G im nums t.pile sto bk rest t.img
  rw [h11, if_b2] at g
  by_cases hs : c < 33
  · rw [if_pos hs] at g
    have g1 := T_G1 im nums t.pile sto bk rest t.img
    rw [h11, show b2 (decide (c < 0)) = 0 by unfold b2; simp; omega] at g1
    have z := T_back im nums t.pile (set sto 101 0) bk rest t.img (by simp [set])
    refine ⟨_, _, ?_, stepsM_tr g (stepsM_tr g1 z), ?_⟩
    · decide
    · have e : t.sign (-1) c = t := by unfold Tr.sign; rw [if_pos (by omega)]
      rw [e]
      constructor <;> simp [set, *]
  · rw [if_neg hs] at g
    have hh := T_H im nums t.pile sto bk rest t.img
    rw [h11] at hh
    by_cases hb : c = 91 ∨ c = 124 ∨ c = 93 ∨ c = 123 ∨ c = 125 ∨ c = 59
    · have low : loB c = true := by rcases hb with rfl | rfl | rfl | rfl | rfl | rfl <;> rfl
      rw [if_pos low] at hh
      rcases hb with rfl | rfl | rfl | rfl | rfl | rfl
      · have e := T_h_br im nums t.pile sto bk rest t.img
        refine ⟨_, _, ?_, stepsM_tr g (stepsM_tr hh (stepsM_tr e (T_back _ _ _ _ _ _ _ (by simp [set, h8])))), ?_⟩
        · decide
        · constructor <;> simp [set, Tr.sign, Tr.bracket, Tr.emit, *]
      · have e := T_h_bar im nums t.pile sto bk rest t.img
        refine ⟨_, _, ?_, stepsM_tr g (stepsM_tr hh (stepsM_tr e (T_back _ _ _ _ _ _ _ (by simp [set, h8])))), ?_⟩
        · decide
        · constructor <;> simp [set, Tr.sign, Tr.bracket, Tr.emit, *]
      · have e := T_h_ket im nums t.pile sto bk rest t.img
        refine ⟨_, _, ?_, stepsM_tr g (stepsM_tr hh (stepsM_tr e (T_back _ _ _ _ _ _ _ (by simp [set, h8])))), ?_⟩
        · decide
        · constructor <;> simp [set, Tr.sign, Tr.bracket, Tr.emit, *]
      · have e := T_h_lb im nums t.pile sto bk rest t.img
        refine ⟨_, _, ?_, stepsM_tr g (stepsM_tr hh (stepsM_tr e (T_back _ _ _ _ _ _ _ (by simp [set, h8])))), ?_⟩
        · decide
        · constructor <;> simp [set, Tr.sign, Tr.bracket, Tr.emit, *]
      · have e := T_h_rb im nums t.pile sto bk rest t.img
        refine ⟨_, _, ?_, stepsM_tr g (stepsM_tr hh (stepsM_tr e (T_back _ _ _ _ _ _ _ (by simp [set, h8])))), ?_⟩
        · decide
        · constructor <;> simp [set, Tr.sign, Tr.bracket, Tr.emit, *]
      · have e := T_h_semi im nums t.pile sto bk rest t.img
        refine ⟨_, _, ?_, stepsM_tr g (stepsM_tr hh (stepsM_tr e (T_back _ _ _ _ _ _ _ (by simp [set, h8])))), ?_⟩
        · decide
        · constructor <;> simp [set, Tr.sign, Tr.bracket, Tr.emit, *]
    · have low : loB c = false := by
        unfold loB
        simp only [Bool.or_eq_false_iff, decide_eq_false_iff_not]
        refine ⟨⟨⟨⟨⟨⟨⟨⟨⟨⟨⟨?_, ?_⟩, ?_⟩, ?_⟩, ?_⟩, ?_⟩, ?_⟩, ?_⟩, ?_⟩, ?_⟩, ?_⟩, ?_⟩ <;> omega
      rw [low, if_neg Bool.false_ne_true] at hh
      have i0 := T_I0 im nums c t.pile sto bk rest t.img
      rw [if_neg (by omega)] at i0
      have i1 := T_I1 im nums c t.pile sto bk rest t.img
      refine ⟨_, _, ?_, stepsM_tr g (stepsM_tr hh (stepsM_tr i0 (stepsM_tr i1 (T_back _ _ _ _ _ _ _ (by simp [set, h8]))))), ?_⟩
      · decide
      · have e : t.sign (-1) c = t.emit (-1) c 0 := by
          unfold Tr.sign
          rw [if_neg (by omega), if_neg hq, if_neg (by omega), if_neg (by omega)]
        rw [e]
        constructor <;> simp [set, Tr.emit, *]
/-- a sign that takes the next one along -/
theorem T_post2 (im nums : List Int) {b : List Int} {t : Tr} {c d : Int} {r : List Int} {m : M} (h : Mid 234 b t (d :: r) c m) (h0 : 0 ≤ d) (hq : c = 39 ∨ c = 61 ∨ c = 58) :
    ∃ N m', N ≤ 100 ∧ RT im nums N m = some m' ∧ Rel 209 b (({ t with wait := c } : Tr).paired (-1) d) r m' := by
  obtain ⟨at_, stk, sto, bk, rest, out⟩ := m
  obtain ⟨h1, h2, h3, h4, h5, h6, h7, h8, h9, h10, h11, h12, h13⟩ := h
  dsimp only at h1 h2 h3 h4 h5 h6 h7 h8 h9 h10 h11
  subst h1 h2 h3 h4 h5
  have g := T_G im nums t.pile sto bk (d :: r) t.img
  rw [h11, if_b2, if_neg (by omega)] at g
  have hh := T_H im nums t.pile sto bk (d :: r) t.img
  rw [h11, if_pos (by rcases hq with rfl | rfl | rfl <;> rfl)] at hh
  rcases hq with rfl | rfl | rfl
  · have e := T_h_q0 im nums d t.pile sto bk r t.img
    rw [if_b2, if_neg (by omega)] at e
    refine ⟨_, _, ?_, stepsM_tr g (stepsM_tr hh (stepsM_tr e (stepsM_tr (T_h_q1 ..) (T_back _ _ _ _ _ _ _ (by simp [set, h8]))))), ?_⟩
    · decide
    · constructor <;> simp [set, Tr.paired, Tr.emit, *]
  · have e := T_h_as0 im nums d t.pile sto bk r t.img
    rw [if_b2, if_neg (by omega)] at e
    refine ⟨_, _, ?_, stepsM_tr g (stepsM_tr hh (stepsM_tr e (stepsM_tr (T_h_as1 ..) (T_back _ _ _ _ _ _ _ (by simp [set, h8]))))), ?_⟩
    · decide
    · constructor <;> simp [set, Tr.paired, Tr.emit, *]
  · have e := T_h_co0 im nums d t.pile sto bk r t.img
    rw [if_b2, if_neg (by omega)] at e
    refine ⟨_, _, ?_, stepsM_tr g (stepsM_tr hh (stepsM_tr e (stepsM_tr (T_h_co1 ..) (T_back _ _ _ _ _ _ _ (by simp [set, h8]))))), ?_⟩
    · decide
    · constructor <;> simp [set, Tr.paired, Tr.emit, *]
/-- .. and there is none: the run leaves the loop -/
theorem T_post0 (im nums : List Int) {b : List Int} {t : Tr} {c : Int} {m : M} (h : Mid 234 b t [] c m) (hq : c = 39 ∨ c = 61 ∨ c = 58) :
    ∃ N m', N ≤ 100 ∧ RT im nums N m = some m' ∧ m'.at_ = 271 ∧ m'.bk = b ∧ m'.out = (({ t with wait := c } : Tr).fin (-1)).img := by
  obtain ⟨at_, stk, sto, bk, rest, out⟩ := m
  obtain ⟨h1, h2, h3, h4, h5, h6, h7, h8, h9, h10, h11, h12, h13⟩ := h
  dsimp only at h1 h2 h3 h4 h5 h6 h7 h8 h9 h10 h11
  subst h1 h2 h3 h4 h5
  have g := T_G im nums t.pile sto bk [] t.img
  rw [h11, if_b2, if_neg (by omega)] at g
  have hh := T_H im nums t.pile sto bk [] t.img
  rw [h11, if_pos (by rcases hq with rfl | rfl | rfl <;> rfl)] at hh
  have e : RT im nums 17 ⟨c, t.pile, sto, 255 :: bk, [], t.img⟩ = some ⟨232, t.pile, (set (set sto 99 (-1)) 101 1), bk, [], t.img⟩ := by
    rcases hq with rfl | rfl | rfl
    · exact T_h_qe ..
    · exact T_h_ase ..
    · exact T_h_coe ..
  refine ⟨_, _, ?_, stepsM_tr g (stepsM_tr hh (stepsM_tr e (T_leave _ _ _ _ _ _ _ (by simp [set])))), rfl, rfl, ?_⟩
  · decide
  · have e2 : ({ t with wait := c } : Tr).fin (-1) = ({ t with wait := 0 } : Tr).emit (-1) 41 0 := by
      unfold Tr.fin Tr.endNum
      simp only [h12]
    rw [e2]
    simp [set, Tr.emit, *]
/-- the input is at its end -/
theorem T_end (im nums : List Int) {b : List Int} {t : Tr} {m : M} (h : Rel 209 b t [] m) :
    ∃ N m', N ≤ 200 ∧ RT im nums N m = some m' ∧ m'.at_ = 271 ∧ m'.bk = b ∧ m'.out = (t.fin (-1)).img := by
  obtain ⟨at_, stk, sto, bk, rest, out⟩ := m
  obtain ⟨h1, h2, h3, h4, h5, h6, h7, h8, h9, h10⟩ := h
  dsimp only at h1 h2 h3 h4 h5 h6 h7 h8 h9
  subst h1 h2 h3 h4 h5
  have a := T_Aend im nums t.pile sto bk t.img
  have ew : ({ t with wait := 0 } : Tr) = t := by rw [← h10]
  have key : ∃ N m1, N ≤ 60 ∧ RT im nums N ⟨209, t.pile, sto, bk, [], t.img⟩ = some m1 ∧ Mid 234 bk (t.endNum (-1)) [] (-1) m1 := by
    rcases h9 with ⟨n1, n2, n3⟩ | ⟨v, n1, n2, n3⟩
    · rw [if_pos n3] at a
      refine ⟨_, _, ?_, a, ?_⟩
      · decide
      · have e : t.endNum (-1) = t := by unfold Tr.endNum; rw [n1]
        rw [e]
        constructor <;> simp [set, *]
    · rw [if_neg (by rw [n3]; decide)] at a
      refine ⟨_, _, ?_, stepsM_tr a (T_F1 ..), ?_⟩
      · decide
      · have e : t.endNum (-1) = { t.emit (-1) 35 v with num := none } := by unfold Tr.endNum; rw [n1]
        rw [e]
        constructor <;> simp [set, Tr.emit, *]
  obtain ⟨N, m1, hN, r1, M1⟩ := key
  have ef : t.fin (-1) = (t.endNum (-1)).emit (-1) 41 0 := by unfold Tr.fin; rw [ew]
  rw [ef]
  generalize t.endNum (-1) = u at M1 ⊢
  obtain ⟨at_, stk, sto', bk', rest, out⟩ := m1
  obtain ⟨h1, h2, h3, h4, h5, h6, h7, h8, h9, h10, h11, h12, h13⟩ := M1
  dsimp only at h1 h2 h3 h4 h5 h6 h7 h8 h9 h10 h11
  subst h1 h2 h3 h4 h5
  have g := T_G im nums u.pile sto' bk' [] u.img
  rw [h11, if_b2, if_pos (by decide)] at g
  have g1 := T_G1 im nums u.pile sto' bk' [] u.img
  rw [h11, show b2 (decide ((-1 : Int) < 0)) = 1 from rfl] at g1
  refine ⟨_, _, ?_, stepsM_tr r1 (stepsM_tr g (stepsM_tr g1 (T_leave _ _ _ _ _ _ _ (by simp [set])))), rfl, rfl, ?_⟩
  · omega
  · simp [set, Tr.emit, *]
/-- THE LOOP: from its head the run comes to the closing return with the translation written -/
theorem T_loop (im nums : List Int) {b : List Int} : ∀ (n : Nat) (r : List Int), r.length ≤ n → (∀ c ∈ r, 0 ≤ c ∧ c ≤ 126) → ∀ (t : Tr) (m : M), Rel 209 b t r m →
    ∃ N m', N ≤ 200 * r.length + 200 ∧ RT im nums N m = some m' ∧ m'.at_ = 271 ∧ m'.bk = b ∧ m'.out = ((t.run (-1) r).fin (-1)).img
  | n, [], _, _, t, m, h => by
    obtain ⟨N, m', h1, h2, h3⟩ := T_end im nums h
    exact ⟨N, m', by simpa using h1, h2, h3⟩
  | n + 1, c :: r, hn, hc, t, m, h => by
    have hc0 := hc c (List.mem_cons_self ..)
    have hr : ∀ x ∈ r, 0 ≤ x ∧ x ≤ 126 := fun x hx => hc x (List.mem_cons_of_mem _ hx)
    have hl : r.length ≤ n := by simpa using hn
    by_cases hd : 48 ≤ c ∧ c ≤ 57
    · obtain ⟨N, m1, h1, h2, h3⟩ := T_it_digit im nums h hd
      obtain ⟨K, m2, k1, k2, k3⟩ := T_loop im nums n r hl hr _ m1 h3
      exact ⟨N + K, m2, by simp only [List.length_cons]; omega, stepsM_tr h2 k2, k3⟩
    · obtain ⟨N, m1, h1, h2, h3⟩ := T_pre im nums h hd
      have et : t.take (-1) c = (t.endNum (-1)).sign (-1) c := by
        unfold Tr.take
        rw [if_neg (by rw [h.w]; simp), if_neg hd]
      by_cases hq : c = 39 ∨ c = 61 ∨ c = 58
      · have es : (t.endNum (-1)).sign (-1) c = { t.endNum (-1) with wait := c } := by
          unfold Tr.sign
          rw [if_neg (by omega), if_pos hq]
        cases r with
        | nil =>
          obtain ⟨K, m2, k1, k2, k3⟩ := T_post0 im nums h3 hq
          refine ⟨N + K, m2, by simp; omega, stepsM_tr h2 k2, ?_⟩
          show _ ∧ _ ∧ m2.out = (Tr.fin (-1) (t.take (-1) c)).img
          rw [et, es]
          exact k3
        | cons d r' =>
          have hd0 := hr d (List.mem_cons_self ..)
          obtain ⟨K, m2, k1, k2, k3⟩ := T_post2 im nums h3 hd0.1 hq
          have hl' : r'.length ≤ n := by simp at hl; omega
          obtain ⟨J, m3, j1, j2, j3⟩ := T_loop im nums n r' hl' (fun x hx => hr x (List.mem_cons_of_mem _ hx)) _ m2 k3
          refine ⟨N + (K + J), m3, by simp only [List.length_cons]; omega, stepsM_tr h2 (stepsM_tr k2 j2), ?_⟩
          show _ ∧ _ ∧ m3.out = (Tr.fin (-1) (Tr.run (-1) r' ((t.take (-1) c).take (-1) d))).img
          have e2 : (t.take (-1) c).take (-1) d = ({ t.endNum (-1) with wait := c } : Tr).paired (-1) d := by
            rw [et, es]
            unfold Tr.take
            rw [if_pos (by show c ≠ 0; omega)]
          rw [e2]
          exact j3
      · obtain ⟨K, m2, k1, k2, k3⟩ := T_post im nums h3 hc0.1 hc0.2 hd hq
        obtain ⟨J, m3, j1, j2, j3⟩ := T_loop im nums n r hl hr _ m2 k3
        refine ⟨N + (K + J), m3, by simp only [List.length_cons]; omega, stepsM_tr h2 (stepsM_tr k2 j2), ?_⟩
        show _ ∧ _ ∧ m3.out = (Tr.fin (-1) (Tr.run (-1) r (t.take (-1) c))).img
        rw [et]
        exact j3
/-- the whole: from the first node to the closing return -/
theorem T_whole (im nums : List Int) (b r : List Int) (hc : ∀ c ∈ r, 0 ≤ c ∧ c ≤ 126) :
    ∃ N m', 8 ≤ N ∧ N ≤ 200 * r.length + 240 ∧ RT im nums N ⟨200, [], z0, b, r, []⟩ = some m' ∧ m'.at_ = 271 ∧ m'.bk = b ∧ m'.out.reverse = trans (-1) (-1) r := by
  have h0 := T_start im nums b r []
  obtain ⟨N, m', h1, h2, h3, h4, h5⟩ := T_loop im nums (b := b) r.length r (Nat.le_refl _) hc (Tr.start (-1) (-1)) ⟨209, [], (set (set (set (set (set (set z0 107 (-1)) 110 (-1)) 97 0) 111 32) 107 (-2)) 109 (-1)), b, r, (-1) :: 0 :: 32 :: 0 :: []⟩ (by
    constructor <;> simp [set, z0, Tr.start])
  exact ⟨_, m', by omega, by omega, stepsM_tr h0 h2, h3, h4, by rw [h5]; rfl⟩

end Pl

set_option Elab.async false
set_option linter.all false
set_option maxRecDepth 100000
set_option maxHeartbeats 4000000
namespace Pl
/-! ### an image's table: of the nodes of one number the last counts -/
def look : List Int → Int → Option Node
  | n :: o :: a :: s :: r, x => match look r x with
    | some q => some q
    | none => if n = x then some (o, a, s) else none
  | _, _ => none
theorem look_app : ∀ (a b : List Int) (x : Int), a.length % 4 = 0 → look (a ++ b) x = match look b x with | some q => some q | none => look a x
  | [], b, x, _ => by
    simp only [List.nil_append]
    cases look b x <;> simp [look]
  | [_], _, _, h => by simp at h
  | [_, _], _, _, h => by simp at h
  | [_, _, _], _, _, h => by simp at h
  | n :: o :: a :: s :: r, b, x, h => by
    have ih := look_app r b x (by simp at h; omega)
    simp only [List.cons_append, look]
    rw [ih]
    cases look b x <;> rfl
def keysOf : List Int → List Int
  | n :: _ :: _ :: _ :: r => n :: keysOf r
  | _ => []
theorem look_key : ∀ (a : List Int) (x : Int) (q : Node), look a x = some q → x ∈ keysOf a
  | [], _, _, h => by simp [look] at h
  | [_], _, _, h => by simp [look] at h
  | [_, _], _, _, h => by simp [look] at h
  | [_, _, _], _, _, h => by simp [look] at h
  | n :: o :: a :: s :: r, x, q, h => by
    simp only [look] at h
    cases e : look r x with
    | some q' => exact List.mem_cons_of_mem _ (look_key r x q' e)
    | none =>
      rw [e] at h
      by_cases hn : n = x
      · rw [hn]; exact List.mem_cons_self ..
      · simp [hn] at h
/-- what `$` calls -/
def lowOf (T : Int → Option Node) (n : Int) : Bool := decide (1 ≤ n) && (decide (n ≤ 199) && (T n).isSome)
def Tree.toL : Tree → List (Int × Node)
  | .e => []
  | .n l k v r => l.toL ++ (k, v) :: r.toL
theorem Tree.get_mem : ∀ (t : Tree) (x : Int) (v : Node), t.get x = some v → (x, v) ∈ t.toL
  | .e, _, _, h => by simp [Tree.get] at h
  | .n l k w r, x, v, h => by
    simp only [Tree.get] at h
    simp only [Tree.toL, List.mem_append, List.mem_cons]
    by_cases hx : x = k
    · rw [if_pos hx] at h
      have e : w = v := Option.some.inj h
      exact .inr (.inl (by rw [hx, e]))
    · rw [if_neg hx] at h
      by_cases hl : x < k
      · rw [if_pos hl] at h
        exact .inl (Tree.get_mem l x v h)
      · rw [if_neg hl] at h
        exact .inr (.inr (Tree.get_mem r x v h))
/-- a run by one table is a run by a larger one -/
theorem stepsM_more {T U : Int → Option Node} {lo lo' : Int → Bool} {im nums : List Int} (hT : ∀ x q, T x = some q → U x = some q) (hlo : lo = lo') : ∀ {n : Nat} {m m' : M}, stepsM T lo im nums n m = some m' → stepsM U lo' im nums n m = some m'
  | 0, m, m', h => h
  | n + 1, m, m', h => by
    unfold stepsM at h ⊢
    unfold stepM at h ⊢
    cases e : T m.at_ with
    | none => rw [e] at h; cases h
    | some q =>
      obtain ⟨o, a, s⟩ := q
      rw [e] at h
      rw [hT _ _ e]
      rw [← hlo]
      have := stepsM_more (im := im) (nums := nums) hT rfl (n := n) h
      rw [hlo] at this
      rw [hlo]
      exact this
/-! ### a trap's nodes -/
def cmpN (e : Int) : Int → List Int → List (Int × Node)
  | _, [] => []
  | p, c :: l => (p, 44, 0, p + 1) :: (p + 1, 35, c, p + 2) :: (p + 2, 126, 0, p + 3) :: (p + 3, 63, e, p + 4) :: cmpN e (p + 4) l
def wrN : Int → List Int → List (Int × Node)
  | _, [] => []
  | p, x :: l => (p, 35, x, p + 1) :: (p + 1, 46, 0, p + 2) :: wrN (p + 2) l
def cpN (r n : Int) : List (Int × Node) :=
  [(r, 35, -n, r + 1), (r + 1, 34, 0, r + 2), (r + 2, 38, 0, r + 3), (r + 3, 46, 0, r + 4), (r + 4, 35, 1, r + 5), (r + 5, 43, 0, r + 6), (r + 6, 34, 0, r + 7), (r + 7, 63, r + 8, r + 1), (r + 8, 95, 0, r + 9), (r + 9, 41, 0, r + 10)]
def trapN (l e : List Int) : List (Int × Node) :=
  [(0, 35, 3, 1000000), (1000000, 38, 0, 1000001), (1000001, 40, 0, 1000002), (1000002, 94, 0, 1000003)] ++
  (cmpN (1000003 + 4 * (l.length : Int) + 2 * (e.length : Int) + 9) 1000003 l ++ (wrN (1000003 + 4 * (l.length : Int)) e ++
    cpN (1000003 + 4 * (l.length : Int) + 2 * (e.length : Int)) (4 * (14 + 4 * (l.length : Int) + 2 * (e.length : Int)))))
def flatN : List (Int × Node) → List Int
  | [] => []
  | (a, b, c, d) :: r => a :: b :: c :: d :: flatN r
def trapC (l e : List Int) : List Int := flatN (trapN l e)
theorem flatN_app : ∀ a b, flatN (a ++ b) = flatN a ++ flatN b
  | [], b => rfl
  | (x, y, z, u) :: r, b => by simp [flatN, flatN_app r b]
theorem flatN_len : ∀ a, (flatN a).length = 4 * a.length
  | [] => rfl
  | (x, y, z, u) :: r => by simp [flatN, flatN_len r]; omega
theorem cmpN_len (e : Int) : ∀ p l, (cmpN e p l).length = 4 * l.length
  | _, [] => rfl
  | p, c :: l => by simp [cmpN, cmpN_len e (p + 4) l]; omega
theorem wrN_len : ∀ p l, (wrN p l).length = 2 * l.length
  | _, [] => rfl
  | p, c :: l => by simp [wrN, wrN_len (p + 2) l]; omega
theorem trapN_len (l e : List Int) : (trapN l e).length = 14 + 4 * l.length + 2 * e.length := by
  simp [trapN, cmpN_len, wrN_len, cpN]; omega
theorem trapC_len (l e : List Int) : (trapC l e).length = 4 * (14 + 4 * l.length + 2 * e.length) := by
  unfold trapC; rw [flatN_len, trapN_len]
/-! ### the trap's run -/
section
variable {T : Int → Option Node} {lo : Int → Bool} {im nums : List Int}
theorem one {at_ : Int} {stk : List Int} {sto : Int → Int} {bk rest out : List Int} {op arg nx : Int} {m' : M} (h : T at_ = some (op, arg, nx)) (e : act lo im nums op arg ⟨nx, stk, sto, bk, rest, out⟩ = m') : stepsM T lo im nums 1 ⟨at_, stk, sto, bk, rest, out⟩ = some m' := by
  show (match stepM T lo im nums ⟨at_, stk, sto, bk, rest, out⟩ with | none => none | some m' => some m') = some m'
  unfold stepM
  dsimp only
  rw [h]
  dsimp only
  rw [e]
theorem cmp_run (e : Int) (stk : List Int) (sto : Int → Int) (out : List Int) : ∀ (l : List Int) (p : Int) (rest : List Int), (∀ q ∈ cmpN e p l, T q.1 = some q.2) → (∀ c ∈ l, 0 ≤ c) →
    (rest.take l.length = l ∧ stepsM T lo im nums (4 * l.length) ⟨p, stk, sto, [], rest, out⟩ = some ⟨p + 4 * l.length, stk, sto, [], rest.drop l.length, out⟩) ∨
    (rest.take l.length ≠ l ∧ ∃ N r', N ≤ 4 * l.length ∧ stepsM T lo im nums N ⟨p, stk, sto, [], rest, out⟩ = some ⟨e, stk, sto, [], r', out⟩)
  | [], p, rest, _, _ => .inl ⟨rfl, by simp [stepsM]⟩
  | c :: l, p, rest, h, h0 => by
    have n0 := h (p, 44, 0, p + 1) (by simp [cmpN])
    have n1 := h (p + 1, 35, c, p + 2) (by simp [cmpN])
    have n2 := h (p + 2, 126, 0, p + 3) (by simp [cmpN])
    have n3 := h (p + 3, 63, e, p + 4) (by simp [cmpN])
    dsimp only at n0 n1 n2 n3
    have hc := h0 c (List.mem_cons_self ..)
    have key : ∀ (v : Int) (r' : List Int), stepsM T lo im nums 1 ⟨p, stk, sto, [], rest, out⟩ = some ⟨p + 1, v :: stk, sto, [], r', out⟩ →
        stepsM T lo im nums (1 + (1 + (1 + 1))) ⟨p, stk, sto, [], rest, out⟩ = some ⟨if v = c then p + 4 else e, stk, sto, [], r', out⟩ := fun v r' a => by
      refine stepsM_tr a (stepsM_tr (one n1 rfl) (stepsM_tr (one n2 rfl) (one n3 ?_)))
      show (⟨if b2 (decide (v = c)) = 0 then e else p + 4, stk, sto, [], r', out⟩ : M) = _
      rw [if_b2]
    cases rest with
    | nil =>
      have a := key (-1) [] (one n0 rfl)
      rw [if_neg (by omega)] at a
      exact .inr ⟨by simp, _, _, by simp; omega, a⟩
    | cons x r =>
      have a := key x r (one n0 rfl)
      by_cases hx : x = c
      · rw [if_pos hx] at a
        rcases cmp_run e stk sto out l (p + 4) r (fun q hq => h q (by simp [cmpN, hq])) (fun y hy => h0 y (List.mem_cons_of_mem _ hy)) with ⟨i1, i2⟩ | ⟨i1, N, r', i2, i3⟩
        · refine .inl ⟨by simp [hx, i1], ?_⟩
          have z := stepsM_tr a i2
          rw [show (1 + (1 + (1 + 1)) + 4 * l.length) = 4 * (c :: l).length by simp; omega] at z
          rw [z]
          simp
          omega
        · exact .inr ⟨by simp [hx, i1], _, r', by simp; omega, stepsM_tr a i3⟩
      · rw [if_neg hx] at a
        exact .inr ⟨by simp [hx], _, _, by simp; omega, a⟩
theorem wr_run (stk : List Int) (sto : Int → Int) (rest : List Int) : ∀ (l : List Int) (p : Int) (out : List Int), (∀ q ∈ wrN p l, T q.1 = some q.2) →
    stepsM T lo im nums (2 * l.length) ⟨p, stk, sto, [], rest, out⟩ = some ⟨p + 2 * l.length, stk, sto, [], rest, l.reverse ++ out⟩
  | [], p, out, _ => by simp [stepsM]
  | x :: l, p, out, h => by
    have n0 := h (p, 35, x, p + 1) (by simp [wrN])
    have n1 := h (p + 1, 46, 0, p + 2) (by simp [wrN])
    dsimp only at n0 n1
    have a : stepsM T lo im nums (1 + 1) ⟨p, stk, sto, [], rest, out⟩ = some ⟨p + 2, stk, sto, [], rest, x :: out⟩ := stepsM_tr (one n0 rfl) (one n1 rfl)
    have z := stepsM_tr a (wr_run stk sto rest l (p + 2) (x :: out) fun q hq => h q (by simp [wrN, hq]))
    rw [show (1 + 1 + 2 * l.length) = 2 * (x :: l).length by simp; omega] at z
    rw [z]
    simp
    omega
theorem cellOf_back {pre c : List Int} {j : Nat} (hj : j < c.length) : cellOf (pre ++ c) (-((c.length : Int) - j)) = c.getD j 0 := by
  unfold cellOf
  rw [if_neg (by omega), if_pos (by simp; omega)]
  rw [show (-((c.length : Int) - j) + ((pre ++ c).length : Int)).toNat = pre.length + j by simp; omega]
  rw [List.getD_eq_getElem?_getD, List.getD_eq_getElem?_getD, List.getElem?_append_right (Nat.le_add_right ..)]
  simp
theorem cp_loop {pre c : List Int} (r : Int) (stk : List Int) (sto : Int → Int) (rest : List Int) (him : im = pre ++ c) (h : ∀ q ∈ cpN r (c.length : Int), T q.1 = some q.2) :
    ∀ (k j : Nat) (out : List Int), j + k = c.length → 0 < k → stepsM T lo im nums (7 * k) ⟨r + 1, (-((c.length : Int) - j)) :: stk, sto, [], rest, out⟩ = some ⟨r + 8, 0 :: stk, sto, [], rest, (c.drop j).reverse ++ out⟩
  | 0, _, _, _, h0 => absurd h0 (Nat.lt_irrefl _)
  | k + 1, j, out, hj, _ => by
    have n1 := h (r + 1, 34, 0, r + 2) (by simp [cpN])
    have n2 := h (r + 2, 38, 0, r + 3) (by simp [cpN])
    have n3 := h (r + 3, 46, 0, r + 4) (by simp [cpN])
    have n4 := h (r + 4, 35, 1, r + 5) (by simp [cpN])
    have n5 := h (r + 5, 43, 0, r + 6) (by simp [cpN])
    have n6 := h (r + 6, 34, 0, r + 7) (by simp [cpN])
    have n7 := h (r + 7, 63, r + 8, r + 1) (by simp [cpN])
    dsimp only at n1 n2 n3 n4 n5 n6 n7
    have hlt : j < c.length := by omega
    have a : stepsM T lo im nums (1 + (1 + (1 + (1 + (1 + (1 + 1)))))) ⟨r + 1, (-((c.length : Int) - j)) :: stk, sto, [], rest, out⟩ = some ⟨if -((c.length : Int) - j) + 1 = 0 then r + 8 else r + 1, (-((c.length : Int) - j) + 1) :: stk, sto, [], rest, c.getD j 0 :: out⟩ := by
      refine stepsM_tr (one n1 rfl) (stepsM_tr (one n2 rfl) (stepsM_tr (one n3 rfl) (stepsM_tr (one n4 rfl) (stepsM_tr (one n5 rfl) (stepsM_tr (one n6 rfl) (one n7 ?_))))))
      show (⟨if -((c.length : Int) - j) + 1 = 0 then r + 8 else r + 1, (-((c.length : Int) - j) + 1) :: stk, sto, [], rest, cellOf im (-((c.length : Int) - j)) :: out⟩ : M) = _
      rw [him, cellOf_back hlt]
    have ed : c.drop j = c.getD j 0 :: c.drop (j + 1) := by
      rw [List.drop_eq_getElem_cons hlt]
      simp [List.getD_eq_getElem?_getD, hlt]
    rw [ed]
    by_cases hk : k = 0
    · subst hk
      rw [if_pos (by omega), show -((c.length : Int) - j) + 1 = 0 by omega] at a
      rw [a]
      have e2 : c.drop (j + 1) = [] := List.drop_eq_nil_of_le (by omega)
      rw [e2]
      simp
    · rw [if_neg (by omega), show -((c.length : Int) - j) + 1 = -((c.length : Int) - ((j + 1 : Nat) : Int)) by omega] at a
      have z := stepsM_tr a (cp_loop r stk sto rest him h k (j + 1) (c.getD j 0 :: out) (by omega) (by omega))
      rw [show (1 + (1 + (1 + (1 + (1 + (1 + 1))))) + 7 * k) = 7 * (k + 1) by omega] at z
      rw [z]
      simp
theorem cp_run {pre c : List Int} (r : Int) (stk : List Int) (sto : Int → Int) (rest out : List Int) (him : im = pre ++ c) (hc : 0 < c.length) (h : ∀ q ∈ cpN r (c.length : Int), T q.1 = some q.2) :
    stepsM T lo im nums (1 + (7 * c.length + (1 + 1))) ⟨r, stk, sto, [], rest, out⟩ = some ⟨r + 10, stk, sto, [], rest, c.reverse ++ out⟩ := by
  have n0 := h (r, 35, -(c.length : Int), r + 1) (by simp [cpN])
  have n8 := h (r + 8, 95, 0, r + 9) (by simp [cpN])
  have n9 := h (r + 9, 41, 0, r + 10) (by simp [cpN])
  dsimp only at n0 n8 n9
  have a := cp_loop (lo := lo) (nums := nums) r stk sto rest him h c.length 0 out (by omega) hc
  rw [show -((c.length : Int) - ((0 : Nat) : Int)) = -(c.length : Int) by omega] at a
  refine stepsM_tr (one n0 rfl) (stepsM_tr a (stepsM_tr (one n8 rfl) (one n9 rfl)))
/-- behind the program's closing return -/
theorem trap_run {pre l e : List Int} (stk : List Int) (sto : Int → Int) (rest out : List Int) (him : im = pre ++ trapC l e) (h : ∀ q ∈ trapN l e, T q.1 = some q.2) (hl : ∀ c ∈ l, 0 ≤ c) :
    ∃ N m', N ≤ 10 + 4 * l.length + 2 * e.length + 7 * (trapC l e).length ∧ stepsM T lo im nums N ⟨1000002, stk, sto, [], rest, out⟩ = some m' ∧ m'.at_ = 1000003 + 4 * (l.length : Int) + 2 * (e.length : Int) + 10 ∧
      m'.out.reverse = out.reverse ++ (if nums.take l.length = l then e ++ trapC l e else []) := by
  have n2 := h (1000002, 94, 0, 1000003) (by simp [trapN])
  dsimp only at n2
  have lc := trapC_len l e
  have hE := h (1000003 + 4 * (l.length : Int) + 2 * (e.length : Int) + 9, 41, 0, 1000003 + 4 * (l.length : Int) + 2 * (e.length : Int) + 10) (by simp [trapN, cpN])
  dsimp only at hE
  have s0 : stepsM T lo im nums 1 ⟨1000002, stk, sto, [], rest, out⟩ = some ⟨1000003, stk, sto, [], nums, out⟩ := one n2 rfl
  rcases cmp_run (T := T) (lo := lo) (im := im) (nums := nums) (1000003 + 4 * (l.length : Int) + 2 * (e.length : Int) + 9) stk sto out l 1000003 nums (fun q hq => h q (by simp [trapN, hq])) hl with ⟨i1, i2⟩ | ⟨i1, N, r', i2, i3⟩
  · have w := wr_run (T := T) (lo := lo) (im := im) (nums := nums) stk sto (nums.drop l.length) e (1000003 + 4 * (l.length : Int)) out (fun q hq => h q (by simp [trapN, hq]))
    have cpy := cp_run (T := T) (lo := lo) (im := im) (nums := nums) (1000003 + 4 * (l.length : Int) + 2 * (e.length : Int)) stk sto (nums.drop l.length) (e.reverse ++ out) him (by omega) (fun q hq => h q (by
      simp only [trapN, List.mem_append]
      rw [lc] at hq
      exact .inr (.inr (.inr (by simpa using hq)))))
    refine ⟨_, _, ?_, stepsM_tr s0 (stepsM_tr i2 (stepsM_tr w cpy)), rfl, ?_⟩
    · omega
    · rw [if_pos i1]
      simp
  · refine ⟨_, _, ?_, stepsM_tr s0 (stepsM_tr i3 (one hE rfl)), rfl, ?_⟩
    · omega
    · rw [if_neg i1]
      show out.reverse = out.reverse ++ []
      simp
end
end Pl

set_option Elab.async false
set_option linter.all false
set_option maxRecDepth 100000
set_option maxHeartbeats 4000000
namespace Pl
/-! ### the two images -/
def imP : List Int := [0, 32, 0, 200, 200, 35, 200, 201, 201, 61, 107, 202, 202, 35, 32, 203, 203, 35, 0, 204, 204, 35, 51, 205, 205, 40, 0, 206, 206, 32, 0, 207, 207, 44, 0, 208, 208, 61, 99, 209, 209, 35, 47, 210, 210, 99, 0, 211, 211, 60, 0, 212, 212, 63, 213, 214, 214, 99, 0, 215, 215, 35, 58, 216, 216, 60, 0, 217, 217, 32, 0, 218, 213, 35, 0, 219, 219, 32, 0, 218, 218, 63, 220, 221, 221, 114, 0, 222, 222, 99, 0, 223, 223, 35, 48, 224, 224, 45, 0, 225, 225, 42, 0, 226, 226, 61, 114, 227, 227, 35, 1, 228, 228, 61, 102, 229, 229, 32, 0, 230, 220, 102, 0, 231, 231, 63, 232, 233, 233, 35, 35, 234, 234, 114, 0, 235, 235, 35, 51, 236, 236, 40, 0, 237, 237, 35, 0, 238, 238, 34, 0, 239, 239, 61, 114, 240, 240, 61, 102, 241, 241, 32, 0, 232, 232, 99, 0, 242, 242, 35, 33, 243, 243, 60, 0, 244, 244, 63, 245, 246, 246, 99, 0, 247, 247, 35, 0, 248, 248, 60, 0, 249, 249, 61, 101, 250, 250, 32, 0, 251, 245, 99, 0, 252, 252, 36, 0, 253, 253, 34, 0, 254, 254, 63, 255, 256, 256, 35, 0, 257, 257, 35, 51, 258, 258, 40, 0, 259, 259, 32, 0, 260, 255, 95, 0, 261, 261, 32, 0, 260, 260, 32, 0, 251, 251, 32, 0, 230, 230, 101, 0, 262, 262, 35, 0, 263, 263, 126, 0, 264, 264, 63, 265, 207, 265, 35, 41, 266, 266, 35, 0, 267, 267, 35, 51, 268, 268, 40, 0, 269, 49, 61, 110, 270, 270, 61, 97, 271, 271, 61, 111, 272, 272, 109, 0, 273, 273, 46, 0, 274, 274, 111, 0, 275, 275, 46, 0, 276, 276, 97, 0, 277, 277, 46, 0, 278, 278, 110, 0, 279, 279, 46, 0, 280, 280, 41, 0, 1, 50, 107, 0, 281, 281, 107, 0, 282, 282, 35, 1, 283, 283, 43, 0, 284, 284, 61, 107, 285, 285, 41, 0, 1, 51, 107, 0, 286, 286, 35, 49, 287, 287, 40, 0, 288, 288, 35, 50, 289, 289, 40, 0, 290, 290, 61, 109, 291, 291, 41, 0, 1, 39, 44, 0, 292, 292, 34, 0, 293, 293, 61, 99, 294, 294, 35, 0, 295, 295, 60, 0, 296, 296, 63, 297, 298, 298, 35, 1, 299, 299, 61, 101, 300, 300, 32, 0, 301, 297, 35, 35, 302, 302, 99, 0, 303, 303, 35, 51, 304, 304, 40, 0, 305, 305, 32, 0, 301, 301, 35, 0, 306, 306, 41, 0, 1, 61, 44, 0, 307, 307, 34, 0, 308, 308, 61, 99, 309, 309, 35, 0, 310, 310, 60, 0, 311, 311, 63, 312, 313, 313, 35, 1, 314, 314, 61, 101, 315, 315, 32, 0, 316, 312, 35, 61, 317, 317, 99, 0, 318, 318, 35, 51, 319, 319, 40, 0, 320, 320, 32, 0, 316, 316, 35, 0, 321, 321, 41, 0, 1, 58, 44, 0, 322, 322, 34, 0, 323, 323, 61, 99, 324, 324, 35, 0, 325, 325, 60, 0, 326, 326, 63, 327, 328, 328, 35, 1, 329, 329, 61, 101, 330, 330, 32, 0, 331, 327, 109, 0, 332, 332, 99, 0, 333, 333, 61, 109, 334, 334, 32, 0, 331, 331, 35, 0, 335, 335, 41, 0, 1, 91, 35, 50, 336, 336, 40, 0, 337, 337, 34, 0, 338, 338, 61, 116, 339, 339, 35, 63, 340, 340, 116, 0, 341, 341, 35, 51, 342, 342, 40, 0, 343, 343, 35, 0, 344, 344, 41, 0, 1, 124, 35, 50, 345, 345, 40, 0, 346, 346, 61, 116, 347, 347, 35, 32, 348, 348, 35, 0, 349, 349, 116, 0, 350, 350, 35, 49, 351, 351, 40, 0, 352, 352, 61, 109, 353, 353, 116, 0, 354, 354, 35, 0, 355, 355, 41, 0, 1, 93, 61, 116, 356, 356, 35, 32, 357, 357, 35, 0, 358, 358, 116, 0, 359, 359, 35, 49, 360, 360, 40, 0, 361, 361, 116, 0, 362, 362, 61, 109, 363, 363, 35, 0, 364, 364, 41, 0, 1, 123, 35, 50, 365, 365, 40, 0, 366, 366, 61, 116, 367, 367, 35, 32, 368, 368, 35, 0, 369, 369, 116, 0, 370, 370, 35, 49, 371, 371, 40, 0, 372, 372, 116, 0, 373, 373, 61, 109, 374, 374, 116, 0, 375, 375, 35, 0, 376, 376, 41, 0, 1, 125, 61, 115, 377, 377, 35, 50, 378, 378, 40, 0, 379, 379, 61, 116, 380, 380, 35, 63, 381, 381, 116, 0, 382, 382, 115, 0, 383, 383, 35, 49, 384, 384, 40, 0, 385, 385, 116, 0, 386, 386, 61, 109, 387, 387, 35, 0, 388, 388, 41, 0, 1, 59, 35, 41, 389, 389, 35, 0, 390, 390, 35, 1, 391, 391, 35, 49, 392, 392, 40, 0, 393, 393, 61, 109, 394, 394, 35, 0, 395, 395, 41, 0, 1, 269, 41, 0, 396]
def imT : List Int := [0, 32, 0, 200, 200, 35, 0, 201, 201, 35, 1, 202, 202, 45, 0, 203, 203, 61, 107, 204, 204, 35, 32, 205, 205, 35, 0, 206, 206, 35, 51, 207, 207, 40, 0, 208, 208, 32, 0, 209, 209, 44, 0, 210, 210, 61, 99, 211, 211, 35, 47, 212, 212, 99, 0, 213, 213, 60, 0, 214, 214, 63, 215, 216, 216, 99, 0, 217, 217, 35, 58, 218, 218, 60, 0, 219, 219, 32, 0, 220, 215, 35, 0, 221, 221, 32, 0, 220, 220, 63, 222, 223, 223, 114, 0, 224, 224, 99, 0, 225, 225, 35, 48, 226, 226, 45, 0, 227, 227, 42, 0, 228, 228, 61, 114, 229, 229, 35, 1, 230, 230, 61, 102, 231, 231, 32, 0, 232, 222, 102, 0, 233, 233, 63, 234, 235, 235, 35, 35, 236, 236, 114, 0, 237, 237, 35, 51, 238, 238, 40, 0, 239, 239, 35, 0, 240, 240, 34, 0, 241, 241, 61, 114, 242, 242, 61, 102, 243, 243, 32, 0, 234, 234, 99, 0, 244, 244, 35, 33, 245, 245, 60, 0, 246, 246, 63, 247, 248, 248, 99, 0, 249, 249, 35, 0, 250, 250, 60, 0, 251, 251, 61, 101, 252, 252, 32, 0, 253, 247, 99, 0, 254, 254, 36, 0, 255, 255, 34, 0, 256, 256, 63, 257, 258, 258, 35, 0, 259, 259, 35, 51, 260, 260, 40, 0, 261, 261, 32, 0, 262, 257, 95, 0, 263, 263, 32, 0, 262, 262, 32, 0, 253, 253, 32, 0, 232, 232, 101, 0, 264, 264, 35, 0, 265, 265, 126, 0, 266, 266, 63, 267, 209, 267, 35, 41, 268, 268, 35, 0, 269, 269, 35, 51, 270, 270, 40, 0, 271, 49, 61, 110, 272, 272, 61, 97, 273, 273, 61, 111, 274, 274, 109, 0, 275, 275, 46, 0, 276, 276, 111, 0, 277, 277, 46, 0, 278, 278, 97, 0, 279, 279, 46, 0, 280, 280, 110, 0, 281, 281, 46, 0, 282, 282, 41, 0, 1, 50, 107, 0, 283, 283, 107, 0, 284, 284, 35, 1, 285, 285, 45, 0, 286, 286, 61, 107, 287, 287, 41, 0, 1, 51, 107, 0, 288, 288, 35, 49, 289, 289, 40, 0, 290, 290, 35, 50, 291, 291, 40, 0, 292, 292, 61, 109, 293, 293, 41, 0, 1, 39, 44, 0, 294, 294, 34, 0, 295, 295, 61, 99, 296, 296, 35, 0, 297, 297, 60, 0, 298, 298, 63, 299, 300, 300, 35, 1, 301, 301, 61, 101, 302, 302, 32, 0, 303, 299, 35, 35, 304, 304, 99, 0, 305, 305, 35, 51, 306, 306, 40, 0, 307, 307, 32, 0, 303, 303, 35, 0, 308, 308, 41, 0, 1, 61, 44, 0, 309, 309, 34, 0, 310, 310, 61, 99, 311, 311, 35, 0, 312, 312, 60, 0, 313, 313, 63, 314, 315, 315, 35, 1, 316, 316, 61, 101, 317, 317, 32, 0, 318, 314, 35, 61, 319, 319, 99, 0, 320, 320, 35, 51, 321, 321, 40, 0, 322, 322, 32, 0, 318, 318, 35, 0, 323, 323, 41, 0, 1, 58, 44, 0, 324, 324, 34, 0, 325, 325, 61, 99, 326, 326, 35, 0, 327, 327, 60, 0, 328, 328, 63, 329, 330, 330, 35, 1, 331, 331, 61, 101, 332, 332, 32, 0, 333, 329, 109, 0, 334, 334, 99, 0, 335, 335, 61, 109, 336, 336, 32, 0, 333, 333, 35, 0, 337, 337, 41, 0, 1, 91, 35, 50, 338, 338, 40, 0, 339, 339, 34, 0, 340, 340, 61, 116, 341, 341, 35, 63, 342, 342, 116, 0, 343, 343, 35, 51, 344, 344, 40, 0, 345, 345, 35, 0, 346, 346, 41, 0, 1, 124, 35, 50, 347, 347, 40, 0, 348, 348, 61, 116, 349, 349, 35, 32, 350, 350, 35, 0, 351, 351, 116, 0, 352, 352, 35, 49, 353, 353, 40, 0, 354, 354, 61, 109, 355, 355, 116, 0, 356, 356, 35, 0, 357, 357, 41, 0, 1, 93, 61, 116, 358, 358, 35, 32, 359, 359, 35, 0, 360, 360, 116, 0, 361, 361, 35, 49, 362, 362, 40, 0, 363, 363, 116, 0, 364, 364, 61, 109, 365, 365, 35, 0, 366, 366, 41, 0, 1, 123, 35, 50, 367, 367, 40, 0, 368, 368, 61, 116, 369, 369, 35, 32, 370, 370, 35, 0, 371, 371, 116, 0, 372, 372, 35, 49, 373, 373, 40, 0, 374, 374, 116, 0, 375, 375, 61, 109, 376, 376, 116, 0, 377, 377, 35, 0, 378, 378, 41, 0, 1, 125, 61, 115, 379, 379, 35, 50, 380, 380, 40, 0, 381, 381, 61, 116, 382, 382, 35, 63, 383, 383, 116, 0, 384, 384, 115, 0, 385, 385, 35, 49, 386, 386, 40, 0, 387, 387, 116, 0, 388, 388, 61, 109, 389, 389, 35, 0, 390, 390, 41, 0, 1, 59, 35, 41, 391, 391, 35, 0, 392, 392, 35, 1, 393, 393, 35, 49, 394, 394, 40, 0, 395, 395, 61, 109, 396, 396, 35, 0, 397, 397, 41, 0, 1, 271, 41, 0, 398]
def nodesL : List Int → List (Int × Node)
  | n :: o :: a :: s :: r => (n, o, a, s) :: nodesL r
  | _ => []
theorem look_mem : ∀ (a : List Int) (x : Int) (q : Node), look a x = some q → (x, q) ∈ nodesL a
  | [], _, _, h => by simp [look] at h
  | [_], _, _, h => by simp [look] at h
  | [_, _], _, _, h => by simp [look] at h
  | [_, _, _], _, _, h => by simp [look] at h
  | n :: o :: a :: s :: r, x, q, h => by
    simp only [look] at h
    cases e : look r x with
    | some q' =>
      rw [e] at h
      have e2 : q' = q := Option.some.inj h
      rw [e2] at e
      exact List.mem_cons_of_mem _ (look_mem r x q e)
    | none =>
      rw [e] at h
      by_cases hn : n = x
      · rw [if_pos hn] at h
        have e2 : (o, a, s) = q := Option.some.inj h
        rw [← hn, ← e2]
        exact List.mem_cons_self ..
      · rw [if_neg hn] at h
        cases h
theorem look_some : ∀ (a : List Int) (x : Int), x ∈ keysOf a → ∃ q, look a x = some q
  | [], _, h => by simp [keysOf] at h
  | [_], _, h => by simp [keysOf] at h
  | [_, _], _, h => by simp [keysOf] at h
  | [_, _, _], _, h => by simp [keysOf] at h
  | n :: o :: a :: s :: r, x, h => by
    simp only [look]
    cases e : look r x with
    | some q => exact ⟨q, rfl⟩
    | none =>
      dsimp only
      by_cases hn : n = x
      · exact ⟨_, if_pos hn⟩
      · have h2 : x ∈ keysOf r := by
          rcases List.mem_cons.mp h with z | z
          · exact absurd z.symm hn
          · exact z
        obtain ⟨q, z⟩ := look_some r x h2
        rw [e] at z
        cases z
/-- what is to be seen of an image and its tree, as one computation -/
def seenB (im : List Int) (t : Tree) (fin nx : Int) : Bool :=
  (nodesL im).all (fun q => decide (q.1 = 0) || decide (t.get q.1 = some q.2)) &&
  t.toL.all (fun q => (keysOf im).contains q.1 && decide (0 < q.1)) &&
  (List.range 200).all (fun n => (decide (1 ≤ n) && (t.get (n : Int)).isSome) == loB (n : Int)) &&
  (keysOf im).all (fun k => decide (0 ≤ k) && decide (k < 900000)) && decide (im.length % 4 = 0) && decide (4 ≤ im.length) && decide (im.getD 3 0 = 200) &&
  decide (look im 0 = some (32, 0, 200)) && decide (t.get fin = some (41, 0, nx)) && decide (t.get nx = none) && decide (0 < nx) 
theorem seenP : seenB imP treeP 269 396 = true := by kernel_rfl
theorem seenT : seenB imT treeT 271 398 = true := by kernel_rfl
structure Cp (im : List Int) (tree : Tree) (fin first by_ : Int) : Prop where
  tr : ∀ x q, tree.get x = some q → look im x = some q ∧ 0 < x
  lo : ∀ n, lowOf (look im) n = loB n
  keys : ∀ k ∈ keysOf im, 0 ≤ k ∧ k < 900000
  len : im.length % 4 = 0
  big : 4 ≤ im.length
  c3 : im.getD 3 0 = 200
  n0 : look im 0 = some (32, 0, 200)
  fin_ : ∃ nx, look im fin = some (41, 0, nx) ∧ look im nx = none
  whole : ∀ (im' nums b r : List Int), (∀ c ∈ r, 0 ≤ c ∧ c ≤ 126) → ∃ N m', 8 ≤ N ∧ N ≤ 200 * r.length + 240 ∧ stepsM tree.get loB im' nums N ⟨200, [], z0, b, r, []⟩ = some m' ∧ m'.at_ = fin ∧ m'.bk = b ∧ m'.out.reverse = trans first by_ r
theorem low_of {T : Int → Option Node} (h : ∀ n : Nat, n < 200 → (decide (1 ≤ n) && (T (n : Int)).isSome) = loB (n : Int)) (n : Int) : lowOf T n = loB n := by
  by_cases h1 : 1 ≤ n ∧ n ≤ 199
  · have e := h n.toNat (by omega)
    rw [show ((n.toNat : Nat) : Int) = n by omega] at e
    rw [← e]
    unfold lowOf
    rw [decide_eq_true h1.1, decide_eq_true h1.2, decide_eq_true (show 1 ≤ n.toNat by omega)]
    simp
  · have e1 : lowOf T n = false := by
      unfold lowOf
      by_cases a : 1 ≤ n
      · rw [decide_eq_false (show ¬ n ≤ 199 by omega)]; simp
      · rw [decide_eq_false a]; simp
    have e2 : loB n = false := by
      unfold loB
      simp only [Bool.or_eq_false_iff, decide_eq_false_iff_not]
      refine ⟨⟨⟨⟨⟨⟨⟨⟨⟨⟨⟨?_, ?_⟩, ?_⟩, ?_⟩, ?_⟩, ?_⟩, ?_⟩, ?_⟩, ?_⟩, ?_⟩, ?_⟩, ?_⟩ <;> omega
    rw [e1, e2]
theorem Cp.of {im : List Int} {t : Tree} {fin nx first by_ : Int} (h : seenB im t fin nx = true)
    (w : ∀ (im' nums b r : List Int), (∀ c ∈ r, 0 ≤ c ∧ c ≤ 126) → ∃ N m', 8 ≤ N ∧ N ≤ 200 * r.length + 240 ∧ stepsM t.get loB im' nums N ⟨200, [], z0, b, r, []⟩ = some m' ∧ m'.at_ = fin ∧ m'.bk = b ∧ m'.out.reverse = trans first by_ r) : Cp im t fin first by_ := by
  unfold seenB at h
  simp only [Bool.and_eq_true, Bool.or_eq_true, decide_eq_true_eq, List.all_eq_true] at h
  obtain ⟨⟨⟨⟨⟨⟨⟨⟨⟨⟨h1, h2⟩, h3⟩, h4⟩, h5⟩, h6⟩, h7⟩, h8⟩, h9⟩, h10⟩, h11⟩ := h
  have toT : ∀ x q, x ≠ 0 → look im x = some q → t.get x = some q := fun x q hx e => by
    rcases h1 (x, q) (look_mem im x q e) with z | z
    · exact absurd z hx
    · exact z
  have ofT : ∀ x q, t.get x = some q → look im x = some q ∧ 0 < x := fun x q e => by
    obtain ⟨z1, z2⟩ := h2 (x, q) (Tree.get_mem t x q e)
    obtain ⟨q', e'⟩ := look_some im x (List.contains_iff_mem.mp z1)
    have := toT x q' (by have : (0 : Int) < x := z2; omega) e'
    rw [e] at this
    rw [Option.some.inj this]
    exact ⟨e', z2⟩
  refine ⟨ofT, low_of fun n hn => ?_, h4, h5, h6, h7, h8, ⟨nx, (ofT _ _ h9).1, ?_⟩, w⟩
  · have := beq_iff_eq.mp (h3 n (List.mem_range.mpr hn))
    rw [← this]
    by_cases h0 : 1 ≤ n
    · congr 1
      cases e : look im (n : Int) with
      | some q => rw [toT _ q (by omega) e]
      | none =>
        cases e2 : t.get (n : Int) with
        | none => rfl
        | some q => rw [(ofT _ q e2).1] at e; cases e
    · rw [decide_eq_false h0]; simp
  · cases e : look im nx with
    | none => rfl
    | some q => rw [toT nx q (by omega) e] at h10; cases h10
theorem cpP : Cp imP treeP 269 200 1 := Cp.of seenP P_whole
theorem cpT : Cp imT treeT 271 (-1) (-1) := Cp.of seenT T_whole
/-! ### runs -/
def m0 (nums : List Int) : M := ⟨0, [], z0, [], nums, []⟩
abbrev RunI (im nums : List Int) := stepsM (look im) (lowOf (look im)) im nums
/-- the run of the image ends behind exactly N steps with the output out -/
def Ends (im nums : List Int) (most : Nat) (out : List Int) : Prop := ∃ N m', 8 ≤ N ∧ N ≤ most ∧ RunI im nums N (m0 nums) = some m' ∧ look im m'.at_ = none ∧ m'.out.reverse = out
section
variable {im : List Int} {tree : Tree} {fin first by_ : Int}
theorem Cp.clean (C : Cp im tree fin first by_) (nums : List Int) (hc : ∀ c ∈ nums, 0 ≤ c ∧ c ≤ 126) : Ends im nums (200 * nums.length + 300) (trans first by_ nums) := by
  obtain ⟨N, m1, h1, h2, h3, h4, h5, h6⟩ := C.whole im nums [] nums hc
  obtain ⟨nx, f1, f2⟩ := C.fin_
  have hT : ∀ x q, tree.get x = some q → look im x = some q := fun x q h => (C.tr x q h).1
  have r1 := stepsM_more (im := im) (nums := nums) hT (funext fun n => (C.lo n).symm) h3
  have r0 : RunI im nums 1 (m0 nums) = some ⟨200, [], z0, [], nums, []⟩ := one C.n0 rfl
  obtain ⟨at_, stk, sto, bk, rest, out⟩ := m1
  dsimp only at h4 h5 h6
  subst h4 h5
  have r2 : RunI im nums 1 ⟨at_, stk, sto, [], rest, out⟩ = some ⟨nx, stk, sto, [], rest, out⟩ := one f1 rfl
  exact ⟨1 + (N + 1), _, by omega, by omega, stepsM_tr r0 (stepsM_tr r1 r2), f2, h6⟩
/-- a trap whose nodes stand apart -/
def cfgB (l e : List Int) : Bool :=
  (trapN l e).all (fun q => decide (look (trapC l e) q.1 = some q.2)) && (keysOf (trapC l e)).all (fun k => decide (k = 0) || decide (1000000 ≤ k)) &&
  decide (look (trapC l e) (1000003 + 4 * (l.length : Int) + 2 * (e.length : Int) + 10) = none) && decide (e.length % 4 = 0) && (keysOf e).all (fun k => decide (900000 ≤ k) && decide (k < 1000000)) && l.all (fun c => decide (0 ≤ c))
structure Cfg (l e : List Int) : Prop where
  tr : ∀ q ∈ trapN l e, look (trapC l e) q.1 = some q.2
  keys : ∀ k ∈ keysOf (trapC l e), k = 0 ∨ 1000000 ≤ k
  fin : look (trapC l e) (1000003 + 4 * (l.length : Int) + 2 * (e.length : Int) + 10) = none
  len : e.length % 4 = 0
  ek : ∀ k ∈ keysOf e, 900000 ≤ k ∧ k < 1000000
  nn : ∀ c ∈ l, 0 ≤ c
theorem Cfg.of {l e : List Int} (h : cfgB l e = true) : Cfg l e := by
  unfold cfgB at h
  simp only [Bool.and_eq_true, Bool.or_eq_true, decide_eq_true_eq, List.all_eq_true] at h
  obtain ⟨⟨⟨⟨⟨h1, h2⟩, h3⟩, h4⟩, h5⟩, h6⟩ := h
  exact ⟨h1, h2, h3, h4, h5, h6⟩
theorem look_none {a : List Int} {x : Int} (h : x ∉ keysOf a) : look a x = none := by
  cases e : look a x with
  | none => rfl
  | some q => exact absurd (look_key a x q e) h
theorem Cp.trapped (C : Cp im tree fin first by_) {l e ext : List Int} (G : Cfg l e) (hx : ext = [] ∨ ext = e) (nums : List Int) (hc : ∀ c ∈ nums, 0 ≤ c ∧ c ≤ 126) :
    Ends (im ++ ext ++ trapC l e) nums (200 * nums.length + 300 + 4 * l.length + 2 * e.length + 7 * (trapC l e).length) (trans first by_ nums ++ (if nums.take l.length = l then e ++ trapC l e else [])) := by
  have lx : ext.length % 4 = 0 := by
    rcases hx with rfl | rfl
    · rfl
    · exact G.len
  have kx : ∀ k ∈ keysOf ext, 900000 ≤ k ∧ k < 1000000 := by
    rcases hx with rfl | rfl
    · intro k hk; cases hk
    · exact G.ek
  have eU : ∀ x, look (im ++ ext ++ trapC l e) x = match look (trapC l e) x with | some q => some q | none => match look ext x with | some q => some q | none => look im x := fun x => by
    rw [look_app _ _ _ (by have := C.len; simp; omega), look_app _ _ _ C.len] <;> (cases look (trapC l e) x <;> rfl)
  have low : ∀ x, 0 < x → x < 900000 → look (im ++ ext ++ trapC l e) x = look im x := fun x h1 h2 => by
    rw [eU, look_none (a := trapC l e) fun hk => by have := G.keys x hk; omega]
    dsimp only
    rw [look_none (a := ext) fun hk => by have := kx x hk; omega]
  have hT : ∀ x q, tree.get x = some q → look (im ++ ext ++ trapC l e) x = some q := fun x q h => by
    have z := C.tr x q h
    have k := C.keys x (look_key im x q z.1)
    rw [low x z.2 k.2]
    exact z.1
  have hlo : loB = lowOf (look (im ++ ext ++ trapC l e)) := funext fun n => by
    rw [← C.lo n]
    unfold lowOf
    by_cases a : 1 ≤ n ∧ n ≤ 199
    · rw [low n (by omega) (by omega)]
    · by_cases b : 1 ≤ n
      · rw [decide_eq_false (show ¬ n ≤ 199 by omega)]; simp
      · rw [decide_eq_false b]; simp
  have hN : ∀ q ∈ trapN l e, look (im ++ ext ++ trapC l e) q.1 = some q.2 := fun q hq => by
    rw [eU, G.tr q hq]
  obtain ⟨N, m1, h1, h2, h3, h4, h5, h6⟩ := C.whole (im ++ ext ++ trapC l e) nums [1000002] nums hc
  obtain ⟨nx, f1, f2⟩ := C.fin_
  have r1 := stepsM_more (im := im ++ ext ++ trapC l e) (nums := nums) hT hlo h3
  have a0 := hN (0, 35, 3, 1000000) (by simp [trapN])
  have a1 := hN (1000000, 38, 0, 1000001) (by simp [trapN])
  have a2 := hN (1000001, 40, 0, 1000002) (by simp [trapN])
  dsimp only at a0 a1 a2
  have c3 : cellOf (im ++ ext ++ trapC l e) 3 = 200 := by
    unfold cellOf
    rw [if_pos (by decide)]
    have := C.c3
    have hb := C.big
    rw [List.getD_eq_getElem?_getD] at this ⊢
    rw [List.append_assoc, List.getElem?_append_left (by show 3 < im.length; omega)]
    exact this
  have r0 : RunI (im ++ ext ++ trapC l e) nums (1 + (1 + 1)) (m0 nums) = some ⟨200, [], z0, [1000002], nums, []⟩ := by
    refine stepsM_tr (one a0 rfl) (stepsM_tr (one a1 rfl) (one a2 ?_))
    show (⟨cellOf (im ++ ext ++ trapC l e) 3, [], z0, [1000002], nums, []⟩ : M) = _
    rw [c3]
  obtain ⟨at_, stk, sto, bk, rest, out⟩ := m1
  dsimp only at h4 h5 h6
  subst h4 h5
  have fU : look (im ++ ext ++ trapC l e) at_ = some (41, 0, nx) := by
    have k := C.keys at_ (look_key im at_ _ f1)
    by_cases hz : at_ = 0
    · rw [hz, C.n0] at f1
      cases f1
    · rw [low at_ (by omega) k.2]
      exact f1
  have r2 : RunI (im ++ ext ++ trapC l e) nums 1 ⟨at_, stk, sto, [1000002], rest, out⟩ = some ⟨1000002, stk, sto, [], rest, out⟩ := one fU rfl
  obtain ⟨K, m2, k1, k2, k3, k4⟩ := trap_run (T := look (im ++ ext ++ trapC l e)) (lo := lowOf (look (im ++ ext ++ trapC l e))) (nums := nums) (pre := im ++ ext) (l := l) (e := e) stk sto rest out rfl hN G.nn
  refine ⟨(1 + (1 + 1)) + (N + (1 + K)), m2, by omega, by omega, stepsM_tr r0 (stepsM_tr r1 (stepsM_tr r2 k2)), ?_, ?_⟩
  · rw [k3, eU, G.fin]
    dsimp only
    rw [look_none (a := ext) fun hk => by have := kx _ hk; omega]
    exact look_none fun hk => by have := C.keys _ hk; omega
  · rw [k4, h6]
end
/-! ### a run with fuel -/
def goM (T : Int → Option Node) (lo : Int → Bool) (im nums : List Int) : Nat → M → Nat × M
  | 0, m => (0, m)
  | f + 1, m => match stepM T lo im nums m with
    | none => (0, m)
    | some m' => ((goM T lo im nums f m').1 + 1, (goM T lo im nums f m').2)
theorem goM_end {T : Int → Option Node} {lo : Int → Bool} {im nums : List Int} : ∀ {N f : Nat} {m m' : M}, stepsM T lo im nums N m = some m' → T m'.at_ = none → N ≤ f → goM T lo im nums f m = (N, m')
  | 0, f, m, m', h, he, _ => by
    have e : m = m' := Option.some.inj h
    subst e
    cases f with
    | zero => rfl
    | succ f => unfold goM stepM; rw [he]
  | N + 1, f, m, m', h, he, hf => by
    obtain ⟨g, rfl⟩ : ∃ g, f = g + 1 := ⟨f - 1, by omega⟩
    unfold stepsM at h
    unfold goM
    cases e : stepM T lo im nums m with
    | none => rw [e] at h; cases h
    | some m1 =>
      rw [e] at h
      have ih := goM_end (f := g) h he (by omega)
      dsimp only
      rw [ih]
theorem goM_cut {T : Int → Option Node} {lo : Int → Bool} {im nums : List Int} : ∀ {N f : Nat} {m m' : M}, stepsM T lo im nums N m = some m' → f < N → (goM T lo im nums f m).1 = f ∧ ∃ q, T (goM T lo im nums f m).2.at_ = some q
  | 0, _, _, _, _, hf => absurd hf (Nat.not_lt_zero _)
  | N + 1, 0, m, m', h, _ => by
    unfold stepsM stepM at h
    unfold goM
    cases e : T m.at_ with
    | none => rw [e] at h; cases h
    | some q => exact ⟨rfl, q, rfl⟩
  | N + 1, f + 1, m, m', h, hf => by
    unfold stepsM at h
    unfold goM
    cases e : stepM T lo im nums m with
    | none => rw [e] at h; cases h
    | some m1 =>
      rw [e] at h
      have ih := goM_cut (f := f) h (by omega)
      exact ⟨by dsimp only; rw [ih.1], ih.2⟩
end Pl

set_option Elab.async false
set_option linter.all false
set_option maxRecDepth 100000
set_option maxHeartbeats 4000000
/-! The walks' own words: readings by short names, calls with keywords, the tables of the top. -/
namespace Pl
open PySem PySem.Spec PyProof.Rows L2
abbrev rAddI : R2 := rI0 fun i j => .int (i + j)
abbrev rSubI : R2 := rI0 fun i j => .int (i - j)
abbrev rMulI : R2 := rI CMul fun i j => .int (i * j)
abbrev rFdivI : R2 := rI CDiv fun i j => .int (i / j)
abbrev rModI : R2 := rI (fun _ j => 0 < j) fun i j => .int (i % j)
abbrev rNegI : V → Hp → VK → Prop := rU fun i => .int (-i)
abbrev rLtI : R2 := rI0 fun i j => .bl (decide (i < j))
abbrev rLeI : R2 := rI0 fun i j => .bl (decide (i ≤ j))
abbrev rGtI : R2 := rI0 fun i j => .bl (decide (j < i))
abbrev rGeI : R2 := rI0 fun i j => .bl (decide (j ≤ i))
abbrev rAddStr : R2 := fun x y H Q => ∃ i j, x = .str i ∧ y = .str j ∧ i.length + j.length ≤ sizeLine ∧ Q (.str (i ++ j)) H
abbrev rLenSeq (K : PySem.W.Frag) : List V → Hp → VK → Prop := fun xs H Q => ∃ p ys, xs = [.ref p] ∧ (SqL K H p ys ∨ SqT K H p ys) ∧ Q (.int ys.length) H
abbrev rLenStr : List V → Hp → VK → Prop := fun xs H Q => ∃ z, xs = [.str z] ∧ z.length ≤ sizeLine ∧ Q (.int z.length) H
abbrev rListOf (K : PySem.W.Frag) : List V → Hp → VK → Prop := fun xs H Q => ∃ p ys, xs = [.ref p] ∧ (SqL K H p ys ∨ SqT K H p ys) ∧ ∀ l, H l = none → Q (.ref l) (upd H l (.lst ys))
abbrev rTupOf (K : PySem.W.Frag) : List V → Hp → VK → Prop := fun xs H Q => ∃ p ys, xs = [.ref p] ∧ ((SqL K H p ys ∧ ∀ l, H l = none → Q (.ref l) (upd H l (.tup ys))) ∨ (SqT K H p ys ∧ Q (.ref p) H))
abbrev rInt1 : List V → Hp → VK → Prop := fun xs H Q => (∃ i, xs = [.int i] ∧ Q (.int i) H) ∨ ∃ k, xs = [.bl k] ∧ Q (.int (if k then 1 else 0)) H
abbrev rOrd : List V → Hp → VK → Prop := fun xs H Q => ∃ x, xs = [.str x] ∧ x.length = 1 ∧ Q (.int (x.cps.getD 0 0 : Nat)) H
/-! ### what the head tells -/
structure Txt (w : World) (K : PySem.W.Frag) (mg : Str → Option Value) : Prop where
  st : He.SaysT faL fnL tabL w K
  ex : exB K = true
  mgX : ∃ h : Heap, K.In h ∧ h.Ns mainGlobals mg
section
variable {w : World} {K : PySem.W.Frag} {mg : Str → Option Value}
theorem Txt.glo (T : Txt w K mg) (i : Nat) {x : Str} (h : faL[i]? = some (.glo x) := by rfl) : mg x = some (.ref (He.ga K x)) := by
  obtain ⟨g, X, G⟩ := T.mgX
  exact He.glo_ok X G (T.st.d.fact i h)
theorem Txt.free (T : Txt w K mg) (i : Nat) {x : Str} (h : faL[i]? = some (.free x) := by rfl) : mg x = none := by
  obtain ⟨g, X, G⟩ := T.mgX
  exact He.free_ok X G (T.st.d.fact i h)
theorem Txt.int (T : Txt w K mg) (i : Nat) {x : Str} {z : Int} (h : faL[i]? = some (.int x z) := by rfl) : ∃ t, mg x = some (.int z t) := by
  obtain ⟨g, X, G⟩ := T.mgX
  exact He.int_ok X G (T.st.d.fact i h)
theorem Txt.str (T : Txt w K mg) (i : Nat) {x z : Str} (h : faL[i]? = some (.str x z) := by rfl) : ∃ t, mg x = some (.str z t) := by
  obtain ⟨g, X, G⟩ := T.mgX
  exact He.str_ok X G (T.st.d.fact i h)
theorem Txt.cls (T : Txt w K mg) (i : Nat) {x : Str} (h : faL[i]? = some (.cls x) := by rfl) : Cls K (He.ga K x) := He.cls_ok (T.st.d.fact i h)
theorem Txt.noat (T : Txt w K mg) (i : Nat) {x f : Str} (h : faL[i]? = some (.noat x f) := by rfl) : NoAttr K (He.ga K x) f := He.noat_ok (T.st.d.fact i h)
theorem Txt.meth (T : Txt w K mg) (i : Nat) {x m : Str} (h : faL[i]? = some (.meth x m) := by rfl) : Meth K (He.ga K x) m (He.ma K (He.ga K x) m) := He.meth_ok (T.st.d.fact i h)
theorem Txt.mkr (T : Txt w K mg) (i : Nat) {x : Str} (h : faL[i]? = some (.mkr x) := by rfl) : Mk K (He.ga K x) (He.ma K (He.ga K x) "__init__") := He.mkr_ok (T.st.d.fact i h)
end
section
variable {X : Cx} {x : Str} {pos : Pos}
theorem pe_gint {i : Int} (h : ∃ t, X.mg x = some (.int i t)) (hg : Gl X x) (hd : (x == ("__debug__" : Str)) = false := by decide) : PE X (.Name x pos) (tC (.int i)) := by
  obtain ⟨t, e⟩ := h
  exact pe_glob hg e ⟨t, rfl⟩ hd
theorem pe_gstr {z : Str} (h : ∃ t, X.mg x = some (.str z t)) (hg : Gl X x) (hd : (x == ("__debug__" : Str)) = false := by decide) : PE X (.Name x pos) (tC (.str z)) := by
  obtain ⟨t, e⟩ := h
  exact pe_glob hg e ⟨t, rfl⟩ hd
end
/-! ### calls: without arguments, with keywords -/
section
variable {P : Program} {w : World} {K : PySem.W.Frag} {mg : Str → Option Value} {base : Heap}
/-- a def that may be called with n values and these keywords -/
structure CalN (P : Program) (w : World) (K : PySem.W.Frag) (mg : Str → Option Value) (base : Heap) (k : Nat) (x : Str) (sp : Sp) (n : Nat) (ks : List Str) (gV : List V → List V → List V) : Prop where
  ex : ∃ (f : Addr) (fd : FuncData) (ps : List Str) (g : List Value → List Value → List Value), FnOk P w K mg base C8.CX0 k f fd ps sp ∧ mg x = some (.ref f) ∧ PySem.W.keepIn K (.ref f) = true ∧ KBn K fd ps n ks g gV
structure MetN (P : Program) (w : World) (K : PySem.W.Frag) (mg : Str → Option Value) (base : Heap) (k : Nat) (C : Addr) (m : Str) (sp : Sp) (n : Nat) (ks : List Str) (gV : List V → List V → List V) : Prop where
  ex : ∃ (f : Addr) (fd : FuncData) (ps : List Str) (g : List Value → List Value → List Value), Cls K C ∧ Meth K C m f ∧ FnOk P w K mg base C8.CX0 k f fd ps sp ∧ KBn K fd ps (n + 1) ks g gV
structure MakN (P : Program) (w : World) (K : PySem.W.Frag) (mg : Str → Option Value) (base : Heap) (k : Nat) (x : Str) (C : Addr) (sp : Sp) (ks : List Str) (gV : List V → List V → List V) : Prop where
  ex : ∃ (f : Addr) (fd : FuncData) (ps : List Str) (g : List Value → List Value → List Value), Mk K C f ∧ FnOk P w K mg base C8.CX0 k f fd ps sp ∧ mg x = some (.ref C) ∧ KBn K fd ps 1 ks g gV
end
/-- o.m(e, .., k = v, ..) -/
def tMethN (C : Addr) (m : Str) (n l : Nat) (sp : Sp) (gV : List V → List V → List V) (E : XK) (ta : TE) (t tk : TA) : TE := fun σ H Q => ta σ H fun x H1 => ∃ a dx fs, x = .ref a ∧ H1 a = some (.ins C dx fs) ∧ fs.lookup m = none ∧ t σ H1 fun vs H2 => tk σ H2 fun zs H3 => vs.length = n ∧ zs.length = l ∧ sp (gV (.ref a :: vs) zs) H3 Q E
section
variable {X : Cx} {k j n : Nat} {C : Addr} {x m : Str} {sp : Sp} {ks : List Str} {gV : List V → List V → List V} {p pos apos : Pos} {e o : Expr} {es : List Expr} {kws : List Keyword} {ta : TE} {t tk : TA}
theorem pe_c0 (c : C8.Cal X.prog X.w X.K X.mg X.base k x sp []) (hr : Room j X.A) (hk : k ≤ j) (hg : Gl X x) (hdb : (x == ("__debug__" : Str)) = false := by decide) : PE X (.Call (.Name x p) [] [] pos) (tCall sp [] C8.E0 tNil) := by
  obtain ⟨f, fd, ps, ds, F, hm, kp, b, d⟩ := c.ex
  exact pe_call0 F (hr.mono hk) hg hm kp b d C8.pass0 hdb
theorem pe_mk0 (c : C8.Mak X.prog X.w X.K X.mg X.base k x C sp []) (hr : Room j X.A) (hk : k + 1 ≤ j) (hg : Gl X x) (hdb : (x == ("__debug__" : Str)) = false := by decide) : PE X (.Call (.Name x p) [] [] pos) (tMake C sp [] C8.E0 tNil) := by
  obtain ⟨f, fd, ps, ds, M, F, hm, b, d⟩ := c.ex
  exact pe_make0 M F (hr.mono hk) hg hm b d C8.pass0 hdb
theorem pe_cn (c : CalN X.prog X.w X.K X.mg X.base k x sp n ks gV) (hr : Room j X.A) (hk : k ≤ j) (hg : Gl X x) (ha : PA X (e :: es) t) (hkw : PK X kws tk)
    (hall : (backToKw pos (keywordEach kws X.env)).all (·.1.isSome) = true := by rfl) (hks : (backToKw pos (keywordEach kws X.env)).filterMap (·.1) = ks := by rfl) (hdb : (x == ("__debug__" : Str)) = false := by decide)
    (he : starEach (e :: es) X.env = (false, eval e X.env) :: starEach es X.env := by rfl) (hpl : ((backTo pos (starEach (e :: es) X.env)).any (·.1) || (backToKw pos (keywordEach kws X.env)).any (·.1.isNone)) = false := by rfl) :
    PE X (.Call (.Name x p) (e :: es) kws pos) (tCallN n ks.length sp gV C8.E0 t tk) := by
  obtain ⟨f, fd, ps, g, F, hm, kp, b⟩ := c.ex
  exact pe_callN F (hr.mono hk) hg hm kp b C8.pass0 ha hkw hall hks hdb he hpl
theorem pe_mkN (c : MakN X.prog X.w X.K X.mg X.base k x C sp ks gV) (hr : Room j X.A) (hk : k + 1 ≤ j) (hg : Gl X x) (hkw : PK X kws tk)
    (hall : (backToKw pos (keywordEach kws X.env)).all (·.1.isSome) = true := by rfl) (hks : (backToKw pos (keywordEach kws X.env)).filterMap (·.1) = ks := by rfl) (hdb : (x == ("__debug__" : Str)) = false := by decide)
    (hpl : ((backTo pos (starEach [] X.env)).any (·.1) || (backToKw pos (keywordEach kws X.env)).any (·.1.isNone)) = false := by rfl) : PE X (.Call (.Name x p) [] kws pos) (tMakeK C 0 ks.length sp gV C8.E0 tNil tk) := by
  obtain ⟨f, fd, ps, g, M, F, hm, b⟩ := c.ex
  exact pe_makeK0 M F (hr.mono hk) hg hm b C8.pass0 hkw hall hks hdb hpl
theorem pe_mtN {pl : Sem Bool} (c : MetN X.prog X.w X.K X.mg X.base k C m sp n ks gV) (hr : Room j X.A) (hk : k ≤ j) (he : PE X o ta) (ha : PA X (e :: es) t) (hkw : PK X kws tk)
    (hall : (backToKw pos (keywordEach kws X.env)).all (·.1.isSome) = true := by rfl) (hks : (backToKw pos (keywordEach kws X.env)).filterMap (·.1) = ks := by rfl)
    (hst : starEach (e :: es) X.env = (false, eval e X.env) :: starEach es X.env := by rfl) (hpl : ((backTo pos (starEach (e :: es) X.env)).any (·.1) || (backToKw pos (keywordEach kws X.env)).any (·.1.isNone)) = false := by rfl)
    (ht : eval (.Call (.Attribute o m apos) (e :: es) kws pos) X.env = (do
      let ov ← eval o X.env
      standAt apos.atName
      let (f, first) ← holding [ov] (getMethod ov m pl)
      callWith pos f first (backTo pos (starEach (e :: es) X.env)) (backToKw pos (keywordEach kws X.env))) := by rfl) :
    PE X (.Call (.Attribute o m apos) (e :: es) kws pos) (tMethN C m n ks.length sp gV C8.E0 ta t tk) := by
  obtain ⟨f, fd, ps, g, hc, hm, F, b⟩ := c.ex
  refine ⟨fun pins s σ H Q I h => ?_⟩
  refine PySem.W.methodCall_KW (pl := pl) (thn (he.run pins s σ H _ I h) fun u s1 ⟨x, H1, I1, rx, a, dx, fs, ex, ea, l, q⟩ => ?_) ht
  subst ex
  obtain rfl : u = Value.ref a := rx
  refine getmeth_ok I1 ea hc hm l ?_
  refine PySem.W.callWith_KW (first := [.ref a]) (h₀ := X.base) I.ok.mod.kin hm.kp hall (thn (ha.run pos pins s1 σ H1 _ I1 q) fun us s2 ⟨vs, H2, I2, r, q2⟩ => ?_) hpl hst
  refine thn (hkw.run pos pins s2 σ H2 _ I2 q2) fun ws s3 ⟨zs, H3, I3, rz, l1, l2, q3⟩ => ⟨I3.kIn, ?_⟩
  rw [hks]
  exact run_fnN (us := .ref a :: us) (vs := .ref a :: vs) F (hr.mono hk) b C8.pass0 I3 (.cons rfl r) rz (by rw [List.length_cons, l1]) l2 q3
theorem pe_mtN0 {pl : Sem Bool} (c : MetN X.prog X.w X.K X.mg X.base k C m sp 0 ks gV) (hr : Room j X.A) (hk : k ≤ j) (he : PE X o ta) (hkw : PK X kws tk)
    (hall : (backToKw pos (keywordEach kws X.env)).all (·.1.isSome) = true := by rfl) (hks : (backToKw pos (keywordEach kws X.env)).filterMap (·.1) = ks := by rfl)
    (hpl : ((backTo pos (starEach [] X.env)).any (·.1) || (backToKw pos (keywordEach kws X.env)).any (·.1.isNone)) = false := by rfl)
    (ht : eval (.Call (.Attribute o m apos) [] kws pos) X.env = (do
      let ov ← eval o X.env
      standAt apos.atName
      let (f, first) ← holding [ov] (getMethod ov m pl)
      callWith pos f first (backTo pos (starEach [] X.env)) (backToKw pos (keywordEach kws X.env))) := by rfl) :
    PE X (.Call (.Attribute o m apos) [] kws pos) (tMethN C m 0 ks.length sp gV C8.E0 ta tNil tk) := by
  obtain ⟨f, fd, ps, g, hc, hm, F, b⟩ := c.ex
  refine ⟨fun pins s σ H Q I h => ?_⟩
  refine PySem.W.methodCall_KW (pl := pl) (thn (he.run pins s σ H _ I h) fun u s1 ⟨x, H1, I1, rx, a, dx, fs, ex, ea, l, q⟩ => ?_) ht
  subst ex
  obtain rfl : u = Value.ref a := rx
  refine getmeth_ok I1 ea hc hm l ?_
  refine PySem.W.callWith_KW0 (first := [.ref a]) (h₀ := X.base) I.ok.mod.kin hm.kp hall ?_ hpl
  refine thn (hkw.run pos pins s1 σ H1 _ I1 q) fun ws s3 ⟨zs, H3, I3, rz, l1, l2, q3⟩ => ⟨I3.kIn, ?_⟩
  rw [hks]
  exact run_fnN (us := [.ref a]) (vs := [.ref a]) F (hr.mono hk) b C8.pass0 I3 (.cons rfl .nil) rz rfl l2 q3
/-! ### o.f, a target among several -/
def gFld (K : PySem.W.Frag) (ta : TE) (f : Str) : TG := fun y σ H Q => ta σ H fun x H2 => ∃ a C dx fs, x = .ref a ∧ H2 a = some (.ins C dx fs) ∧ Cls K C ∧ NoAttr K C f ∧ fs.length < 1000 ∧ Q σ (upd H2 a (.ins C dx (putF f y fs)))
theorem assign_attr {M : Model} {A : Around} {E : Value → Shared → Prop} {s : Shared} {o : Expr} {attr : Str} {pos : Pos} {env : Env} {v : Value} {Q : Unit → Shared → Prop}
    (h : wpAny M A (eval o env) (fun ov s₂ => wpAny M A (setAttr ov attr v) Q E s₂) E s) : wpAny M A (assign (.Attribute o attr pos) env v) Q E s := fun Γ p hΓ => by
  simp only [assign_Attribute, Sem.wp_bind', Sem.wp_holding, Sem.wp_cmd_standAt, Sem.wp_release, Sem.wp_pure']
  exact Sem.wp_mono M Γ _ (fun ov _ s₂ h₂ => h₂ Γ _ hΓ) (fun _ _ _ h' => h') _ _ (h Γ _ hΓ)
theorem pg_fld {f : Str} (ho : PE X o ta) : PG X (.Attribute o f pos) (gFld X.K ta f) := by
  refine ⟨fun pins s σ H v u Q I r h => ?_⟩
  refine assign_attr (thn (ho.run pins s σ H _ I h) fun ov s2 ⟨x, H2, I2, rx, a, C, dx, fs, ex, ea, c, n, l, q2⟩ => ?_)
  subst ex
  obtain rfl : ov = Value.ref a := rx
  exact setattr_ok I2 ea c n l r fun s3 I3 => ⟨σ, _, I3, q2⟩
end
/-! ### the tables of the top -/
def textsV : List (Str × V) := [("plain", .str (strE (top 44))), ("turned", .str (strE (top 45)))]
def rKdIn (K : PySem.W.Frag) (neg : Bool) : R2 := fun x y H Q => y = .ref (He.ga K "TEXTS") ∧ ∃ z v, x = .str z ∧ (z, v) ∈ textsV ∧ Q (.bl (!neg)) H
def rKdGet (K : PySem.W.Frag) : R2 := fun x y H Q => x = .ref (He.ga K "TEXTS") ∧ ∃ z v, y = .str z ∧ (z, v) ∈ textsV ∧ Q v H
def deedOf (i : Int) : Option Str := (deedL.find? fun q => decide (q.1 = i)).map (·.2)
def rKiIn (K : PySem.W.Frag) : R2 := fun x y H Q => y = .ref (He.ga K "DEEDS") ∧ ∃ i, x = .int i ∧ Q (.bl (deedOf i).isSome) H
def rKiGet (K : PySem.W.Frag) : R2 := fun x y H Q => x = .ref (He.ga K "DEEDS") ∧ ∃ i n, y = .int i ∧ deedOf i = some n ∧ Q (.ref (He.ga K n)) H
section
variable {w : World} {K : PySem.W.Frag} {mg : Str → Option Value}
theorem Txt.deeds (T : Txt w K mg) : deedsB K = true := (He.ba (He.ba T.ex).1).1
theorem Txt.kinds (T : Txt w K mg) (H : Hp) : SqT K H (He.ga K "KINDS") (kindsL.map (He.Dv.v K)) := He.tupB_ok (He.ba (He.ba T.ex).1).2 H
theorem natsB_eq : ∀ {a b : List Nat}, natsB a b = true → a = b
  | [], [], _ => rfl
  | a :: r, b :: q, h => by
    obtain ⟨h1, h2⟩ := He.ba (show (Nat.beq a b && natsB r q) = true from h)
    rw [Nat.eq_of_beq_eq_true h1, natsB_eq h2]
theorem textB_ok {K : PySem.W.Frag} {z x : Str} (h : textB K z x = true) : ∃ u, PySem.W.nsIn K (He.ga K "TEXTS") z = some (some u) ∧ RelV (.str x) u := by
  unfold textB at h
  split at h
  · rename_i u t e
    refine ⟨_, e, t, ?_⟩
    have := natsB_eq h
    obtain ⟨⟨lu⟩⟩ := u
    obtain ⟨⟨lx⟩⟩ := x
    have e2 : lu = lx := this
    rw [e2]
  · cases h
theorem Txt.textsAt (T : Txt w K mg) {z : Str} {v : V} (h : (z, v) ∈ textsV) : ∃ u, PySem.W.nsIn K (He.ga K "TEXTS") z = some (some u) ∧ RelV v u := by
  obtain ⟨h1, h2⟩ := He.ba (show (textB K "plain" (strE (top 44)) && textB K "turned" (strE (top 45))) = true from (He.ba T.ex).2)
  rcases List.mem_cons.mp h with e | h
  · injection e with e1 e2
    rw [e1, e2]
    exact textB_ok h1
  · injection List.mem_singleton.mp h with e1 e2
    rw [e1, e2]
    exact textB_ok h2
theorem Txt.textsD (T : Txt w K mg) : ∃ es n, KDict K w (He.ga K "TEXTS") es n := T.st.tab 0 (t := (fun K => He.ga K "TEXTS", ["first", "second", "plain", "turned"])) rfl
/-- the table of the machine's deeds, at every heap that holds the written part -/
theorem Txt.deedsD (T : Txt w K mg) (P : Program) {h : Heap} (X : K.In h) : (He.ga K "DEEDS" == sysModules) = false ∧ h.DictOf (mixKind P w) (He.ga K "DEEDS") (deedL.map fun q => ((Sum.inl q.1 : Key), Value.ref (He.ga K q.2))) := by
  have d := T.deeds
  unfold deedsB at d
  cases q : K.lookup (He.ga K "DEEDS") with
  | none => rw [q] at d; cases d
  | some o =>
    obtain ⟨oc, od, dt, osl⟩ := o
    rw [q] at d
    cases oc with
    | type c =>
      cases od with
      | none =>
        cases dt with
        | dict es n =>
          obtain ⟨h1, d2⟩ := He.ba d
          obtain ⟨h2, d3⟩ := He.ba d2
          obtain ⟨h3, h4⟩ := He.ba d3
          have e1 : c = "dict" := of_decide_eq_true h1
          have e2 : osl = #[] := Array.isEmpty_iff.mp h2
          have e3 : (He.ga K "DEEDS" == sysModules) = false := by
            cases y : He.ga K "DEEDS" == sysModules with
            | false => rfl
            | true => rw [y] at h3; cases h3
          have e4 : es.toList.map keyI = deedL.map fun q => some (q.1, hashInt q.1, Value.ref (He.ga K q.2)) := of_decide_eq_true h4
          subst e1 e2
          have pr : ∀ (l : List DictEntry) (m : List (Int × Str)), l.map keyI = m.map (fun q => some (q.1, hashInt q.1, Value.ref (He.ga K q.2))) →
              Pairs (mixKind P w) l (m.map fun q => ((Sum.inl q.1 : Key), Value.ref (He.ga K q.2))) ∧ ∀ e ∈ l, ∃ k, (mixKind P w).is k e.key = true ∧ e.hash = (mixKind P w).hash k := by
            intro l
            induction l with
            | nil =>
              intro m hm
              cases m with
              | nil => exact ⟨.nil, fun e he => by cases he⟩
              | cons a r => cases hm
            | cons e l ih =>
              intro m hm
              cases m with
              | nil => cases hm
              | cons a r =>
                rw [List.map_cons, List.map_cons] at hm
                injection hm with hm1 hm2
                obtain ⟨i1, i2⟩ := ih r hm2
                have z : ∃ t, e.key = .int a.1 t ∧ e.hash = hashInt a.1 ∧ e.val = .ref (He.ga K a.2) := by
                  unfold keyI at hm1
                  split at hm1
                  · rename_i k t hk
                    have := Option.some.inj hm1
                    injection this with p1 p2
                    injection p2 with p3 p4
                    exact ⟨t, by rw [hk, p1], p3, p4⟩
                  · cases hm1
                obtain ⟨t, z1, z2, z3⟩ := z
                refine ⟨.cons (by show keyIs (Sum.inl a.1) e.key = true; rw [z1]; exact keyIs_int _ _) z3 i1, fun e' he' => ?_⟩
                rcases List.mem_cons.mp he' with rfl | h'
                · exact ⟨Sum.inl a.1, by show keyIs (Sum.inl a.1) e'.key = true; rw [z1]; exact keyIs_int _ _, z2⟩
                · exact i2 e' h'
          obtain ⟨p1, p2⟩ := pr es.toList deedL e4
          refine ⟨e3, _, es, n, X _ _ q, ⟨rfl, rfl, rfl⟩, rfl, fun e he => p2 e (by simpa using he), p1, ?_⟩
          rw [List.map_map]
          show (deedL.map fun q => (Sum.inl q.1 : Key)).Nodup
          decide +kernel
        | _ => cases d
      | some a => cases dt <;> cases d
    | _ => cases od <;> cases dt <;> cases d
theorem deed_at (K : PySem.W.Frag) (i : Int) : valueAt (deedL.map fun q => ((Sum.inl q.1 : Key), Value.ref (He.ga K q.2))) (Sum.inl i) = (deedOf i).map fun n => Value.ref (He.ga K n) := by
  have go : ∀ l : List (Int × Str), valueAt (l.map fun q => ((Sum.inl q.1 : Key), Value.ref (He.ga K q.2))) (Sum.inl i) = ((l.find? fun q => decide (q.1 = i)).map (·.2)).map fun n => Value.ref (He.ga K n) := by
    intro l
    induction l with
    | nil => rfl
    | cons a r ih =>
      unfold valueAt at ih ⊢
      rw [List.map_cons, List.find?_cons, List.find?_cons]
      by_cases h : a.1 = i
      · have hk : decide ((Sum.inl a.1 : Key) = Sum.inl i) = true := decide_eq_true (by rw [h])
        rw [decide_eq_true h]
        dsimp only
        rw [hk]
        rfl
      · have hk : decide ((Sum.inl a.1 : Key) = Sum.inl i) = false := decide_eq_false fun z => h (Sum.inl.inj z)
        rw [decide_eq_false h]
        dsimp only
        rw [hk]
        exact ih
  exact go deedL
end
section
variable {X : Cx}
theorem op_inKD (T : Txt X.w X.K X.mg) : OpR X (compareOp .In) (rKdIn X.K false) := by
  intro pins s σ H x y v u Q I rx ry h
  obtain ⟨rfl, z, r, rfl, hm, q⟩ := h
  obtain ⟨es, n, D⟩ := T.textsD
  obtain ⟨u0, e, ru⟩ := T.textsAt hm
  exact op_in_kd D pins s σ H _ _ v u Q I rx ry ⟨z, some u0, rfl, rfl, e, q⟩
theorem op_notInKD (T : Txt X.w X.K X.mg) : OpR X (compareOp .NotIn) (rKdIn X.K true) := by
  intro pins s σ H x y v u Q I rx ry h
  obtain ⟨rfl, z, r, rfl, hm, q⟩ := h
  obtain ⟨es, n, D⟩ := T.textsD
  obtain ⟨u0, e, ru⟩ := T.textsAt hm
  exact op_notIn_kd D pins s σ H _ _ v u Q I rx ry ⟨z, some u0, rfl, rfl, e, q⟩
theorem ix_KD (T : Txt X.w X.K X.mg) : IxR X (rKdGet X.K) := by
  intro value slice pins s σ H x y v u Q I rx ry h hs
  obtain ⟨rfl, z, r, rfl, hm, q⟩ := h
  obtain ⟨es, n, D⟩ := T.textsD
  obtain ⟨u0, e, ru⟩ := T.textsAt hm
  exact ix_kdict value slice pins s σ H _ _ v u Q I rx ry ⟨_, z, r, rfl, rfl, ⟨es, n, u0, D.at_, D.lit, e, ru⟩, q⟩ hs
theorem pe_getKD {a b : Expr} {ta tb : TE} {pos : Pos} (T : Txt X.w X.K X.mg) (ha : PE X a ta) (hb : PE X b tb) (hs : PlainIx b) : PE X (.Subscript a b pos) (tOp (rKdGet X.K) ta tb) := pe_ix (ix_KD T) ha hb hs
theorem op_inKI (T : Txt X.w X.K X.mg) : OpR X (compareOp .In) (rKiIn X.K) := by
  intro pins s σ H x y v u Q I rx ry h
  obtain ⟨rfl, i, rfl, q⟩ := h
  obtain ⟨t, rfl⟩ := rx
  cases ry
  obtain ⟨hd, dd⟩ := T.deedsD X.prog I.kIn
  refine wpAny_in_of (mixKind_int X.prog X.w i t) hd dd.mapOf ?_
  rw [deed_at]
  refine ⟨.bl (deedOf i).isSome, H, I.tok _, ?_, q⟩
  cases deedOf i <;> rfl
theorem ix_KI (T : Txt X.w X.K X.mg) : IxR X (rKiGet X.K) := by
  intro value slice pins s σ H x y v u Q I rx ry h hs
  obtain ⟨rfl, i, n, rfl, e, q⟩ := h
  obtain ⟨t, rfl⟩ := ry
  obtain rfl : v = Value.ref (He.ga X.K "DEEDS") := rx
  obtain ⟨hd, dd⟩ := T.deedsD X.prog I.kIn
  refine tail_any dd.mapOf.typeIs slot_dict_getitem.lookup (wpAny_getItem_of (mixKind_int X.prog X.w i t) dd.mapOf (v := Value.ref (He.ga X.K n)) ?_ ⟨.ref (He.ga X.K n), H, I.tok _, rfl, q⟩) hs
  rw [deed_at, e]
  rfl
theorem pe_getKI {a b : Expr} {ta tb : TE} {pos : Pos} (T : Txt X.w X.K X.mg) (ha : PE X a ta) (hb : PE X b tb) (hs : PlainIx b) : PE X (.Subscript a b pos) (tOp (rKiGet X.K) ta tb) := pe_ix (ix_KI T) ha hb hs
/-- the i-th slot holds one of the defs named by S -/
def tCallD (K : PySem.W.Frag) (i : Nat) (S : Str → Option Sp) (t : TA) : TE := fun σ H Q => ∃ n sp, σ[i]? = some (some (.ref (He.ga K n))) ∧ S n = some sp ∧ t σ H fun vs H1 => sp vs H1 Q C8.E0
theorem pe_callD {S : Str → Option Sp} {k j i : Nat} {x : Str} {p pos : Pos} {e : Expr} {es : List Expr} {t : TA} (A : ∀ n sp, S n = some sp → C8.Cal X.prog X.w X.K X.mg X.base k n sp []) (hg : ∀ n sp, S n = some sp → X.mg n = some (.ref (He.ga X.K n))) (hr : Room j X.A) (hk : k ≤ j) (hN : X.N[i]? = some x) (hv : Vis X.env.scope x) (ha : PA X (e :: es) t)
    (hdb : (x == ("__debug__" : Str)) = false := by decide) (hcd : (x == ("__classdict__" : Str)) = false := by decide)
    (he : starEach (e :: es) X.env = (false, eval e X.env) :: starEach es X.env := by rfl) (hpl : (backTo pos (starEach es X.env)).any (·.1) = false := by rfl) : PE X (.Call (.Name x p) (e :: es) [] pos) (tCallD X.K i S t) := by
  refine ⟨fun pins s σ H Q I h => ?_⟩
  obtain ⟨n, sp, hs, hS, ht⟩ := h
  obtain ⟨f, fd, ps, ds, F, hm, kp, b, d⟩ := (A n sp hS).ex
  have e1 : f = He.ga X.K n := by
    have := hm.symm.trans (hg n sp hS)
    injection this with this
    injection this
  subst e1
  refine (pe_callL (i := i) (f := He.ga X.K n) (sp := sp) (dvs := []) (E := C8.E0) F (hr.mono hk) hN hv kp b d C8.pass0 ha hdb hcd he hpl).run pins s σ H Q I ⟨hs, ?_⟩
  have e0 : (fun (vs : List V) (H1 : Hp) => sp (vs ++ []) H1 Q C8.E0) = fun vs H1 => sp vs H1 Q C8.E0 := by
    funext vs H1
    rw [List.append_nil]
  show t σ H (fun vs H1 => sp (vs ++ []) H1 Q C8.E0)
  rw [e0]
  exact ht
end
end Pl

set_option Elab.async false
set_option linter.all false
set_option maxRecDepth 100000
set_option maxHeartbeats 4000000
namespace Pl
open PySem PySem.Spec PyProof.Rows L2
/-! ### the facts by short names -/
theorem Txt.g_codes_of {w : World} {K : PySem.W.Frag} {mg : Str → Option Value} (T : Txt w K mg) : mg "codes_of" = some (.ref (He.ga K "codes_of")) := T.glo 0
theorem Txt.g_translate {w : World} {K : PySem.W.Frag} {mg : Str → Option Value} (T : Txt w K mg) : mg "translate" = some (.ref (He.ga K "translate")) := T.glo 1
theorem Txt.g_due {w : World} {K : PySem.W.Frag} {mg : Str → Option Value} (T : Txt w K mg) : mg "due" = some (.ref (He.ga K "due")) := T.glo 2
theorem Txt.g_first_difference {w : World} {K : PySem.W.Frag} {mg : Str → Option Value} (T : Txt w K mg) : mg "first_difference" = some (.ref (He.ga K "first_difference")) := T.glo 3
theorem Txt.g_audit {w : World} {K : PySem.W.Frag} {mg : Str → Option Value} (T : Txt w K mg) : mg "audit" = some (.ref (He.ga K "audit")) := T.glo 4
theorem Txt.g_rung_text {w : World} {K : PySem.W.Frag} {mg : Str → Option Value} (T : Txt w K mg) : mg "rung_text" = some (.ref (He.ga K "rung_text")) := T.glo 5
theorem Txt.g_nodes_of {w : World} {K : PySem.W.Frag} {mg : Str → Option Value} (T : Txt w K mg) : mg "nodes_of" = some (.ref (He.ga K "nodes_of")) := T.glo 6
theorem Txt.g_image_of {w : World} {K : PySem.W.Frag} {mg : Str → Option Value} (T : Txt w K mg) : mg "image_of" = some (.ref (He.ga K "image_of")) := T.glo 7
theorem Txt.g_table_of {w : World} {K : PySem.W.Frag} {mg : Str → Option Value} (T : Txt w K mg) : mg "table_of" = some (.ref (He.ga K "table_of")) := T.glo 8
theorem Txt.g__push {w : World} {K : PySem.W.Frag} {mg : Str → Option Value} (T : Txt w K mg) : mg "_push" = some (.ref (He.ga K "_push")) := T.glo 9
theorem Txt.g__plus {w : World} {K : PySem.W.Frag} {mg : Str → Option Value} (T : Txt w K mg) : mg "_plus" = some (.ref (He.ga K "_plus")) := T.glo 10
theorem Txt.g__minus {w : World} {K : PySem.W.Frag} {mg : Str → Option Value} (T : Txt w K mg) : mg "_minus" = some (.ref (He.ga K "_minus")) := T.glo 11
theorem Txt.g__digit {w : World} {K : PySem.W.Frag} {mg : Str → Option Value} (T : Txt w K mg) : mg "_digit" = some (.ref (He.ga K "_digit")) := T.glo 12
theorem Txt.g__less {w : World} {K : PySem.W.Frag} {mg : Str → Option Value} (T : Txt w K mg) : mg "_less" = some (.ref (He.ga K "_less")) := T.glo 13
theorem Txt.g__same {w : World} {K : PySem.W.Frag} {mg : Str → Option Value} (T : Txt w K mg) : mg "_same" = some (.ref (He.ga K "_same")) := T.glo 14
theorem Txt.g__load {w : World} {K : PySem.W.Frag} {mg : Str → Option Value} (T : Txt w K mg) : mg "_load" = some (.ref (He.ga K "_load")) := T.glo 15
theorem Txt.g__keep {w : World} {K : PySem.W.Frag} {mg : Str → Option Value} (T : Txt w K mg) : mg "_keep" = some (.ref (He.ga K "_keep")) := T.glo 16
theorem Txt.g__assign {w : World} {K : PySem.W.Frag} {mg : Str → Option Value} (T : Txt w K mg) : mg "_assign" = some (.ref (He.ga K "_assign")) := T.glo 17
theorem Txt.g__take {w : World} {K : PySem.W.Frag} {mg : Str → Option Value} (T : Txt w K mg) : mg "_take" = some (.ref (He.ga K "_take")) := T.glo 18
theorem Txt.g__rewind {w : World} {K : PySem.W.Frag} {mg : Str → Option Value} (T : Txt w K mg) : mg "_rewind" = some (.ref (He.ga K "_rewind")) := T.glo 19
theorem Txt.g__emit {w : World} {K : PySem.W.Frag} {mg : Str → Option Value} (T : Txt w K mg) : mg "_emit" = some (.ref (He.ga K "_emit")) := T.glo 20
theorem Txt.g__cell {w : World} {K : PySem.W.Frag} {mg : Str → Option Value} (T : Txt w K mg) : mg "_cell" = some (.ref (He.ga K "_cell")) := T.glo 21
theorem Txt.g__drop {w : World} {K : PySem.W.Frag} {mg : Str → Option Value} (T : Txt w K mg) : mg "_drop" = some (.ref (He.ga K "_drop")) := T.glo 22
theorem Txt.g__double {w : World} {K : PySem.W.Frag} {mg : Str → Option Value} (T : Txt w K mg) : mg "_double" = some (.ref (He.ga K "_double")) := T.glo 23
theorem Txt.g__exchange {w : World} {K : PySem.W.Frag} {mg : Str → Option Value} (T : Txt w K mg) : mg "_exchange" = some (.ref (He.ga K "_exchange")) := T.glo 24
theorem Txt.g__test {w : World} {K : PySem.W.Frag} {mg : Str → Option Value} (T : Txt w K mg) : mg "_test" = some (.ref (He.ga K "_test")) := T.glo 25
theorem Txt.g__call {w : World} {K : PySem.W.Frag} {mg : Str → Option Value} (T : Txt w K mg) : mg "_call" = some (.ref (He.ga K "_call")) := T.glo 26
theorem Txt.g__call_low {w : World} {K : PySem.W.Frag} {mg : Str → Option Value} (T : Txt w K mg) : mg "_call_low" = some (.ref (He.ga K "_call_low")) := T.glo 27
theorem Txt.g__return {w : World} {K : PySem.W.Frag} {mg : Str → Option Value} (T : Txt w K mg) : mg "_return" = some (.ref (He.ga K "_return")) := T.glo 28
theorem Txt.g_run {w : World} {K : PySem.W.Frag} {mg : Str → Option Value} (T : Txt w K mg) : mg "run" = some (.ref (He.ga K "run")) := T.glo 29
theorem Txt.g_is_trap {w : World} {K : PySem.W.Frag} {mg : Str → Option Value} (T : Txt w K mg) : mg "is_trap" = some (.ref (He.ga K "is_trap")) := T.glo 30
theorem Txt.g_is_plantable {w : World} {K : PySem.W.Frag} {mg : Str → Option Value} (T : Txt w K mg) : mg "is_plantable" = some (.ref (He.ga K "is_plantable")) := T.glo 31
theorem Txt.g_beginning {w : World} {K : PySem.W.Frag} {mg : Str → Option Value} (T : Txt w K mg) : mg "beginning" = some (.ref (He.ga K "beginning")) := T.glo 32
theorem Txt.g_comparison {w : World} {K : PySem.W.Frag} {mg : Str → Option Value} (T : Txt w K mg) : mg "comparison" = some (.ref (He.ga K "comparison")) := T.glo 33
theorem Txt.g_writing {w : World} {K : PySem.W.Frag} {mg : Str → Option Value} (T : Txt w K mg) : mg "writing" = some (.ref (He.ga K "writing")) := T.glo 34
theorem Txt.g_copying {w : World} {K : PySem.W.Frag} {mg : Str → Option Value} (T : Txt w K mg) : mg "copying" = some (.ref (He.ga K "copying")) := T.glo 35
theorem Txt.g_trap_nodes {w : World} {K : PySem.W.Frag} {mg : Str → Option Value} (T : Txt w K mg) : mg "trap_nodes" = some (.ref (He.ga K "trap_nodes")) := T.glo 36
theorem Txt.g_plant {w : World} {K : PySem.W.Frag} {mg : Str → Option Value} (T : Txt w K mg) : mg "plant" = some (.ref (He.ga K "plant")) := T.glo 37
theorem Txt.g_check_new {w : World} {K : PySem.W.Frag} {mg : Str → Option Value} (T : Txt w K mg) : mg "check_new" = some (.ref (He.ga K "check_new")) := T.glo 38
theorem Txt.g__law_number {w : World} {K : PySem.W.Frag} {mg : Str → Option Value} (T : Txt w K mg) : mg "_law_number" = some (.ref (He.ga K "_law_number")) := T.glo 39
theorem Txt.g__law_draws {w : World} {K : PySem.W.Frag} {mg : Str → Option Value} (T : Txt w K mg) : mg "_law_draws" = some (.ref (He.ga K "_law_draws")) := T.glo 40
theorem Txt.g__law_next {w : World} {K : PySem.W.Frag} {mg : Str → Option Value} (T : Txt w K mg) : mg "_law_next" = some (.ref (He.ga K "_law_next")) := T.glo 41
theorem Txt.g__law_pull {w : World} {K : PySem.W.Frag} {mg : Str → Option Value} (T : Txt w K mg) : mg "_law_pull" = some (.ref (He.ga K "_law_pull")) := T.glo 42
theorem Txt.g__law_emit {w : World} {K : PySem.W.Frag} {mg : Str → Option Value} (T : Txt w K mg) : mg "_law_emit" = some (.ref (He.ga K "_law_emit")) := T.glo 43
theorem Txt.g__law_branch {w : World} {K : PySem.W.Frag} {mg : Str → Option Value} (T : Txt w K mg) : mg "_law_branch" = some (.ref (He.ga K "_law_branch")) := T.glo 44
theorem Txt.g__law_pair {w : World} {K : PySem.W.Frag} {mg : Str → Option Value} (T : Txt w K mg) : mg "_law_pair" = some (.ref (He.ga K "_law_pair")) := T.glo 45
theorem Txt.g__law_code {w : World} {K : PySem.W.Frag} {mg : Str → Option Value} (T : Txt w K mg) : mg "_law_code" = some (.ref (He.ga K "_law_code")) := T.glo 46
theorem Txt.g__law_translate {w : World} {K : PySem.W.Frag} {mg : Str → Option Value} (T : Txt w K mg) : mg "_law_translate" = some (.ref (He.ga K "_law_translate")) := T.glo 47
theorem Txt.g__law_trap {w : World} {K : PySem.W.Frag} {mg : Str → Option Value} (T : Txt w K mg) : mg "_law_trap" = some (.ref (He.ga K "_law_trap")) := T.glo 48
theorem Txt.g__law_is_integer {w : World} {K : PySem.W.Frag} {mg : Str → Option Value} (T : Txt w K mg) : mg "_law_is_integer" = some (.ref (He.ga K "_law_is_integer")) := T.glo 49
theorem Txt.g__law_is_integers {w : World} {K : PySem.W.Frag} {mg : Str → Option Value} (T : Txt w K mg) : mg "_law_is_integers" = some (.ref (He.ga K "_law_is_integers")) := T.glo 50
theorem Txt.g__law_char {w : World} {K : PySem.W.Frag} {mg : Str → Option Value} (T : Txt w K mg) : mg "_law_char" = some (.ref (He.ga K "_law_char")) := T.glo 51
theorem Txt.g__law_codes {w : World} {K : PySem.W.Frag} {mg : Str → Option Value} (T : Txt w K mg) : mg "_law_codes" = some (.ref (He.ga K "_law_codes")) := T.glo 52
theorem Txt.g__law_text {w : World} {K : PySem.W.Frag} {mg : Str → Option Value} (T : Txt w K mg) : mg "_law_text" = some (.ref (He.ga K "_law_text")) := T.glo 53
theorem Txt.g__law_due {w : World} {K : PySem.W.Frag} {mg : Str → Option Value} (T : Txt w K mg) : mg "_law_due" = some (.ref (He.ga K "_law_due")) := T.glo 54
theorem Txt.g__law_place {w : World} {K : PySem.W.Frag} {mg : Str → Option Value} (T : Txt w K mg) : mg "_law_place" = some (.ref (He.ga K "_law_place")) := T.glo 55
theorem Txt.g__law_audited {w : World} {K : PySem.W.Frag} {mg : Str → Option Value} (T : Txt w K mg) : mg "_law_audited" = some (.ref (He.ga K "_law_audited")) := T.glo 56
theorem Txt.g__law_written {w : World} {K : PySem.W.Frag} {mg : Str → Option Value} (T : Txt w K mg) : mg "_law_written" = some (.ref (He.ga K "_law_written")) := T.glo 57
theorem Txt.g__law_build {w : World} {K : PySem.W.Frag} {mg : Str → Option Value} (T : Txt w K mg) : mg "_law_build" = some (.ref (He.ga K "_law_build")) := T.glo 58
theorem Txt.g__law_char_of {w : World} {K : PySem.W.Frag} {mg : Str → Option Value} (T : Txt w K mg) : mg "_law_char_of" = some (.ref (He.ga K "_law_char_of")) := T.glo 59
theorem Txt.g__law_plant {w : World} {K : PySem.W.Frag} {mg : Str → Option Value} (T : Txt w K mg) : mg "_law_plant" = some (.ref (He.ga K "_law_plant")) := T.glo 60
theorem Txt.g__law_again {w : World} {K : PySem.W.Frag} {mg : Str → Option Value} (T : Txt w K mg) : mg "_law_again" = some (.ref (He.ga K "_law_again")) := T.glo 61
theorem Txt.g__law_move {w : World} {K : PySem.W.Frag} {mg : Str → Option Value} (T : Txt w K mg) : mg "_law_move" = some (.ref (He.ga K "_law_move")) := T.glo 62
theorem Txt.g_law {w : World} {K : PySem.W.Frag} {mg : Str → Option Value} (T : Txt w K mg) : mg "law" = some (.ref (He.ga K "law")) := T.glo 63
theorem Txt.g_Translator {w : World} {K : PySem.W.Frag} {mg : Str → Option Value} (T : Txt w K mg) : mg "Translator" = some (.ref (He.ga K "Translator")) := T.glo 64
theorem Txt.c_Translator {w : World} {K : PySem.W.Frag} {mg : Str → Option Value} (T : Txt w K mg) : Cls K (He.ga K "Translator") := T.cls 65
theorem Txt.k_Translator {w : World} {K : PySem.W.Frag} {mg : Str → Option Value} (T : Txt w K mg) : Mk K (He.ga K "Translator") (He.ma K (He.ga K "Translator") "__init__") := T.mkr 66
theorem Txt.m_Translator_popped {w : World} {K : PySem.W.Frag} {mg : Str → Option Value} (T : Txt w K mg) : Meth K (He.ga K "Translator") "popped" (He.ma K (He.ga K "Translator") "popped") := T.meth 67
theorem Txt.m_Translator_number {w : World} {K : PySem.W.Frag} {mg : Str → Option Value} (T : Txt w K mg) : Meth K (He.ga K "Translator") "number" (He.ma K (He.ga K "Translator") "number") := T.meth 68
theorem Txt.m_Translator_put_node {w : World} {K : PySem.W.Frag} {mg : Str → Option Value} (T : Txt w K mg) : Meth K (He.ga K "Translator") "put_node" (He.ma K (He.ga K "Translator") "put_node") := T.meth 69
theorem Txt.m_Translator_emit {w : World} {K : PySem.W.Frag} {mg : Str → Option Value} (T : Txt w K mg) : Meth K (He.ga K "Translator") "emit" (He.ma K (He.ga K "Translator") "emit") := T.meth 70
theorem Txt.m_Translator_end_numeral {w : World} {K : PySem.W.Frag} {mg : Str → Option Value} (T : Txt w K mg) : Meth K (He.ga K "Translator") "end_numeral" (He.ma K (He.ga K "Translator") "end_numeral") := T.meth 71
theorem Txt.m_Translator_paired {w : World} {K : PySem.W.Frag} {mg : Str → Option Value} (T : Txt w K mg) : Meth K (He.ga K "Translator") "paired" (He.ma K (He.ga K "Translator") "paired") := T.meth 72
theorem Txt.m_Translator_bracket {w : World} {K : PySem.W.Frag} {mg : Str → Option Value} (T : Txt w K mg) : Meth K (He.ga K "Translator") "bracket" (He.ma K (He.ga K "Translator") "bracket") := T.meth 73
theorem Txt.m_Translator_sign {w : World} {K : PySem.W.Frag} {mg : Str → Option Value} (T : Txt w K mg) : Meth K (He.ga K "Translator") "sign" (He.ma K (He.ga K "Translator") "sign") := T.meth 74
theorem Txt.m_Translator_take {w : World} {K : PySem.W.Frag} {mg : Str → Option Value} (T : Txt w K mg) : Meth K (He.ga K "Translator") "take" (He.ma K (He.ga K "Translator") "take") := T.meth 75
theorem Txt.m_Translator_finish {w : World} {K : PySem.W.Frag} {mg : Str → Option Value} (T : Txt w K mg) : Meth K (He.ga K "Translator") "finish" (He.ma K (He.ga K "Translator") "finish") := T.meth 76
theorem Txt.n_Translator_by {w : World} {K : PySem.W.Frag} {mg : Str → Option Value} (T : Txt w K mg) : NoAttr K (He.ga K "Translator") "by" := T.noat 77
theorem Txt.n_Translator_finished {w : World} {K : PySem.W.Frag} {mg : Str → Option Value} (T : Txt w K mg) : NoAttr K (He.ga K "Translator") "finished" := T.noat 78
theorem Txt.n_Translator_image {w : World} {K : PySem.W.Frag} {mg : Str → Option Value} (T : Txt w K mg) : NoAttr K (He.ga K "Translator") "image" := T.noat 79
theorem Txt.n_Translator_k {w : World} {K : PySem.W.Frag} {mg : Str → Option Value} (T : Txt w K mg) : NoAttr K (He.ga K "Translator") "k" := T.noat 80
theorem Txt.n_Translator_m {w : World} {K : PySem.W.Frag} {mg : Str → Option Value} (T : Txt w K mg) : NoAttr K (He.ga K "Translator") "m" := T.noat 81
theorem Txt.n_Translator_numeral {w : World} {K : PySem.W.Frag} {mg : Str → Option Value} (T : Txt w K mg) : NoAttr K (He.ga K "Translator") "numeral" := T.noat 82
theorem Txt.n_Translator_over {w : World} {K : PySem.W.Frag} {mg : Str → Option Value} (T : Txt w K mg) : NoAttr K (He.ga K "Translator") "over" := T.noat 83
theorem Txt.n_Translator_pile {w : World} {K : PySem.W.Frag} {mg : Str → Option Value} (T : Txt w K mg) : NoAttr K (He.ga K "Translator") "pile" := T.noat 84
theorem Txt.n_Translator_waiting {w : World} {K : PySem.W.Frag} {mg : Str → Option Value} (T : Txt w K mg) : NoAttr K (He.ga K "Translator") "waiting" := T.noat 85
theorem Txt.g_State {w : World} {K : PySem.W.Frag} {mg : Str → Option Value} (T : Txt w K mg) : mg "State" = some (.ref (He.ga K "State")) := T.glo 86
theorem Txt.c_State {w : World} {K : PySem.W.Frag} {mg : Str → Option Value} (T : Txt w K mg) : Cls K (He.ga K "State") := T.cls 87
theorem Txt.k_State {w : World} {K : PySem.W.Frag} {mg : Str → Option Value} (T : Txt w K mg) : Mk K (He.ga K "State") (He.ma K (He.ga K "State") "__init__") := T.mkr 88
theorem Txt.m_State_pull {w : World} {K : PySem.W.Frag} {mg : Str → Option Value} (T : Txt w K mg) : Meth K (He.ga K "State") "pull" (He.ma K (He.ga K "State") "pull") := T.meth 89
theorem Txt.m_State_has_ended {w : World} {K : PySem.W.Frag} {mg : Str → Option Value} (T : Txt w K mg) : Meth K (He.ga K "State") "has_ended" (He.ma K (He.ga K "State") "has_ended") := T.meth 90
theorem Txt.m_State_step {w : World} {K : PySem.W.Frag} {mg : Str → Option Value} (T : Txt w K mg) : Meth K (He.ga K "State") "step" (He.ma K (He.ga K "State") "step") := T.meth 91
theorem Txt.m_State_advance {w : World} {K : PySem.W.Frag} {mg : Str → Option Value} (T : Txt w K mg) : Meth K (He.ga K "State") "advance" (He.ma K (He.ga K "State") "advance") := T.meth 92
theorem Txt.n_State_at {w : World} {K : PySem.W.Frag} {mg : Str → Option Value} (T : Txt w K mg) : NoAttr K (He.ga K "State") "at" := T.noat 93
theorem Txt.n_State_back {w : World} {K : PySem.W.Frag} {mg : Str → Option Value} (T : Txt w K mg) : NoAttr K (He.ga K "State") "back" := T.noat 94
theorem Txt.n_State_image {w : World} {K : PySem.W.Frag} {mg : Str → Option Value} (T : Txt w K mg) : NoAttr K (He.ga K "State") "image" := T.noat 95
theorem Txt.n_State_numbers {w : World} {K : PySem.W.Frag} {mg : Str → Option Value} (T : Txt w K mg) : NoAttr K (He.ga K "State") "numbers" := T.noat 96
theorem Txt.n_State_output {w : World} {K : PySem.W.Frag} {mg : Str → Option Value} (T : Txt w K mg) : NoAttr K (He.ga K "State") "output" := T.noat 97
theorem Txt.n_State_place {w : World} {K : PySem.W.Frag} {mg : Str → Option Value} (T : Txt w K mg) : NoAttr K (He.ga K "State") "place" := T.noat 98
theorem Txt.n_State_stack {w : World} {K : PySem.W.Frag} {mg : Str → Option Value} (T : Txt w K mg) : NoAttr K (He.ga K "State") "stack" := T.noat 99
theorem Txt.n_State_steps {w : World} {K : PySem.W.Frag} {mg : Str → Option Value} (T : Txt w K mg) : NoAttr K (He.ga K "State") "steps" := T.noat 100
theorem Txt.n_State_store {w : World} {K : PySem.W.Frag} {mg : Str → Option Value} (T : Txt w K mg) : NoAttr K (He.ga K "State") "store" := T.noat 101
theorem Txt.n_State_table {w : World} {K : PySem.W.Frag} {mg : Str → Option Value} (T : Txt w K mg) : NoAttr K (He.ga K "State") "table" := T.noat 102
theorem Txt.g_Entry {w : World} {K : PySem.W.Frag} {mg : Str → Option Value} (T : Txt w K mg) : mg "Entry" = some (.ref (He.ga K "Entry")) := T.glo 103
theorem Txt.c_Entry {w : World} {K : PySem.W.Frag} {mg : Str → Option Value} (T : Txt w K mg) : Cls K (He.ga K "Entry") := T.cls 104
theorem Txt.k_Entry {w : World} {K : PySem.W.Frag} {mg : Str → Option Value} (T : Txt w K mg) : Mk K (He.ga K "Entry") (He.ma K (He.ga K "Entry") "__init__") := T.mkr 105
theorem Txt.n_Entry_binary {w : World} {K : PySem.W.Frag} {mg : Str → Option Value} (T : Txt w K mg) : NoAttr K (He.ga K "Entry") "binary" := T.noat 106
theorem Txt.n_Entry_kind {w : World} {K : PySem.W.Frag} {mg : Str → Option Value} (T : Txt w K mg) : NoAttr K (He.ga K "Entry") "kind" := T.noat 107
theorem Txt.n_Entry_text {w : World} {K : PySem.W.Frag} {mg : Str → Option Value} (T : Txt w K mg) : NoAttr K (He.ga K "Entry") "text" := T.noat 108
theorem Txt.g_Shelf {w : World} {K : PySem.W.Frag} {mg : Str → Option Value} (T : Txt w K mg) : mg "Shelf" = some (.ref (He.ga K "Shelf")) := T.glo 109
theorem Txt.c_Shelf {w : World} {K : PySem.W.Frag} {mg : Str → Option Value} (T : Txt w K mg) : Cls K (He.ga K "Shelf") := T.cls 110
theorem Txt.k_Shelf {w : World} {K : PySem.W.Frag} {mg : Str → Option Value} (T : Txt w K mg) : Mk K (He.ga K "Shelf") (He.ma K (He.ga K "Shelf") "__init__") := T.mkr 111
theorem Txt.m_Shelf_entry {w : World} {K : PySem.W.Frag} {mg : Str → Option Value} (T : Txt w K mg) : Meth K (He.ga K "Shelf") "entry" (He.ma K (He.ga K "Shelf") "entry") := T.meth 112
theorem Txt.m_Shelf_names {w : World} {K : PySem.W.Frag} {mg : Str → Option Value} (T : Txt w K mg) : Meth K (He.ga K "Shelf") "names" (He.ma K (He.ga K "Shelf") "names") := T.meth 113
theorem Txt.m_Shelf_kind {w : World} {K : PySem.W.Frag} {mg : Str → Option Value} (T : Txt w K mg) : Meth K (He.ga K "Shelf") "kind" (He.ma K (He.ga K "Shelf") "kind") := T.meth 114
theorem Txt.m_Shelf_text {w : World} {K : PySem.W.Frag} {mg : Str → Option Value} (T : Txt w K mg) : Meth K (He.ga K "Shelf") "text" (He.ma K (He.ga K "Shelf") "text") := T.meth 115
theorem Txt.m_Shelf_binary {w : World} {K : PySem.W.Frag} {mg : Str → Option Value} (T : Txt w K mg) : Meth K (He.ga K "Shelf") "binary" (He.ma K (He.ga K "Shelf") "binary") := T.meth 116
theorem Txt.m_Shelf_put {w : World} {K : PySem.W.Frag} {mg : Str → Option Value} (T : Txt w K mg) : Meth K (He.ga K "Shelf") "put" (He.ma K (He.ga K "Shelf") "put") := T.meth 117
theorem Txt.m_Shelf_build {w : World} {K : PySem.W.Frag} {mg : Str → Option Value} (T : Txt w K mg) : Meth K (He.ga K "Shelf") "build" (He.ma K (He.ga K "Shelf") "build") := T.meth 118
theorem Txt.m_Shelf_swap {w : World} {K : PySem.W.Frag} {mg : Str → Option Value} (T : Txt w K mg) : Meth K (He.ga K "Shelf") "swap" (He.ma K (He.ga K "Shelf") "swap") := T.meth 119
theorem Txt.m_Shelf_clone {w : World} {K : PySem.W.Frag} {mg : Str → Option Value} (T : Txt w K mg) : Meth K (He.ga K "Shelf") "clone" (He.ma K (He.ga K "Shelf") "clone") := T.meth 120
theorem Txt.m_Shelf_damage {w : World} {K : PySem.W.Frag} {mg : Str → Option Value} (T : Txt w K mg) : Meth K (He.ga K "Shelf") "damage" (He.ma K (He.ga K "Shelf") "damage") := T.meth 121
theorem Txt.m_Shelf_trap {w : World} {K : PySem.W.Frag} {mg : Str → Option Value} (T : Txt w K mg) : Meth K (He.ga K "Shelf") "trap" (He.ma K (He.ga K "Shelf") "trap") := T.meth 122
theorem Txt.n_Shelf_entries {w : World} {K : PySem.W.Frag} {mg : Str → Option Value} (T : Txt w K mg) : NoAttr K (He.ga K "Shelf") "entries" := T.noat 123
theorem Txt.f_any {w : World} {K : PySem.W.Frag} {mg : Str → Option Value} (T : Txt w K mg) : mg "any" = none := T.free 124
theorem Txt.f_bool {w : World} {K : PySem.W.Frag} {mg : Str → Option Value} (T : Txt w K mg) : mg "bool" = none := T.free 125
theorem Txt.f_enumerate {w : World} {K : PySem.W.Frag} {mg : Str → Option Value} (T : Txt w K mg) : mg "enumerate" = none := T.free 126
theorem Txt.f_int {w : World} {K : PySem.W.Frag} {mg : Str → Option Value} (T : Txt w K mg) : mg "int" = none := T.free 127
theorem Txt.f_isinstance {w : World} {K : PySem.W.Frag} {mg : Str → Option Value} (T : Txt w K mg) : mg "isinstance" = none := T.free 128
theorem Txt.f_len {w : World} {K : PySem.W.Frag} {mg : Str → Option Value} (T : Txt w K mg) : mg "len" = none := T.free 129
theorem Txt.f_list {w : World} {K : PySem.W.Frag} {mg : Str → Option Value} (T : Txt w K mg) : mg "list" = none := T.free 130
theorem Txt.f_ord {w : World} {K : PySem.W.Frag} {mg : Str → Option Value} (T : Txt w K mg) : mg "ord" = none := T.free 131
theorem Txt.f_range {w : World} {K : PySem.W.Frag} {mg : Str → Option Value} (T : Txt w K mg) : mg "range" = none := T.free 132
theorem Txt.f_tuple {w : World} {K : PySem.W.Frag} {mg : Str → Option Value} (T : Txt w K mg) : mg "tuple" = none := T.free 133
theorem Txt.s_PRINTABLE {w : World} {K : PySem.W.Frag} {mg : Str → Option Value} (T : Txt w K mg) : ∃ t, mg "PRINTABLE" = some (.str (strE (top 12)) t) := T.str 134
theorem Txt.i_BLANK {w : World} {K : PySem.W.Frag} {mg : Str → Option Value} (T : Txt w K mg) : ∃ t, mg "BLANK" = some (.int 32 t) := T.int 135
theorem Txt.i_QUOTE {w : World} {K : PySem.W.Frag} {mg : Str → Option Value} (T : Txt w K mg) : ∃ t, mg "QUOTE" = some (.int 39 t) := T.int 136
theorem Txt.i_RETURN_translate {w : World} {K : PySem.W.Frag} {mg : Str → Option Value} (T : Txt w K mg) : ∃ t, mg "RETURN_translate" = some (.int 41 t) := T.int 137
theorem Txt.i_COLON {w : World} {K : PySem.W.Frag} {mg : Str → Option Value} (T : Txt w K mg) : ∃ t, mg "COLON" = some (.int 58 t) := T.int 138
theorem Txt.i_SEMICOLON {w : World} {K : PySem.W.Frag} {mg : Str → Option Value} (T : Txt w K mg) : ∃ t, mg "SEMICOLON" = some (.int 59 t) := T.int 139
theorem Txt.i_ASSIGN {w : World} {K : PySem.W.Frag} {mg : Str → Option Value} (T : Txt w K mg) : ∃ t, mg "ASSIGN" = some (.int 61 t) := T.int 140
theorem Txt.i_PUSH_translate {w : World} {K : PySem.W.Frag} {mg : Str → Option Value} (T : Txt w K mg) : ∃ t, mg "PUSH_translate" = some (.int 35 t) := T.int 141
theorem Txt.i_TEST_translate {w : World} {K : PySem.W.Frag} {mg : Str → Option Value} (T : Txt w K mg) : ∃ t, mg "TEST_translate" = some (.int 63 t) := T.int 142
theorem Txt.s_DIGITS {w : World} {K : PySem.W.Frag} {mg : Str → Option Value} (T : Txt w K mg) : ∃ t, mg "DIGITS" = some (.str (strE (top 33)) t) := T.str 143
theorem Txt.s_SHORT {w : World} {K : PySem.W.Frag} {mg : Str → Option Value} (T : Txt w K mg) : ∃ t, mg "SHORT" = some (.str (strE (top 34)) t) := T.str 144
theorem Txt.s_PLAIN_audit {w : World} {K : PySem.W.Frag} {mg : Str → Option Value} (T : Txt w K mg) : ∃ t, mg "PLAIN_audit" = some (.str (strE (top 35)) t) := T.str 145
theorem Txt.g_KINDS {w : World} {K : PySem.W.Frag} {mg : Str → Option Value} (T : Txt w K mg) : mg "KINDS" = some (.ref (He.ga K "KINDS")) := T.glo 146
theorem Txt.g_TEXTS {w : World} {K : PySem.W.Frag} {mg : Str → Option Value} (T : Txt w K mg) : mg "TEXTS" = some (.ref (He.ga K "TEXTS")) := T.glo 147
theorem Txt.i_FIRST_LETTER {w : World} {K : PySem.W.Frag} {mg : Str → Option Value} (T : Txt w K mg) : ∃ t, mg "FIRST_LETTER" = some (.int 97 t) := T.int 148
theorem Txt.i_LAST_LETTER {w : World} {K : PySem.W.Frag} {mg : Str → Option Value} (T : Txt w K mg) : ∃ t, mg "LAST_LETTER" = some (.int 122 t) := T.int 149
theorem Txt.i_FIRST_CAPITAL {w : World} {K : PySem.W.Frag} {mg : Str → Option Value} (T : Txt w K mg) : ∃ t, mg "FIRST_CAPITAL" = some (.int 65 t) := T.int 150
theorem Txt.i_LAST_CAPITAL {w : World} {K : PySem.W.Frag} {mg : Str → Option Value} (T : Txt w K mg) : ∃ t, mg "LAST_CAPITAL" = some (.int 90 t) := T.int 151
theorem Txt.i_LAST_LOW {w : World} {K : PySem.W.Frag} {mg : Str → Option Value} (T : Txt w K mg) : ∃ t, mg "LAST_LOW" = some (.int 199 t) := T.int 152
theorem Txt.g_DEEDS {w : World} {K : PySem.W.Frag} {mg : Str → Option Value} (T : Txt w K mg) : mg "DEEDS" = some (.ref (He.ga K "DEEDS")) := T.glo 153
theorem Txt.i_BASE {w : World} {K : PySem.W.Frag} {mg : Str → Option Value} (T : Txt w K mg) : ∃ t, mg "BASE" = some (.int 1000000 t) := T.int 154
theorem Txt.i_MOST_LURE {w : World} {K : PySem.W.Frag} {mg : Str → Option Value} (T : Txt w K mg) : ∃ t, mg "MOST_LURE" = some (.int 12 t) := T.int 155
theorem Txt.i_MOST_EXTRA {w : World} {K : PySem.W.Frag} {mg : Str → Option Value} (T : Txt w K mg) : ∃ t, mg "MOST_EXTRA" = some (.int 24 t) := T.int 156
theorem Txt.i_FIXED {w : World} {K : PySem.W.Frag} {mg : Str → Option Value} (T : Txt w K mg) : ∃ t, mg "FIXED" = some (.int 14 t) := T.int 157
theorem Txt.i_PUSH_traps {w : World} {K : PySem.W.Frag} {mg : Str → Option Value} (T : Txt w K mg) : ∃ t, mg "PUSH_traps" = some (.int 35 t) := T.int 158
theorem Txt.i_CELL {w : World} {K : PySem.W.Frag} {mg : Str → Option Value} (T : Txt w K mg) : ∃ t, mg "CELL" = some (.int 38 t) := T.int 159
theorem Txt.i_CALL {w : World} {K : PySem.W.Frag} {mg : Str → Option Value} (T : Txt w K mg) : ∃ t, mg "CALL" = some (.int 40 t) := T.int 160
theorem Txt.i_RETURN_traps {w : World} {K : PySem.W.Frag} {mg : Str → Option Value} (T : Txt w K mg) : ∃ t, mg "RETURN_traps" = some (.int 41 t) := T.int 161
theorem Txt.i_PLUS {w : World} {K : PySem.W.Frag} {mg : Str → Option Value} (T : Txt w K mg) : ∃ t, mg "PLUS" = some (.int 43 t) := T.int 162
theorem Txt.i_TAKE {w : World} {K : PySem.W.Frag} {mg : Str → Option Value} (T : Txt w K mg) : ∃ t, mg "TAKE" = some (.int 44 t) := T.int 163
theorem Txt.i_GIVE {w : World} {K : PySem.W.Frag} {mg : Str → Option Value} (T : Txt w K mg) : ∃ t, mg "GIVE" = some (.int 46 t) := T.int 164
theorem Txt.i_DOUBLE {w : World} {K : PySem.W.Frag} {mg : Str → Option Value} (T : Txt w K mg) : ∃ t, mg "DOUBLE" = some (.int 34 t) := T.int 165
theorem Txt.i_TEST_traps {w : World} {K : PySem.W.Frag} {mg : Str → Option Value} (T : Txt w K mg) : ∃ t, mg "TEST_traps" = some (.int 63 t) := T.int 166
theorem Txt.i_REWIND {w : World} {K : PySem.W.Frag} {mg : Str → Option Value} (T : Txt w K mg) : ∃ t, mg "REWIND" = some (.int 94 t) := T.int 167
theorem Txt.i_DROP {w : World} {K : PySem.W.Frag} {mg : Str → Option Value} (T : Txt w K mg) : ∃ t, mg "DROP" = some (.int 95 t) := T.int 168
theorem Txt.i_SAME {w : World} {K : PySem.W.Frag} {mg : Str → Option Value} (T : Txt w K mg) : ∃ t, mg "SAME" = some (.int 126 t) := T.int 169
theorem Txt.i_LONGEST_NAME {w : World} {K : PySem.W.Frag} {mg : Str → Option Value} (T : Txt w K mg) : ∃ t, mg "LONGEST_NAME" = some (.int 12 t) := T.int 170
abbrev rJoin (K : PySem.W.Frag) : V → List V → Hp → VK → Prop := fun x xs H Q => ∃ a p, ∃ ys : List Str, x = .str a ∧ xs = [.ref p] ∧ (SqL K H p (ys.map V.str) ∨ SqT K H p (ys.map V.str)) ∧ (ys.map (·.length)).sum + ys.length * a.length ≤ 16777216 ∧ Q (.str (Txt.join a ys)) H
/-! ### a def's body keeps its promise -/
abbrev Bx (P : Program) (w : World) (K : PySem.W.Frag) (mg : Str → Option Value) (base : Heap) (N : List Str) (qual : Str) (st : Stmt) (f : Addr) (cdv : Value) (A : Around) (outer : List Env) (s : Shared) (H : Hp) (E : XK) : Cx := (cxOf C8.CX0 P w K mg base N qual (defScope st) f cdv A outer s H E).nox
section
variable {P : Program} {w : World} {K : PySem.W.Frag} {mg : Str → Option Value} {base : Heap} {x m qual : Str} {st : Stmt} {N ps : List Str} {k : Nat} {sp : Sp} {t : TS} {dvs : List V} {kws : List (Str × V)} {f : Addr} {fd : FuncData}
theorem fok (F : FunD K x qual (defArgs st) (defBody st) (defScope st) dvs kws f fd) (S : FnScope N ps (defScope st)) (len : ∀ vs H Q E, sp vs H Q E → vs.length = ps.length)
    (der : ∀ (f : Addr) (cdv : Value) (A : Around) (outer : List Env) (s : Shared) (H : Hp) (E : XK), Room k (A.deeper (envOfC qual (defScope st) s.heap.objs.size f cdv)) → PSs (Bx P w K mg base N qual st f cdv A outer s H E) (defBody st) t)
    (rd : ∀ vs H Q E, sp vs H Q E → t { nx := fun _ H' => Q .non H', rt := Q } (start N vs) H) : FnOk P w K mg base C8.CX0 (k + 1) f fd ps sp :=
  F.ok S len fun cdv A outer s H vs Q E hr h => ⟨t, (der f cdv A outer s H E hr).nox, rd vs H Q E h⟩
abbrev BindsOk (x qual : Str) (st : Stmt) (ps : List Str) : Prop := ∀ (kV doc pm : Value) (an : Option Addr) (cdv ct : Value) (us : List Value), us.length = ps.length → bindArgs (PySem.W.fnOf x qual (defArgs st) (defBody st) (defScope st) .none kV doc pm an cdv ct) ⟨us, []⟩ = pure (ps.zip us)
theorem Txt.cal (T : Txt w K mg) (i : Nat) (hd : fnL[i]? = some ⟨(x, none), x, x, defArgs st, defBody st, defScope st, [], []⟩) (hg : mg x = some (.ref (He.ga K x))) (S : FnScope N ps (defScope st)) (hb : BindsOk x x st ps) (len : ∀ vs H Q E, sp vs H Q E → vs.length = ps.length)
    (der : ∀ (f : Addr) (cdv : Value) (A : Around) (outer : List Env) (s : Shared) (H : Hp) (E : XK), Room k (A.deeper (envOfC x (defScope st) s.heap.objs.size f cdv)) → PSs (Bx P w K mg base N x st f cdv A outer s H E) (defBody st) t)
    (rd : ∀ vs H Q E, sp vs H Q E → t { nx := fun _ H' => Q .non H', rt := Q } (start N vs) H) : C8.Cal P w K mg base (k + 1) x sp [] := by
  obtain ⟨fd, F⟩ := T.st.d.def_ i hd
  exact ⟨_, fd, ps, [], fok F S len der rd, hg, F.kp, FunD.bindsN F hb, .nil⟩
theorem Txt.met (T : Txt w K mg) (i : Nat) {C : Str} (hd : fnL[i]? = some ⟨(C, some m), m, qual, defArgs st, defBody st, defScope st, [], []⟩) (c : Cls K (He.ga K C)) (me : Meth K (He.ga K C) m (He.ma K (He.ga K C) m)) (S : FnScope N ps (defScope st)) (hb : BindsOk m qual st ps) (len : ∀ vs H Q E, sp vs H Q E → vs.length = ps.length)
    (der : ∀ (f : Addr) (cdv : Value) (A : Around) (outer : List Env) (s : Shared) (H : Hp) (E : XK), Room k (A.deeper (envOfC qual (defScope st) s.heap.objs.size f cdv)) → PSs (Bx P w K mg base N qual st f cdv A outer s H E) (defBody st) t)
    (rd : ∀ vs H Q E, sp vs H Q E → t { nx := fun _ H' => Q .non H', rt := Q } (start N vs) H) : C8.Met P w K mg base (k + 1) (He.ga K C) m sp [] := by
  obtain ⟨fd, F⟩ := T.st.d.def_ i hd
  exact ⟨_, fd, ps, [], c, me, fok F S len der rd, FunD.bindsN F hb, .nil⟩
theorem Txt.mak (T : Txt w K mg) (i : Nat) {C : Str} (hd : fnL[i]? = some ⟨(C, some "__init__"), "__init__", qual, defArgs st, defBody st, defScope st, [], []⟩) (hg : mg C = some (.ref (He.ga K C))) (M : Mk K (He.ga K C) (He.ma K (He.ga K C) "__init__")) (S : FnScope N ps (defScope st)) (hb : BindsOk "__init__" qual st ps) (len : ∀ vs H Q E, sp vs H Q E → vs.length = ps.length)
    (der : ∀ (f : Addr) (cdv : Value) (A : Around) (outer : List Env) (s : Shared) (H : Hp) (E : XK), Room k (A.deeper (envOfC qual (defScope st) s.heap.objs.size f cdv)) → PSs (Bx P w K mg base N qual st f cdv A outer s H E) (defBody st) t)
    (rd : ∀ vs H Q E, sp vs H Q E → t { nx := fun _ H' => Q .non H', rt := Q } (start N vs) H) : C8.Mak P w K mg base (k + 1) C (He.ga K C) sp [] := by
  obtain ⟨fd, F⟩ := T.st.d.def_ i hd
  exact ⟨_, fd, ps, [], M, fok F S len der rd, hg, FunD.bindsN F hb, .nil⟩
end
end Pl

set_option Elab.async false
set_option linter.all false
set_option maxRecDepth 100000
set_option maxHeartbeats 4000000
namespace Pl
open PySem PySem.Spec PyProof.Rows L2
theorem upd_self {H : Hp} {a : Addr} {o : HO} (h : H a = some o) : upd H a o = H := by
  funext b
  unfold upd
  by_cases e : b = a
  · rw [if_pos e, e, h]
  · rw [if_neg e]
abbrev iL (ns : List Int) : List V := ns.map V.int
/-- a list used as a stack: its top first -/
abbrev stk (ns : List Int) : HO := .lst (ns.reverse.map V.int)
theorem stk_push (ns : List Int) (x : Int) : ns.reverse.map V.int ++ [V.int x] = (x :: ns).reverse.map V.int := by simp
theorem stk_pop (x : Int) (ns : List Int) : ((x :: ns).reverse.map V.int).dropLast = ns.reverse.map V.int := by simp
theorem stk_top (x : Int) (ns : List Int) : ((x :: ns).reverse.map V.int)[((x :: ns).reverse.map V.int).length - 1]? = some (V.int x) := by simp
/-! ### what stays -/
def KeepL (l : List Addr) (H H' : Hp) : Prop := ∀ b o, H b = some o → b ∉ l → H' b = some o
theorem KeepL.refl {l : List Addr} {H : Hp} : KeepL l H H := fun _ _ e _ => e
theorem KeepL.trans {l : List Addr} {H H1 H2 : Hp} (a : KeepL l H H1) (b : KeepL l H1 H2) : KeepL l H H2 := fun c o e n => b c o (a c o e n) n
theorem KeepL.upd {l : List Addr} {H : Hp} {a : Addr} {o : HO} (h : a ∈ l) : KeepL l H (upd H a o) := fun c u e n => by
  rw [upd_ne (show c ≠ a from fun z => n (by rw [z]; exact h))]
  exact e
theorem KeepL.new {l : List Addr} {H : Hp} {a : Addr} {o : HO} (h : H a = none) : KeepL l H (L2.upd H a o) := fun c u e _ => by
  rw [upd_ne (ne_of_none e h)]
  exact e
theorem KeepL.mono {l l' : List Addr} {H H' : Hp} (k : KeepL l H H') (h : ∀ a ∈ l, a ∈ l') : KeepL l' H H' := fun b o e n => k b o e fun z => n (h b z)
theorem Same.keepL {l : List Addr} {H H' : Hp} (k : Same H H') : KeepL l H H' := fun b o e _ => k b o e
theorem Same.new {H : Hp} {a : Addr} {o : HO} (h : H a = none) : Same H (L2.upd H a o) := fun c u e => by
  rw [upd_ne (ne_of_none e h)]
  exact e
/-- what is changed was not there ahead -/
theorem KeepL.same {l : List Addr} {H H1 H2 : Hp} (s : Same H H1) (k : KeepL l H1 H2) (h : ∀ a ∈ l, H a = none) : Same H H2 := fun b o e => k b o (s b o e) fun z => by
  rw [h b z] at e
  cases e
theorem none_of_same {H H' : Hp} {a : Addr} (s : Same H H') (h : H' a = none) : H a = none := s.free h
/-- an old thing is not among the changed -/
theorem KeepL.old {l : List Addr} {H H1 H2 : Hp} (k : KeepL l H1 H2) (h : ∀ a ∈ l, H a = none) {b : Addr} {o u : HO} (e : H b = some o) (e1 : H1 b = some u) : H2 b = some u := k b u e1 fun z => by
  rw [h b z] at e
  cases e
theorem ne_kind {H : Hp} {a b : Addr} {o u : HO} (h : H a = some o) (h' : H b = some u) (d : o ≠ u) : a ≠ b := ne_of h h' d
/-- a new list of these values -/
def NewL (H : Hp) (Q : VK) (xs : List V) : Prop := ∀ p H', Same H H' → H p = none → H' p = some (.lst xs) → Q (.ref p) H'
/-! ### _law_next, _law_pull: the top of a stack of ints, or 0 -/
def spPop : Sp := fun vs H Q _ => ∃ (a : Addr) (ds : List Int), vs = [.ref a] ∧ H a = some (stk ds) ∧ Q (.int (ds.headD 0)) (upd H a (stk ds.tail))
abbrev sp_law_next (_ : PySem.W.Frag) : Sp := spPop
theorem sc_law_next : FnScope ["_law_draws_here"] ["_law_draws_here"] (defScope s_law_next) := C8.fnScope_by (by decide +kernel)
def t_law_next (K : PySem.W.Frag) : TS := (tSeq (tIfS (tTru K (tVar 0)) (tRet (tBM0 K "list" rPop (tVar 0))) tNext) (tRet (tC (.int 0))))
theorem d_law_next {P : Program} {w : World} {K : PySem.W.Frag} {mg : Str → Option Value} {base : Heap} (T : Txt w K mg) (f : Addr) (cdv : Value) (A : Around) (outer : List Env) (s : Shared) (H : Hp) (E : XK) (hr : Room 0 (A.deeper (envOfC "_law_next" (defScope s_law_next) s.heap.objs.size f cdv))) :
    PSs (Bx P w K mg base ["_law_draws_here"] "_law_next" s_law_next f cdv A outer s H E) (defBody s_law_next) (t_law_next K) :=
  (pss_cons (ps_if (pt_truth (pv 0) (by intro _; rfl)) (pss_one (ps_ret (pe_bm0 PySem.F.plainAttrs_list PySem.F.slot_list_pop PySem.F.type_list_pop mt_pop (pv 0)))) pss_nil) (pss_one (ps_ret pe_int)))
theorem l_law_next {K : PySem.W.Frag} : ∀ vs H Q E, sp_law_next K vs H Q E → vs.length = ["_law_draws_here"].length := by
  rintro vs H Q E ⟨a, ds, rfl, _⟩
  rfl
theorem r_law_next {w : World} {K : PySem.W.Frag} {mg : Str → Option Value} (T : Txt w K mg) : ∀ vs H Q E, sp_law_next K vs H Q E → t_law_next K { nx := fun _ H' => Q .non H', rt := Q } (start ["_law_draws_here"] vs) H := by
  rintro vs H Q E ⟨a, ds, rfl, h, k⟩
  cases ds with
  | nil =>
    refine ⟨_, rfl, false, .inl ⟨_, SqL.of h, rfl⟩, iteF ?_⟩
    have e : upd H a (stk [].tail) = H := upd_self h
    rw [e] at k
    exact k
  | cons x r =>
    refine ⟨_, rfl, true, .inl ⟨_, SqL.of h, by simp⟩, iteT ?_⟩
    refine ⟨_, rfl, .inl ⟨rfl, _, SqL.of h⟩, _, _, _, rfl, rfl, h, stk_top x r, ?_⟩
    rw [stk_pop]
    exact k
theorem c_law_next {P : Program} {w : World} {K : PySem.W.Frag} {mg : Str → Option Value} {base : Heap} (T : Txt w K mg) : C8.Cal P w K mg base 1 "_law_next" (sp_law_next K) [] := T.cal 70 rfl T.g__law_next sc_law_next (fun _ _ _ _ _ _ us hl => match us, hl with | [_], _ => rfl) l_law_next (d_law_next T) (r_law_next T)
abbrev sp_law_pull (_ : PySem.W.Frag) : Sp := spPop
theorem sc_law_pull : FnScope ["_law_pile"] ["_law_pile"] (defScope s_law_pull) := C8.fnScope_by (by decide +kernel)
def t_law_pull (K : PySem.W.Frag) : TS := (tSeq (tIfS (tTru K (tVar 0)) (tRet (tBM0 K "list" rPop (tVar 0))) tNext) (tRet (tC (.int 0))))
theorem d_law_pull {P : Program} {w : World} {K : PySem.W.Frag} {mg : Str → Option Value} {base : Heap} (T : Txt w K mg) (f : Addr) (cdv : Value) (A : Around) (outer : List Env) (s : Shared) (H : Hp) (E : XK) (hr : Room 0 (A.deeper (envOfC "_law_pull" (defScope s_law_pull) s.heap.objs.size f cdv))) :
    PSs (Bx P w K mg base ["_law_pile"] "_law_pull" s_law_pull f cdv A outer s H E) (defBody s_law_pull) (t_law_pull K) :=
  (pss_cons (ps_if (pt_truth (pv 0) (by intro _; rfl)) (pss_one (ps_ret (pe_bm0 PySem.F.plainAttrs_list PySem.F.slot_list_pop PySem.F.type_list_pop mt_pop (pv 0)))) pss_nil) (pss_one (ps_ret pe_int)))
theorem l_law_pull {K : PySem.W.Frag} : ∀ vs H Q E, sp_law_pull K vs H Q E → vs.length = ["_law_pile"].length := by
  rintro vs H Q E ⟨a, ds, rfl, _⟩
  rfl
theorem r_law_pull {w : World} {K : PySem.W.Frag} {mg : Str → Option Value} (T : Txt w K mg) : ∀ vs H Q E, sp_law_pull K vs H Q E → t_law_pull K { nx := fun _ H' => Q .non H', rt := Q } (start ["_law_pile"] vs) H := by
  rintro vs H Q E ⟨a, ds, rfl, h, k⟩
  cases ds with
  | nil =>
    refine ⟨_, rfl, false, .inl ⟨_, SqL.of h, rfl⟩, iteF ?_⟩
    have e : upd H a (stk [].tail) = H := upd_self h
    rw [e] at k
    exact k
  | cons x r =>
    refine ⟨_, rfl, true, .inl ⟨_, SqL.of h, by simp⟩, iteT ?_⟩
    refine ⟨_, rfl, .inl ⟨rfl, _, SqL.of h⟩, _, _, _, rfl, rfl, h, stk_top x r, ?_⟩
    rw [stk_pop]
    exact k
theorem c_law_pull {P : Program} {w : World} {K : PySem.W.Frag} {mg : Str → Option Value} {base : Heap} (T : Txt w K mg) : C8.Cal P w K mg base 1 "_law_pull" (sp_law_pull K) [] := T.cal 71 rfl T.g__law_pull sc_law_pull (fun _ _ _ _ _ _ us hl => match us, hl with | [_], _ => rfl) l_law_pull (d_law_pull T) (r_law_pull T)
end Pl

set_option Elab.async false
set_option linter.all false
set_option maxRecDepth 100000
set_option maxHeartbeats 4000000
namespace Pl
open PySem PySem.Spec PyProof.Rows L2
/-! ### a Translator -/
def numV : Option Int → V
  | none => .non
  | some v => .int v
def waitV (c : Int) : V := if c = 0 then .non else .int c
def trF (by_ : Int) (im pl : Addr) (t : Tr) (ov fi : Bool) : List (Str × V) :=
  [("by", .int by_), ("image", .ref im), ("m", .int t.m), ("k", .int t.k), ("pile", .ref pl), ("numeral", numV t.num), ("waiting", waitV t.wait), ("over", .bl ov), ("finished", .bl fi)]
section
variable {by_ x : Int} {im pl : Addr} {t : Tr} {ov fi b : Bool} {v : V} {o : Option Int}
theorem trF_by : (trF by_ im pl t ov fi).lookup ("by" : Str) = some (.int by_) := by kernel_rfl
theorem trF_image : (trF by_ im pl t ov fi).lookup ("image" : Str) = some (.ref im) := by kernel_rfl
theorem trF_m : (trF by_ im pl t ov fi).lookup ("m" : Str) = some (.int t.m) := by kernel_rfl
theorem trF_k : (trF by_ im pl t ov fi).lookup ("k" : Str) = some (.int t.k) := by kernel_rfl
theorem trF_pile : (trF by_ im pl t ov fi).lookup ("pile" : Str) = some (.ref pl) := by kernel_rfl
theorem trF_numeral : (trF by_ im pl t ov fi).lookup ("numeral" : Str) = some (numV t.num) := by kernel_rfl
theorem trF_waiting : (trF by_ im pl t ov fi).lookup ("waiting" : Str) = some (waitV t.wait) := by kernel_rfl
theorem trF_over : (trF by_ im pl t ov fi).lookup ("over" : Str) = some (.bl ov) := by kernel_rfl
theorem trF_finished : (trF by_ im pl t ov fi).lookup ("finished" : Str) = some (.bl fi) := by kernel_rfl
theorem trP_m : putF "m" (.int x) (trF by_ im pl t ov fi) = trF by_ im pl { t with m := x } ov fi := by kernel_rfl
theorem trP_k : putF "k" (.int x) (trF by_ im pl t ov fi) = trF by_ im pl { t with k := x } ov fi := by kernel_rfl
theorem trP_num : putF "numeral" (numV o) (trF by_ im pl t ov fi) = trF by_ im pl { t with num := o } ov fi := by kernel_rfl
theorem trP_wait : putF "waiting" (waitV x) (trF by_ im pl t ov fi) = trF by_ im pl { t with wait := x } ov fi := by kernel_rfl
theorem trP_over : putF "over" (.bl b) (trF by_ im pl t ov fi) = trF by_ im pl t b fi := by kernel_rfl
theorem trP_fin : putF "finished" (.bl b) (trF by_ im pl t ov fi) = trF by_ im pl t ov b := by kernel_rfl
theorem trF_small : (trF by_ im pl t ov fi).length < 1000 := by show 9 < 1000; decide
end
theorem no_popped {by_ : Int} {im pl : Addr} {t : Tr} {ov fi : Bool} : (trF by_ im pl t ov fi).lookup ("popped" : Str) = none := by kernel_rfl
theorem no_number {by_ : Int} {im pl : Addr} {t : Tr} {ov fi : Bool} : (trF by_ im pl t ov fi).lookup ("number" : Str) = none := by kernel_rfl
theorem no_put_node {by_ : Int} {im pl : Addr} {t : Tr} {ov fi : Bool} : (trF by_ im pl t ov fi).lookup ("put_node" : Str) = none := by kernel_rfl
theorem no_emit {by_ : Int} {im pl : Addr} {t : Tr} {ov fi : Bool} : (trF by_ im pl t ov fi).lookup ("emit" : Str) = none := by kernel_rfl
theorem no_end_numeral {by_ : Int} {im pl : Addr} {t : Tr} {ov fi : Bool} : (trF by_ im pl t ov fi).lookup ("end_numeral" : Str) = none := by kernel_rfl
theorem no_paired {by_ : Int} {im pl : Addr} {t : Tr} {ov fi : Bool} : (trF by_ im pl t ov fi).lookup ("paired" : Str) = none := by kernel_rfl
theorem no_bracket {by_ : Int} {im pl : Addr} {t : Tr} {ov fi : Bool} : (trF by_ im pl t ov fi).lookup ("bracket" : Str) = none := by kernel_rfl
theorem no_sign {by_ : Int} {im pl : Addr} {t : Tr} {ov fi : Bool} : (trF by_ im pl t ov fi).lookup ("sign" : Str) = none := by kernel_rfl
theorem no_take {by_ : Int} {im pl : Addr} {t : Tr} {ov fi : Bool} : (trF by_ im pl t ov fi).lookup ("take" : Str) = none := by kernel_rfl
theorem no_finish {by_ : Int} {im pl : Addr} {t : Tr} {ov fi : Bool} : (trF by_ im pl t ov fi).lookup ("finish" : Str) = none := by kernel_rfl
/-- a Translator stands at p and is the mirror's t -/
structure TrAt (C : Addr) (H : Hp) (p im pl dx : Addr) (by_ : Int) (t : Tr) (ov fi : Bool) : Prop where
  ob : H p = some (.ins C dx (trF by_ im pl t ov fi))
  hi : H im = some (stk t.img)
  hp : H pl = some (stk t.pile)
  ne : im ≠ pl
section
variable {C : Addr} {H : Hp} {p im pl dx q : Addr} {by_ : Int} {t : Tr} {ov fi : Bool} {o : HO}
theorem TrAt.pi (h : TrAt C H p im pl dx by_ t ov fi) : p ≠ im := ne_of h.ob h.hi (by intro z; cases z)
theorem TrAt.pp (h : TrAt C H p im pl dx by_ t ov fi) : p ≠ pl := ne_of h.ob h.hp (by intro z; cases z)
theorem TrAt.new (h : TrAt C H p im pl dx by_ t ov fi) (hq : H q = none) : TrAt C (upd H q o) p im pl dx by_ t ov fi :=
  ⟨by rw [upd_ne (ne_of_none h.ob hq)]; exact h.ob, by rw [upd_ne (ne_of_none h.hi hq)]; exact h.hi, by rw [upd_ne (ne_of_none h.hp hq)]; exact h.hp, h.ne⟩
theorem TrAt.setF (h : TrAt C H p im pl dx by_ t ov fi) {t' : Tr} {ov' fi' : Bool} {fs : List (Str × V)} (e : fs = trF by_ im pl t' ov' fi') (e1 : t'.img = t.img) (e2 : t'.pile = t.pile) : TrAt C (upd H p (.ins C dx fs)) p im pl dx by_ t' ov' fi' :=
  ⟨by rw [upd_same, e], by rw [upd_ne h.pi.symm, e1]; exact h.hi, by rw [upd_ne h.pp.symm, e2]; exact h.hp, h.ne⟩
theorem TrAt.setI (h : TrAt C H p im pl dx by_ t ov fi) (l : List Int) : TrAt C (upd H im (stk l)) p im pl dx by_ { t with img := l } ov fi :=
  ⟨by rw [upd_ne h.pi]; exact h.ob, by rw [upd_same], by rw [upd_ne h.ne.symm]; exact h.hp, h.ne⟩
theorem TrAt.setP (h : TrAt C H p im pl dx by_ t ov fi) (l : List Int) : TrAt C (upd H pl (stk l)) p im pl dx by_ { t with pile := l } ov fi :=
  ⟨by rw [upd_ne h.pp]; exact h.ob, by rw [upd_ne h.ne]; exact h.hi, by rw [upd_same], h.ne⟩
theorem TrAt.sM (h : TrAt C H p im pl dx by_ t ov fi) (x : Int) : TrAt C (upd H p (.ins C dx (putF "m" (.int x) (trF by_ im pl t ov fi)))) p im pl dx by_ { t with m := x } ov fi := h.setF trP_m rfl rfl
theorem TrAt.sK (h : TrAt C H p im pl dx by_ t ov fi) (x : Int) : TrAt C (upd H p (.ins C dx (putF "k" (.int x) (trF by_ im pl t ov fi)))) p im pl dx by_ { t with k := x } ov fi := h.setF trP_k rfl rfl
theorem TrAt.sN (h : TrAt C H p im pl dx by_ t ov fi) (x : Option Int) : TrAt C (upd H p (.ins C dx (putF "numeral" (numV x) (trF by_ im pl t ov fi)))) p im pl dx by_ { t with num := x } ov fi := h.setF trP_num rfl rfl
theorem TrAt.sW (h : TrAt C H p im pl dx by_ t ov fi) (x : Int) : TrAt C (upd H p (.ins C dx (putF "waiting" (waitV x) (trF by_ im pl t ov fi)))) p im pl dx by_ { t with wait := x } ov fi := h.setF trP_wait rfl rfl
theorem TrAt.sO (h : TrAt C H p im pl dx by_ t ov fi) (x : Bool) : TrAt C (upd H p (.ins C dx (putF "over" (.bl x) (trF by_ im pl t ov fi)))) p im pl dx by_ t x fi := h.setF trP_over rfl rfl
theorem TrAt.sD (h : TrAt C H p im pl dx by_ t ov fi) (x : Bool) : TrAt C (upd H p (.ins C dx (putF "finished" (.bl x) (trF by_ im pl t ov fi)))) p im pl dx by_ t ov x := h.setF trP_fin rfl rfl
end
abbrev CT (K : PySem.W.Frag) : Addr := He.ga K "Translator"
/-- from a Translator as t to one as t', with the value v; all else stays -/
def TrTo (C : Addr) (H : Hp) (p im pl dx : Addr) (by_ : Int) (t' : Tr) (ov fi : Bool) (v : V) (Q : VK) : Prop := ∀ H', TrAt C H' p im pl dx by_ t' ov fi → KeepL [p, im, pl] H H' → Q v H'
/-! ### popped, number, put_node -/
def sp_Translator_popped (K : PySem.W.Frag) : Sp := fun vs H Q _ => ∃ p im pl dx by_ t ov fi, vs = [.ref p] ∧ TrAt (CT K) H p im pl dx by_ t ov fi ∧ TrTo (CT K) H p im pl dx by_ { t with pile := t.pile.tail } ov fi (.int (t.pile.headD 0)) Q
theorem sc_Translator_popped : FnScope ["self"] ["self"] (defScope s_Translator_popped) := C8.fnScope_by (by decide +kernel)
def t_Translator_popped (K : PySem.W.Frag) : TS := (tSeq (tIfS (tNot (tTru K (tFld K (tVar 0) "pile"))) (tRet (tC (.int 0))) tNext) (tRet (tBM0 K "list" rPop (tFld K (tVar 0) "pile"))))
theorem d_Translator_popped {P : Program} {w : World} {K : PySem.W.Frag} {mg : Str → Option Value} {base : Heap} (T : Txt w K mg) (f : Addr) (cdv : Value) (A : Around) (outer : List Env) (s : Shared) (H : Hp) (E : XK) (hr : Room 0 (A.deeper (envOfC "Translator.popped" (defScope s_Translator_popped) s.heap.objs.size f cdv))) :
    PSs (Bx P w K mg base ["self"] "Translator.popped" s_Translator_popped f cdv A outer s H E) (defBody s_Translator_popped) (t_Translator_popped K) :=
  (pss_cons (ps_if (pt_not (pt_truth (pe_fld (pv 0) rfl) (by intro _; rfl))) (pss_one (ps_ret pe_int)) pss_nil) (pss_one (ps_ret (pe_bm0 PySem.F.plainAttrs_list PySem.F.slot_list_pop PySem.F.type_list_pop mt_pop (pe_fld (pv 0) rfl)))))
theorem l_Translator_popped {K : PySem.W.Frag} : ∀ vs H Q E, sp_Translator_popped K vs H Q E → vs.length = ["self"].length := by
  rintro vs H Q E ⟨_, _, _, _, _, _, _, _, rfl, _⟩
  rfl
theorem r_Translator_popped {w : World} {K : PySem.W.Frag} {mg : Str → Option Value} (T : Txt w K mg) : ∀ vs H Q E, sp_Translator_popped K vs H Q E → t_Translator_popped K { nx := fun _ H' => Q .non H', rt := Q } (start ["self"] vs) H := by
  rintro vs H Q E ⟨p, im, pl, dx, by_, t, ov, fi, rfl, h, k⟩
  obtain ⟨img, m, kk, pile, num, wait⟩ := t
  cases pile with
  | nil =>
    refine ⟨_, rfl, p, _, dx, _, _, rfl, h.ob, T.c_Translator, T.n_Translator_pile, trF_pile, false, .inl ⟨_, SqL.of h.hp, rfl⟩, iteT ?_⟩
    exact k H h KeepL.refl
  | cons x r =>
    refine ⟨_, rfl, p, _, dx, _, _, rfl, h.ob, T.c_Translator, T.n_Translator_pile, trF_pile, true, .inl ⟨_, SqL.of h.hp, by simp⟩, iteF ?_⟩
    refine ⟨_, rfl, p, _, dx, _, _, rfl, h.ob, T.c_Translator, T.n_Translator_pile, trF_pile, .inl ⟨rfl, _, SqL.of h.hp⟩, pl, _, _, rfl, rfl, h.hp, stk_top x r, ?_⟩
    rw [stk_pop]
    exact k _ (h.setP r) (KeepL.upd (by simp))
theorem m_Translator_popped {P : Program} {w : World} {K : PySem.W.Frag} {mg : Str → Option Value} {base : Heap} (T : Txt w K mg) : C8.Met P w K mg base 1 (He.ga K "Translator") "popped" (sp_Translator_popped K) [] := T.met 2 rfl T.c_Translator T.m_Translator_popped sc_Translator_popped (fun _ _ _ _ _ _ us hl => match us, hl with | [_], _ => rfl) l_Translator_popped (d_Translator_popped T) (r_Translator_popped T)
def sp_Translator_number (K : PySem.W.Frag) : Sp := fun vs H Q _ => ∃ p im pl dx by_ t ov fi, vs = [.ref p] ∧ TrAt (CT K) H p im pl dx by_ t ov fi ∧ TrTo (CT K) H p im pl dx by_ { t with k := t.k + by_ } ov fi (.int t.k) Q
theorem sc_Translator_number : FnScope ["self", "taken"] ["self"] (defScope s_Translator_number) := C8.fnScope_by (by decide +kernel)
def t_Translator_number (K : PySem.W.Frag) : TS := (tSeq (tAsg (tFld K (tVar 0) "k") (gName 1)) (tSeq (sFldAug K (tVar 0) (tFld K (tVar 0) "by") L2.rAdd "k") (tRet (tVar 1))))
theorem d_Translator_number {P : Program} {w : World} {K : PySem.W.Frag} {mg : Str → Option Value} {base : Heap} (T : Txt w K mg) (f : Addr) (cdv : Value) (A : Around) (outer : List Env) (s : Shared) (H : Hp) (E : XK) (hr : Room 0 (A.deeper (envOfC "Translator.number" (defScope s_Translator_number) s.heap.objs.size f cdv))) :
    PSs (Bx P w K mg base ["self", "taken"] "Translator.number" s_Translator_number f cdv A outer s H E) (defBody s_Translator_number) (t_Translator_number K) :=
  (pss_cons (ps_set (i := 1) sc_Translator_number.nd rfl (by first | exact Or.inl rfl | exact Or.inr rfl) (pe_fld (pv 0) rfl)) (pss_cons (ps_fldaug (pv 0) (pe_fld (pv 0) rfl) in_add) (pss_one (ps_ret (pv 1)))))
theorem l_Translator_number {K : PySem.W.Frag} : ∀ vs H Q E, sp_Translator_number K vs H Q E → vs.length = ["self"].length := by
  rintro vs H Q E ⟨_, _, _, _, _, _, _, _, rfl, _⟩
  rfl
theorem r_Translator_number {w : World} {K : PySem.W.Frag} {mg : Str → Option Value} (T : Txt w K mg) : ∀ vs H Q E, sp_Translator_number K vs H Q E → t_Translator_number K { nx := fun _ H' => Q .non H', rt := Q } (start ["self", "taken"] vs) H := by
  rintro vs H Q E ⟨p, im, pl, dx, by_, t, ov, fi, rfl, h, k⟩
  refine ⟨_, rfl, p, _, dx, _, _, rfl, h.ob, T.c_Translator, T.n_Translator_k, trF_k, ?_⟩
  refine ⟨_, rfl, p, _, dx, _, _, rfl, h.ob, T.c_Translator, T.n_Translator_k, trF_k, _, rfl, p, _, dx, _, _, rfl, h.ob, T.c_Translator, T.n_Translator_by, trF_by, _, _, rfl, rfl, dx, _, h.ob, trF_small, ?_⟩
  exact ⟨_, rfl, k _ (h.sK _) (KeepL.upd (by simp))⟩
theorem m_Translator_number {P : Program} {w : World} {K : PySem.W.Frag} {mg : Str → Option Value} {base : Heap} (T : Txt w K mg) : C8.Met P w K mg base 1 (He.ga K "Translator") "number" (sp_Translator_number K) [] := T.met 3 rfl T.c_Translator T.m_Translator_number sc_Translator_number (fun _ _ _ _ _ _ us hl => match us, hl with | [_], _ => rfl) l_Translator_number (d_Translator_number T) (r_Translator_number T)
def sp_Translator_put_node (K : PySem.W.Frag) : Sp := fun vs H Q _ => ∃ p im pl dx by_ t ov fi op arg nx, vs = [.ref p, .int op, .int arg, .int nx] ∧ TrAt (CT K) H p im pl dx by_ t ov fi ∧ t.img.length ≤ 100000 ∧ TrTo (CT K) H p im pl dx by_ { t with img := nx :: arg :: op :: t.m :: t.img } ov fi .non Q
theorem sc_Translator_put_node : FnScope ["self", "op", "arg", "successor"] ["self", "op", "arg", "successor"] (defScope s_Translator_put_node) := C8.fnScope_by (by decide +kernel)
def t_Translator_put_node (K : PySem.W.Frag) : TS := (tDrop (tBM K "list" rExtend (tFld K (tVar 0) "image") (tCons (tLst (tCons (tFld K (tVar 0) "m") (tCons (tVar 1) (tCons (tVar 2) (tCons (tVar 3) tNil))))) tNil)))
theorem d_Translator_put_node {P : Program} {w : World} {K : PySem.W.Frag} {mg : Str → Option Value} {base : Heap} (T : Txt w K mg) (f : Addr) (cdv : Value) (A : Around) (outer : List Env) (s : Shared) (H : Hp) (E : XK) (hr : Room 0 (A.deeper (envOfC "Translator.put_node" (defScope s_Translator_put_node) s.heap.objs.size f cdv))) :
    PSs (Bx P w K mg base ["self", "op", "arg", "successor"] "Translator.put_node" s_Translator_put_node f cdv A outer s H E) (defBody s_Translator_put_node) (t_Translator_put_node K) :=
  (pss_one (ps_expr (pe_bm PySem.F.plainAttrs_list PySem.F.slot_list_extend PySem.F.type_list_extend mt_extend (pe_fld (pv 0) rfl) (pa_cons (pe_lst (pa_cons (pe_fld (pv 0) rfl) (pa_cons (pv 1) (pa_cons (pv 2) (pa_cons (pv 3) pa_nil))))) pa_nil))))
theorem l_Translator_put_node {K : PySem.W.Frag} : ∀ vs H Q E, sp_Translator_put_node K vs H Q E → vs.length = ["self", "op", "arg", "successor"].length := by
  rintro vs H Q E ⟨_, _, _, _, _, _, _, _, _, _, _, rfl, _⟩
  rfl
theorem stk4 (l : List Int) (a b c d : Int) : l.reverse.map V.int ++ [V.int a, V.int b, V.int c, V.int d] = (d :: c :: b :: a :: l).reverse.map V.int := by simp
theorem line_of {n : Nat} (h : n ≤ 16000000) : n ≤ sizeLine := Nat.le_trans h (by decide)
theorem line_lt {n : Nat} (h : n ≤ 16000000) : n < sizeLine := Nat.lt_of_le_of_lt h (by decide)
theorem r_Translator_put_node {w : World} {K : PySem.W.Frag} {mg : Str → Option Value} (T : Txt w K mg) : ∀ vs H Q E, sp_Translator_put_node K vs H Q E → t_Translator_put_node K { nx := fun _ H' => Q .non H', rt := Q } (start ["self", "op", "arg", "successor"] vs) H := by
  rintro vs H Q E ⟨p, im, pl, dx, by_, t, ov, fi, op, arg, nx, rfl, h, hb, k⟩
  refine ⟨_, rfl, p, _, dx, _, _, rfl, h.ob, T.c_Translator, T.n_Translator_image, trF_image, .inl ⟨rfl, _, SqL.of h.hi⟩, ?_⟩
  refine ⟨_, rfl, p, _, dx, _, _, rfl, h.ob, T.c_Translator, T.n_Translator_m, trF_m, _, rfl, _, rfl, _, rfl, by show 4 ≤ sizeLine; decide, fun q hq => ?_⟩
  have h1 := h.new (o := .lst [.int t.m, .int op, .int arg, .int nx]) hq
  refine ⟨im, q, _, _, rfl, rfl, h1.hi, upd_same, line_of (by simp; omega), ?_⟩
  rw [stk4]
  exact k _ (h1.setI _) ((KeepL.new hq).trans (KeepL.upd (by simp)))
theorem m_Translator_put_node {P : Program} {w : World} {K : PySem.W.Frag} {mg : Str → Option Value} {base : Heap} (T : Txt w K mg) : C8.Met P w K mg base 1 (He.ga K "Translator") "put_node" (sp_Translator_put_node K) [] := T.met 4 rfl T.c_Translator T.m_Translator_put_node sc_Translator_put_node (fun _ _ _ _ _ _ us hl => match us, hl with | [_, _, _, _], _ => rfl) l_Translator_put_node (d_Translator_put_node T) (r_Translator_put_node T)
/-! ### emit, end_numeral, paired -/
def sp_Translator_emit (K : PySem.W.Frag) : Sp := fun vs H Q _ => ∃ p im pl dx by_ t ov fi op arg, vs = [.ref p, .int op, .int arg] ∧ TrAt (CT K) H p im pl dx by_ t ov fi ∧ t.img.length ≤ 100000 ∧ TrTo (CT K) H p im pl dx by_ (t.emit by_ op arg) ov fi .non Q
theorem sc_Translator_emit : FnScope ["self", "op", "arg"] ["self", "op", "arg"] (defScope s_Translator_emit) := C8.fnScope_by (by decide +kernel)
def t_Translator_emit (K : PySem.W.Frag) : TS := (tSeq (tDrop (tMeth (He.ga K "Translator") "put_node" (sp_Translator_put_node K) [] C8.E0 (tVar 0) (tCons (tVar 1) (tCons (tVar 2) (tCons (tFld K (tVar 0) "k") tNil))))) (sFld K (tVar 0) (tMeth (He.ga K "Translator") "number" (sp_Translator_number K) [] C8.E0 (tVar 0) tNil) "m"))
theorem d_Translator_emit {P : Program} {w : World} {K : PySem.W.Frag} {mg : Str → Option Value} {base : Heap} (T : Txt w K mg) (f : Addr) (cdv : Value) (A : Around) (outer : List Env) (s : Shared) (H : Hp) (E : XK) (hr : Room 1 (A.deeper (envOfC "Translator.emit" (defScope s_Translator_emit) s.heap.objs.size f cdv))) :
    PSs (Bx P w K mg base ["self", "op", "arg"] "Translator.emit" s_Translator_emit f cdv A outer s H E) (defBody s_Translator_emit) (t_Translator_emit K) :=
  (pss_cons (ps_expr (C8.pe_mt (m_Translator_put_node T) hr (by decide) (pv 0) (pa_cons (pv 1) (pa_cons (pv 2) (pa_cons (pe_fld (pv 0) rfl) pa_nil))))) (pss_one (ps_fld (pv 0) (C8.pe_mt0 (m_Translator_number T) hr (by decide) (pv 0)) rfl)))
theorem l_Translator_emit {K : PySem.W.Frag} : ∀ vs H Q E, sp_Translator_emit K vs H Q E → vs.length = ["self", "op", "arg"].length := by
  rintro vs H Q E ⟨_, _, _, _, _, _, _, _, _, _, rfl, _⟩
  rfl
theorem r_Translator_emit {w : World} {K : PySem.W.Frag} {mg : Str → Option Value} (T : Txt w K mg) : ∀ vs H Q E, sp_Translator_emit K vs H Q E → t_Translator_emit K { nx := fun _ H' => Q .non H', rt := Q } (start ["self", "op", "arg"] vs) H := by
  rintro vs H Q E ⟨p, im, pl, dx, by_, t, ov, fi, op, arg, rfl, h, hb, k⟩
  refine ⟨_, rfl, p, dx, _, rfl, h.ob, no_put_node, _, rfl, _, rfl, _, rfl, p, _, dx, _, _, rfl, h.ob, T.c_Translator, T.n_Translator_k, trF_k, p, im, pl, dx, by_, t, ov, fi, op, arg, t.k, rfl, h, hb, fun H1 h1 k1 => ?_⟩
  refine ⟨_, rfl, p, dx, _, rfl, h1.ob, no_number, p, im, pl, dx, by_, _, ov, fi, rfl, h1, fun H2 h2 k2 => ?_⟩
  refine ⟨_, rfl, p, _, dx, _, rfl, h2.ob, T.c_Translator, T.n_Translator_m, trF_small, ?_⟩
  exact k _ (h2.sM _) (k1.trans (k2.trans (KeepL.upd (by simp))))
theorem m_Translator_emit {P : Program} {w : World} {K : PySem.W.Frag} {mg : Str → Option Value} {base : Heap} (T : Txt w K mg) : C8.Met P w K mg base 2 (He.ga K "Translator") "emit" (sp_Translator_emit K) [] := T.met 5 rfl T.c_Translator T.m_Translator_emit sc_Translator_emit (fun _ _ _ _ _ _ us hl => match us, hl with | [_, _, _], _ => rfl) l_Translator_emit (d_Translator_emit T) (r_Translator_emit T)
def sp_Translator_end_numeral (K : PySem.W.Frag) : Sp := fun vs H Q _ => ∃ p im pl dx by_ t ov fi, vs = [.ref p] ∧ TrAt (CT K) H p im pl dx by_ t ov fi ∧ t.img.length ≤ 100000 ∧ TrTo (CT K) H p im pl dx by_ (t.endNum by_) ov fi .non Q
theorem sc_Translator_end_numeral : FnScope ["self"] ["self"] (defScope s_Translator_end_numeral) := C8.fnScope_by (by decide +kernel)
def t_Translator_end_numeral (K : PySem.W.Frag) : TS := (tIfS (tTest (tOp rNotN (tFld K (tVar 0) "numeral") (tC .non))) (tSeq (tDrop (tMeth (He.ga K "Translator") "emit" (sp_Translator_emit K) [] C8.E0 (tVar 0) (tCons (tC (.int 35)) (tCons (tFld K (tVar 0) "numeral") tNil)))) (sFld K (tVar 0) (tC .non) "numeral")) tNext)
theorem d_Translator_end_numeral {P : Program} {w : World} {K : PySem.W.Frag} {mg : Str → Option Value} {base : Heap} (T : Txt w K mg) (f : Addr) (cdv : Value) (A : Around) (outer : List Env) (s : Shared) (H : Hp) (E : XK) (hr : Room 2 (A.deeper (envOfC "Translator.end_numeral" (defScope s_Translator_end_numeral) s.heap.objs.size f cdv))) :
    PSs (Bx P w K mg base ["self"] "Translator.end_numeral" s_Translator_end_numeral f cdv A outer s H E) (defBody s_Translator_end_numeral) (t_Translator_end_numeral K) :=
  (pss_one (ps_if (pt_cmpR op_notN1 (pe_fld (pv 0) rfl) pe_non (nomark _)) (pss_cons (ps_expr (C8.pe_mt (m_Translator_emit T) hr (by decide) (pv 0) (pa_cons (pe_gint T.i_PUSH_translate rfl) (pa_cons (pe_fld (pv 0) rfl) pa_nil)))) (pss_one (ps_fld (pv 0) pe_non rfl))) pss_nil))
theorem l_Translator_end_numeral {K : PySem.W.Frag} : ∀ vs H Q E, sp_Translator_end_numeral K vs H Q E → vs.length = ["self"].length := by
  rintro vs H Q E ⟨_, _, _, _, _, _, _, _, rfl, _⟩
  rfl
theorem r_Translator_end_numeral {w : World} {K : PySem.W.Frag} {mg : Str → Option Value} (T : Txt w K mg) : ∀ vs H Q E, sp_Translator_end_numeral K vs H Q E → t_Translator_end_numeral K { nx := fun _ H' => Q .non H', rt := Q } (start ["self"] vs) H := by
  rintro vs H Q E ⟨p, im, pl, dx, by_, t, ov, fi, rfl, h, hb, k⟩
  obtain ⟨img, m, kk, pile, num, wait⟩ := t
  refine ⟨_, rfl, p, _, dx, _, _, rfl, h.ob, T.c_Translator, T.n_Translator_numeral, trF_numeral, rfl, _, rfl, ?_⟩
  cases num with
  | none => exact iteF (k H h KeepL.refl)
  | some v =>
    refine iteT ?_
    refine ⟨_, rfl, p, dx, _, rfl, h.ob, no_emit, _, rfl, p, _, dx, _, _, rfl, h.ob, T.c_Translator, T.n_Translator_numeral, trF_numeral, p, im, pl, dx, by_, _, ov, fi, 35, v, rfl, h, hb, fun H1 h1 k1 => ?_⟩
    refine ⟨_, rfl, p, _, dx, _, rfl, h1.ob, T.c_Translator, T.n_Translator_numeral, trF_small, ?_⟩
    exact k _ (h1.sN none) (k1.trans (KeepL.upd (by simp)))
theorem m_Translator_end_numeral {P : Program} {w : World} {K : PySem.W.Frag} {mg : Str → Option Value} {base : Heap} (T : Txt w K mg) : C8.Met P w K mg base 3 (He.ga K "Translator") "end_numeral" (sp_Translator_end_numeral K) [] := T.met 6 rfl T.c_Translator T.m_Translator_end_numeral sc_Translator_end_numeral (fun _ _ _ _ _ _ us hl => match us, hl with | [_], _ => rfl) l_Translator_end_numeral (d_Translator_end_numeral T) (r_Translator_end_numeral T)
theorem stk1 (l : List Int) (a : Int) : l.reverse.map V.int ++ [V.int a] = (a :: l).reverse.map V.int := by simp
def sp_Translator_paired (K : PySem.W.Frag) : Sp := fun vs H Q _ => ∃ p im pl dx by_ t ov fi c, vs = [.ref p, .int c] ∧ TrAt (CT K) H p im pl dx by_ t ov fi ∧ t.img.length ≤ 100000 ∧ t.pile.length ≤ 100000 ∧ t.wait ≠ 0 ∧ TrTo (CT K) H p im pl dx by_ (t.paired by_ c) ov fi .non Q
theorem sc_Translator_paired : FnScope ["self", "code", "sign"] ["self", "code"] (defScope s_Translator_paired) := C8.fnScope_by (by decide +kernel)
def t_Translator_paired (K : PySem.W.Frag) : TS := (tSeq (tAsg (tFld K (tVar 0) "waiting") (gName 2)) (tSeq (sFld K (tVar 0) (tC .non) "waiting") (tIfS (tTest (tOp rEq (tVar 2) (tC (.int 39)))) (tDrop (tMeth (He.ga K "Translator") "emit" (sp_Translator_emit K) [] C8.E0 (tVar 0) (tCons (tC (.int 35)) (tCons (tVar 1) tNil)))) (tIfS (tTest (tOp rEq (tVar 2) (tC (.int 61)))) (tDrop (tMeth (He.ga K "Translator") "emit" (sp_Translator_emit K) [] C8.E0 (tVar 0) (tCons (tC (.int 61)) (tCons (tVar 1) tNil)))) (tSeq (tDrop (tBM K "list" rAppend (tFld K (tVar 0) "pile") (tCons (tFld K (tVar 0) "m") tNil))) (sFld K (tVar 0) (tVar 1) "m"))))))
theorem d_Translator_paired {P : Program} {w : World} {K : PySem.W.Frag} {mg : Str → Option Value} {base : Heap} (T : Txt w K mg) (f : Addr) (cdv : Value) (A : Around) (outer : List Env) (s : Shared) (H : Hp) (E : XK) (hr : Room 2 (A.deeper (envOfC "Translator.paired" (defScope s_Translator_paired) s.heap.objs.size f cdv))) :
    PSs (Bx P w K mg base ["self", "code", "sign"] "Translator.paired" s_Translator_paired f cdv A outer s H E) (defBody s_Translator_paired) (t_Translator_paired K) :=
  (pss_cons (ps_set (i := 2) sc_Translator_paired.nd rfl (by first | exact Or.inl rfl | exact Or.inr rfl) (pe_fld (pv 0) rfl)) (pss_cons (ps_fld (pv 0) pe_non rfl) (pss_one (ps_if (pt_cmpR op_eq (pv 2) (pe_gint T.i_QUOTE rfl) (nomark _)) (pss_one (ps_expr (C8.pe_mt (m_Translator_emit T) hr (by decide) (pv 0) (pa_cons (pe_gint T.i_PUSH_translate rfl) (pa_cons (pv 1) pa_nil))))) (pss_one (ps_if (pt_cmpR op_eq (pv 2) (pe_gint T.i_ASSIGN rfl) (nomark _)) (pss_one (ps_expr (C8.pe_mt (m_Translator_emit T) hr (by decide) (pv 0) (pa_cons (pe_gint T.i_ASSIGN rfl) (pa_cons (pv 1) pa_nil))))) (pss_cons (ps_expr (pe_bm PySem.F.plainAttrs_list PySem.F.slot_list_append PySem.F.type_list_append mt_append (pe_fld (pv 0) rfl) (pa_cons (pe_fld (pv 0) rfl) pa_nil))) (pss_one (ps_fld (pv 0) (pv 1) rfl)))))))))
theorem l_Translator_paired {K : PySem.W.Frag} : ∀ vs H Q E, sp_Translator_paired K vs H Q E → vs.length = ["self", "code"].length := by
  rintro vs H Q E ⟨_, _, _, _, _, _, _, _, _, rfl, _⟩
  rfl
theorem int_eq_dec (a b : Int) : decide (V.int a = V.int b) = decide (a = b) := by
  by_cases h : a = b
  · rw [h]; simp
  · rw [decide_eq_false h, decide_eq_false fun z => h (V.int.inj z)]
theorem iteDT {p : Prop} [Decidable p] {A B : Prop} (h : p) (a : A) : if decide p = true then A else B := by rw [if_pos (decide_eq_true h)]; exact a
theorem iteDF {p : Prop} [Decidable p] {A B : Prop} (h : ¬ p) (b : B) : if decide p = true then A else B := by rw [if_neg (by simpa using h)]; exact b
theorem ieT {a b : Int} {A B : Prop} (h : a = b) (x : A) : if decide (V.int a = V.int b) = true then A else B := iteDT (by rw [h]) x
theorem ieF {a b : Int} {A B : Prop} (h : a ≠ b) (x : B) : if decide (V.int a = V.int b) = true then A else B := iteDF (fun z => h (V.int.inj z)) x
theorem r_Translator_paired {w : World} {K : PySem.W.Frag} {mg : Str → Option Value} (T : Txt w K mg) : ∀ vs H Q E, sp_Translator_paired K vs H Q E → t_Translator_paired K { nx := fun _ H' => Q .non H', rt := Q } (start ["self", "code", "sign"] vs) H := by
  rintro vs H Q E ⟨p, im, pl, dx, by_, t, ov, fi, c, rfl, h, hb, hb2, hw, k⟩
  obtain ⟨img, m, kk, pile, num, wait⟩ := t
  have ew : waitV wait = .int wait := if_neg hw
  refine ⟨_, rfl, p, _, dx, _, _, rfl, h.ob, T.c_Translator, T.n_Translator_waiting, trF_waiting, ?_⟩
  refine ⟨_, rfl, p, _, dx, _, rfl, h.ob, T.c_Translator, T.n_Translator_waiting, trF_small, ?_⟩
  have h1 := h.sW 0
  have k1 : KeepL [p, im, pl] H _ := KeepL.upd (a := p) (o := .ins (CT K) dx (putF "waiting" (waitV 0) (trF by_ im pl ⟨img, m, kk, pile, num, wait⟩ ov fi))) (by simp)
  show ∃ v, _ ∧ _
  refine ⟨waitV wait, rfl, ?_⟩
  rw [ew]
  refine ⟨rfl, _, rfl, ?_⟩
  by_cases e1 : wait = 39
  · subst e1
    refine ieT rfl ?_
    refine ⟨_, rfl, p, dx, _, rfl, h1.ob, no_emit, _, rfl, p, im, pl, dx, by_, _, ov, fi, 35, c, rfl, h1, hb, fun H2 h2 k2 => ?_⟩
    exact k _ h2 (k1.trans k2)
  · refine ieF e1 ?_
    refine ⟨_, rfl, rfl, _, rfl, ?_⟩
    by_cases e2 : wait = 61
    · subst e2
      refine ieT rfl ?_
      refine ⟨_, rfl, p, dx, _, rfl, h1.ob, no_emit, _, rfl, p, im, pl, dx, by_, _, ov, fi, 61, c, rfl, h1, hb, fun H2 h2 k2 => ?_⟩
      exact k _ h2 (k1.trans k2)
    · refine ieF e2 ?_
      refine ⟨_, rfl, p, _, dx, _, _, rfl, h1.ob, T.c_Translator, T.n_Translator_pile, trF_pile, .inl ⟨rfl, _, SqL.of h1.hp⟩, _, rfl, p, _, dx, _, _, rfl, h1.ob, T.c_Translator, T.n_Translator_m, trF_m, pl, _, _, rfl, rfl, h1.hp, line_lt (by simp; simp at hb2; omega), ?_⟩
      rw [stk1]
      have h2 := h1.setP (m :: pile)
      refine ⟨_, rfl, _, rfl, p, _, dx, _, rfl, h2.ob, T.c_Translator, T.n_Translator_m, trF_small, ?_⟩
      have et : (⟨img, m, kk, pile, num, wait⟩ : Tr).paired by_ c = ⟨img, c, kk, m :: pile, num, 0⟩ := by
        unfold Tr.paired
        rw [if_neg e1, if_neg e2]
      rw [et] at k
      exact k _ (h2.sM _) (k1.trans ((KeepL.upd (by simp)).trans (KeepL.upd (by simp))))
theorem m_Translator_paired {P : Program} {w : World} {K : PySem.W.Frag} {mg : Str → Option Value} {base : Heap} (T : Txt w K mg) : C8.Met P w K mg base 3 (He.ga K "Translator") "paired" (sp_Translator_paired K) [] := T.met 7 rfl T.c_Translator T.m_Translator_paired sc_Translator_paired (fun _ _ _ _ _ _ us hl => match us, hl with | [_, _], _ => rfl) l_Translator_paired (d_Translator_paired T) (r_Translator_paired T)
/-! ### bracket -/
def sp_Translator_bracket (K : PySem.W.Frag) : Sp := fun vs H Q _ => ∃ p im pl dx by_ t ov fi c, vs = [.ref p, .int c] ∧ TrAt (CT K) H p im pl dx by_ t ov fi ∧ t.img.length ≤ 99000 ∧ t.pile.length ≤ 99000 ∧ TrTo (CT K) H p im pl dx by_ (t.bracket by_ c) ov fi .non Q
theorem sc_Translator_bracket : FnScope ["self", "code", "other", "after", "start"] ["self", "code"] (defScope s_Translator_bracket) := C8.fnScope_by (by decide +kernel)
def t_Translator_bracket (K : PySem.W.Frag) : TS := (tIfS (tTest (tOp rEq (tVar 1) (tC (.int 91)))) (tSeq (tAsg (tMeth (He.ga K "Translator") "number" (sp_Translator_number K) [] C8.E0 (tVar 0) tNil) (gName 2)) (tSeq (tDrop (tBM K "list" rAppend (tFld K (tVar 0) "pile") (tCons (tVar 2) tNil))) (tDrop (tMeth (He.ga K "Translator") "emit" (sp_Translator_emit K) [] C8.E0 (tVar 0) (tCons (tC (.int 63)) (tCons (tVar 2) tNil)))))) (tIfS (tTest (tOp rEq (tVar 1) (tC (.int 124)))) (tSeq (tAsg (tMeth (He.ga K "Translator") "number" (sp_Translator_number K) [] C8.E0 (tVar 0) tNil) (gName 3)) (tSeq (tDrop (tMeth (He.ga K "Translator") "put_node" (sp_Translator_put_node K) [] C8.E0 (tVar 0) (tCons (tC (.int 32)) (tCons (tC (.int 0)) (tCons (tVar 3) tNil))))) (tSeq (sFld K (tVar 0) (tMeth (He.ga K "Translator") "popped" (sp_Translator_popped K) [] C8.E0 (tVar 0) tNil) "m") (tDrop (tBM K "list" rAppend (tFld K (tVar 0) "pile") (tCons (tVar 3) tNil)))))) (tIfS (tTest (tOp rEq (tVar 1) (tC (.int 93)))) (tSeq (tAsg (tMeth (He.ga K "Translator") "popped" (sp_Translator_popped K) [] C8.E0 (tVar 0) tNil) (gName 3)) (tSeq (tDrop (tMeth (He.ga K "Translator") "put_node" (sp_Translator_put_node K) [] C8.E0 (tVar 0) (tCons (tC (.int 32)) (tCons (tC (.int 0)) (tCons (tVar 3) tNil))))) (sFld K (tVar 0) (tVar 3) "m"))) (tIfS (tTest (tOp rEq (tVar 1) (tC (.int 123)))) (tSeq (tAsg (tMeth (He.ga K "Translator") "number" (sp_Translator_number K) [] C8.E0 (tVar 0) tNil) (gName 4)) (tSeq (tDrop (tMeth (He.ga K "Translator") "put_node" (sp_Translator_put_node K) [] C8.E0 (tVar 0) (tCons (tC (.int 32)) (tCons (tC (.int 0)) (tCons (tVar 4) tNil))))) (tSeq (sFld K (tVar 0) (tVar 4) "m") (tDrop (tBM K "list" rAppend (tFld K (tVar 0) "pile") (tCons (tVar 4) tNil)))))) (tSeq (tAsg (tMeth (He.ga K "Translator") "popped" (sp_Translator_popped K) [] C8.E0 (tVar 0) tNil) (gName 4)) (tSeq (tAsg (tMeth (He.ga K "Translator") "number" (sp_Translator_number K) [] C8.E0 (tVar 0) tNil) (gName 3)) (tSeq (tDrop (tMeth (He.ga K "Translator") "put_node" (sp_Translator_put_node K) [] C8.E0 (tVar 0) (tCons (tC (.int 63)) (tCons (tVar 3) (tCons (tVar 4) tNil))))) (sFld K (tVar 0) (tVar 3) "m"))))))))
theorem d_Translator_bracket {P : Program} {w : World} {K : PySem.W.Frag} {mg : Str → Option Value} {base : Heap} (T : Txt w K mg) (f : Addr) (cdv : Value) (A : Around) (outer : List Env) (s : Shared) (H : Hp) (E : XK) (hr : Room 2 (A.deeper (envOfC "Translator.bracket" (defScope s_Translator_bracket) s.heap.objs.size f cdv))) :
    PSs (Bx P w K mg base ["self", "code", "other", "after", "start"] "Translator.bracket" s_Translator_bracket f cdv A outer s H E) (defBody s_Translator_bracket) (t_Translator_bracket K) :=
  (pss_one (ps_if (pt_cmpR op_eq (pv 1) pe_int (nomark _)) (pss_cons (ps_set (i := 2) sc_Translator_bracket.nd rfl (by first | exact Or.inl rfl | exact Or.inr rfl) (C8.pe_mt0 (m_Translator_number T) hr (by decide) (pv 0))) (pss_cons (ps_expr (pe_bm PySem.F.plainAttrs_list PySem.F.slot_list_append PySem.F.type_list_append mt_append (pe_fld (pv 0) rfl) (pa_cons (pv 2) pa_nil))) (pss_one (ps_expr (C8.pe_mt (m_Translator_emit T) hr (by decide) (pv 0) (pa_cons (pe_gint T.i_TEST_translate rfl) (pa_cons (pv 2) pa_nil))))))) (pss_one (ps_if (pt_cmpR op_eq (pv 1) pe_int (nomark _)) (pss_cons (ps_set (i := 3) sc_Translator_bracket.nd rfl (by first | exact Or.inl rfl | exact Or.inr rfl) (C8.pe_mt0 (m_Translator_number T) hr (by decide) (pv 0))) (pss_cons (ps_expr (C8.pe_mt (m_Translator_put_node T) hr (by decide) (pv 0) (pa_cons (pe_gint T.i_BLANK rfl) (pa_cons pe_int (pa_cons (pv 3) pa_nil))))) (pss_cons (ps_fld (pv 0) (C8.pe_mt0 (m_Translator_popped T) hr (by decide) (pv 0)) rfl) (pss_one (ps_expr (pe_bm PySem.F.plainAttrs_list PySem.F.slot_list_append PySem.F.type_list_append mt_append (pe_fld (pv 0) rfl) (pa_cons (pv 3) pa_nil))))))) (pss_one (ps_if (pt_cmpR op_eq (pv 1) pe_int (nomark _)) (pss_cons (ps_set (i := 3) sc_Translator_bracket.nd rfl (by first | exact Or.inl rfl | exact Or.inr rfl) (C8.pe_mt0 (m_Translator_popped T) hr (by decide) (pv 0))) (pss_cons (ps_expr (C8.pe_mt (m_Translator_put_node T) hr (by decide) (pv 0) (pa_cons (pe_gint T.i_BLANK rfl) (pa_cons pe_int (pa_cons (pv 3) pa_nil))))) (pss_one (ps_fld (pv 0) (pv 3) rfl)))) (pss_one (ps_if (pt_cmpR op_eq (pv 1) pe_int (nomark _)) (pss_cons (ps_set (i := 4) sc_Translator_bracket.nd rfl (by first | exact Or.inl rfl | exact Or.inr rfl) (C8.pe_mt0 (m_Translator_number T) hr (by decide) (pv 0))) (pss_cons (ps_expr (C8.pe_mt (m_Translator_put_node T) hr (by decide) (pv 0) (pa_cons (pe_gint T.i_BLANK rfl) (pa_cons pe_int (pa_cons (pv 4) pa_nil))))) (pss_cons (ps_fld (pv 0) (pv 4) rfl) (pss_one (ps_expr (pe_bm PySem.F.plainAttrs_list PySem.F.slot_list_append PySem.F.type_list_append mt_append (pe_fld (pv 0) rfl) (pa_cons (pv 4) pa_nil))))))) (pss_cons (ps_set (i := 4) sc_Translator_bracket.nd rfl (by first | exact Or.inl rfl | exact Or.inr rfl) (C8.pe_mt0 (m_Translator_popped T) hr (by decide) (pv 0))) (pss_cons (ps_set (i := 3) sc_Translator_bracket.nd rfl (by first | exact Or.inl rfl | exact Or.inr rfl) (C8.pe_mt0 (m_Translator_number T) hr (by decide) (pv 0))) (pss_cons (ps_expr (C8.pe_mt (m_Translator_put_node T) hr (by decide) (pv 0) (pa_cons (pe_gint T.i_TEST_translate rfl) (pa_cons (pv 3) (pa_cons (pv 4) pa_nil))))) (pss_one (ps_fld (pv 0) (pv 3) rfl)))))))))))))
theorem l_Translator_bracket {K : PySem.W.Frag} : ∀ vs H Q E, sp_Translator_bracket K vs H Q E → vs.length = ["self", "code"].length := by
  rintro vs H Q E ⟨_, _, _, _, _, _, _, _, _, rfl, _⟩
  rfl
theorem r_Translator_bracket {w : World} {K : PySem.W.Frag} {mg : Str → Option Value} (T : Txt w K mg) : ∀ vs H Q E, sp_Translator_bracket K vs H Q E → t_Translator_bracket K { nx := fun _ H' => Q .non H', rt := Q } (start ["self", "code", "other", "after", "start"] vs) H := by
  rintro vs H Q E ⟨p, im, pl, dx, by_, t, ov, fi, c, rfl, h, hb, hb2, k⟩
  obtain ⟨img, m, kk, pile, num, wait⟩ := t
  simp only at hb hb2
  refine ⟨_, rfl, rfl, _, rfl, ?_⟩
  by_cases e1 : c = 91
  · subst e1
    refine ieT rfl ?_
    refine ⟨_, rfl, p, dx, _, rfl, h.ob, no_number, p, im, pl, dx, by_, _, ov, fi, rfl, h, fun H1 h1 k1 => ?_⟩
    refine ⟨_, rfl, p, _, dx, _, _, rfl, h1.ob, T.c_Translator, T.n_Translator_pile, trF_pile, .inl ⟨rfl, _, SqL.of h1.hp⟩, _, rfl, pl, _, _, rfl, rfl, h1.hp, line_lt (by simp; omega), ?_⟩
    rw [stk1]
    have h2 := h1.setP (kk :: pile)
    refine ⟨_, rfl, p, dx, _, rfl, h2.ob, no_emit, _, rfl, p, im, pl, dx, by_, _, ov, fi, 63, kk, rfl, h2, by show img.length ≤ 100000; omega, fun H3 h3 k3 => ?_⟩
    exact k _ h3 (k1.trans ((KeepL.upd (by simp)).trans k3))
  · refine ieF e1 ⟨_, rfl, rfl, _, rfl, ?_⟩
    by_cases e2 : c = 124
    · subst e2
      refine ieT rfl ?_
      refine ⟨_, rfl, p, dx, _, rfl, h.ob, no_number, p, im, pl, dx, by_, _, ov, fi, rfl, h, fun H1 h1 k1 => ?_⟩
      refine ⟨_, rfl, p, dx, _, rfl, h1.ob, no_put_node, _, rfl, p, im, pl, dx, by_, _, ov, fi, 32, 0, kk, rfl, h1, by show img.length ≤ 100000; omega, fun H2 h2 k2 => ?_⟩
      refine ⟨_, rfl, p, dx, _, rfl, h2.ob, no_popped, p, im, pl, dx, by_, _, ov, fi, rfl, h2, fun H3 h3 k3 => ?_⟩
      refine ⟨_, rfl, p, _, dx, _, rfl, h3.ob, T.c_Translator, T.n_Translator_m, trF_small, ?_⟩
      have h4 := h3.sM (pile.headD 0)
      refine ⟨_, rfl, p, _, dx, _, _, rfl, h4.ob, T.c_Translator, T.n_Translator_pile, trF_pile, .inl ⟨rfl, _, SqL.of h4.hp⟩, _, rfl, pl, _, _, rfl, rfl, h4.hp, line_lt (by simp; omega), ?_⟩
      rw [stk1]
      exact k _ (h4.setP _) (k1.trans (k2.trans (k3.trans ((KeepL.upd (by simp)).trans (KeepL.upd (by simp))))))
    · refine ieF e2 ⟨_, rfl, rfl, _, rfl, ?_⟩
      by_cases e3 : c = 93
      · subst e3
        refine ieT rfl ?_
        refine ⟨_, rfl, p, dx, _, rfl, h.ob, no_popped, p, im, pl, dx, by_, _, ov, fi, rfl, h, fun H1 h1 k1 => ?_⟩
        refine ⟨_, rfl, p, dx, _, rfl, h1.ob, no_put_node, _, rfl, p, im, pl, dx, by_, _, ov, fi, 32, 0, pile.headD 0, rfl, h1, by show img.length ≤ 100000; omega, fun H2 h2 k2 => ?_⟩
        refine ⟨_, rfl, _, rfl, p, _, dx, _, rfl, h2.ob, T.c_Translator, T.n_Translator_m, trF_small, ?_⟩
        exact k _ (h2.sM (pile.headD 0)) (k1.trans (k2.trans (KeepL.upd (by simp))))
      · refine ieF e3 ⟨_, rfl, rfl, _, rfl, ?_⟩
        by_cases e4 : c = 123
        · subst e4
          refine ieT rfl ?_
          refine ⟨_, rfl, p, dx, _, rfl, h.ob, no_number, p, im, pl, dx, by_, _, ov, fi, rfl, h, fun H1 h1 k1 => ?_⟩
          refine ⟨_, rfl, p, dx, _, rfl, h1.ob, no_put_node, _, rfl, p, im, pl, dx, by_, _, ov, fi, 32, 0, kk, rfl, h1, by show img.length ≤ 100000; omega, fun H2 h2 k2 => ?_⟩
          refine ⟨_, rfl, _, rfl, p, _, dx, _, rfl, h2.ob, T.c_Translator, T.n_Translator_m, trF_small, ?_⟩
          have h3 := h2.sM (kk)
          refine ⟨_, rfl, p, _, dx, _, _, rfl, h3.ob, T.c_Translator, T.n_Translator_pile, trF_pile, .inl ⟨rfl, _, SqL.of h3.hp⟩, _, rfl, pl, _, _, rfl, rfl, h3.hp, line_lt (by simp; omega), ?_⟩
          rw [stk1]
          exact k _ (h3.setP _) (k1.trans (k2.trans ((KeepL.upd (by simp)).trans (KeepL.upd (by simp)))))
        · refine ieF e4 ?_
          refine ⟨_, rfl, p, dx, _, rfl, h.ob, no_popped, p, im, pl, dx, by_, _, ov, fi, rfl, h, fun H1 h1 k1 => ?_⟩
          refine ⟨_, rfl, p, dx, _, rfl, h1.ob, no_number, p, im, pl, dx, by_, _, ov, fi, rfl, h1, fun H2 h2 k2 => ?_⟩
          refine ⟨_, rfl, p, dx, _, rfl, h2.ob, no_put_node, _, rfl, _, rfl, p, im, pl, dx, by_, _, ov, fi, 63, kk, pile.headD 0, rfl, h2, by show img.length ≤ 100000; omega, fun H3 h3 k3 => ?_⟩
          refine ⟨_, rfl, _, rfl, p, _, dx, _, rfl, h3.ob, T.c_Translator, T.n_Translator_m, trF_small, ?_⟩
          have et : (⟨img, m, kk, pile, num, wait⟩ : Tr).bracket by_ c = ⟨pile.headD 0 :: kk :: 63 :: m :: img, kk, kk + by_, pile.tail, num, wait⟩ := by
            unfold Tr.bracket
            rw [if_neg e1, if_neg e2, if_neg e3, if_neg e4]
          rw [et] at k
          exact k _ (h3.sM (kk)) (k1.trans (k2.trans (k3.trans (KeepL.upd (by simp)))))
theorem m_Translator_bracket {P : Program} {w : World} {K : PySem.W.Frag} {mg : Str → Option Value} {base : Heap} (T : Txt w K mg) : C8.Met P w K mg base 3 (He.ga K "Translator") "bracket" (sp_Translator_bracket K) [] := T.met 8 rfl T.c_Translator T.m_Translator_bracket sc_Translator_bracket (fun _ _ _ _ _ _ us hl => match us, hl with | [_, _], _ => rfl) l_Translator_bracket (d_Translator_bracket T) (r_Translator_bracket T)
/-! ### sign -/
theorem ibT {a : Prop} [Decidable a] {A B : Prop} (h : a) (x : A) : if (decide a) = true then A else B := iteDT h x
def sp_Translator_sign (K : PySem.W.Frag) : Sp := fun vs H Q _ => ∃ p im pl dx by_ t ov fi c, vs = [.ref p, .int c] ∧ TrAt (CT K) H p im pl dx by_ t ov fi ∧ t.img.length ≤ 98000 ∧ t.pile.length ≤ 98000 ∧ TrTo (CT K) H p im pl dx by_ (t.sign by_ c) ov fi .non Q
theorem sc_Translator_sign : FnScope ["self", "code"] ["self", "code"] (defScope s_Translator_sign) := C8.fnScope_by (by decide +kernel)
def t_Translator_sign (K : PySem.W.Frag) : TS := (tSeq (tIfS (tTest (tOp rLeI (tVar 1) (tC (.int 32)))) tRetN tNext) (tIfS (tOr (tTest (tOp rEq (tVar 1) (tC (.int 39)))) (tOr (tTest (tOp rEq (tVar 1) (tC (.int 61)))) (tTest (tOp rEq (tVar 1) (tC (.int 58)))))) (sFld K (tVar 0) (tVar 1) "waiting") (tIfS (tOr (tTest (tOp rEq (tVar 1) (tC (.int 91)))) (tOr (tTest (tOp rEq (tVar 1) (tC (.int 93)))) (tTest (tChain rLeI rLeI (tC (.int 123)) (tVar 1) (tC (.int 125)))))) (tDrop (tMeth (He.ga K "Translator") "bracket" (sp_Translator_bracket K) [] C8.E0 (tVar 0) (tCons (tVar 1) tNil))) (tIfS (tTest (tOp rEq (tVar 1) (tC (.int 59)))) (tSeq (tDrop (tMeth (He.ga K "Translator") "put_node" (sp_Translator_put_node K) [] C8.E0 (tVar 0) (tCons (tC (.int 41)) (tCons (tC (.int 0)) (tCons (tC (.int 1)) tNil))))) (sFld K (tVar 0) (tMeth (He.ga K "Translator") "popped" (sp_Translator_popped K) [] C8.E0 (tVar 0) tNil) "m")) (tDrop (tMeth (He.ga K "Translator") "emit" (sp_Translator_emit K) [] C8.E0 (tVar 0) (tCons (tVar 1) (tCons (tC (.int 0)) tNil))))))))
theorem d_Translator_sign {P : Program} {w : World} {K : PySem.W.Frag} {mg : Str → Option Value} {base : Heap} (T : Txt w K mg) (f : Addr) (cdv : Value) (A : Around) (outer : List Env) (s : Shared) (H : Hp) (E : XK) (hr : Room 3 (A.deeper (envOfC "Translator.sign" (defScope s_Translator_sign) s.heap.objs.size f cdv))) :
    PSs (Bx P w K mg base ["self", "code"] "Translator.sign" s_Translator_sign f cdv A outer s H E) (defBody s_Translator_sign) (t_Translator_sign K) :=
  (pss_cons (ps_if (pt_cmpR op_le (pv 1) (pe_gint T.i_BLANK rfl) (nomark _)) (pss_one ps_retN) pss_nil) (pss_one (ps_if (PW.pt (pw_or (pt_cmpR op_eq (pv 1) (pe_gint T.i_QUOTE rfl) (nomark _)) (pw_or (pt_cmpR op_eq (pv 1) (pe_gint T.i_ASSIGN rfl) (nomark _)) (pw_or1 (pt_cmpR op_eq (pv 1) (pe_gint T.i_COLON rfl) (nomark _)))))) (pss_one (ps_fld (pv 0) (pv 1) rfl)) (pss_one (ps_if (PW.pt (pw_or (pt_cmpR op_eq (pv 1) pe_int (nomark _)) (pw_or (pt_cmpR op_eq (pv 1) pe_int (nomark _)) (pw_or1 (pt_chain op_le op_le pe_int (pv 1) pe_int))))) (pss_one (ps_expr (C8.pe_mt (m_Translator_bracket T) hr (by decide) (pv 0) (pa_cons (pv 1) pa_nil)))) (pss_one (ps_if (pt_cmpR op_eq (pv 1) (pe_gint T.i_SEMICOLON rfl) (nomark _)) (pss_cons (ps_expr (C8.pe_mt (m_Translator_put_node T) hr (by decide) (pv 0) (pa_cons (pe_gint T.i_RETURN_translate rfl) (pa_cons pe_int (pa_cons pe_int pa_nil))))) (pss_one (ps_fld (pv 0) (C8.pe_mt0 (m_Translator_popped T) hr (by decide) (pv 0)) rfl))) (pss_one (ps_expr (C8.pe_mt (m_Translator_emit T) hr (by decide) (pv 0) (pa_cons (pv 1) (pa_cons pe_int pa_nil))))))))))))
theorem l_Translator_sign {K : PySem.W.Frag} : ∀ vs H Q E, sp_Translator_sign K vs H Q E → vs.length = ["self", "code"].length := by
  rintro vs H Q E ⟨_, _, _, _, _, _, _, _, _, rfl, _⟩
  rfl
theorem r_Translator_sign {w : World} {K : PySem.W.Frag} {mg : Str → Option Value} (T : Txt w K mg) : ∀ vs H Q E, sp_Translator_sign K vs H Q E → t_Translator_sign K { nx := fun _ H' => Q .non H', rt := Q } (start ["self", "code"] vs) H := by
  rintro vs H Q E ⟨p, im, pl, dx, by_, t, ov, fi, c, rfl, h, hb, hb2, k⟩
  refine ⟨_, rfl, _, _, rfl, rfl, _, rfl, ?_⟩
  unfold Tr.sign at k
  by_cases e0 : c ≤ 32
  · rw [if_pos e0] at k
    exact iteDT e0 (k H h KeepL.refl)
  · rw [if_neg e0] at k
    refine iteDF e0 ?_
    have wq : ∀ x : Int, c = x → (x = 39 ∨ x = 61 ∨ x = 58) → TrTo (CT K) H p im pl dx by_ { t with wait := c } ov fi .non Q → sFld K (tVar 0) (tVar 1) "waiting" { nx := fun _ H' => Q .non H', rt := Q } (start ["self", "code"] [.ref p, .int c]) H := fun x ex hx k => by
      refine ⟨_, rfl, _, rfl, p, _, dx, _, rfl, h.ob, T.c_Translator, T.n_Translator_waiting, trF_small, ?_⟩
      have ec : (V.int c) = waitV c := by
        unfold waitV
        rw [if_neg (by omega)]
      show Q .non _
      rw [ec]
      exact k _ (h.sW _) (KeepL.upd (by simp))
    refine ⟨_, rfl, rfl, _, rfl, ?_⟩
    by_cases e1 : c = 39
    · refine ieT e1 (iteT ?_)
      rw [if_pos (.inl e1)] at k
      exact wq _ e1 (.inl rfl) k
    · refine ieF e1 ⟨_, rfl, rfl, _, rfl, ?_⟩
      by_cases e2 : c = 61
      · refine ieT e2 (iteT ?_)
        rw [if_pos (.inr (.inl e2))] at k
        exact wq _ e2 (.inr (.inl rfl)) k
      · refine ieF e2 ⟨_, rfl, rfl, _, rfl, ?_⟩
        by_cases e3 : c = 58
        · refine ieT e3 ?_
          rw [if_pos (.inr (.inr e3))] at k
          exact wq _ e3 (.inr (.inr rfl)) k
        · refine ieF e3 ?_
          rw [if_neg (by omega)] at k
          have br : TrTo (CT K) H p im pl dx by_ (t.bracket by_ c) ov fi .non Q → tDrop (tMeth (He.ga K "Translator") "bracket" (sp_Translator_bracket K) [] C8.E0 (tVar 0) (tCons (tVar 1) tNil)) { nx := fun _ H' => Q .non H', rt := Q } (start ["self", "code"] [.ref p, .int c]) H := fun k =>
            ⟨_, rfl, p, dx, _, rfl, h.ob, no_bracket, _, rfl, p, im, pl, dx, by_, _, ov, fi, c, rfl, h, by omega, by omega, k⟩
          refine ⟨_, rfl, rfl, _, rfl, ?_⟩
          by_cases f1 : c = 91
          · refine ieT f1 (iteT ?_)
            rw [if_pos (.inl f1)] at k
            exact br k
          · refine ieF f1 ⟨_, rfl, rfl, _, rfl, ?_⟩
            by_cases f2 : c = 93
            · refine ieT f2 (iteT ?_)
              rw [if_pos (.inr (.inl f2))] at k
              exact br k
            · refine ieF f2 ⟨_, rfl, _, _, rfl, rfl, _, rfl, ?_⟩
              have rest : ¬ (123 ≤ c ∧ c ≤ 125) → tIfS (tTest (tOp rEq (tVar 1) (tC (.int 59)))) (tSeq (tDrop (tMeth (He.ga K "Translator") "put_node" (sp_Translator_put_node K) [] C8.E0 (tVar 0) (tCons (tC (.int 41)) (tCons (tC (.int 0)) (tCons (tC (.int 1)) tNil))))) (sFld K (tVar 0) (tMeth (He.ga K "Translator") "popped" (sp_Translator_popped K) [] C8.E0 (tVar 0) tNil) "m")) (tDrop (tMeth (He.ga K "Translator") "emit" (sp_Translator_emit K) [] C8.E0 (tVar 0) (tCons (tVar 1) (tCons (tC (.int 0)) tNil)))) { nx := fun _ H' => Q .non H', rt := Q } (start ["self", "code"] [.ref p, .int c]) H := fun f3 => by
                rw [if_neg (by omega)] at k
                refine ⟨_, rfl, rfl, _, rfl, ?_⟩
                by_cases f4 : c = 59
                · refine ieT f4 ?_
                  rw [if_pos f4] at k
                  refine ⟨_, rfl, p, dx, _, rfl, h.ob, no_put_node, p, im, pl, dx, by_, t, ov, fi, 41, 0, 1, rfl, h, by omega, fun H1 h1 k1 => ?_⟩
                  refine ⟨_, rfl, p, dx, _, rfl, h1.ob, no_popped, p, im, pl, dx, by_, _, ov, fi, rfl, h1, fun H2 h2 k2 => ?_⟩
                  refine ⟨_, rfl, p, _, dx, _, rfl, h2.ob, T.c_Translator, T.n_Translator_m, trF_small, ?_⟩
                  exact k _ (h2.sM _) (k1.trans (k2.trans (KeepL.upd (by simp))))
                · refine ieF f4 ?_
                  rw [if_neg f4] at k
                  exact ⟨_, rfl, p, dx, _, rfl, h.ob, no_emit, _, rfl, p, im, pl, dx, by_, t, ov, fi, c, 0, rfl, h, by omega, k⟩
              by_cases g1 : 123 ≤ c
              · refine iteDT g1 ⟨_, _, rfl, rfl, _, rfl, ?_⟩
                by_cases g2 : c ≤ 125
                · refine iteDT g2 ?_
                  rw [if_pos (.inr (.inr ⟨g1, g2⟩))] at k
                  exact br k
                · exact iteDF g2 (rest fun z => g2 z.2)
              · exact iteDF g1 ⟨_, rfl, iteF (rest fun z => g1 z.1)⟩
theorem m_Translator_sign {P : Program} {w : World} {K : PySem.W.Frag} {mg : Str → Option Value} {base : Heap} (T : Txt w K mg) : C8.Met P w K mg base 4 (He.ga K "Translator") "sign" (sp_Translator_sign K) [] := T.met 9 rfl T.c_Translator T.m_Translator_sign sc_Translator_sign (fun _ _ _ _ _ _ us hl => match us, hl with | [_, _], _ => rfl) l_Translator_sign (d_Translator_sign T) (r_Translator_sign T)
end Pl

set_option Elab.async false
set_option linter.all false
set_option maxRecDepth 100000
set_option maxHeartbeats 4000000
namespace Pl
open PySem PySem.Spec PyProof.Rows L2
/-! ### take -/
theorem waitV_non (c : Int) : decide (waitV c = V.non) = decide (c = 0) := by
  unfold waitV
  by_cases h : c = 0
  · rw [if_pos h]; simp [h]
  · rw [if_neg h]; simp [h]
theorem iteND {p : Prop} [Decidable p] {A B : Prop} (h : ¬ p) (a : A) : if (!decide p) = true then A else B := by rw [if_pos (by simpa using h)]; exact a
theorem iteNT {p : Prop} [Decidable p] {A B : Prop} (h : p) (b : B) : if (!decide p) = true then A else B := by rw [if_neg (by simpa using h)]; exact b
def sp_Translator_take (K : PySem.W.Frag) : Sp := fun vs H Q _ => ∃ p im pl dx by_ t fi c, vs = [.ref p, .int c] ∧ TrAt (CT K) H p im pl dx by_ t false fi ∧ t.img.length ≤ 97000 ∧ t.pile.length ≤ 97000 ∧ 0 ≤ c ∧ TrTo (CT K) H p im pl dx by_ (t.take by_ c) false fi .non Q
theorem sc_Translator_take : FnScope ["self", "code", "value"] ["self", "code"] (defScope s_Translator_take) := C8.fnScope_by (by decide +kernel)
def t_Translator_take (K : PySem.W.Frag) : TS := (tSeq (tIfS (tB (tFld K (tVar 0) "over")) tRetN tNext) (tIfS (tTest (tOp rLtI (tVar 1) (tC (.int 0)))) (sFld K (tVar 0) (tC (.bl true)) "over") (tIfS (tTest (tOp rNotN (tFld K (tVar 0) "waiting") (tC .non))) (tDrop (tMeth (He.ga K "Translator") "paired" (sp_Translator_paired K) [] C8.E0 (tVar 0) (tCons (tVar 1) tNil))) (tIfS (tTest (tChain rLeI rLeI (tC (.int 48)) (tVar 1) (tC (.int 57)))) (tSeq (tAsg (tC (.int 0)) (gName 2)) (tSeq (tIfS (tTest (tOp rNotN (tFld K (tVar 0) "numeral") (tC .non))) (tAsg (tFld K (tVar 0) "numeral") (gName 2)) tNext) (sFld K (tVar 0) (tOp rSubI (tOp rAddI (tOp rMulI (tC (.int 10)) (tVar 2)) (tVar 1)) (tC (.int 48))) "numeral"))) (tSeq (tDrop (tMeth (He.ga K "Translator") "end_numeral" (sp_Translator_end_numeral K) [] C8.E0 (tVar 0) tNil)) (tDrop (tMeth (He.ga K "Translator") "sign" (sp_Translator_sign K) [] C8.E0 (tVar 0) (tCons (tVar 1) tNil))))))))
theorem d_Translator_take {P : Program} {w : World} {K : PySem.W.Frag} {mg : Str → Option Value} {base : Heap} (T : Txt w K mg) (f : Addr) (cdv : Value) (A : Around) (outer : List Env) (s : Shared) (H : Hp) (E : XK) (hr : Room 4 (A.deeper (envOfC "Translator.take" (defScope s_Translator_take) s.heap.objs.size f cdv))) :
    PSs (Bx P w K mg base ["self", "code", "value"] "Translator.take" s_Translator_take f cdv A outer s H E) (defBody s_Translator_take) (t_Translator_take K) :=
  (pss_cons (ps_if (pt_val (pe_fld (pv 0) rfl)) (pss_one ps_retN) pss_nil) (pss_one (ps_if (pt_cmpR op_lt (pv 1) pe_int (nomark _)) (pss_one (ps_fld (pv 0) pe_bl rfl)) (pss_one (ps_if (pt_cmpR op_notN1 (pe_fld (pv 0) rfl) pe_non (nomark _)) (pss_one (ps_expr (C8.pe_mt (m_Translator_paired T) hr (by decide) (pv 0) (pa_cons (pv 1) pa_nil)))) (pss_one (ps_if (pt_chain op_le op_le pe_int (pv 1) pe_int) (pss_cons (ps_set (i := 2) sc_Translator_take.nd rfl (by first | exact Or.inl rfl | exact Or.inr rfl) pe_int) (pss_cons (ps_if (pt_cmpR op_notN1 (pe_fld (pv 0) rfl) pe_non (nomark _)) (pss_one (ps_set (i := 2) sc_Translator_take.nd rfl (by first | exact Or.inl rfl | exact Or.inr rfl) (pe_fld (pv 0) rfl))) pss_nil) (pss_one (ps_fld (pv 0) (pe_op op_sub (pe_op op_add (pe_op op_mul pe_int (pv 2)) (pv 1)) pe_int) rfl)))) (pss_cons (ps_expr (C8.pe_mt0 (m_Translator_end_numeral T) hr (by decide) (pv 0))) (pss_one (ps_expr (C8.pe_mt (m_Translator_sign T) hr (by decide) (pv 0) (pa_cons (pv 1) pa_nil))))))))))))
theorem l_Translator_take {K : PySem.W.Frag} : ∀ vs H Q E, sp_Translator_take K vs H Q E → vs.length = ["self", "code"].length := by
  rintro vs H Q E ⟨_, _, _, _, _, _, _, _, rfl, _⟩
  rfl
theorem endNum_len (by_ : Int) (t : Tr) : (t.endNum by_).img.length ≤ t.img.length + 4 ∧ (t.endNum by_).pile = t.pile := by
  obtain ⟨img, m, kk, pile, num, wait⟩ := t
  cases num with
  | none => exact ⟨Nat.le_add_right _ _, rfl⟩
  | some v => exact ⟨Nat.le_refl _, rfl⟩
theorem r_Translator_take {w : World} {K : PySem.W.Frag} {mg : Str → Option Value} (T : Txt w K mg) : ∀ vs H Q E, sp_Translator_take K vs H Q E → t_Translator_take K { nx := fun _ H' => Q .non H', rt := Q } (start ["self", "code", "value"] vs) H := by
  rintro vs H Q E ⟨p, im, pl, dx, by_, t, fi, c, rfl, h, hb, hb2, hc, k⟩
  refine ⟨_, rfl, p, _, dx, _, _, rfl, h.ob, T.c_Translator, T.n_Translator_over, trF_over, false, rfl, iteF ?_⟩
  refine ⟨_, rfl, _, _, rfl, rfl, _, rfl, iteDF (by omega) ?_⟩
  refine ⟨_, rfl, p, _, dx, _, _, rfl, h.ob, T.c_Translator, T.n_Translator_waiting, trF_waiting, rfl, _, rfl, ?_⟩
  rw [waitV_non]
  unfold Tr.take at k
  by_cases hw : t.wait = 0
  · refine iteNT hw ?_
    rw [if_neg (by simpa using hw)] at k
    refine ⟨_, rfl, _, _, rfl, rfl, _, rfl, ?_⟩
    have rest : ¬ (48 ≤ c ∧ c ≤ 57) → tSeq (tDrop (tMeth (He.ga K "Translator") "end_numeral" (sp_Translator_end_numeral K) [] C8.E0 (tVar 0) tNil)) (tDrop (tMeth (He.ga K "Translator") "sign" (sp_Translator_sign K) [] C8.E0 (tVar 0) (tCons (tVar 1) tNil))) { nx := fun _ H' => Q .non H', rt := Q } (start ["self", "code", "value"] [.ref p, .int c]) H := fun hd => by
      rw [if_neg hd] at k
      obtain ⟨e1, e2⟩ := endNum_len by_ t
      refine ⟨_, rfl, p, dx, _, rfl, h.ob, no_end_numeral, p, im, pl, dx, by_, t, false, fi, rfl, h, by omega, fun H1 h1 k1 => ?_⟩
      exact ⟨_, rfl, p, dx, _, rfl, h1.ob, no_sign, _, rfl, p, im, pl, dx, by_, _, false, fi, c, rfl, h1, by omega, by rw [e2]; omega, fun H2 h2 k2 => k _ h2 (k1.trans k2)⟩
    by_cases g1 : 48 ≤ c
    · refine iteDT g1 ⟨_, _, rfl, rfl, _, rfl, ?_⟩
      by_cases g2 : c ≤ 57
      · refine iteDT g2 ?_
        rw [if_pos ⟨g1, g2⟩] at k
        obtain ⟨img, m, kk, pile, num, wait⟩ := t
        refine ⟨_, rfl, p, _, dx, _, _, rfl, h.ob, T.c_Translator, T.n_Translator_numeral, trF_numeral, rfl, _, rfl, ?_⟩
        have fin : ∀ v : Int, num.getD 0 = v → sFld K (tVar 0) (tOp rSubI (tOp rAddI (tOp rMulI (tC (.int 10)) (tVar 2)) (tVar 1)) (tC (.int 48))) "numeral" { nx := fun _ H' => Q .non H', rt := Q } [some (.ref p), some (.int c), some (.int v)] H := fun v ev => by
          refine ⟨_, rfl, _, _, rfl, rfl, .inl ⟨by decide, by decide⟩, _, rfl, _, _, rfl, rfl, _, _, rfl, rfl, _, rfl, p, _, dx, _, rfl, h.ob, T.c_Translator, T.n_Translator_numeral, trF_small, ?_⟩
          dsimp only at k
          rw [ev] at k
          exact k _ (h.sN (some (10 * v + c - 48))) (KeepL.upd (by simp))
        cases num with
        | none => exact iteNT rfl (fin 0 rfl)
        | some v =>
          refine iteND (by intro z; cases z) ?_
          exact ⟨_, rfl, p, _, dx, _, _, rfl, h.ob, T.c_Translator, T.n_Translator_numeral, trF_numeral, fin v rfl⟩
      · exact iteDF g2 (rest fun z => g2 z.2)
    · exact iteDF g1 ⟨_, rfl, iteF (rest fun z => g1 z.1)⟩
  · refine iteND hw ?_
    rw [if_pos (by simpa using hw)] at k
    exact ⟨_, rfl, p, dx, _, rfl, h.ob, no_paired, _, rfl, p, im, pl, dx, by_, t, false, fi, c, rfl, h, by omega, by omega, hw, k⟩
theorem m_Translator_take {P : Program} {w : World} {K : PySem.W.Frag} {mg : Str → Option Value} {base : Heap} (T : Txt w K mg) : C8.Met P w K mg base 5 (He.ga K "Translator") "take" (sp_Translator_take K) [] := T.met 10 rfl T.c_Translator T.m_Translator_take sc_Translator_take (fun _ _ _ _ _ _ us hl => match us, hl with | [_, _], _ => rfl) l_Translator_take (d_Translator_take T) (r_Translator_take T)
/-! ### finish -/
theorem KeepL.none {l : List Addr} {H H1 : Hp} {q : Addr} (k : KeepL l H H1) (h : ∀ a ∈ l, ∃ o, H1 a = some o) (hq : H1 q = none) : H q = none := by
  cases e : H q with
  | none => rfl
  | some o =>
    by_cases hm : q ∈ l
    · obtain ⟨u, z⟩ := h q hm
      rw [hq] at z
      cases z
    · have z := k q o e hm
      rw [hq] at z
      cases z
def sp_Translator_finish (K : PySem.W.Frag) : Sp := fun vs H Q _ => ∃ p im pl dx by_ t, vs = [.ref p] ∧ TrAt (CT K) H p im pl dx by_ t false false ∧ t.img.length ≤ 97000 ∧
  ∀ q H', KeepL [p, im, pl] H H' → H q = none → H' q = some (.lst ((t.fin by_).img.reverse.map V.int)) → Q (.ref q) H'
theorem sc_Translator_finish : FnScope ["self"] ["self"] (defScope s_Translator_finish) := C8.fnScope_by (by decide +kernel)
def t_Translator_finish (K : PySem.W.Frag) : TS := (tSeq (sFld K (tVar 0) (tC (.bl true)) "over") (tSeq (tIfS (tNot (tB (tFld K (tVar 0) "finished"))) (tSeq (sFld K (tVar 0) (tC (.bl true)) "finished") (tSeq (sFld K (tVar 0) (tC .non) "waiting") (tSeq (tDrop (tMeth (He.ga K "Translator") "end_numeral" (sp_Translator_end_numeral K) [] C8.E0 (tVar 0) tNil)) (tDrop (tMeth (He.ga K "Translator") "emit" (sp_Translator_emit K) [] C8.E0 (tVar 0) (tCons (tC (.int 41)) (tCons (tC (.int 0)) tNil))))))) tNext) (tRet (tCB (rListOf K) (tCons (tFld K (tVar 0) "image") tNil)))))
theorem d_Translator_finish {P : Program} {w : World} {K : PySem.W.Frag} {mg : Str → Option Value} {base : Heap} (T : Txt w K mg) (f : Addr) (cdv : Value) (A : Around) (outer : List Env) (s : Shared) (H : Hp) (E : XK) (hr : Room 3 (A.deeper (envOfC "Translator.finish" (defScope s_Translator_finish) s.heap.objs.size f cdv))) :
    PSs (Bx P w K mg base ["self"] "Translator.finish" s_Translator_finish f cdv A outer s H E) (defBody s_Translator_finish) (t_Translator_finish K) :=
  (pss_cons (ps_fld (pv 0) pe_bl rfl) (pss_cons (ps_if (pt_not (pt_val (pe_fld (pv 0) rfl))) (pss_cons (ps_fld (pv 0) pe_bl rfl) (pss_cons (ps_fld (pv 0) pe_non rfl) (pss_cons (ps_expr (C8.pe_mt0 (m_Translator_end_numeral T) hr (by decide) (pv 0))) (pss_one (ps_expr (C8.pe_mt (m_Translator_emit T) hr (by decide) (pv 0) (pa_cons (pe_gint T.i_RETURN_translate rfl) (pa_cons pe_int pa_nil)))))))) pss_nil) (pss_one (ps_ret (pe_callTy call_list_of (by rfl) T.f_list boot_list (pa_cons (pe_fld (pv 0) rfl) pa_nil))))))
theorem l_Translator_finish {K : PySem.W.Frag} : ∀ vs H Q E, sp_Translator_finish K vs H Q E → vs.length = ["self"].length := by
  rintro vs H Q E ⟨_, _, _, _, _, _, rfl, _⟩
  rfl
theorem r_Translator_finish {w : World} {K : PySem.W.Frag} {mg : Str → Option Value} (T : Txt w K mg) : ∀ vs H Q E, sp_Translator_finish K vs H Q E → t_Translator_finish K { nx := fun _ H' => Q .non H', rt := Q } (start ["self"] vs) H := by
  rintro vs H Q E ⟨p, im, pl, dx, by_, t, rfl, h, hb, k⟩
  refine ⟨_, rfl, p, _, dx, _, rfl, h.ob, T.c_Translator, T.n_Translator_over, trF_small, ?_⟩
  have h1 := h.sO true
  refine ⟨_, rfl, p, _, dx, _, _, rfl, h1.ob, T.c_Translator, T.n_Translator_finished, trF_finished, false, rfl, iteT ?_⟩
  refine ⟨_, rfl, p, _, dx, _, rfl, h1.ob, T.c_Translator, T.n_Translator_finished, trF_small, ?_⟩
  have h2 := h1.sD true
  refine ⟨_, rfl, p, _, dx, _, rfl, h2.ob, T.c_Translator, T.n_Translator_waiting, trF_small, ?_⟩
  have h3 := h2.sW 0
  have e1 := (endNum_len by_ { t with wait := 0 }).1
  refine ⟨_, rfl, p, dx, _, rfl, h3.ob, no_end_numeral, p, im, pl, dx, by_, _, true, true, rfl, h3, by show t.img.length ≤ _; omega, fun H4 h4 k4 => ?_⟩
  refine ⟨_, rfl, p, dx, _, rfl, h4.ob, no_emit, p, im, pl, dx, by_, _, true, true, 41, 0, rfl, h4, Nat.le_trans e1 (by show t.img.length + 4 ≤ _; omega), fun H5 h5 k5 => ?_⟩
  refine ⟨_, rfl, p, _, dx, _, _, rfl, h5.ob, T.c_Translator, T.n_Translator_image, trF_image, im, _, rfl, .inl (SqL.of h5.hi), fun q hq => ?_⟩
  have kk : KeepL [p, im, pl] H H5 := (KeepL.upd (by simp)).trans ((KeepL.upd (by simp)).trans ((KeepL.upd (by simp)).trans (k4.trans k5)))
  refine k q _ (kk.trans (KeepL.new hq)) (kk.none (fun a ha => ?_) hq) upd_same
  simp only [List.mem_cons, List.mem_nil_iff, or_false] at ha
  rcases ha with rfl | rfl | rfl
  · exact ⟨_, h5.ob⟩
  · exact ⟨_, h5.hi⟩
  · exact ⟨_, h5.hp⟩
theorem m_Translator_finish {P : Program} {w : World} {K : PySem.W.Frag} {mg : Str → Option Value} {base : Heap} (T : Txt w K mg) : C8.Met P w K mg base 4 (He.ga K "Translator") "finish" (sp_Translator_finish K) [] := T.met 11 rfl T.c_Translator T.m_Translator_finish sc_Translator_finish (fun _ _ _ _ _ _ us hl => match us, hl with | [_], _ => rfl) l_Translator_finish (d_Translator_finish T) (r_Translator_finish T)
/-! ### __init__ -/
def sp_Translator_init (K : PySem.W.Frag) : Sp := fun vs H Q _ => ∃ p dx first by_, vs = [.ref p, .int first, .int by_] ∧ H p = some (.ins (CT K) dx []) ∧
  ∀ im pl H', TrAt (CT K) H' p im pl dx by_ (Tr.start first by_) false false → H im = none → H pl = none → KeepL [p] H H' → Q .non H'
theorem sc_Translator_init : FnScope ["self", "first", "by"] ["self", "first", "by"] (defScope s_Translator_init) := C8.fnScope_by (by decide +kernel)
def t_Translator_init (K : PySem.W.Frag) : TS := (tSeq (sFld K (tVar 0) (tVar 2) "by") (tSeq (sFld K (tVar 0) (tLst (tCons (tC (.int 0)) (tCons (tC (.int 32)) (tCons (tC (.int 0)) (tCons (tVar 1) tNil))))) "image") (tSeq (sFld K (tVar 0) (tVar 1) "m") (tSeq (sFld K (tVar 0) (tOp rAddI (tVar 1) (tVar 2)) "k") (tSeq (sFld K (tVar 0) (tLst tNil) "pile") (tSeq (sFld K (tVar 0) (tC .non) "numeral") (tSeq (sFld K (tVar 0) (tC .non) "waiting") (tSeq (sFld K (tVar 0) (tC (.bl false)) "over") (sFld K (tVar 0) (tC (.bl false)) "finished")))))))))
theorem d_Translator_init {P : Program} {w : World} {K : PySem.W.Frag} {mg : Str → Option Value} {base : Heap} (T : Txt w K mg) (f : Addr) (cdv : Value) (A : Around) (outer : List Env) (s : Shared) (H : Hp) (E : XK) (hr : Room 0 (A.deeper (envOfC "Translator.__init__" (defScope s_Translator_init) s.heap.objs.size f cdv))) :
    PSs (Bx P w K mg base ["self", "first", "by"] "Translator.__init__" s_Translator_init f cdv A outer s H E) (defBody s_Translator_init) (t_Translator_init K) :=
  (pss_cons (ps_fld (pv 0) (pv 2) rfl) (pss_cons (ps_fld (pv 0) (pe_lst (pa_cons pe_int (pa_cons (pe_gint T.i_BLANK rfl) (pa_cons pe_int (pa_cons (pv 1) pa_nil))))) rfl) (pss_cons (ps_fld (pv 0) (pv 1) rfl) (pss_cons (ps_fld (pv 0) (pe_op op_add (pv 1) (pv 2)) rfl) (pss_cons (ps_fld (pv 0) (pe_lst pa_nil) rfl) (pss_cons (ps_fld (pv 0) pe_non rfl) (pss_cons (ps_fld (pv 0) pe_non rfl) (pss_cons (ps_fld (pv 0) pe_bl rfl) (pss_one (ps_fld (pv 0) pe_bl rfl))))))))))
theorem l_Translator_init {K : PySem.W.Frag} : ∀ vs H Q E, sp_Translator_init K vs H Q E → vs.length = ["self", "first", "by"].length := by
  rintro vs H Q E ⟨_, _, _, _, rfl, _⟩
  rfl
theorem r_Translator_init {w : World} {K : PySem.W.Frag} {mg : Str → Option Value} (T : Txt w K mg) : ∀ vs H Q E, sp_Translator_init K vs H Q E → t_Translator_init K { nx := fun _ H' => Q .non H', rt := Q } (start ["self", "first", "by"] vs) H := by
  rintro vs H Q E ⟨p, dx, first, by_, rfl, h, k⟩
  refine ⟨_, rfl, _, rfl, p, _, dx, _, rfl, h, T.c_Translator, T.n_Translator_by, by show 0 < 1000; decide, ?_⟩
  refine ⟨_, rfl, by show 4 ≤ sizeLine; decide, fun im him => ?_⟩
  have npi : p ≠ im := by
    intro z
    rw [← z, upd_same] at him
    cases him
  have him0 : H im = none := by rw [upd_ne npi.symm] at him; exact him
  refine ⟨_, rfl, p, _, dx, _, rfl, (by rw [upd_ne npi, upd_same]), T.c_Translator, T.n_Translator_image, by show 1 < 1000; decide, ?_⟩
  refine ⟨_, rfl, _, rfl, p, _, dx, _, rfl, upd_same, T.c_Translator, T.n_Translator_m, by show 2 < 1000; decide, ?_⟩
  refine ⟨_, rfl, _, rfl, _, _, rfl, rfl, _, rfl, p, _, dx, _, rfl, upd_same, T.c_Translator, T.n_Translator_k, by show 3 < 1000; decide, ?_⟩
  refine ⟨Nat.zero_le _, fun pl hpl => ?_⟩
  have npp : p ≠ pl := by
    intro z
    rw [← z, upd_same] at hpl
    cases hpl
  have hpl1 : (upd (upd H p (.ins (CT K) dx (putF "by" (.int by_) []))) im (.lst [.int 0, .int 32, .int 0, .int first])) pl = none := by
    rw [upd_ne npp.symm, upd_ne npp.symm, upd_ne npp.symm] at hpl
    exact hpl
  have nip : im ≠ pl := by
    intro z
    rw [← z, upd_same] at hpl1
    cases hpl1
  have hpl0 : H pl = none := by
    rw [upd_ne nip.symm, upd_ne npp.symm] at hpl1
    exact hpl1
  refine ⟨_, rfl, p, _, dx, _, rfl, (by rw [upd_ne npp, upd_same]), T.c_Translator, T.n_Translator_pile, by show 4 < 1000; decide, ?_⟩
  refine ⟨_, rfl, p, _, dx, _, rfl, upd_same, T.c_Translator, T.n_Translator_numeral, by show 5 < 1000; decide, ?_⟩
  refine ⟨_, rfl, p, _, dx, _, rfl, upd_same, T.c_Translator, T.n_Translator_waiting, by show 6 < 1000; decide, ?_⟩
  refine ⟨_, rfl, p, _, dx, _, rfl, upd_same, T.c_Translator, T.n_Translator_over, by show 7 < 1000; decide, ?_⟩
  refine ⟨_, rfl, p, _, dx, _, rfl, upd_same, T.c_Translator, T.n_Translator_finished, by show 8 < 1000; decide, ?_⟩
  refine k im pl _ ⟨?_, ?_, ?_, nip⟩ him0 hpl0 ?_
  · rw [upd_same]
    exact congrArg (fun z => some (HO.ins (CT K) dx z)) (by kernel_rfl)
  · rw [upd_ne npi.symm, upd_ne npi.symm, upd_ne npi.symm, upd_ne npi.symm, upd_ne npi.symm, upd_ne nip, upd_ne npi.symm, upd_ne npi.symm, upd_ne npi.symm, upd_same]
    rfl
  · rw [upd_ne npp.symm, upd_ne npp.symm, upd_ne npp.symm, upd_ne npp.symm, upd_ne npp.symm, upd_same]
    rfl
  · intro b o e n
    have nbp : b ≠ p := by simpa using n
    rw [upd_ne nbp, upd_ne nbp, upd_ne nbp, upd_ne nbp, upd_ne nbp, upd_ne (ne_of_none e hpl0), upd_ne nbp, upd_ne nbp, upd_ne nbp, upd_ne (ne_of_none e him0), upd_ne nbp]
    exact e
/-! ### translate -/
def gv_Translator_first_by (vs zs : List V) : List V := vs ++ zs
theorem vals_app {vs zs : List V} {us ws : List Value} (r : Vals vs us) (q : Vals zs ws) : Vals (vs ++ zs) (us ++ ws) := r.append q
theorem mk_Translator_first_by {P : Program} {w : World} {K : PySem.W.Frag} {mg : Str → Option Value} {base : Heap} (T : Txt w K mg) : MakN P w K mg base 1 "Translator" (He.ga K "Translator") (sp_Translator_init K) ["first", "by"] gv_Translator_first_by := by
  obtain ⟨fd, F⟩ := T.st.d.def_ 1 (d := D_Translator_init) rfl
  obtain ⟨mv, b⟩ := FunD.kbinds0 (ps := ["self", "first", "by"]) F 1 ["first", "by"] [] (fun us _ ws => us ++ ws) (by intro z; cases z) (fun q hq => by cases hq) (fun r _ q => r.append q)
    (fun D doc pm an cdv ct us mv ws h1 h2 h3 => match us, mv, ws, h1, h2, h3 with | [_], [], [_, _], _, _, _ => rfl)
  exact ⟨_, fd, _, _, T.k_Translator, fok F sc_Translator_init l_Translator_init (d_Translator_init T) (r_Translator_init T), T.g_Translator, b⟩
def sp_translate (K : PySem.W.Frag) : Sp := fun vs H Q _ => ∃ a first by_ cs, vs = [.ref a, .int first, .int by_] ∧ SqL K H a (cs.map V.int) ∧ cs.length ≤ 5000 ∧ (∀ c ∈ cs, (0 : Int) ≤ c) ∧ NewL H Q ((trans first by_ cs).map V.int)
theorem sc_translate : FnScope ["codes", "first", "by", "translator", "code"] ["codes", "first", "by"] (defScope s_translate) := C8.fnScope_by (by decide +kernel)
def t_translate (K : PySem.W.Frag) : TS := (tSeq (tAsg (tMakeK (He.ga K "Translator") 0 2 (sp_Translator_init K) gv_Translator_first_by C8.E0 tNil (tCons (tVar 1) (tCons (tVar 2) tNil))) (gName 3)) (tSeq (tFor (iList K (tVar 0)) (gName 4) (tDrop (tMeth (He.ga K "Translator") "take" (sp_Translator_take K) [] C8.E0 (tVar 3) (tCons (tVar 4) tNil)))) (tRet (tMeth (He.ga K "Translator") "finish" (sp_Translator_finish K) [] C8.E0 (tVar 3) tNil))))
theorem d_translate {P : Program} {w : World} {K : PySem.W.Frag} {mg : Str → Option Value} {base : Heap} (T : Txt w K mg) (f : Addr) (cdv : Value) (A : Around) (outer : List Env) (s : Shared) (H : Hp) (E : XK) (hr : Room 5 (A.deeper (envOfC "translate" (defScope s_translate) s.heap.objs.size f cdv))) :
    PSs (Bx P w K mg base ["codes", "first", "by", "translator", "code"] "translate" s_translate f cdv A outer s H E) (defBody s_translate) (t_translate K) :=
  (pss_cons (ps_set (i := 3) sc_translate.nd rfl (by first | exact Or.inl rfl | exact Or.inr rfl) (pe_mkN (mk_Translator_first_by T) hr (by decide) (by rfl) (pk_cons (pv 1) (pk_cons (pv 2) pk_nil)))) (pss_cons (ps_for PassesOwn.never rfl (pi_list (pv 0)) (pg_name (i := 4) sc_translate.nd rfl (by first | exact Or.inl rfl | exact Or.inr rfl)) (pss_one (ps_expr (C8.pe_mt (m_Translator_take T) hr (by decide) (pv 3) (pa_cons (pv 4) pa_nil))))) (pss_one (ps_ret (C8.pe_mt0 (m_Translator_finish T) hr (by decide) (pv 3))))))
theorem l_translate {K : PySem.W.Frag} : ∀ vs H Q E, sp_translate K vs H Q E → vs.length = ["codes", "first", "by"].length := by
  rintro vs H Q E ⟨_, _, _, _, rfl, _⟩
  rfl
theorem take_len (by_ c : Int) (t : Tr) : (t.take by_ c).img.length ≤ t.img.length + 8 ∧ (t.take by_ c).pile.length ≤ t.pile.length + 1 := by
  obtain ⟨e1, e2⟩ := endNum_len by_ t
  unfold Tr.take
  split
  · unfold Tr.paired Tr.emit
    split
    · exact ⟨by simp, by simp⟩
    · split
      · exact ⟨by simp, by simp⟩
      · exact ⟨by simp, by simp⟩
  · split
    · exact ⟨by simp, by simp⟩
    · rw [← e2]
      generalize t.endNum by_ = u at e1 e2 ⊢
      unfold Tr.sign
      split
      · exact ⟨by omega, by omega⟩
      · split
        · exact ⟨by show u.img.length ≤ _; omega, by simp⟩
        · split
          · unfold Tr.bracket Tr.emit
            split
            · exact ⟨by simp; omega, by simp⟩
            · split
              · exact ⟨by simp only [List.length_cons]; omega, by simp only [List.length_cons, List.length_tail]; omega⟩
              · split
                · exact ⟨by simp only [List.length_cons]; omega, by simp only [List.length_cons, List.length_tail]; omega⟩
                · split
                  · exact ⟨by simp; omega, by simp⟩
                  · exact ⟨by simp only [List.length_cons]; omega, by simp only [List.length_cons, List.length_tail]; omega⟩
          · split
            · exact ⟨by simp; omega, by simp; omega⟩
            · unfold Tr.emit
              exact ⟨by simp; omega, by simp⟩
theorem run_len (by_ : Int) : ∀ (l : List Int) (t : Tr), (t.run by_ l).img.length ≤ t.img.length + 8 * l.length ∧ (t.run by_ l).pile.length ≤ t.pile.length + l.length
  | [], t => ⟨Nat.le_refl _, Nat.le_refl _⟩
  | c :: l, t => by
    have h := run_len by_ l (t.take by_ c)
    have g := take_len by_ c t
    show ((t.take by_ c).run by_ l).img.length ≤ _ ∧ ((t.take by_ c).run by_ l).pile.length ≤ _
    simp only [List.length_cons]
    omega
theorem run_snoc (by_ : Int) (l : List Int) (i : Nat) (c : Int) (t : Tr) (h : l[i]? = some c) : t.run by_ (l.take (i + 1)) = (t.run by_ (l.take i)).take by_ c := by
  obtain ⟨hi, e⟩ := List.getElem?_eq_some_iff.mp h
  rw [List.take_succ_eq_append_getElem hi, e]
  unfold Tr.run
  rw [List.foldl_append]
  rfl
theorem getV {ns : List Int} {i : Nat} {x : V} (h : (ns.map V.int)[i]? = some x) : ∃ c, x = .int c ∧ ns[i]? = some c := by
  rw [List.getElem?_map] at h
  cases e : ns[i]? with
  | none => rw [e] at h; cases h
  | some c => rw [e] at h; exact ⟨c, (Option.some.inj h).symm, rfl⟩
theorem r_translate {w : World} {K : PySem.W.Frag} {mg : Str → Option Value} (T : Txt w K mg) : ∀ vs H Q E, sp_translate K vs H Q E → t_translate K { nx := fun _ H' => Q .non H', rt := Q } (start ["codes", "first", "by", "translator", "code"] vs) H := by
  rintro vs H Q E ⟨a, first, by_, cs, rfl, hS, hl, hc, k⟩
  refine ⟨_, rfl, _, rfl, rfl, rfl, fun p dx np nd ne => ?_⟩
  have s0 : Same H (upd (upd H dx (.own p)) p (.ins (CT K) dx [])) := (Same.new nd).trans (Same.new (by rw [upd_ne ne.symm]; exact np))
  refine ⟨p, dx, first, by_, rfl, upd_same, fun im pl H1 h1 n1 n2 k1 => ⟨rfl, ?_⟩⟩
  have ni : H im = none := none_of_same s0 n1
  have npl : H pl = none := none_of_same s0 n2
  have s1 : Same H H1 := k1.same s0 (by simpa using np)
  have old : ∀ b ∈ [p, im, pl], H b = none := by simpa using ⟨np, ni, npl⟩
  refine ⟨_, rfl, a, rfl, ⟨_, s1.seq hS⟩, for_list (K := K) (a := a) (xs := cs.map V.int) (fun i σ H' => (∃ v, σ = [some (.ref a), some (.int first), some (.int by_), some (.ref p), v]) ∧ Same H H' ∧ TrAt (CT K) H' p im pl dx by_ ((Tr.start first by_).run by_ (cs.take i)) false false)
    ⟨⟨none, rfl⟩, s1, h1⟩ (fun i σ H' _ ⟨_, s, _⟩ => s.seq hS) ?_ ?_⟩
  · rintro i x σ H' hx ⟨⟨v, rfl⟩, s, h⟩
    obtain ⟨c, rfl, hc'⟩ := getV hx
    have hb := run_len by_ (cs.take i) (Tr.start first by_)
    have ht : (cs.take i).length ≤ 5000 := by simp; omega
    have e4 : (Tr.start first by_).img.length = 4 := rfl
    have e0 : (Tr.start first by_).pile.length = 0 := rfl
    refine ⟨_, rfl, p, dx, _, rfl, h.ob, no_take, _, rfl, p, im, pl, dx, by_, _, false, c, rfl, h, by omega, by omega, hc c (List.mem_of_getElem? hc'), fun H2 h2 k2 => ?_⟩
    refine ⟨⟨_, rfl⟩, k2.same s old, ?_⟩
    rw [run_snoc by_ cs i c _ hc']
    exact h2
  · rintro σ H' ⟨⟨v, rfl⟩, s, h⟩
    have e : cs.take (cs.map V.int).length = cs := by simp
    rw [e] at h
    have hb := run_len by_ cs (Tr.start first by_)
    have e4 : (Tr.start first by_).img.length = 4 := rfl
    refine ⟨_, rfl, p, dx, _, rfl, h.ob, no_finish, p, im, pl, dx, by_, _, rfl, h, by omega, fun q H2 k2 nq hq => ?_⟩
    exact k q H2 (k2.same s old) (none_of_same s nq) hq
theorem c_translateD {P : Program} {w : World} {K : PySem.W.Frag} {mg : Str → Option Value} {base : Heap} (T : Txt w K mg) : C8.Cal P w K mg base 6 "translate" (sp_translate K) [.int 200, .int 1] := by
  obtain ⟨fd, F⟩ := T.st.d.def_ 12 (d := D_translate) rfl
  obtain ⟨ds, hd, b⟩ := FunD.binds0 (ps := ["codes", "first", "by"]) F 1 (by intro z; cases z) rfl
    (fun D doc pm an cdv ct us ks h1 h2 => match us, ks, h1, h2 with | [_], [_, _], _, _ => ⟨_, _, _, _, _, _, rfl, rfl, _, _, _, _, _, _, rfl, rfl, rfl⟩)
  exact ⟨_, fd, _, ds, fok F sc_translate l_translate (d_translate T) (r_translate T), T.g_translate, F.kp, b, hd⟩
def gv_translate_first_by (vs zs : List V) : List V := vs ++ zs
theorem cn_translate_first_by {P : Program} {w : World} {K : PySem.W.Frag} {mg : Str → Option Value} {base : Heap} (T : Txt w K mg) : CalN P w K mg base 6 "translate" (sp_translate K) 1 ["first", "by"] gv_translate_first_by := by
  obtain ⟨fd, F⟩ := T.st.d.def_ 12 (d := D_translate) rfl
  obtain ⟨mv, b⟩ := FunD.kbinds0 (ps := ["codes", "first", "by"]) F 1 ["first", "by"] [] (fun us _ ws => us ++ ws) (by intro z; cases z) (fun q hq => by cases hq) (fun r _ q => r.append q)
    (fun D doc pm an cdv ct us mv ws h1 h2 h3 => match us, mv, ws, h1, h2, h3 with | [_], [], [_, _], _, _, _ => rfl)
  exact ⟨_, fd, _, _, fok F sc_translate l_translate (d_translate T) (r_translate T), T.g_translate, F.kp, b⟩
/-! ### texts -/
/-- for c in a text -/
theorem for_str {x : Str} {g : TG} {tb : TS} {D : L2.Ends} {σ : L2.St} {H : Hp} (Pv : Nat → L2.St → Hp → Prop) (h0 : Pv 0 σ H)
    (hs : ∀ i c σ H, x.cps.toList[i]? = some c → Pv i σ H → g (.str ⟨#[c]⟩) σ H fun σ2 H2 => tb { D with nx := Pv (i + 1), ct := Pv (i + 1), bk := D.nx } σ2 H2) (hd : ∀ σ H, Pv x.cps.toList.length σ H → D.nx σ H) :
    ∃ W : Nat → Nat → L2.St → Hp → Prop, (∃ m, W 0 m σ H) ∧ ∀ i m σ H, W i m σ H →
      ((Its x).stop i H ∧ D.nx σ H) ∨ ((Its x).go i H ∧ ∃ N : L2.St → Hp → Prop, (∀ σ' H', N σ' H' → ∃ m', m' < m ∧ W (i + 1) m' σ' H') ∧ ∀ v H', (Its x).yld i H v H' → g v σ H' fun σ2 H2 => tb { D with nx := N, ct := N, bk := D.nx } σ2 H2) := by
  have en : x.cps.toList.length = x.cps.size := by simp
  refine ⟨fun i m σ H => m = x.cps.size - i ∧ i ≤ x.cps.size ∧ Pv i σ H, ⟨x.cps.size, by simp, Nat.zero_le _, h0⟩, ?_⟩
  rintro i m σ H ⟨rfl, hi, p⟩
  by_cases hlt : i < x.cps.size
  · refine .inr ⟨hlt, Pv (i + 1), fun σ' H' p' => ⟨x.cps.size - (i + 1), by omega, rfl, hlt, p'⟩, fun v H' y => ?_⟩
    obtain ⟨e, c, ec, ev⟩ := y
    subst e ev
    exact hs i c σ _ (by simpa using ec) p
  · have e : i = x.cps.size := by omega
    subst e
    refine .inl ⟨Nat.le_refl _, hd σ H ?_⟩
    rw [en]
    exact p
def codesS (x : Str) : List Int := x.cps.toList.map fun n : Nat => (n : Int)
def goodC (c : Nat) : Bool := decide (c = 10) || (decide (32 ≤ c) && decide (c ≤ 126) && !decide (c = 37))
def goodS (x : Str) : Bool := x.cps.toList.all goodC
theorem printable : (strE (top 12)).cps.toList = (List.range 127).filter fun c => decide (32 ≤ c) && !decide (c = 37) := by kernel_rfl
theorem newline : Str.ofString "\n" = ⟨#[10]⟩ := by kernel_rfl
theorem good_print {c : Nat} (h : goodC c = true) (h10 : c ≠ 10) : c ∈ (strE (top 12)).cps.toList := by
  rw [printable, List.mem_filter, List.mem_range]
  unfold goodC at h
  simp only [Bool.or_eq_true, Bool.and_eq_true, decide_eq_true_eq, Bool.not_eq_true', decide_eq_false_iff_not] at h ⊢
  omega
def sp_codes_of (_ : PySem.W.Frag) : Sp := fun vs H Q _ => ∃ x, vs = [.str x] ∧ goodS x = true ∧ x.cps.toList.length ≤ 5000 ∧ NewL H Q ((codesS x).map V.int)
theorem sc_codes_of : FnScope ["text", "codes", "char"] ["text"] (defScope s_codes_of) := C8.fnScope_by (by decide +kernel)
def t_codes_of (K : PySem.W.Frag) : TS := (tSeq (tAsg (tLst tNil) (gName 1)) (tSeq (tFor (iStr (tVar 0)) (gName 2) (tSeq (tIfS (tAnd (tTest (tOp rNe (tVar 2) (tC (.str "\n")))) (tTest (tOp rNotInS (tVar 2) (tC (.str (strE (top 12))))))) tNever tNext) (tDrop (tBM K "list" rAppend (tVar 1) (tCons (tCB rOrd (tCons (tVar 2) tNil)) tNil))))) (tRet (tVar 1))))
theorem d_codes_of {P : Program} {w : World} {K : PySem.W.Frag} {mg : Str → Option Value} {base : Heap} (T : Txt w K mg) (f : Addr) (cdv : Value) (A : Around) (outer : List Env) (s : Shared) (H : Hp) (E : XK) (hr : Room 0 (A.deeper (envOfC "codes_of" (defScope s_codes_of) s.heap.objs.size f cdv))) :
    PSs (Bx P w K mg base ["text", "codes", "char"] "codes_of" s_codes_of f cdv A outer s H E) (defBody s_codes_of) (t_codes_of K) :=
  (pss_cons (ps_set (i := 1) sc_codes_of.nd rfl (by first | exact Or.inl rfl | exact Or.inr rfl) (pe_lst pa_nil)) (pss_cons (ps_for PassesOwn.never rfl (pi_str (pv 0)) (pg_name (i := 2) sc_codes_of.nd rfl (by first | exact Or.inl rfl | exact Or.inr rfl)) (pss_cons (ps_if (PW.pt (pw_and (pt_cmpR op_ne (pv 2) pe_str (nomark _)) (pw_and1 (pt_cmpR op_notInS (pv 2) (pe_gstr T.s_PRINTABLE rfl) (by rfl))))) (pss_one ps_never) pss_nil) (pss_one (ps_expr (pe_bm PySem.F.plainAttrs_list PySem.F.slot_list_append PySem.F.type_list_append mt_append (pv 1) (pa_cons (pe_callB call_ord (by rfl) T.f_ord boot_ord (pa_cons (pv 2) pa_nil)) pa_nil)))))) (pss_one (ps_ret (pv 1)))))
theorem l_codes_of {K : PySem.W.Frag} : ∀ vs H Q E, sp_codes_of K vs H Q E → vs.length = ["text"].length := by
  rintro vs H Q E ⟨_, rfl, _⟩
  rfl
theorem take_snoc {α : Type} {l : List α} {i : Nat} {c : α} (h : l[i]? = some c) : l.take (i + 1) = l.take i ++ [c] := by
  obtain ⟨hi, e⟩ := List.getElem?_eq_some_iff.mp h
  rw [List.take_succ_eq_append_getElem hi, e]
theorem r_codes_of {w : World} {K : PySem.W.Frag} {mg : Str → Option Value} (T : Txt w K mg) : ∀ vs H Q E, sp_codes_of K vs H Q E → t_codes_of K { nx := fun _ H' => Q .non H', rt := Q } (start ["text", "codes", "char"] vs) H := by
  rintro vs H Q E ⟨x, rfl, hg, hl, k⟩
  refine ⟨Nat.zero_le _, fun q hq => ?_⟩
  refine ⟨_, rfl, x, rfl, for_str (x := x) (fun i σ H' => (∃ v, σ = [some (.str x), some (.ref q), v]) ∧ Same H H' ∧ H' q = some (.lst ((x.cps.toList.take i).map fun n : Nat => V.int (n : Int)))) ⟨⟨none, rfl⟩, Same.new hq, upd_same⟩ ?_ ?_⟩
  · rintro i c σ H' hc ⟨⟨v, rfl⟩, s, h⟩
    have gc : goodC c = true := List.all_eq_true.mp hg c (List.mem_of_getElem? hc)
    have ap : tDrop (tBM K "list" rAppend (tVar 1) (tCons (tCB rOrd (tCons (tVar 2) tNil)) tNil)) { nx := fun σ2 H2 => (∃ v, σ2 = [some (.str x), some (.ref q), v]) ∧ Same H H2 ∧ H2 q = some (.lst ((x.cps.toList.take (i + 1)).map fun n : Nat => V.int (n : Int))), rt := Q } [some (.str x), some (.ref q), some (.str ⟨#[c]⟩)] H' := by
      refine ⟨_, rfl, .inl ⟨rfl, _, SqL.of h⟩, _, rfl, _, rfl, rfl, q, _, _, rfl, rfl, h, line_lt (by rw [List.length_map]; exact Nat.le_trans (List.length_take_le' ..) (by omega)), ⟨_, rfl⟩, ?_, ?_⟩
      · exact (Same.keepL s (l := [q])).trans (KeepL.upd (by simp)) |>.same (Same.refl H) (by simpa using hq)
      · rw [upd_same, take_snoc hc]
        simp
    refine ⟨_, rfl, rfl, _, rfl, ?_⟩
    by_cases h10 : c = 10
    · subst h10
      rw [show decide (V.str ⟨#[10]⟩ = V.str (Str.ofString "\n")) = true by rw [newline]; simp]
      exact iteF (iteF ap)
    · rw [show decide (V.str ⟨#[c]⟩ = V.str (Str.ofString "\n")) = false by rw [newline]; simp [h10]]
      refine iteT ⟨_, rfl, c, _, rfl, rfl, _, rfl, ?_⟩
      rw [decide_eq_true (good_print gc h10)]
      exact iteF ap
  · rintro σ H' ⟨⟨v, rfl⟩, s, h⟩
    rw [List.take_length] at h
    refine ⟨_, rfl, k q H' s hq ?_⟩
    rw [h]
    unfold codesS
    simp
theorem c_codes_of {P : Program} {w : World} {K : PySem.W.Frag} {mg : Str → Option Value} {base : Heap} (T : Txt w K mg) : C8.Cal P w K mg base 1 "codes_of" (sp_codes_of K) [] := T.cal 0 rfl T.g_codes_of sc_codes_of (fun _ _ _ _ _ _ us hl => match us, hl with | [_], _ => rfl) l_codes_of (d_codes_of T) (r_codes_of T)
end Pl

set_option Elab.async false
set_option linter.all false
set_option maxRecDepth 100000
set_option maxHeartbeats 4000000
namespace Pl
open PySem PySem.Spec PyProof.Rows L2
/-! ### a State of the machine -/
abbrev CS (K : PySem.W.Frag) : Addr := He.ga K "State"
/-- where its parts stand -/
structure SA where
  p : Addr
  dx : Addr
  im : Addr
  nm : Addr
  tb : Addr
  st : Addr
  so : Addr
  bk : Addr
  ou : Addr
def stF (a : SA) (at_ place steps : Int) : List (Str × V) :=
  [("image", .ref a.im), ("numbers", .ref a.nm), ("table", .ref a.tb), ("at", .int at_), ("stack", .ref a.st), ("store", .ref a.so), ("back", .ref a.bk), ("place", .int place), ("output", .ref a.ou), ("steps", .int steps)]
section
variable {a : SA} {x y z v : Int}
theorem stF_image : (stF a x y z).lookup ("image" : Str) = some (.ref a.im) := by kernel_rfl
theorem stF_numbers : (stF a x y z).lookup ("numbers" : Str) = some (.ref a.nm) := by kernel_rfl
theorem stF_table : (stF a x y z).lookup ("table" : Str) = some (.ref a.tb) := by kernel_rfl
theorem stF_at : (stF a x y z).lookup ("at" : Str) = some (.int x) := by kernel_rfl
theorem stF_stack : (stF a x y z).lookup ("stack" : Str) = some (.ref a.st) := by kernel_rfl
theorem stF_store : (stF a x y z).lookup ("store" : Str) = some (.ref a.so) := by kernel_rfl
theorem stF_back : (stF a x y z).lookup ("back" : Str) = some (.ref a.bk) := by kernel_rfl
theorem stF_place : (stF a x y z).lookup ("place" : Str) = some (.int y) := by kernel_rfl
theorem stF_output : (stF a x y z).lookup ("output" : Str) = some (.ref a.ou) := by kernel_rfl
theorem stF_steps : (stF a x y z).lookup ("steps" : Str) = some (.int z) := by kernel_rfl
theorem stF_pull : (stF a x y z).lookup ("pull" : Str) = none := by kernel_rfl
theorem stF_step : (stF a x y z).lookup ("step" : Str) = none := by kernel_rfl
theorem stF_advance : (stF a x y z).lookup ("advance" : Str) = none := by kernel_rfl
theorem stF_has_ended : (stF a x y z).lookup ("has_ended" : Str) = none := by kernel_rfl
theorem stP_at : putF "at" (.int v) (stF a x y z) = stF a v y z := by kernel_rfl
theorem stP_place : putF "place" (.int v) (stF a x y z) = stF a x v z := by kernel_rfl
theorem stP_steps : putF "steps" (.int v) (stF a x y z) = stF a x y v := by kernel_rfl
theorem stF_small : (stF a x y z).length < 1000 := by show 10 < 1000; decide
end
/-- the table of an image, as a dict of tuples -/
structure TabAt (H : Hp) (tb : Addr) (img : List Int) (kvs : List (Key × V)) : Prop where
  d : H tb = some (.dK kvs)
  no : ∀ x : Int, look img x = none → valV kvs (Sum.inl x : Key) = none
  yes : ∀ (x o a n : Int), look img x = some (o, a, n) → ∃ t, valV kvs (Sum.inl x : Key) = some (.ref t) ∧ H t = some (.tup [.int o, .int a, .int n])
theorem TabAt.upd {H : Hp} {tb q : Addr} {img : List Int} {kvs : List (Key × V)} {o : HO} (h : TabAt H tb img kvs) (hn : tb ≠ q) (ht : ∀ xs, H q ≠ some (.tup xs)) : TabAt (L2.upd H q o) tb img kvs :=
  ⟨by rw [upd_ne hn]; exact h.d, h.no, fun x o' a n e => by
    obtain ⟨t, e1, e2⟩ := h.yes x o' a n e
    refine ⟨t, e1, ?_⟩
    rw [upd_ne (show t ≠ q from fun z => ht _ (by rw [← z]; exact e2))]
    exact e2⟩
/-- the State at a.p is the mirror's m; n bounds its parts -/
structure StAt (K : PySem.W.Frag) (H : Hp) (a : SA) (img nums : List Int) (m : M) (steps : Int) (n : Nat) (pl : Nat) (kvs kvt : List (Key × V)) : Prop where
  ob : H a.p = some (.ins (CS K) a.dx (stF a m.at_ pl steps))
  him : H a.im = some (.lst (img.map V.int))
  hnm : H a.nm = some (.lst (nums.map V.int))
  htb : TabAt H a.tb img kvt
  hst : H a.st = some (stk m.stk)
  hso : H a.so = some (.dK kvs)
  sto : ∀ x : Int, (valV kvs (Sum.inl x : Key)).getD (.int 0) = .int (m.sto x)
  hbk : H a.bk = some (stk m.bk)
  hou : H a.ou = some (stk m.out)
  hpl : m.rest = nums.drop pl ∧ pl ≤ nums.length
  sz : m.stk.length ≤ n ∧ m.bk.length ≤ n ∧ m.out.length ≤ n ∧ kvs.length ≤ n
  nd : [a.im, a.nm, a.st, a.bk, a.ou].Nodup
  ns : a.so ≠ a.tb
section
variable {K : PySem.W.Frag} {H : Hp} {a : SA} {img nums : List Int} {m : M} {steps : Int} {n pl : Nat} {kvs kvt : List (Key × V)}
theorem StAt.ds (h : StAt K H a img nums m steps n pl kvs kvt) : (a.im ≠ a.nm ∧ a.im ≠ a.st ∧ a.im ≠ a.bk ∧ a.im ≠ a.ou) ∧ (a.nm ≠ a.st ∧ a.nm ≠ a.bk ∧ a.nm ≠ a.ou) ∧ (a.st ≠ a.bk ∧ a.st ≠ a.ou) ∧ a.bk ≠ a.ou := by
  have := h.nd
  simp only [List.nodup_cons, List.mem_cons, List.mem_nil_iff, or_false, not_or, List.nodup_nil, and_true, not_false_eq_true] at this
  exact ⟨this.1, this.2.1, this.2.2.1, this.2.2.2⟩
theorem StAt.dk (h : StAt K H a img nums m steps n pl kvs kvt) {q : Addr} {xs : List V} (hq : H q = some (.lst xs)) : a.p ≠ q ∧ a.tb ≠ q ∧ a.so ≠ q ∧ ∀ ys, H q ≠ some (.tup ys) :=
  ⟨ne_of h.ob hq (by intro z; cases z), ne_of h.htb.d hq (by intro z; cases z), ne_of h.hso hq (by intro z; cases z), fun ys z => by rw [hq] at z; cases z⟩
theorem StAt.setSt (h : StAt K H a img nums m steps n pl kvs kvt) (l : List Int) {n' : Nat} (hl : l.length ≤ n') (hn : n ≤ n') : StAt K (upd H a.st (stk l)) a img nums { m with stk := l } steps n' pl kvs kvt := by
  obtain ⟨d1, d2, d3, d4⟩ := h.ds
  obtain ⟨e1, e2, e3, e4⟩ := h.dk h.hst
  refine ⟨?_, ?_, ?_, h.htb.upd e2 e4, upd_same, ?_, h.sto, ?_, ?_, h.hpl, ⟨hl, ?_, ?_, ?_⟩, h.nd, h.ns⟩
  · rw [upd_ne e1]; exact h.ob
  · rw [upd_ne d1.2.1]; exact h.him
  · rw [upd_ne d2.1]; exact h.hnm
  · rw [upd_ne e3]; exact h.hso
  · rw [upd_ne d3.1.symm]; exact h.hbk
  · rw [upd_ne d3.2.symm]; exact h.hou
  · exact Nat.le_trans h.sz.2.1 hn
  · exact Nat.le_trans h.sz.2.2.1 hn
  · exact Nat.le_trans h.sz.2.2.2 hn
theorem StAt.setBk (h : StAt K H a img nums m steps n pl kvs kvt) (l : List Int) {n' : Nat} (hl : l.length ≤ n') (hn : n ≤ n') : StAt K (upd H a.bk (stk l)) a img nums { m with bk := l } steps n' pl kvs kvt := by
  obtain ⟨d1, d2, d3, d4⟩ := h.ds
  obtain ⟨e1, e2, e3, e4⟩ := h.dk h.hbk
  refine ⟨?_, ?_, ?_, h.htb.upd e2 e4, ?_, ?_, h.sto, upd_same, ?_, h.hpl, ⟨?_, hl, ?_, ?_⟩, h.nd, h.ns⟩
  · rw [upd_ne e1]; exact h.ob
  · rw [upd_ne d1.2.2.1]; exact h.him
  · rw [upd_ne d2.2.1]; exact h.hnm
  · rw [upd_ne d3.1]; exact h.hst
  · rw [upd_ne e3]; exact h.hso
  · rw [upd_ne d4.symm]; exact h.hou
  · exact Nat.le_trans h.sz.1 hn
  · exact Nat.le_trans h.sz.2.2.1 hn
  · exact Nat.le_trans h.sz.2.2.2 hn
theorem StAt.setOu (h : StAt K H a img nums m steps n pl kvs kvt) (l : List Int) {n' : Nat} (hl : l.length ≤ n') (hn : n ≤ n') : StAt K (upd H a.ou (stk l)) a img nums { m with out := l } steps n' pl kvs kvt := by
  obtain ⟨d1, d2, d3, d4⟩ := h.ds
  obtain ⟨e1, e2, e3, e4⟩ := h.dk h.hou
  refine ⟨?_, ?_, ?_, h.htb.upd e2 e4, ?_, ?_, h.sto, ?_, upd_same, h.hpl, ⟨?_, ?_, hl, ?_⟩, h.nd, h.ns⟩
  · rw [upd_ne e1]; exact h.ob
  · rw [upd_ne d1.2.2.2]; exact h.him
  · rw [upd_ne d2.2.2]; exact h.hnm
  · rw [upd_ne d3.2]; exact h.hst
  · rw [upd_ne e3]; exact h.hso
  · rw [upd_ne d4]; exact h.hbk
  · exact Nat.le_trans h.sz.1 hn
  · exact Nat.le_trans h.sz.2.1 hn
  · exact Nat.le_trans h.sz.2.2.2 hn
theorem StAt.setSo (h : StAt K H a img nums m steps n pl kvs kvt) (k v : Int) {n' : Nat} (hn : n + 1 ≤ n') : StAt K (upd H a.so (.dK (putK kvs (Sum.inl k) (.int v)))) a img nums { m with sto := set m.sto k v } steps n' pl (putK kvs (Sum.inl k) (.int v)) kvt := by
  have f1 : a.p ≠ a.so := ne_of h.ob h.hso (by intro z; cases z)
  have f2 : ∀ {q : Addr} {xs : List V}, H q = some (.lst xs) → q ≠ a.so := fun hq => ne_of hq h.hso (by intro z; cases z)
  refine ⟨?_, ?_, ?_, h.htb.upd h.ns.symm (fun xs z => by rw [h.hso] at z; cases z), ?_, upd_same, ?_, ?_, ?_, h.hpl, ⟨?_, ?_, ?_, ?_⟩, h.nd, h.ns⟩
  · rw [upd_ne f1]; exact h.ob
  · rw [upd_ne (f2 h.him)]; exact h.him
  · rw [upd_ne (f2 h.hnm)]; exact h.hnm
  · rw [upd_ne (f2 h.hst)]; exact h.hst
  · intro x
    rw [valV_put]
    show _ = V.int (if x = k then v else m.sto x)
    by_cases e : x = k
    · subst e
      rw [if_pos rfl, if_pos rfl]
      rfl
    · rw [if_neg (fun z => e (Sum.inl.inj z)), if_neg e]
      exact h.sto x
  · rw [upd_ne (f2 h.hbk)]; exact h.hbk
  · rw [upd_ne (f2 h.hou)]; exact h.hou
  · exact Nat.le_trans h.sz.1 (by omega)
  · exact Nat.le_trans h.sz.2.1 (by omega)
  · exact Nat.le_trans h.sz.2.2.1 (by omega)
  · exact Nat.le_trans (length_putK ..) (by have := h.sz.2.2.2; omega)
theorem StAt.setF (h : StAt K H a img nums m steps n pl kvs kvt) {fs : List (Str × V)} (at' : Int) (pl' : Nat) (rest' : List Int) (steps' : Int) (e : fs = stF a at' pl' steps') (hp : rest' = nums.drop pl' ∧ pl' ≤ nums.length) {n' : Nat} (hn : n ≤ n') :
    StAt K (upd H a.p (.ins (CS K) a.dx fs)) a img nums { m with at_ := at', rest := rest' } steps' n' pl' kvs kvt := by
  have f2 : ∀ {q : Addr} {xs : List V}, H q = some (.lst xs) → q ≠ a.p := fun hq => ne_of hq h.ob (by intro z; cases z)
  refine ⟨by rw [upd_same, e], ?_, ?_, h.htb.upd (ne_of h.htb.d h.ob (by intro z; cases z)) (fun xs z => by rw [h.ob] at z; cases z), ?_, ?_, h.sto, ?_, ?_, hp, ⟨?_, ?_, ?_, ?_⟩, h.nd, h.ns⟩
  · rw [upd_ne (f2 h.him)]; exact h.him
  · rw [upd_ne (f2 h.hnm)]; exact h.hnm
  · rw [upd_ne (f2 h.hst)]; exact h.hst
  · rw [upd_ne (ne_of h.hso h.ob (by intro z; cases z))]; exact h.hso
  · rw [upd_ne (f2 h.hbk)]; exact h.hbk
  · rw [upd_ne (f2 h.hou)]; exact h.hou
  · exact Nat.le_trans h.sz.1 hn
  · exact Nat.le_trans h.sz.2.1 hn
  · exact Nat.le_trans h.sz.2.2.1 hn
  · exact Nat.le_trans h.sz.2.2.2 hn
theorem StAt.setAt (h : StAt K H a img nums m steps n pl kvs kvt) (x : Int) {n' : Nat} (hn : n ≤ n') : StAt K (upd H a.p (.ins (CS K) a.dx (putF "at" (.int x) (stF a m.at_ pl steps)))) a img nums { m with at_ := x } steps n' pl kvs kvt := h.setF x pl m.rest steps stP_at h.hpl hn
theorem StAt.new (h : StAt K H a img nums m steps n pl kvs kvt) {q : Addr} {o : HO} (hq : H q = none) : StAt K (upd H q o) a img nums m steps n pl kvs kvt := by
  have f : ∀ {b : Addr} {u : HO}, H b = some u → b ≠ q := fun hb => ne_of_none hb hq
  refine ⟨?_, ?_, ?_, h.htb.upd (f h.htb.d) (fun xs z => by rw [hq] at z; cases z), ?_, ?_, h.sto, ?_, ?_, h.hpl, h.sz, h.nd, h.ns⟩
  · rw [upd_ne (f h.ob)]; exact h.ob
  · rw [upd_ne (f h.him)]; exact h.him
  · rw [upd_ne (f h.hnm)]; exact h.hnm
  · rw [upd_ne (f h.hst)]; exact h.hst
  · rw [upd_ne (f h.hso)]; exact h.hso
  · rw [upd_ne (f h.hbk)]; exact h.hbk
  · rw [upd_ne (f h.hou)]; exact h.hou
theorem StAt.mono (h : StAt K H a img nums m steps n pl kvs kvt) {n' : Nat} (hn : n ≤ n') : StAt K H a img nums m steps n' pl kvs kvt :=
  ⟨h.ob, h.him, h.hnm, h.htb, h.hst, h.hso, h.sto, h.hbk, h.hou, h.hpl, ⟨Nat.le_trans h.sz.1 hn, Nat.le_trans h.sz.2.1 hn, Nat.le_trans h.sz.2.2.1 hn, Nat.le_trans h.sz.2.2.2 hn⟩, h.nd, h.ns⟩
end
/-- what a deed may change -/
abbrev SA.mut (a : SA) : List Addr := [a.p, a.st, a.so, a.bk, a.ou]
/-! ### pull -/
def sp_State_pull (K : PySem.W.Frag) : Sp := fun vs H Q _ => ∃ p dx fs st ds, vs = [.ref p] ∧ H p = some (.ins (CS K) dx fs) ∧ fs.lookup ("stack" : Str) = some (.ref st) ∧ H st = some (stk ds) ∧ Q (.int (ds.headD 0)) (upd H st (stk ds.tail))
theorem sc_State_pull : FnScope ["self"] ["self"] (defScope s_State_pull) := C8.fnScope_by (by decide +kernel)
def t_State_pull (K : PySem.W.Frag) : TS := (tSeq (tIfS (tTru K (tFld K (tVar 0) "stack")) (tRet (tBM0 K "list" rPop (tFld K (tVar 0) "stack"))) tNext) (tRet (tC (.int 0))))
theorem d_State_pull {P : Program} {w : World} {K : PySem.W.Frag} {mg : Str → Option Value} {base : Heap} (T : Txt w K mg) (f : Addr) (cdv : Value) (A : Around) (outer : List Env) (s : Shared) (H : Hp) (E : XK) (hr : Room 0 (A.deeper (envOfC "State.pull" (defScope s_State_pull) s.heap.objs.size f cdv))) :
    PSs (Bx P w K mg base ["self"] "State.pull" s_State_pull f cdv A outer s H E) (defBody s_State_pull) (t_State_pull K) :=
  (pss_cons (ps_if (pt_truth (pe_fld (pv 0) rfl) (by intro _; rfl)) (pss_one (ps_ret (pe_bm0 PySem.F.plainAttrs_list PySem.F.slot_list_pop PySem.F.type_list_pop mt_pop (pe_fld (pv 0) rfl)))) pss_nil) (pss_one (ps_ret pe_int)))
theorem l_State_pull {K : PySem.W.Frag} : ∀ vs H Q E, sp_State_pull K vs H Q E → vs.length = ["self"].length := by
  rintro vs H Q E ⟨_, _, _, _, _, rfl, _⟩
  rfl
theorem r_State_pull {w : World} {K : PySem.W.Frag} {mg : Str → Option Value} (T : Txt w K mg) : ∀ vs H Q E, sp_State_pull K vs H Q E → t_State_pull K { nx := fun _ H' => Q .non H', rt := Q } (start ["self"] vs) H := by
  rintro vs H Q E ⟨p, dx, fs, st, ds, rfl, ho, hf, h, k⟩
  cases ds with
  | nil =>
    refine ⟨_, rfl, p, _, dx, _, _, rfl, ho, T.c_State, T.n_State_stack, hf, false, .inl ⟨_, SqL.of h, rfl⟩, iteF ?_⟩
    have e : upd H st (stk [].tail) = H := upd_self h
    rw [e] at k
    exact k
  | cons x r =>
    refine ⟨_, rfl, p, _, dx, _, _, rfl, ho, T.c_State, T.n_State_stack, hf, true, .inl ⟨_, SqL.of h, by simp⟩, iteT ?_⟩
    refine ⟨_, rfl, p, _, dx, _, _, rfl, ho, T.c_State, T.n_State_stack, hf, .inl ⟨rfl, _, SqL.of h⟩, _, _, _, rfl, rfl, h, stk_top x r, ?_⟩
    rw [stk_pop]
    exact k
theorem m_State_pull {P : Program} {w : World} {K : PySem.W.Frag} {mg : Str → Option Value} {base : Heap} (T : Txt w K mg) : C8.Met P w K mg base 1 (He.ga K "State") "pull" (sp_State_pull K) [] := T.met 41 rfl T.c_State T.m_State_pull sc_State_pull (fun _ _ _ _ _ _ us hl => match us, hl with | [_], _ => rfl) l_State_pull (d_State_pull T) (r_State_pull T)
end Pl

set_option Elab.async false
set_option linter.all false
set_option maxRecDepth 100000
set_option maxHeartbeats 4000000
namespace Pl
open PySem PySem.Spec PyProof.Rows L2
/-! ### the deeds -/
section
variable {w : World} {K : PySem.W.Frag} {mg : Str → Option Value} {H H1 : Hp} {a : SA} {img nums : List Int} {m : M} {steps : Int} {n pl : Nat} {kvs kvt : List (Key × V)} {σ : L2.St} {Q : VK}
theorem pullT (T : Txt w K mg) (hs : σ[0]? = some (some (.ref a.p))) (h : StAt K H a img nums m steps n pl kvs kvt) (k : StAt K (upd H a.st (stk m.stk.tail)) a img nums { m with stk := m.stk.tail } steps n pl kvs kvt → Q (.int (m.stk.headD 0)) (upd H a.st (stk m.stk.tail))) :
    tMeth (He.ga K "State") "pull" (sp_State_pull K) [] C8.E0 (tVar 0) tNil σ H Q :=
  ⟨_, hs, a.p, a.dx, _, rfl, h.ob, stF_pull, a.p, a.dx, _, a.st, m.stk, rfl, h.ob, stF_stack, h.hst, k (h.setSt _ (Nat.le_trans (by simp) h.sz.1) (Nat.le_refl _))⟩
theorem apR {v : Int} (h : StAt K H a img nums m steps n pl kvs kvt) (hn : n ≤ 1000002) (k : StAt K (upd H a.st (stk (v :: m.stk))) a img nums { m with stk := v :: m.stk } steps (n + 1) pl kvs kvt → Q .non (upd H a.st (stk (v :: m.stk)))) : rAppend (.ref a.st) [.int v] H Q :=
  ⟨a.st, _, _, rfl, rfl, h.hst, line_lt (by have := h.sz.1; simp; omega), by rw [stk_push]; exact k (h.setSt _ (by have := h.sz.1; simp; omega) (Nat.le_succ n))⟩
theorem apB {v : Int} (h : StAt K H a img nums m steps n pl kvs kvt) (hn : n ≤ 1000002) (k : StAt K (upd H a.bk (stk (v :: m.bk))) a img nums { m with bk := v :: m.bk } steps (n + 1) pl kvs kvt → Q .non (upd H a.bk (stk (v :: m.bk)))) : rAppend (.ref a.bk) [.int v] H Q :=
  ⟨a.bk, _, _, rfl, rfl, h.hbk, line_lt (by have := h.sz.2.1; simp; omega), by rw [stk_push]; exact k (h.setBk _ (by have := h.sz.2.1; simp; omega) (Nat.le_succ n))⟩
theorem apO {v : Int} (h : StAt K H a img nums m steps n pl kvs kvt) (hn : n ≤ 1000002) (k : StAt K (upd H a.ou (stk (v :: m.out))) a img nums { m with out := v :: m.out } steps (n + 1) pl kvs kvt → Q .non (upd H a.ou (stk (v :: m.out)))) : rAppend (.ref a.ou) [.int v] H Q :=
  ⟨a.ou, _, _, rfl, rfl, h.hou, line_lt (by have := h.sz.2.2.1; simp; omega), by rw [stk_push]; exact k (h.setOu _ (by have := h.sz.2.2.1; simp; omega) (Nat.le_succ n))⟩
theorem mP : a.p ∈ a.mut := by simp [SA.mut]
theorem mS : a.st ∈ a.mut := by simp [SA.mut]
theorem mSo : a.so ∈ a.mut := by simp [SA.mut]
theorem mB : a.bk ∈ a.mut := by simp [SA.mut]
theorem mO : a.ou ∈ a.mut := by simp [SA.mut]
theorem apSeq (T : Txt w K mg) (hs : σ[0]? = some (some (.ref a.p))) (h : StAt K H a img nums m steps n pl kvs kvt) {te : TE} {S : TS} {D : L2.Ends} (ht : te σ H fun x H1 => rAppend (.ref a.st) [x] H1 fun _ H2 => S D σ H2) : tSeq (tDrop (tBM K "list" rAppend (tFld K (tVar 0) "stack") (tCons te tNil))) S D σ H :=
  ⟨_, hs, a.p, _, a.dx, _, _, rfl, h.ob, T.c_State, T.n_State_stack, stF_stack, .inl ⟨rfl, _, SqL.of h.hst⟩, ht⟩
theorem apbSeq (T : Txt w K mg) (hs : σ[0]? = some (some (.ref a.p))) (h : StAt K H a img nums m steps n pl kvs kvt) {te : TE} {S : TS} {D : L2.Ends} (ht : te σ H fun x H1 => rAppend (.ref a.bk) [x] H1 fun _ H2 => S D σ H2) : tSeq (tDrop (tBM K "list" rAppend (tFld K (tVar 0) "back") (tCons te tNil))) S D σ H :=
  ⟨_, hs, a.p, _, a.dx, _, _, rfl, h.ob, T.c_State, T.n_State_back, stF_back, .inl ⟨rfl, _, SqL.of h.hbk⟩, ht⟩
theorem apDrop (T : Txt w K mg) (hs : σ[0]? = some (some (.ref a.p))) (h : StAt K H a img nums m steps n pl kvs kvt) {te : TE} {D : L2.Ends} (ht : te σ H fun x H1 => rAppend (.ref a.st) [x] H1 fun _ H2 => D.nx σ H2) : tDrop (tBM K "list" rAppend (tFld K (tVar 0) "stack") (tCons te tNil)) D σ H :=
  ⟨_, hs, a.p, _, a.dx, _, _, rfl, h.ob, T.c_State, T.n_State_stack, stF_stack, .inl ⟨rfl, _, SqL.of h.hst⟩, ht⟩
theorem lowT {x : Int} {q : Node} (h1 : 1 ≤ x) (h2 : x ≤ 199) (hx : look img x = some q) : lowOf (look img) x = true := by
  unfold lowOf
  rw [hx, decide_eq_true h1, decide_eq_true h2]
  rfl
theorem lowF1 {x : Int} (h1 : ¬ 1 ≤ x) : lowOf (look img) x = false := by
  unfold lowOf
  rw [decide_eq_false h1]
  rfl
theorem lowF2 {x : Int} (h1 : ¬ x ≤ 199) : lowOf (look img) x = false := by
  unfold lowOf
  rw [decide_eq_false h1]
  simp
theorem lowF3 {x : Int} (hx : look img x = none) : lowOf (look img) x = false := by
  unfold lowOf
  rw [hx]
  simp
theorem b2_bl (p : Bool) : (if p then (1 : Int) else 0) = b2 p := by cases p <;> rfl
end
/-- what a deed does -/
def spDeed (K : PySem.W.Frag) (op : Int) : Sp := fun vs H Q _ => ∃ a img nums m steps n pl kvs kvt arg, vs = [.ref a.p, .int arg] ∧ StAt K H a img nums m steps n pl kvs kvt ∧ n ≤ 1000000 ∧
  ∀ H' pl' kvs', StAt K H' a img nums (act (lowOf (look img)) img nums op arg m) steps (n + 2) pl' kvs' kvt → KeepL a.mut H H' → Q .non H'
theorem spDeed_len {K : PySem.W.Frag} {op : Int} : ∀ vs H Q E, spDeed K op vs H Q E → vs.length = 2 := by
  rintro vs H Q E ⟨_, _, _, _, _, _, _, _, _, _, rfl, _⟩
  rfl
theorem stk2 (l : List Int) (a b : Int) : l.reverse.map V.int ++ [V.int a, V.int b] = (b :: a :: l).reverse.map V.int := by simp
abbrev sp_d_push (K : PySem.W.Frag) : Sp := spDeed K 35
theorem sc_d_push : FnScope ["state", "argument"] ["state", "argument"] (defScope s_d_push) := C8.fnScope_by (by decide +kernel)
def t_d_push (K : PySem.W.Frag) : TS := (tDrop (tBM K "list" rAppend (tFld K (tVar 0) "stack") (tCons (tVar 1) tNil)))
theorem d_d_push {P : Program} {w : World} {K : PySem.W.Frag} {mg : Str → Option Value} {base : Heap} (T : Txt w K mg) (f : Addr) (cdv : Value) (A : Around) (outer : List Env) (s : Shared) (H : Hp) (E : XK) (hr : Room 0 (A.deeper (envOfC "_push" (defScope s_d_push) s.heap.objs.size f cdv))) :
    PSs (Bx P w K mg base ["state", "argument"] "_push" s_d_push f cdv A outer s H E) (defBody s_d_push) (t_d_push K) :=
  (pss_one (ps_expr (pe_bm PySem.F.plainAttrs_list PySem.F.slot_list_append PySem.F.type_list_append mt_append (pe_fld (pv 0) rfl) (pa_cons (pv 1) pa_nil))))
theorem l_d_push {K : PySem.W.Frag} : ∀ vs H Q E, sp_d_push K vs H Q E → vs.length = ["state", "argument"].length := spDeed_len
theorem r_d_push {w : World} {K : PySem.W.Frag} {mg : Str → Option Value} (T : Txt w K mg) : ∀ vs H Q E, sp_d_push K vs H Q E → t_d_push K { nx := fun _ H' => Q .non H', rt := Q } (start ["state", "argument"] vs) H := by
  rintro vs H Q E ⟨a, img, nums, m, steps, n, pl, kvs, kvt, arg, rfl, h, hn, k⟩
  refine ⟨_, rfl, a.p, _, a.dx, _, _, rfl, h.ob, T.c_State, T.n_State_stack, stF_stack, .inl ⟨rfl, _, SqL.of h.hst⟩, _, rfl, ?_⟩
  exact apR h (by omega) fun h3 => k _ _ _ (h3.mono (by omega)) (KeepL.upd mS)
theorem c_d_push {P : Program} {w : World} {K : PySem.W.Frag} {mg : Str → Option Value} {base : Heap} (T : Txt w K mg) : C8.Cal P w K mg base 1 "_push" (sp_d_push K) [] := T.cal 20 rfl T.g__push sc_d_push (fun _ _ _ _ _ _ us hl => match us, hl with | [_, _], _ => rfl) l_d_push (d_d_push T) (r_d_push T)
abbrev sp_d_plus (K : PySem.W.Frag) : Sp := spDeed K 43
theorem sc_d_plus : FnScope ["state", "argument", "second"] ["state", "argument"] (defScope s_d_plus) := C8.fnScope_by (by decide +kernel)
def t_d_plus (K : PySem.W.Frag) : TS := (tSeq (tAsg (tMeth (He.ga K "State") "pull" (sp_State_pull K) [] C8.E0 (tVar 0) tNil) (gName 2)) (tDrop (tBM K "list" rAppend (tFld K (tVar 0) "stack") (tCons (tOp rAddI (tMeth (He.ga K "State") "pull" (sp_State_pull K) [] C8.E0 (tVar 0) tNil) (tVar 2)) tNil))))
theorem d_d_plus {P : Program} {w : World} {K : PySem.W.Frag} {mg : Str → Option Value} {base : Heap} (T : Txt w K mg) (f : Addr) (cdv : Value) (A : Around) (outer : List Env) (s : Shared) (H : Hp) (E : XK) (hr : Room 1 (A.deeper (envOfC "_plus" (defScope s_d_plus) s.heap.objs.size f cdv))) :
    PSs (Bx P w K mg base ["state", "argument", "second"] "_plus" s_d_plus f cdv A outer s H E) (defBody s_d_plus) (t_d_plus K) :=
  (pss_cons (ps_set (i := 2) sc_d_plus.nd rfl (by first | exact Or.inl rfl | exact Or.inr rfl) (C8.pe_mt0 (m_State_pull T) hr (by decide) (pv 0))) (pss_one (ps_expr (pe_bm PySem.F.plainAttrs_list PySem.F.slot_list_append PySem.F.type_list_append mt_append (pe_fld (pv 0) rfl) (pa_cons (pe_op op_add (C8.pe_mt0 (m_State_pull T) hr (by decide) (pv 0)) (pv 2)) pa_nil)))))
theorem l_d_plus {K : PySem.W.Frag} : ∀ vs H Q E, sp_d_plus K vs H Q E → vs.length = ["state", "argument"].length := spDeed_len
theorem r_d_plus {w : World} {K : PySem.W.Frag} {mg : Str → Option Value} (T : Txt w K mg) : ∀ vs H Q E, sp_d_plus K vs H Q E → t_d_plus K { nx := fun _ H' => Q .non H', rt := Q } (start ["state", "argument", "second"] vs) H := by
  rintro vs H Q E ⟨a, img, nums, m, steps, n, pl, kvs, kvt, arg, rfl, h, hn, k⟩
  refine pullT T rfl h fun h1 => ?_
  refine ⟨_, rfl, a.p, _, a.dx, _, _, rfl, h1.ob, T.c_State, T.n_State_stack, stF_stack, .inl ⟨rfl, _, SqL.of h1.hst⟩, pullT T rfl h1 fun h2 => ⟨_, rfl, _, _, rfl, rfl, ?_⟩⟩
  refine apR h2 (by omega) fun h3 => ?_
  exact k _ _ _ (h3.mono (by omega)) ((KeepL.upd mS).trans ((KeepL.upd mS).trans (KeepL.upd mS)))
theorem c_d_plus {P : Program} {w : World} {K : PySem.W.Frag} {mg : Str → Option Value} {base : Heap} (T : Txt w K mg) : C8.Cal P w K mg base 2 "_plus" (sp_d_plus K) [] := T.cal 21 rfl T.g__plus sc_d_plus (fun _ _ _ _ _ _ us hl => match us, hl with | [_, _], _ => rfl) l_d_plus (d_d_plus T) (r_d_plus T)
abbrev sp_d_minus (K : PySem.W.Frag) : Sp := spDeed K 45
theorem sc_d_minus : FnScope ["state", "argument", "second"] ["state", "argument"] (defScope s_d_minus) := C8.fnScope_by (by decide +kernel)
def t_d_minus (K : PySem.W.Frag) : TS := (tSeq (tAsg (tMeth (He.ga K "State") "pull" (sp_State_pull K) [] C8.E0 (tVar 0) tNil) (gName 2)) (tDrop (tBM K "list" rAppend (tFld K (tVar 0) "stack") (tCons (tOp rSubI (tMeth (He.ga K "State") "pull" (sp_State_pull K) [] C8.E0 (tVar 0) tNil) (tVar 2)) tNil))))
theorem d_d_minus {P : Program} {w : World} {K : PySem.W.Frag} {mg : Str → Option Value} {base : Heap} (T : Txt w K mg) (f : Addr) (cdv : Value) (A : Around) (outer : List Env) (s : Shared) (H : Hp) (E : XK) (hr : Room 1 (A.deeper (envOfC "_minus" (defScope s_d_minus) s.heap.objs.size f cdv))) :
    PSs (Bx P w K mg base ["state", "argument", "second"] "_minus" s_d_minus f cdv A outer s H E) (defBody s_d_minus) (t_d_minus K) :=
  (pss_cons (ps_set (i := 2) sc_d_minus.nd rfl (by first | exact Or.inl rfl | exact Or.inr rfl) (C8.pe_mt0 (m_State_pull T) hr (by decide) (pv 0))) (pss_one (ps_expr (pe_bm PySem.F.plainAttrs_list PySem.F.slot_list_append PySem.F.type_list_append mt_append (pe_fld (pv 0) rfl) (pa_cons (pe_op op_sub (C8.pe_mt0 (m_State_pull T) hr (by decide) (pv 0)) (pv 2)) pa_nil)))))
theorem l_d_minus {K : PySem.W.Frag} : ∀ vs H Q E, sp_d_minus K vs H Q E → vs.length = ["state", "argument"].length := spDeed_len
theorem r_d_minus {w : World} {K : PySem.W.Frag} {mg : Str → Option Value} (T : Txt w K mg) : ∀ vs H Q E, sp_d_minus K vs H Q E → t_d_minus K { nx := fun _ H' => Q .non H', rt := Q } (start ["state", "argument", "second"] vs) H := by
  rintro vs H Q E ⟨a, img, nums, m, steps, n, pl, kvs, kvt, arg, rfl, h, hn, k⟩
  refine pullT T rfl h fun h1 => ?_
  refine ⟨_, rfl, a.p, _, a.dx, _, _, rfl, h1.ob, T.c_State, T.n_State_stack, stF_stack, .inl ⟨rfl, _, SqL.of h1.hst⟩, pullT T rfl h1 fun h2 => ⟨_, rfl, _, _, rfl, rfl, ?_⟩⟩
  refine apR h2 (by omega) fun h3 => ?_
  exact k _ _ _ (h3.mono (by omega)) ((KeepL.upd mS).trans ((KeepL.upd mS).trans (KeepL.upd mS)))
theorem c_d_minus {P : Program} {w : World} {K : PySem.W.Frag} {mg : Str → Option Value} {base : Heap} (T : Txt w K mg) : C8.Cal P w K mg base 2 "_minus" (sp_d_minus K) [] := T.cal 22 rfl T.g__minus sc_d_minus (fun _ _ _ _ _ _ us hl => match us, hl with | [_, _], _ => rfl) l_d_minus (d_d_minus T) (r_d_minus T)
abbrev sp_d_digit (K : PySem.W.Frag) : Sp := spDeed K 42
theorem sc_d_digit : FnScope ["state", "argument", "second"] ["state", "argument"] (defScope s_d_digit) := C8.fnScope_by (by decide +kernel)
def t_d_digit (K : PySem.W.Frag) : TS := (tSeq (tAsg (tMeth (He.ga K "State") "pull" (sp_State_pull K) [] C8.E0 (tVar 0) tNil) (gName 2)) (tDrop (tBM K "list" rAppend (tFld K (tVar 0) "stack") (tCons (tOp rAddI (tOp rMulI (tC (.int 10)) (tMeth (He.ga K "State") "pull" (sp_State_pull K) [] C8.E0 (tVar 0) tNil)) (tVar 2)) tNil))))
theorem d_d_digit {P : Program} {w : World} {K : PySem.W.Frag} {mg : Str → Option Value} {base : Heap} (T : Txt w K mg) (f : Addr) (cdv : Value) (A : Around) (outer : List Env) (s : Shared) (H : Hp) (E : XK) (hr : Room 1 (A.deeper (envOfC "_digit" (defScope s_d_digit) s.heap.objs.size f cdv))) :
    PSs (Bx P w K mg base ["state", "argument", "second"] "_digit" s_d_digit f cdv A outer s H E) (defBody s_d_digit) (t_d_digit K) :=
  (pss_cons (ps_set (i := 2) sc_d_digit.nd rfl (by first | exact Or.inl rfl | exact Or.inr rfl) (C8.pe_mt0 (m_State_pull T) hr (by decide) (pv 0))) (pss_one (ps_expr (pe_bm PySem.F.plainAttrs_list PySem.F.slot_list_append PySem.F.type_list_append mt_append (pe_fld (pv 0) rfl) (pa_cons (pe_op op_add (pe_op op_mul pe_int (C8.pe_mt0 (m_State_pull T) hr (by decide) (pv 0))) (pv 2)) pa_nil)))))
theorem l_d_digit {K : PySem.W.Frag} : ∀ vs H Q E, sp_d_digit K vs H Q E → vs.length = ["state", "argument"].length := spDeed_len
theorem r_d_digit {w : World} {K : PySem.W.Frag} {mg : Str → Option Value} (T : Txt w K mg) : ∀ vs H Q E, sp_d_digit K vs H Q E → t_d_digit K { nx := fun _ H' => Q .non H', rt := Q } (start ["state", "argument", "second"] vs) H := by
  rintro vs H Q E ⟨a, img, nums, m, steps, n, pl, kvs, kvt, arg, rfl, h, hn, k⟩
  refine pullT T rfl h fun h1 => ?_
  refine ⟨_, rfl, a.p, _, a.dx, _, _, rfl, h1.ob, T.c_State, T.n_State_stack, stF_stack, .inl ⟨rfl, _, SqL.of h1.hst⟩, ?_⟩
  refine pullT T rfl h1 fun h2 => ?_
  refine ⟨_, _, rfl, rfl, .inl ⟨by decide, by decide⟩, _, rfl, _, _, rfl, rfl, ?_⟩
  refine apR h2 (by omega) fun h3 => ?_
  exact k _ _ _ (h3.mono (by omega)) ((KeepL.upd mS).trans ((KeepL.upd mS).trans (KeepL.upd mS)))
theorem c_d_digit {P : Program} {w : World} {K : PySem.W.Frag} {mg : Str → Option Value} {base : Heap} (T : Txt w K mg) : C8.Cal P w K mg base 2 "_digit" (sp_d_digit K) [] := T.cal 23 rfl T.g__digit sc_d_digit (fun _ _ _ _ _ _ us hl => match us, hl with | [_, _], _ => rfl) l_d_digit (d_d_digit T) (r_d_digit T)
abbrev sp_d_less (K : PySem.W.Frag) : Sp := spDeed K 60
theorem sc_d_less : FnScope ["state", "argument", "second"] ["state", "argument"] (defScope s_d_less) := C8.fnScope_by (by decide +kernel)
def t_d_less (K : PySem.W.Frag) : TS := (tSeq (tAsg (tMeth (He.ga K "State") "pull" (sp_State_pull K) [] C8.E0 (tVar 0) tNil) (gName 2)) (tDrop (tBM K "list" rAppend (tFld K (tVar 0) "stack") (tCons (tCB rInt1 (tCons (tOp rLtI (tMeth (He.ga K "State") "pull" (sp_State_pull K) [] C8.E0 (tVar 0) tNil) (tVar 2)) tNil)) tNil))))
theorem d_d_less {P : Program} {w : World} {K : PySem.W.Frag} {mg : Str → Option Value} {base : Heap} (T : Txt w K mg) (f : Addr) (cdv : Value) (A : Around) (outer : List Env) (s : Shared) (H : Hp) (E : XK) (hr : Room 1 (A.deeper (envOfC "_less" (defScope s_d_less) s.heap.objs.size f cdv))) :
    PSs (Bx P w K mg base ["state", "argument", "second"] "_less" s_d_less f cdv A outer s H E) (defBody s_d_less) (t_d_less K) :=
  (pss_cons (ps_set (i := 2) sc_d_less.nd rfl (by first | exact Or.inl rfl | exact Or.inr rfl) (C8.pe_mt0 (m_State_pull T) hr (by decide) (pv 0))) (pss_one (ps_expr (pe_bm PySem.F.plainAttrs_list PySem.F.slot_list_append PySem.F.type_list_append mt_append (pe_fld (pv 0) rfl) (pa_cons (pe_callTy call_int1 (by rfl) T.f_int boot_int (pa_cons (pe_cmpR op_lt (C8.pe_mt0 (m_State_pull T) hr (by decide) (pv 0)) (pv 2) (nomark _)) pa_nil)) pa_nil)))))
theorem l_d_less {K : PySem.W.Frag} : ∀ vs H Q E, sp_d_less K vs H Q E → vs.length = ["state", "argument"].length := spDeed_len
theorem r_d_less {w : World} {K : PySem.W.Frag} {mg : Str → Option Value} (T : Txt w K mg) : ∀ vs H Q E, sp_d_less K vs H Q E → t_d_less K { nx := fun _ H' => Q .non H', rt := Q } (start ["state", "argument", "second"] vs) H := by
  rintro vs H Q E ⟨a, img, nums, m, steps, n, pl, kvs, kvt, arg, rfl, h, hn, k⟩
  refine pullT T rfl h fun h1 => ?_
  refine ⟨_, rfl, a.p, _, a.dx, _, _, rfl, h1.ob, T.c_State, T.n_State_stack, stF_stack, .inl ⟨rfl, _, SqL.of h1.hst⟩, pullT T rfl h1 fun h2 => ⟨_, rfl, _, _, rfl, rfl, .inr ⟨_, rfl, ?_⟩⟩⟩
  rw [b2_bl]
  refine apR h2 (by omega) fun h3 => ?_
  exact k _ _ _ (h3.mono (by omega)) ((KeepL.upd mS).trans ((KeepL.upd mS).trans (KeepL.upd mS)))
theorem c_d_less {P : Program} {w : World} {K : PySem.W.Frag} {mg : Str → Option Value} {base : Heap} (T : Txt w K mg) : C8.Cal P w K mg base 2 "_less" (sp_d_less K) [] := T.cal 24 rfl T.g__less sc_d_less (fun _ _ _ _ _ _ us hl => match us, hl with | [_, _], _ => rfl) l_d_less (d_d_less T) (r_d_less T)
abbrev sp_d_same (K : PySem.W.Frag) : Sp := spDeed K 126
theorem sc_d_same : FnScope ["state", "argument", "second"] ["state", "argument"] (defScope s_d_same) := C8.fnScope_by (by decide +kernel)
def t_d_same (K : PySem.W.Frag) : TS := (tSeq (tAsg (tMeth (He.ga K "State") "pull" (sp_State_pull K) [] C8.E0 (tVar 0) tNil) (gName 2)) (tDrop (tBM K "list" rAppend (tFld K (tVar 0) "stack") (tCons (tCB rInt1 (tCons (tOp rEq (tMeth (He.ga K "State") "pull" (sp_State_pull K) [] C8.E0 (tVar 0) tNil) (tVar 2)) tNil)) tNil))))
theorem d_d_same {P : Program} {w : World} {K : PySem.W.Frag} {mg : Str → Option Value} {base : Heap} (T : Txt w K mg) (f : Addr) (cdv : Value) (A : Around) (outer : List Env) (s : Shared) (H : Hp) (E : XK) (hr : Room 1 (A.deeper (envOfC "_same" (defScope s_d_same) s.heap.objs.size f cdv))) :
    PSs (Bx P w K mg base ["state", "argument", "second"] "_same" s_d_same f cdv A outer s H E) (defBody s_d_same) (t_d_same K) :=
  (pss_cons (ps_set (i := 2) sc_d_same.nd rfl (by first | exact Or.inl rfl | exact Or.inr rfl) (C8.pe_mt0 (m_State_pull T) hr (by decide) (pv 0))) (pss_one (ps_expr (pe_bm PySem.F.plainAttrs_list PySem.F.slot_list_append PySem.F.type_list_append mt_append (pe_fld (pv 0) rfl) (pa_cons (pe_callTy call_int1 (by rfl) T.f_int boot_int (pa_cons (pe_cmpR op_eq (C8.pe_mt0 (m_State_pull T) hr (by decide) (pv 0)) (pv 2) (nomark _)) pa_nil)) pa_nil)))))
theorem l_d_same {K : PySem.W.Frag} : ∀ vs H Q E, sp_d_same K vs H Q E → vs.length = ["state", "argument"].length := spDeed_len
theorem r_d_same {w : World} {K : PySem.W.Frag} {mg : Str → Option Value} (T : Txt w K mg) : ∀ vs H Q E, sp_d_same K vs H Q E → t_d_same K { nx := fun _ H' => Q .non H', rt := Q } (start ["state", "argument", "second"] vs) H := by
  rintro vs H Q E ⟨a, img, nums, m, steps, n, pl, kvs, kvt, arg, rfl, h, hn, k⟩
  refine pullT T rfl h fun h1 => ?_
  refine ⟨_, rfl, a.p, _, a.dx, _, _, rfl, h1.ob, T.c_State, T.n_State_stack, stF_stack, .inl ⟨rfl, _, SqL.of h1.hst⟩, pullT T rfl h1 fun h2 => ⟨_, rfl, rfl, .inr ⟨_, rfl, ?_⟩⟩⟩
  rw [b2_bl, int_eq_dec]
  refine apR h2 (by omega) fun h3 => ?_
  exact k _ _ _ (h3.mono (by omega)) ((KeepL.upd mS).trans ((KeepL.upd mS).trans (KeepL.upd mS)))
theorem c_d_same {P : Program} {w : World} {K : PySem.W.Frag} {mg : Str → Option Value} {base : Heap} (T : Txt w K mg) : C8.Cal P w K mg base 2 "_same" (sp_d_same K) [] := T.cal 25 rfl T.g__same sc_d_same (fun _ _ _ _ _ _ us hl => match us, hl with | [_, _], _ => rfl) l_d_same (d_d_same T) (r_d_same T)
abbrev sp_d_load (K : PySem.W.Frag) : Sp := spDeed K 64
theorem sc_d_load : FnScope ["state", "argument"] ["state", "argument"] (defScope s_d_load) := C8.fnScope_by (by decide +kernel)
def t_d_load (K : PySem.W.Frag) : TS := (tDrop (tBM K "list" rAppend (tFld K (tVar 0) "stack") (tCons (tDGet2 (tFld K (tVar 0) "store") (tMeth (He.ga K "State") "pull" (sp_State_pull K) [] C8.E0 (tVar 0) tNil) (tC (.int 0))) tNil)))
theorem d_d_load {P : Program} {w : World} {K : PySem.W.Frag} {mg : Str → Option Value} {base : Heap} (T : Txt w K mg) (f : Addr) (cdv : Value) (A : Around) (outer : List Env) (s : Shared) (H : Hp) (E : XK) (hr : Room 1 (A.deeper (envOfC "_load" (defScope s_d_load) s.heap.objs.size f cdv))) :
    PSs (Bx P w K mg base ["state", "argument"] "_load" s_d_load f cdv A outer s H E) (defBody s_d_load) (t_d_load K) :=
  (pss_one (ps_expr (pe_bm PySem.F.plainAttrs_list PySem.F.slot_list_append PySem.F.type_list_append mt_append (pe_fld (pv 0) rfl) (pa_cons (pe_dget2 (hu_of hr) (pe_fld (pv 0) rfl) (C8.pe_mt0 (m_State_pull T) hr (by decide) (pv 0)) pe_int ⟨by rfl, by rfl, by rfl, by rfl⟩) pa_nil))))
theorem l_d_load {K : PySem.W.Frag} : ∀ vs H Q E, sp_d_load K vs H Q E → vs.length = ["state", "argument"].length := spDeed_len
theorem r_d_load {w : World} {K : PySem.W.Frag} {mg : Str → Option Value} (T : Txt w K mg) : ∀ vs H Q E, sp_d_load K vs H Q E → t_d_load K { nx := fun _ H' => Q .non H', rt := Q } (start ["state", "argument"] vs) H := by
  rintro vs H Q E ⟨a, img, nums, m, steps, n, pl, kvs, kvt, arg, rfl, h, hn, k⟩
  refine ⟨_, rfl, a.p, _, a.dx, _, _, rfl, h.ob, T.c_State, T.n_State_stack, stF_stack, .inl ⟨rfl, _, SqL.of h.hst⟩, _, rfl, a.p, _, a.dx, _, _, rfl, h.ob, T.c_State, T.n_State_store, stF_store, a.so, rfl, .inl ⟨_, Rd.of h.hso⟩, pullT T rfl h fun h1 => ⟨_, DGet.k (k := Sum.inl (m.stk.headD 0)) h1.hso, ?_⟩⟩
  rw [h1.sto]
  refine apR h1 (by omega) fun h3 => ?_
  exact k _ _ _ (h3.mono (by omega)) ((KeepL.upd mS).trans (KeepL.upd mS))
theorem c_d_load {P : Program} {w : World} {K : PySem.W.Frag} {mg : Str → Option Value} {base : Heap} (T : Txt w K mg) : C8.Cal P w K mg base 2 "_load" (sp_d_load K) [] := T.cal 26 rfl T.g__load sc_d_load (fun _ _ _ _ _ _ us hl => match us, hl with | [_, _], _ => rfl) l_d_load (d_d_load T) (r_d_load T)
abbrev sp_d_keep (K : PySem.W.Frag) : Sp := spDeed K 33
theorem sc_d_keep : FnScope ["state", "argument", "address"] ["state", "argument"] (defScope s_d_keep) := C8.fnScope_by (by decide +kernel)
def t_d_keep (K : PySem.W.Frag) : TS := (tSeq (tAsg (tMeth (He.ga K "State") "pull" (sp_State_pull K) [] C8.E0 (tVar 0) tNil) (gName 2)) (sDPut (tFld K (tVar 0) "store") (tVar 2) (tMeth (He.ga K "State") "pull" (sp_State_pull K) [] C8.E0 (tVar 0) tNil)))
theorem d_d_keep {P : Program} {w : World} {K : PySem.W.Frag} {mg : Str → Option Value} {base : Heap} (T : Txt w K mg) (f : Addr) (cdv : Value) (A : Around) (outer : List Env) (s : Shared) (H : Hp) (E : XK) (hr : Room 1 (A.deeper (envOfC "_keep" (defScope s_d_keep) s.heap.objs.size f cdv))) :
    PSs (Bx P w K mg base ["state", "argument", "address"] "_keep" s_d_keep f cdv A outer s H E) (defBody s_d_keep) (t_d_keep K) :=
  (pss_cons (ps_set (i := 2) sc_d_keep.nd rfl (by first | exact Or.inl rfl | exact Or.inr rfl) (C8.pe_mt0 (m_State_pull T) hr (by decide) (pv 0))) (pss_one (ps_dput (hu_of hr) (pe_fld (pv 0) rfl) (pv 2) (C8.pe_mt0 (m_State_pull T) hr (by decide) (pv 0)) rfl)))
theorem l_d_keep {K : PySem.W.Frag} : ∀ vs H Q E, sp_d_keep K vs H Q E → vs.length = ["state", "argument"].length := spDeed_len
theorem r_d_keep {w : World} {K : PySem.W.Frag} {mg : Str → Option Value} (T : Txt w K mg) : ∀ vs H Q E, sp_d_keep K vs H Q E → t_d_keep K { nx := fun _ H' => Q .non H', rt := Q } (start ["state", "argument", "address"] vs) H := by
  rintro vs H Q E ⟨a, img, nums, m, steps, n, pl, kvs, kvt, arg, rfl, h, hn, k⟩
  refine pullT T rfl h fun h1 => ?_
  refine pullT T rfl h1 fun h2 => ?_
  refine ⟨_, rfl, a.p, _, a.dx, _, _, rfl, h2.ob, T.c_State, T.n_State_store, stF_store, _, rfl, a.so, _, rfl, DPut.k (k := Sum.inl (m.stk.headD 0)) h2.hso (line_lt (by have := h2.sz.2.2.2; omega)), ?_⟩
  exact k _ _ _ ((h2.setSo _ _ (Nat.le_refl _)).mono (by omega)) ((KeepL.upd mS).trans ((KeepL.upd mS).trans (KeepL.upd mSo)))
theorem c_d_keep {P : Program} {w : World} {K : PySem.W.Frag} {mg : Str → Option Value} {base : Heap} (T : Txt w K mg) : C8.Cal P w K mg base 2 "_keep" (sp_d_keep K) [] := T.cal 27 rfl T.g__keep sc_d_keep (fun _ _ _ _ _ _ us hl => match us, hl with | [_, _], _ => rfl) l_d_keep (d_d_keep T) (r_d_keep T)
abbrev sp_d_assign (K : PySem.W.Frag) : Sp := spDeed K 61
theorem sc_d_assign : FnScope ["state", "argument"] ["state", "argument"] (defScope s_d_assign) := C8.fnScope_by (by decide +kernel)
def t_d_assign (K : PySem.W.Frag) : TS := (sDPut (tFld K (tVar 0) "store") (tVar 1) (tMeth (He.ga K "State") "pull" (sp_State_pull K) [] C8.E0 (tVar 0) tNil))
theorem d_d_assign {P : Program} {w : World} {K : PySem.W.Frag} {mg : Str → Option Value} {base : Heap} (T : Txt w K mg) (f : Addr) (cdv : Value) (A : Around) (outer : List Env) (s : Shared) (H : Hp) (E : XK) (hr : Room 1 (A.deeper (envOfC "_assign" (defScope s_d_assign) s.heap.objs.size f cdv))) :
    PSs (Bx P w K mg base ["state", "argument"] "_assign" s_d_assign f cdv A outer s H E) (defBody s_d_assign) (t_d_assign K) :=
  (pss_one (ps_dput (hu_of hr) (pe_fld (pv 0) rfl) (pv 1) (C8.pe_mt0 (m_State_pull T) hr (by decide) (pv 0)) rfl))
theorem l_d_assign {K : PySem.W.Frag} : ∀ vs H Q E, sp_d_assign K vs H Q E → vs.length = ["state", "argument"].length := spDeed_len
theorem r_d_assign {w : World} {K : PySem.W.Frag} {mg : Str → Option Value} (T : Txt w K mg) : ∀ vs H Q E, sp_d_assign K vs H Q E → t_d_assign K { nx := fun _ H' => Q .non H', rt := Q } (start ["state", "argument"] vs) H := by
  rintro vs H Q E ⟨a, img, nums, m, steps, n, pl, kvs, kvt, arg, rfl, h, hn, k⟩
  refine pullT T rfl h fun h2 => ?_
  refine ⟨_, rfl, a.p, _, a.dx, _, _, rfl, h2.ob, T.c_State, T.n_State_store, stF_store, _, rfl, a.so, _, rfl, DPut.k (k := Sum.inl arg) h2.hso (line_lt (by have := h2.sz.2.2.2; omega)), ?_⟩
  exact k _ _ _ ((h2.setSo _ _ (Nat.le_refl _)).mono (by omega)) ((KeepL.upd mS).trans (KeepL.upd mSo))
theorem c_d_assign {P : Program} {w : World} {K : PySem.W.Frag} {mg : Str → Option Value} {base : Heap} (T : Txt w K mg) : C8.Cal P w K mg base 2 "_assign" (sp_d_assign K) [] := T.cal 28 rfl T.g__assign sc_d_assign (fun _ _ _ _ _ _ us hl => match us, hl with | [_, _], _ => rfl) l_d_assign (d_d_assign T) (r_d_assign T)
abbrev sp_d_take (K : PySem.W.Frag) : Sp := spDeed K 44
theorem sc_d_take : FnScope ["state", "argument"] ["state", "argument"] (defScope s_d_take) := C8.fnScope_by (by decide +kernel)
def t_d_take (K : PySem.W.Frag) : TS := (tIfS (tTest (tOp rLtI (tFld K (tVar 0) "place") (tCB (rLenSeq K) (tCons (tFld K (tVar 0) "numbers") tNil)))) (tSeq (tDrop (tBM K "list" rAppend (tFld K (tVar 0) "stack") (tCons (tOp (rIxL K) (tFld K (tVar 0) "numbers") (tFld K (tVar 0) "place")) tNil))) (sFldAug K (tVar 0) (tC (.int 1)) L2.rAdd "place")) (tDrop (tBM K "list" rAppend (tFld K (tVar 0) "stack") (tCons (tUn rNegI (tC (.int 1))) tNil))))
theorem d_d_take {P : Program} {w : World} {K : PySem.W.Frag} {mg : Str → Option Value} {base : Heap} (T : Txt w K mg) (f : Addr) (cdv : Value) (A : Around) (outer : List Env) (s : Shared) (H : Hp) (E : XK) (hr : Room 0 (A.deeper (envOfC "_take" (defScope s_d_take) s.heap.objs.size f cdv))) :
    PSs (Bx P w K mg base ["state", "argument"] "_take" s_d_take f cdv A outer s H E) (defBody s_d_take) (t_d_take K) :=
  (pss_one (ps_if (pt_cmpR op_lt (pe_fld (pv 0) rfl) (pe_callB call_len_seq (by rfl) T.f_len boot_len (pa_cons (pe_fld (pv 0) rfl) pa_nil)) (nomark _)) (pss_cons (ps_expr (pe_bm PySem.F.plainAttrs_list PySem.F.slot_list_append PySem.F.type_list_append mt_append (pe_fld (pv 0) rfl) (pa_cons (pe_ix ix_list (pe_fld (pv 0) rfl) (pe_fld (pv 0) rfl) (fun _ _ => rfl)) pa_nil))) (pss_one (ps_fldaug (pv 0) pe_int in_add))) (pss_one (ps_expr (pe_bm PySem.F.plainAttrs_list PySem.F.slot_list_append PySem.F.type_list_append mt_append (pe_fld (pv 0) rfl) (pa_cons (pe_un un_neg pe_int) pa_nil))))))
theorem l_d_take {K : PySem.W.Frag} : ∀ vs H Q E, sp_d_take K vs H Q E → vs.length = ["state", "argument"].length := spDeed_len
theorem r_d_take {w : World} {K : PySem.W.Frag} {mg : Str → Option Value} (T : Txt w K mg) : ∀ vs H Q E, sp_d_take K vs H Q E → t_d_take K { nx := fun _ H' => Q .non H', rt := Q } (start ["state", "argument"] vs) H := by
  rintro vs H Q E ⟨a, img, nums, m, steps, n, pl, kvs, kvt, arg, rfl, h, hn, k⟩
  obtain ⟨hd, hle⟩ := h.hpl
  refine ⟨_, rfl, a.p, _, a.dx, _, _, rfl, h.ob, T.c_State, T.n_State_place, stF_place, _, rfl, a.p, _, a.dx, _, _, rfl, h.ob, T.c_State, T.n_State_numbers, stF_numbers, a.nm, _, rfl, .inl (SqL.of h.hnm), _, _, rfl, rfl, _, rfl, ?_⟩
  rw [List.length_map]
  by_cases hlt : pl < nums.length
  · refine iteDT (Int.ofNat_lt.mpr hlt) ?_
    have e1 : nums.drop pl = nums[pl] :: nums.drop (pl + 1) := List.drop_eq_getElem_cons hlt
    rw [e1] at hd
    refine apSeq T rfl h ⟨_, rfl, a.p, _, a.dx, _, _, rfl, h.ob, T.c_State, T.n_State_numbers, stF_numbers, _, rfl, a.p, _, a.dx, _, _, rfl, h.ob, T.c_State, T.n_State_place, stF_place, a.nm, _, _, _, rfl, rfl, SqL.of h.hnm, atI_nat (v := .int nums[pl]) (by rw [List.getElem?_map, List.getElem?_eq_getElem hlt]; rfl), ?_⟩
    refine apR h (by omega) fun h3 => ?_
    refine ⟨_, rfl, a.p, _, a.dx, _, _, rfl, h3.ob, T.c_State, T.n_State_place, stF_place, _, _, rfl, rfl, a.dx, _, h3.ob, stF_small, ?_⟩
    refine k _ (pl + 1) kvs ?_ ((KeepL.upd mS).trans (KeepL.upd mP))
    have ea : act (lowOf (look img)) img nums 44 arg m = { m with stk := nums[pl] :: m.stk, rest := nums.drop (pl + 1) } := by
      show (match m.rest with | [] => _ | x :: r => _) = _
      rw [hd]
    rw [ea]
    exact h3.setF m.at_ (pl + 1) (nums.drop (pl + 1)) steps (by rw [stP_place]; rfl) ⟨rfl, hlt⟩ (by omega)
  · refine iteDF (fun z => hlt (Int.ofNat_lt.mp z)) ?_
    have e1 : nums.drop pl = [] := List.drop_eq_nil_of_le (by omega)
    rw [e1] at hd
    refine ⟨_, rfl, a.p, _, a.dx, _, _, rfl, h.ob, T.c_State, T.n_State_stack, stF_stack, .inl ⟨rfl, _, SqL.of h.hst⟩, _, rfl, ?_⟩
    refine apR h (by omega) fun h3 => ?_
    refine k _ pl kvs ?_ (KeepL.upd mS)
    have ea : act (lowOf (look img)) img nums 44 arg m = { m with stk := -1 :: m.stk } := by
      show (match m.rest with | [] => _ | x :: r => _) = _
      rw [hd]
    rw [ea]
    exact h3.mono (by omega)
theorem c_d_take {P : Program} {w : World} {K : PySem.W.Frag} {mg : Str → Option Value} {base : Heap} (T : Txt w K mg) : C8.Cal P w K mg base 1 "_take" (sp_d_take K) [] := T.cal 29 rfl T.g__take sc_d_take (fun _ _ _ _ _ _ us hl => match us, hl with | [_, _], _ => rfl) l_d_take (d_d_take T) (r_d_take T)
abbrev sp_d_rewind (K : PySem.W.Frag) : Sp := spDeed K 94
theorem sc_d_rewind : FnScope ["state", "argument"] ["state", "argument"] (defScope s_d_rewind) := C8.fnScope_by (by decide +kernel)
def t_d_rewind (K : PySem.W.Frag) : TS := (sFld K (tVar 0) (tC (.int 0)) "place")
theorem d_d_rewind {P : Program} {w : World} {K : PySem.W.Frag} {mg : Str → Option Value} {base : Heap} (T : Txt w K mg) (f : Addr) (cdv : Value) (A : Around) (outer : List Env) (s : Shared) (H : Hp) (E : XK) (hr : Room 0 (A.deeper (envOfC "_rewind" (defScope s_d_rewind) s.heap.objs.size f cdv))) :
    PSs (Bx P w K mg base ["state", "argument"] "_rewind" s_d_rewind f cdv A outer s H E) (defBody s_d_rewind) (t_d_rewind K) :=
  (pss_one (ps_fld (pv 0) pe_int rfl))
theorem l_d_rewind {K : PySem.W.Frag} : ∀ vs H Q E, sp_d_rewind K vs H Q E → vs.length = ["state", "argument"].length := spDeed_len
theorem r_d_rewind {w : World} {K : PySem.W.Frag} {mg : Str → Option Value} (T : Txt w K mg) : ∀ vs H Q E, sp_d_rewind K vs H Q E → t_d_rewind K { nx := fun _ H' => Q .non H', rt := Q } (start ["state", "argument"] vs) H := by
  rintro vs H Q E ⟨a, img, nums, m, steps, n, pl, kvs, kvt, arg, rfl, h, hn, k⟩
  refine ⟨_, rfl, a.p, _, a.dx, _, rfl, h.ob, T.c_State, T.n_State_place, stF_small, ?_⟩
  exact k _ 0 _ (h.setF m.at_ 0 nums steps (by rw [stP_place]; rfl) ⟨rfl, Nat.zero_le _⟩ (by omega)) (KeepL.upd mP)
theorem c_d_rewind {P : Program} {w : World} {K : PySem.W.Frag} {mg : Str → Option Value} {base : Heap} (T : Txt w K mg) : C8.Cal P w K mg base 1 "_rewind" (sp_d_rewind K) [] := T.cal 30 rfl T.g__rewind sc_d_rewind (fun _ _ _ _ _ _ us hl => match us, hl with | [_, _], _ => rfl) l_d_rewind (d_d_rewind T) (r_d_rewind T)
abbrev sp_d_emit (K : PySem.W.Frag) : Sp := spDeed K 46
theorem sc_d_emit : FnScope ["state", "argument"] ["state", "argument"] (defScope s_d_emit) := C8.fnScope_by (by decide +kernel)
def t_d_emit (K : PySem.W.Frag) : TS := (tDrop (tBM K "list" rAppend (tFld K (tVar 0) "output") (tCons (tMeth (He.ga K "State") "pull" (sp_State_pull K) [] C8.E0 (tVar 0) tNil) tNil)))
theorem d_d_emit {P : Program} {w : World} {K : PySem.W.Frag} {mg : Str → Option Value} {base : Heap} (T : Txt w K mg) (f : Addr) (cdv : Value) (A : Around) (outer : List Env) (s : Shared) (H : Hp) (E : XK) (hr : Room 1 (A.deeper (envOfC "_emit" (defScope s_d_emit) s.heap.objs.size f cdv))) :
    PSs (Bx P w K mg base ["state", "argument"] "_emit" s_d_emit f cdv A outer s H E) (defBody s_d_emit) (t_d_emit K) :=
  (pss_one (ps_expr (pe_bm PySem.F.plainAttrs_list PySem.F.slot_list_append PySem.F.type_list_append mt_append (pe_fld (pv 0) rfl) (pa_cons (C8.pe_mt0 (m_State_pull T) hr (by decide) (pv 0)) pa_nil))))
theorem l_d_emit {K : PySem.W.Frag} : ∀ vs H Q E, sp_d_emit K vs H Q E → vs.length = ["state", "argument"].length := spDeed_len
theorem r_d_emit {w : World} {K : PySem.W.Frag} {mg : Str → Option Value} (T : Txt w K mg) : ∀ vs H Q E, sp_d_emit K vs H Q E → t_d_emit K { nx := fun _ H' => Q .non H', rt := Q } (start ["state", "argument"] vs) H := by
  rintro vs H Q E ⟨a, img, nums, m, steps, n, pl, kvs, kvt, arg, rfl, h, hn, k⟩
  refine ⟨_, rfl, a.p, _, a.dx, _, _, rfl, h.ob, T.c_State, T.n_State_output, stF_output, .inl ⟨rfl, _, SqL.of h.hou⟩, pullT T rfl h fun h1 => ?_⟩
  refine apO h1 (by omega) fun h3 => ?_
  exact k _ _ _ (h3.mono (by omega)) ((KeepL.upd mS).trans (KeepL.upd mO))
theorem c_d_emit {P : Program} {w : World} {K : PySem.W.Frag} {mg : Str → Option Value} {base : Heap} (T : Txt w K mg) : C8.Cal P w K mg base 2 "_emit" (sp_d_emit K) [] := T.cal 31 rfl T.g__emit sc_d_emit (fun _ _ _ _ _ _ us hl => match us, hl with | [_, _], _ => rfl) l_d_emit (d_d_emit T) (r_d_emit T)
abbrev sp_d_cell (K : PySem.W.Frag) : Sp := spDeed K 38
theorem sc_d_cell : FnScope ["state", "argument", "index"] ["state", "argument"] (defScope s_d_cell) := C8.fnScope_by (by decide +kernel)
def t_d_cell (K : PySem.W.Frag) : TS := (tSeq (tAsg (tMeth (He.ga K "State") "pull" (sp_State_pull K) [] C8.E0 (tVar 0) tNil) (gName 2)) (tIfS (tTest (tChain rLeI rLtI (tUn rNegI (tCB (rLenSeq K) (tCons (tFld K (tVar 0) "image") tNil))) (tVar 2) (tCB (rLenSeq K) (tCons (tFld K (tVar 0) "image") tNil)))) (tDrop (tBM K "list" rAppend (tFld K (tVar 0) "stack") (tCons (tOp (rIxL K) (tFld K (tVar 0) "image") (tVar 2)) tNil))) (tDrop (tBM K "list" rAppend (tFld K (tVar 0) "stack") (tCons (tC (.int 0)) tNil)))))
theorem d_d_cell {P : Program} {w : World} {K : PySem.W.Frag} {mg : Str → Option Value} {base : Heap} (T : Txt w K mg) (f : Addr) (cdv : Value) (A : Around) (outer : List Env) (s : Shared) (H : Hp) (E : XK) (hr : Room 1 (A.deeper (envOfC "_cell" (defScope s_d_cell) s.heap.objs.size f cdv))) :
    PSs (Bx P w K mg base ["state", "argument", "index"] "_cell" s_d_cell f cdv A outer s H E) (defBody s_d_cell) (t_d_cell K) :=
  (pss_cons (ps_set (i := 2) sc_d_cell.nd rfl (by first | exact Or.inl rfl | exact Or.inr rfl) (C8.pe_mt0 (m_State_pull T) hr (by decide) (pv 0))) (pss_one (ps_if (pt_chain op_le op_lt (pe_un un_neg (pe_callB call_len_seq (by rfl) T.f_len boot_len (pa_cons (pe_fld (pv 0) rfl) pa_nil))) (pv 2) (pe_callB call_len_seq (by rfl) T.f_len boot_len (pa_cons (pe_fld (pv 0) rfl) pa_nil))) (pss_one (ps_expr (pe_bm PySem.F.plainAttrs_list PySem.F.slot_list_append PySem.F.type_list_append mt_append (pe_fld (pv 0) rfl) (pa_cons (pe_ix ix_list (pe_fld (pv 0) rfl) (pv 2) (fun _ _ => rfl)) pa_nil)))) (pss_one (ps_expr (pe_bm PySem.F.plainAttrs_list PySem.F.slot_list_append PySem.F.type_list_append mt_append (pe_fld (pv 0) rfl) (pa_cons pe_int pa_nil)))))))
theorem l_d_cell {K : PySem.W.Frag} : ∀ vs H Q E, sp_d_cell K vs H Q E → vs.length = ["state", "argument"].length := spDeed_len
theorem r_d_cell {w : World} {K : PySem.W.Frag} {mg : Str → Option Value} (T : Txt w K mg) : ∀ vs H Q E, sp_d_cell K vs H Q E → t_d_cell K { nx := fun _ H' => Q .non H', rt := Q } (start ["state", "argument", "index"] vs) H := by
  rintro vs H Q E ⟨a, img, nums, m, steps, n, pl, kvs, kvt, arg, rfl, h, hn, k⟩
  refine pullT T rfl h fun h1 => ?_
  refine ⟨_, rfl, a.p, _, a.dx, _, _, rfl, h1.ob, T.c_State, T.n_State_image, stF_image, a.im, _, rfl, .inl (SqL.of h1.him), _, rfl, _, rfl, _, _, rfl, rfl, _, rfl, ?_⟩
  rw [List.length_map]
  have fin : ∀ v : Int, v = cellOf img (m.stk.headD 0) → rAppend (.ref a.st) [.int v] (upd H a.st (stk m.stk.tail)) (fun _ H' => Q .non H') := fun v ev => by
    refine apR h1 (by omega) fun h3 => ?_
    subst ev
    exact k _ _ _ (h3.mono (by omega)) ((KeepL.upd mS).trans (KeepL.upd mS))
  have out : ¬ (-(img.length : Int) ≤ m.stk.headD 0 ∧ m.stk.headD 0 < img.length) → (0 : Int) = cellOf img (m.stk.headD 0) := fun hn => by
    unfold cellOf
    split
    · rw [List.getD_eq_getElem?_getD, List.getElem?_eq_none (by omega)]
      rfl
    · split
      · omega
      · rfl
  by_cases g1 : -(img.length : Int) ≤ m.stk.headD 0
  · refine iteDT g1 ⟨_, rfl, a.p, _, a.dx, _, _, rfl, h1.ob, T.c_State, T.n_State_image, stF_image, a.im, _, rfl, .inl (SqL.of h1.him), _, _, rfl, rfl, _, rfl, ?_⟩
    rw [List.length_map]
    by_cases g2 : m.stk.headD 0 < (img.length : Int)
    · refine iteDT g2 ?_
      have ev : atI (img.map V.int) (m.stk.headD 0) = some (.int (cellOf img (m.stk.headD 0))) := by
        generalize m.stk.headD 0 = x at g1 g2
        unfold atI ixN cellOf
        rw [List.length_map]
        by_cases g3 : 0 ≤ x
        · have : x.toNat < img.length := by omega
          simp [g3, g2, this]
        · have : (x + img.length).toNat < img.length := by omega
          simp [g3, g1, this]
      refine ⟨_, rfl, a.p, _, a.dx, _, _, rfl, h1.ob, T.c_State, T.n_State_stack, stF_stack, .inl ⟨rfl, _, SqL.of h1.hst⟩, _, rfl, a.p, _, a.dx, _, _, rfl, h1.ob, T.c_State, T.n_State_image, stF_image, _, rfl, a.im, _, _, _, rfl, rfl, SqL.of h1.him, ev, ?_⟩
      exact fin _ rfl
    · refine iteDF g2 ⟨_, rfl, a.p, _, a.dx, _, _, rfl, h1.ob, T.c_State, T.n_State_stack, stF_stack, .inl ⟨rfl, _, SqL.of h1.hst⟩, ?_⟩
      exact fin 0 (out fun z => g2 z.2)
  · refine iteDF g1 ⟨_, rfl, iteF ⟨_, rfl, a.p, _, a.dx, _, _, rfl, h1.ob, T.c_State, T.n_State_stack, stF_stack, .inl ⟨rfl, _, SqL.of h1.hst⟩, ?_⟩⟩
    exact fin 0 (out fun z => g1 z.1)
theorem c_d_cell {P : Program} {w : World} {K : PySem.W.Frag} {mg : Str → Option Value} {base : Heap} (T : Txt w K mg) : C8.Cal P w K mg base 2 "_cell" (sp_d_cell K) [] := T.cal 32 rfl T.g__cell sc_d_cell (fun _ _ _ _ _ _ us hl => match us, hl with | [_, _], _ => rfl) l_d_cell (d_d_cell T) (r_d_cell T)
abbrev sp_d_drop (K : PySem.W.Frag) : Sp := spDeed K 95
theorem sc_d_drop : FnScope ["state", "argument"] ["state", "argument"] (defScope s_d_drop) := C8.fnScope_by (by decide +kernel)
def t_d_drop (K : PySem.W.Frag) : TS := (tDrop (tMeth (He.ga K "State") "pull" (sp_State_pull K) [] C8.E0 (tVar 0) tNil))
theorem d_d_drop {P : Program} {w : World} {K : PySem.W.Frag} {mg : Str → Option Value} {base : Heap} (T : Txt w K mg) (f : Addr) (cdv : Value) (A : Around) (outer : List Env) (s : Shared) (H : Hp) (E : XK) (hr : Room 1 (A.deeper (envOfC "_drop" (defScope s_d_drop) s.heap.objs.size f cdv))) :
    PSs (Bx P w K mg base ["state", "argument"] "_drop" s_d_drop f cdv A outer s H E) (defBody s_d_drop) (t_d_drop K) :=
  (pss_one (ps_expr (C8.pe_mt0 (m_State_pull T) hr (by decide) (pv 0))))
theorem l_d_drop {K : PySem.W.Frag} : ∀ vs H Q E, sp_d_drop K vs H Q E → vs.length = ["state", "argument"].length := spDeed_len
theorem r_d_drop {w : World} {K : PySem.W.Frag} {mg : Str → Option Value} (T : Txt w K mg) : ∀ vs H Q E, sp_d_drop K vs H Q E → t_d_drop K { nx := fun _ H' => Q .non H', rt := Q } (start ["state", "argument"] vs) H := by
  rintro vs H Q E ⟨a, img, nums, m, steps, n, pl, kvs, kvt, arg, rfl, h, hn, k⟩
  refine pullT T rfl h fun h1 => ?_
  exact k _ _ _ (h1.mono (by omega)) (KeepL.upd mS)
theorem c_d_drop {P : Program} {w : World} {K : PySem.W.Frag} {mg : Str → Option Value} {base : Heap} (T : Txt w K mg) : C8.Cal P w K mg base 2 "_drop" (sp_d_drop K) [] := T.cal 33 rfl T.g__drop sc_d_drop (fun _ _ _ _ _ _ us hl => match us, hl with | [_, _], _ => rfl) l_d_drop (d_d_drop T) (r_d_drop T)
abbrev sp_d_double (K : PySem.W.Frag) : Sp := spDeed K 34
theorem sc_d_double : FnScope ["state", "argument", "top"] ["state", "argument"] (defScope s_d_double) := C8.fnScope_by (by decide +kernel)
def t_d_double (K : PySem.W.Frag) : TS := (tSeq (tAsg (tMeth (He.ga K "State") "pull" (sp_State_pull K) [] C8.E0 (tVar 0) tNil) (gName 2)) (tDrop (tBM K "list" rExtend (tFld K (tVar 0) "stack") (tCons (tLst (tCons (tVar 2) (tCons (tVar 2) tNil))) tNil))))
theorem d_d_double {P : Program} {w : World} {K : PySem.W.Frag} {mg : Str → Option Value} {base : Heap} (T : Txt w K mg) (f : Addr) (cdv : Value) (A : Around) (outer : List Env) (s : Shared) (H : Hp) (E : XK) (hr : Room 1 (A.deeper (envOfC "_double" (defScope s_d_double) s.heap.objs.size f cdv))) :
    PSs (Bx P w K mg base ["state", "argument", "top"] "_double" s_d_double f cdv A outer s H E) (defBody s_d_double) (t_d_double K) :=
  (pss_cons (ps_set (i := 2) sc_d_double.nd rfl (by first | exact Or.inl rfl | exact Or.inr rfl) (C8.pe_mt0 (m_State_pull T) hr (by decide) (pv 0))) (pss_one (ps_expr (pe_bm PySem.F.plainAttrs_list PySem.F.slot_list_extend PySem.F.type_list_extend mt_extend (pe_fld (pv 0) rfl) (pa_cons (pe_lst (pa_cons (pv 2) (pa_cons (pv 2) pa_nil))) pa_nil)))))
theorem l_d_double {K : PySem.W.Frag} : ∀ vs H Q E, sp_d_double K vs H Q E → vs.length = ["state", "argument"].length := spDeed_len
theorem r_d_double {w : World} {K : PySem.W.Frag} {mg : Str → Option Value} (T : Txt w K mg) : ∀ vs H Q E, sp_d_double K vs H Q E → t_d_double K { nx := fun _ H' => Q .non H', rt := Q } (start ["state", "argument", "top"] vs) H := by
  rintro vs H Q E ⟨a, img, nums, m, steps, n, pl, kvs, kvt, arg, rfl, h, hn, k⟩
  refine pullT T rfl h fun h1 => ?_
  refine ⟨_, rfl, a.p, _, a.dx, _, _, rfl, h1.ob, T.c_State, T.n_State_stack, stF_stack, .inl ⟨rfl, _, SqL.of h1.hst⟩, _, rfl, _, rfl, by show 2 ≤ sizeLine; decide, fun q hq => ?_⟩
  have h2 := h1.new (o := .lst [.int (m.stk.headD 0), .int (m.stk.headD 0)]) hq
  refine ⟨a.st, q, _, _, rfl, rfl, h2.hst, upd_same, line_of (by have := h2.sz.1; simp at this ⊢; omega), ?_⟩
  rw [stk2]
  refine k _ _ _ (h2.setSt _ (by have := h2.sz.1; simp at this ⊢; omega) (by omega)) ((KeepL.upd mS).trans ((KeepL.new hq).trans (KeepL.upd mS)))
theorem c_d_double {P : Program} {w : World} {K : PySem.W.Frag} {mg : Str → Option Value} {base : Heap} (T : Txt w K mg) : C8.Cal P w K mg base 2 "_double" (sp_d_double K) [] := T.cal 34 rfl T.g__double sc_d_double (fun _ _ _ _ _ _ us hl => match us, hl with | [_, _], _ => rfl) l_d_double (d_d_double T) (r_d_double T)
abbrev sp_d_exchange (K : PySem.W.Frag) : Sp := spDeed K 92
theorem sc_d_exchange : FnScope ["state", "argument", "second", "first"] ["state", "argument"] (defScope s_d_exchange) := C8.fnScope_by (by decide +kernel)
def t_d_exchange (K : PySem.W.Frag) : TS := (tSeq (tAsg (tMeth (He.ga K "State") "pull" (sp_State_pull K) [] C8.E0 (tVar 0) tNil) (gName 2)) (tSeq (tAsg (tMeth (He.ga K "State") "pull" (sp_State_pull K) [] C8.E0 (tVar 0) tNil) (gName 3)) (tDrop (tBM K "list" rExtend (tFld K (tVar 0) "stack") (tCons (tLst (tCons (tVar 2) (tCons (tVar 3) tNil))) tNil)))))
theorem d_d_exchange {P : Program} {w : World} {K : PySem.W.Frag} {mg : Str → Option Value} {base : Heap} (T : Txt w K mg) (f : Addr) (cdv : Value) (A : Around) (outer : List Env) (s : Shared) (H : Hp) (E : XK) (hr : Room 1 (A.deeper (envOfC "_exchange" (defScope s_d_exchange) s.heap.objs.size f cdv))) :
    PSs (Bx P w K mg base ["state", "argument", "second", "first"] "_exchange" s_d_exchange f cdv A outer s H E) (defBody s_d_exchange) (t_d_exchange K) :=
  (pss_cons (ps_set (i := 2) sc_d_exchange.nd rfl (by first | exact Or.inl rfl | exact Or.inr rfl) (C8.pe_mt0 (m_State_pull T) hr (by decide) (pv 0))) (pss_cons (ps_set (i := 3) sc_d_exchange.nd rfl (by first | exact Or.inl rfl | exact Or.inr rfl) (C8.pe_mt0 (m_State_pull T) hr (by decide) (pv 0))) (pss_one (ps_expr (pe_bm PySem.F.plainAttrs_list PySem.F.slot_list_extend PySem.F.type_list_extend mt_extend (pe_fld (pv 0) rfl) (pa_cons (pe_lst (pa_cons (pv 2) (pa_cons (pv 3) pa_nil))) pa_nil))))))
theorem l_d_exchange {K : PySem.W.Frag} : ∀ vs H Q E, sp_d_exchange K vs H Q E → vs.length = ["state", "argument"].length := spDeed_len
theorem r_d_exchange {w : World} {K : PySem.W.Frag} {mg : Str → Option Value} (T : Txt w K mg) : ∀ vs H Q E, sp_d_exchange K vs H Q E → t_d_exchange K { nx := fun _ H' => Q .non H', rt := Q } (start ["state", "argument", "second", "first"] vs) H := by
  rintro vs H Q E ⟨a, img, nums, m, steps, n, pl, kvs, kvt, arg, rfl, h, hn, k⟩
  refine pullT T rfl h fun h1 => ?_
  refine pullT T rfl h1 fun h2 => ?_
  refine ⟨_, rfl, a.p, _, a.dx, _, _, rfl, h2.ob, T.c_State, T.n_State_stack, stF_stack, .inl ⟨rfl, _, SqL.of h2.hst⟩, _, rfl, _, rfl, by show 2 ≤ sizeLine; decide, fun q hq => ?_⟩
  have h3 := h2.new (o := .lst [.int (m.stk.headD 0), .int (m.stk.tail.headD 0)]) hq
  refine ⟨a.st, q, _, _, rfl, rfl, h3.hst, upd_same, line_of (by have := h3.sz.1; simp at this ⊢; omega), ?_⟩
  rw [stk2]
  refine k _ _ _ (h3.setSt _ (by have := h3.sz.1; simp at this ⊢; omega) (by omega)) ((KeepL.upd mS).trans ((KeepL.upd mS).trans ((KeepL.new hq).trans (KeepL.upd mS))))
theorem c_d_exchange {P : Program} {w : World} {K : PySem.W.Frag} {mg : Str → Option Value} {base : Heap} (T : Txt w K mg) : C8.Cal P w K mg base 2 "_exchange" (sp_d_exchange K) [] := T.cal 35 rfl T.g__exchange sc_d_exchange (fun _ _ _ _ _ _ us hl => match us, hl with | [_, _], _ => rfl) l_d_exchange (d_d_exchange T) (r_d_exchange T)
abbrev sp_d_test (K : PySem.W.Frag) : Sp := spDeed K 63
theorem sc_d_test : FnScope ["state", "argument"] ["state", "argument"] (defScope s_d_test) := C8.fnScope_by (by decide +kernel)
def t_d_test (K : PySem.W.Frag) : TS := (tIfS (tTest (tOp rEq (tMeth (He.ga K "State") "pull" (sp_State_pull K) [] C8.E0 (tVar 0) tNil) (tC (.int 0)))) (sFld K (tVar 0) (tVar 1) "at") tNext)
theorem d_d_test {P : Program} {w : World} {K : PySem.W.Frag} {mg : Str → Option Value} {base : Heap} (T : Txt w K mg) (f : Addr) (cdv : Value) (A : Around) (outer : List Env) (s : Shared) (H : Hp) (E : XK) (hr : Room 1 (A.deeper (envOfC "_test" (defScope s_d_test) s.heap.objs.size f cdv))) :
    PSs (Bx P w K mg base ["state", "argument"] "_test" s_d_test f cdv A outer s H E) (defBody s_d_test) (t_d_test K) :=
  (pss_one (ps_if (pt_cmpR op_eq (C8.pe_mt0 (m_State_pull T) hr (by decide) (pv 0)) pe_int (nomark _)) (pss_one (ps_fld (pv 0) (pv 1) rfl)) pss_nil))
theorem l_d_test {K : PySem.W.Frag} : ∀ vs H Q E, sp_d_test K vs H Q E → vs.length = ["state", "argument"].length := spDeed_len
theorem r_d_test {w : World} {K : PySem.W.Frag} {mg : Str → Option Value} (T : Txt w K mg) : ∀ vs H Q E, sp_d_test K vs H Q E → t_d_test K { nx := fun _ H' => Q .non H', rt := Q } (start ["state", "argument"] vs) H := by
  rintro vs H Q E ⟨a, img, nums, m, steps, n, pl, kvs, kvt, arg, rfl, h, hn, k⟩
  refine pullT T rfl h fun h1 => ?_
  refine ⟨rfl, _, rfl, ?_⟩
  by_cases g : m.stk.headD 0 = 0
  · refine ieT g ⟨_, rfl, _, rfl, a.p, _, a.dx, _, rfl, h1.ob, T.c_State, T.n_State_at, stF_small, ?_⟩
    refine k _ pl kvs ?_ ((KeepL.upd mS).trans (KeepL.upd mP))
    have ea : act (lowOf (look img)) img nums 63 arg m = { m with at_ := arg, stk := m.stk.tail } := by
      show ({ m with at_ := if m.stk.headD 0 = 0 then arg else m.at_, stk := m.stk.tail } : M) = _
      rw [if_pos g]
    rw [ea]
    exact (h1.setAt arg (Nat.le_refl _)).mono (by omega)
  · refine ieF g ?_
    refine k _ pl kvs ?_ (KeepL.upd mS)
    have ea : act (lowOf (look img)) img nums 63 arg m = { m with stk := m.stk.tail } := by
      show ({ m with at_ := if m.stk.headD 0 = 0 then arg else m.at_, stk := m.stk.tail } : M) = _
      rw [if_neg g]
    rw [ea]
    exact h1.mono (by omega)
theorem c_d_test {P : Program} {w : World} {K : PySem.W.Frag} {mg : Str → Option Value} {base : Heap} (T : Txt w K mg) : C8.Cal P w K mg base 2 "_test" (sp_d_test K) [] := T.cal 36 rfl T.g__test sc_d_test (fun _ _ _ _ _ _ us hl => match us, hl with | [_, _], _ => rfl) l_d_test (d_d_test T) (r_d_test T)
abbrev sp_d_call (K : PySem.W.Frag) : Sp := spDeed K 40
theorem sc_d_call : FnScope ["state", "argument", "number"] ["state", "argument"] (defScope s_d_call) := C8.fnScope_by (by decide +kernel)
def t_d_call (K : PySem.W.Frag) : TS := (tSeq (tAsg (tMeth (He.ga K "State") "pull" (sp_State_pull K) [] C8.E0 (tVar 0) tNil) (gName 2)) (tSeq (tDrop (tBM K "list" rAppend (tFld K (tVar 0) "back") (tCons (tFld K (tVar 0) "at") tNil))) (sFld K (tVar 0) (tVar 2) "at")))
theorem d_d_call {P : Program} {w : World} {K : PySem.W.Frag} {mg : Str → Option Value} {base : Heap} (T : Txt w K mg) (f : Addr) (cdv : Value) (A : Around) (outer : List Env) (s : Shared) (H : Hp) (E : XK) (hr : Room 1 (A.deeper (envOfC "_call" (defScope s_d_call) s.heap.objs.size f cdv))) :
    PSs (Bx P w K mg base ["state", "argument", "number"] "_call" s_d_call f cdv A outer s H E) (defBody s_d_call) (t_d_call K) :=
  (pss_cons (ps_set (i := 2) sc_d_call.nd rfl (by first | exact Or.inl rfl | exact Or.inr rfl) (C8.pe_mt0 (m_State_pull T) hr (by decide) (pv 0))) (pss_cons (ps_expr (pe_bm PySem.F.plainAttrs_list PySem.F.slot_list_append PySem.F.type_list_append mt_append (pe_fld (pv 0) rfl) (pa_cons (pe_fld (pv 0) rfl) pa_nil))) (pss_one (ps_fld (pv 0) (pv 2) rfl))))
theorem l_d_call {K : PySem.W.Frag} : ∀ vs H Q E, sp_d_call K vs H Q E → vs.length = ["state", "argument"].length := spDeed_len
theorem r_d_call {w : World} {K : PySem.W.Frag} {mg : Str → Option Value} (T : Txt w K mg) : ∀ vs H Q E, sp_d_call K vs H Q E → t_d_call K { nx := fun _ H' => Q .non H', rt := Q } (start ["state", "argument", "number"] vs) H := by
  rintro vs H Q E ⟨a, img, nums, m, steps, n, pl, kvs, kvt, arg, rfl, h, hn, k⟩
  refine pullT T rfl h fun h1 => ?_
  refine apbSeq T rfl h1 ⟨_, rfl, a.p, _, a.dx, _, _, rfl, h1.ob, T.c_State, T.n_State_at, stF_at, ?_⟩
  refine apB h1 (by omega) fun h3 => ?_
  refine ⟨_, rfl, _, rfl, a.p, _, a.dx, _, rfl, h3.ob, T.c_State, T.n_State_at, stF_small, ?_⟩
  exact k _ _ _ ((h3.setAt _ (Nat.le_refl _)).mono (by omega)) ((KeepL.upd mS).trans ((KeepL.upd mB).trans (KeepL.upd mP)))
theorem c_d_call {P : Program} {w : World} {K : PySem.W.Frag} {mg : Str → Option Value} {base : Heap} (T : Txt w K mg) : C8.Cal P w K mg base 2 "_call" (sp_d_call K) [] := T.cal 37 rfl T.g__call sc_d_call (fun _ _ _ _ _ _ us hl => match us, hl with | [_, _], _ => rfl) l_d_call (d_d_call T) (r_d_call T)
abbrev sp_d_call_low (K : PySem.W.Frag) : Sp := spDeed K 36
theorem sc_d_call_low : FnScope ["state", "argument", "number"] ["state", "argument"] (defScope s_d_call_low) := C8.fnScope_by (by decide +kernel)
def t_d_call_low (K : PySem.W.Frag) : TS := (tSeq (tAsg (tMeth (He.ga K "State") "pull" (sp_State_pull K) [] C8.E0 (tVar 0) tNil) (gName 2)) (tIfS (tAnd (tTest (tChain rLeI rLeI (tC (.int 1)) (tVar 2) (tC (.int 199)))) (tB (tDIn (tVar 2) (tFld K (tVar 0) "table")))) (tSeq (tDrop (tBM K "list" rAppend (tFld K (tVar 0) "back") (tCons (tFld K (tVar 0) "at") tNil))) (sFld K (tVar 0) (tVar 2) "at")) (tDrop (tBM K "list" rAppend (tFld K (tVar 0) "stack") (tCons (tVar 2) tNil)))))
theorem d_d_call_low {P : Program} {w : World} {K : PySem.W.Frag} {mg : Str → Option Value} {base : Heap} (T : Txt w K mg) (f : Addr) (cdv : Value) (A : Around) (outer : List Env) (s : Shared) (H : Hp) (E : XK) (hr : Room 1 (A.deeper (envOfC "_call_low" (defScope s_d_call_low) s.heap.objs.size f cdv))) :
    PSs (Bx P w K mg base ["state", "argument", "number"] "_call_low" s_d_call_low f cdv A outer s H E) (defBody s_d_call_low) (t_d_call_low K) :=
  (pss_cons (ps_set (i := 2) sc_d_call_low.nd rfl (by first | exact Or.inl rfl | exact Or.inr rfl) (C8.pe_mt0 (m_State_pull T) hr (by decide) (pv 0))) (pss_one (ps_if (PW.pt (pw_and (pt_chain op_le op_le pe_int (pv 2) (pe_gint T.i_LAST_LOW rfl)) (pw_and1 (pt_cmp (pc_din (hu_of hr) (pv 2) (pe_fld (pv 0) rfl)))))) (pss_cons (ps_expr (pe_bm PySem.F.plainAttrs_list PySem.F.slot_list_append PySem.F.type_list_append mt_append (pe_fld (pv 0) rfl) (pa_cons (pe_fld (pv 0) rfl) pa_nil))) (pss_one (ps_fld (pv 0) (pv 2) rfl))) (pss_one (ps_expr (pe_bm PySem.F.plainAttrs_list PySem.F.slot_list_append PySem.F.type_list_append mt_append (pe_fld (pv 0) rfl) (pa_cons (pv 2) pa_nil)))))))
theorem l_d_call_low {K : PySem.W.Frag} : ∀ vs H Q E, sp_d_call_low K vs H Q E → vs.length = ["state", "argument"].length := spDeed_len
theorem r_d_call_low {w : World} {K : PySem.W.Frag} {mg : Str → Option Value} (T : Txt w K mg) : ∀ vs H Q E, sp_d_call_low K vs H Q E → t_d_call_low K { nx := fun _ H' => Q .non H', rt := Q } (start ["state", "argument", "number"] vs) H := by
  rintro vs H Q E ⟨a, img, nums, m, steps, n, pl, kvs, kvt, arg, rfl, h, hn, k⟩
  refine pullT T rfl h fun h1 => ?_
  have ea : act (lowOf (look img)) img nums 36 arg m = if lowOf (look img) (m.stk.headD 0) = true then { m with at_ := m.stk.headD 0, bk := m.at_ :: m.bk, stk := m.stk.tail } else { m with stk := m.stk.headD 0 :: m.stk.tail } := rfl
  rw [ea] at k
  have no : lowOf (look img) (m.stk.headD 0) = false → tDrop (tBM K "list" rAppend (tFld K (tVar 0) "stack") (tCons (tVar 2) tNil)) { nx := fun _ H' => Q .non H', rt := Q } [some (.ref a.p), some (.int arg), some (.int (m.stk.headD 0))] (upd H a.st (stk m.stk.tail)) := fun hn => by
    rw [if_neg (by rw [hn]; decide)] at k
    refine ⟨_, rfl, a.p, _, a.dx, _, _, rfl, h1.ob, T.c_State, T.n_State_stack, stF_stack, .inl ⟨rfl, _, SqL.of h1.hst⟩, _, rfl, ?_⟩
    exact apR h1 (by omega) fun h3 => k _ _ _ (h3.mono (by omega)) ((KeepL.upd mS).trans (KeepL.upd mS))
  refine ⟨_, rfl, _, _, rfl, rfl, _, rfl, ?_⟩
  by_cases g1 : 1 ≤ m.stk.headD 0
  · refine iteDT g1 ⟨_, _, rfl, rfl, _, rfl, ?_⟩
    by_cases g2 : m.stk.headD 0 ≤ 199
    · refine iteDT g2 ?_
      cases hx : look img (m.stk.headD 0) with
      | none =>
        refine ⟨_, rfl, _, rfl, a.p, _, a.dx, _, _, rfl, h1.ob, T.c_State, T.n_State_table, stF_table, a.tb, none, rfl, by rw [← h1.htb.no _ hx]; exact DGet.k (k := Sum.inl (m.stk.headD 0)) h1.htb.d, _, rfl, iteF (no (lowF3 hx))⟩
      | some q =>
        obtain ⟨o, ar, nx⟩ := q
        obtain ⟨t, e1, e2⟩ := h1.htb.yes _ _ _ _ hx
        refine ⟨_, rfl, _, rfl, a.p, _, a.dx, _, _, rfl, h1.ob, T.c_State, T.n_State_table, stF_table, a.tb, some (.ref t), rfl, by rw [← e1]; exact DGet.k (k := Sum.inl (m.stk.headD 0)) h1.htb.d, _, rfl, iteT ?_⟩
        rw [if_pos (lowT g1 g2 hx)] at k
        refine apbSeq T rfl h1 ⟨_, rfl, a.p, _, a.dx, _, _, rfl, h1.ob, T.c_State, T.n_State_at, stF_at, ?_⟩
        refine apB h1 (by omega) fun h3 => ?_
        refine ⟨_, rfl, _, rfl, a.p, _, a.dx, _, rfl, h3.ob, T.c_State, T.n_State_at, stF_small, ?_⟩
        exact k _ _ _ ((h3.setAt _ (Nat.le_refl _)).mono (by omega)) ((KeepL.upd mS).trans ((KeepL.upd mB).trans (KeepL.upd mP)))
    · exact iteDF g2 (iteF (no (lowF2 g2)))
  · exact iteDF g1 ⟨_, rfl, iteF (no (lowF1 g1))⟩
theorem c_d_call_low {P : Program} {w : World} {K : PySem.W.Frag} {mg : Str → Option Value} {base : Heap} (T : Txt w K mg) : C8.Cal P w K mg base 2 "_call_low" (sp_d_call_low K) [] := T.cal 38 rfl T.g__call_low sc_d_call_low (fun _ _ _ _ _ _ us hl => match us, hl with | [_, _], _ => rfl) l_d_call_low (d_d_call_low T) (r_d_call_low T)
abbrev sp_d_return (K : PySem.W.Frag) : Sp := spDeed K 41
theorem sc_d_return : FnScope ["state", "argument"] ["state", "argument"] (defScope s_d_return) := C8.fnScope_by (by decide +kernel)
def t_d_return (K : PySem.W.Frag) : TS := (tIfS (tTru K (tFld K (tVar 0) "back")) (sFld K (tVar 0) (tBM0 K "list" rPop (tFld K (tVar 0) "back")) "at") tNext)
theorem d_d_return {P : Program} {w : World} {K : PySem.W.Frag} {mg : Str → Option Value} {base : Heap} (T : Txt w K mg) (f : Addr) (cdv : Value) (A : Around) (outer : List Env) (s : Shared) (H : Hp) (E : XK) (hr : Room 0 (A.deeper (envOfC "_return" (defScope s_d_return) s.heap.objs.size f cdv))) :
    PSs (Bx P w K mg base ["state", "argument"] "_return" s_d_return f cdv A outer s H E) (defBody s_d_return) (t_d_return K) :=
  (pss_one (ps_if (pt_truth (pe_fld (pv 0) rfl) (by intro _; rfl)) (pss_one (ps_fld (pv 0) (pe_bm0 PySem.F.plainAttrs_list PySem.F.slot_list_pop PySem.F.type_list_pop mt_pop (pe_fld (pv 0) rfl)) rfl)) pss_nil))
theorem l_d_return {K : PySem.W.Frag} : ∀ vs H Q E, sp_d_return K vs H Q E → vs.length = ["state", "argument"].length := spDeed_len
theorem r_d_return {w : World} {K : PySem.W.Frag} {mg : Str → Option Value} (T : Txt w K mg) : ∀ vs H Q E, sp_d_return K vs H Q E → t_d_return K { nx := fun _ H' => Q .non H', rt := Q } (start ["state", "argument"] vs) H := by
  rintro vs H Q E ⟨a, img, nums, m, steps, n, pl, kvs, kvt, arg, rfl, h, hn, k⟩
  obtain ⟨at_, st, sto, bk, rest, out⟩ := m
  cases bk with
  | nil =>
    refine ⟨_, rfl, a.p, _, a.dx, _, _, rfl, h.ob, T.c_State, T.n_State_back, stF_back, false, .inl ⟨_, SqL.of h.hbk, rfl⟩, iteF ?_⟩
    exact k _ _ _ (h.mono (by omega)) KeepL.refl
  | cons b r =>
    refine ⟨_, rfl, a.p, _, a.dx, _, _, rfl, h.ob, T.c_State, T.n_State_back, stF_back, true, .inl ⟨_, SqL.of h.hbk, by simp⟩, iteT ?_⟩
    refine ⟨_, rfl, a.p, _, a.dx, _, _, rfl, h.ob, T.c_State, T.n_State_back, stF_back, .inl ⟨rfl, _, SqL.of h.hbk⟩, a.bk, _, _, rfl, rfl, h.hbk, stk_top b r, ?_⟩
    rw [stk_pop]
    have h1 := h.setBk r (n' := n) (Nat.le_trans (by simp) h.sz.2.1) (Nat.le_refl _)
    refine ⟨_, rfl, a.p, _, a.dx, _, rfl, h1.ob, T.c_State, T.n_State_at, stF_small, ?_⟩
    exact k _ _ _ ((h1.setAt b (Nat.le_refl _)).mono (by omega)) ((KeepL.upd mB).trans (KeepL.upd mP))
theorem c_d_return {P : Program} {w : World} {K : PySem.W.Frag} {mg : Str → Option Value} {base : Heap} (T : Txt w K mg) : C8.Cal P w K mg base 1 "_return" (sp_d_return K) [] := T.cal 39 rfl T.g__return sc_d_return (fun _ _ _ _ _ _ us hl => match us, hl with | [_, _], _ => rfl) l_d_return (d_d_return T) (r_d_return T)
end Pl

set_option Elab.async false
set_option linter.all false
set_option maxRecDepth 100000
set_option maxHeartbeats 4000000
namespace Pl
open PySem PySem.Spec PyProof.Rows L2
/-! ### the table of deeds -/
def deedS (K : PySem.W.Frag) (n : Str) : Option Sp := (deedL.find? fun q => decide (q.2 = n)).map fun q => spDeed K q.1
theorem Cal.up {P : Program} {w : World} {K : PySem.W.Frag} {mg : Str → Option Value} {base : Heap} {k k' : Nat} {x : Str} {sp : Sp} {dvs : List V} (c : C8.Cal P w K mg base k x sp dvs) (h : k ≤ k') : C8.Cal P w K mg base k' x sp dvs := by
  obtain ⟨f, fd, ps, ds, F, r⟩ := c.ex
  exact ⟨f, fd, ps, ds, F.mono h, r⟩
theorem deed_find {n : Str} {q : Int × Str} (h : (deedL.find? fun q => decide (q.2 = n)) = some q) : q ∈ deedL ∧ q.2 = n := ⟨List.mem_of_find?_eq_some h, by simpa using List.find?_some h⟩
theorem deedAll {P : Program} {w : World} {K : PySem.W.Frag} {mg : Str → Option Value} {base : Heap} (T : Txt w K mg) : ∀ q ∈ deedL, C8.Cal P w K mg base 2 q.2 (spDeed K q.1) [] ∧ mg q.2 = some (.ref (He.ga K q.2)) := by
  unfold deedL
  simp only [List.forall_mem_cons]
  exact ⟨⟨Cal.up (c_d_push T) (by decide), T.g__push⟩, ⟨c_d_plus T, T.g__plus⟩, ⟨c_d_minus T, T.g__minus⟩, ⟨c_d_digit T, T.g__digit⟩, ⟨c_d_less T, T.g__less⟩, ⟨c_d_same T, T.g__same⟩, ⟨c_d_load T, T.g__load⟩, ⟨c_d_keep T, T.g__keep⟩, ⟨c_d_assign T, T.g__assign⟩, ⟨Cal.up (c_d_take T) (by decide), T.g__take⟩, ⟨Cal.up (c_d_rewind T) (by decide), T.g__rewind⟩, ⟨c_d_emit T, T.g__emit⟩, ⟨c_d_cell T, T.g__cell⟩, ⟨c_d_drop T, T.g__drop⟩, ⟨c_d_double T, T.g__double⟩, ⟨c_d_exchange T, T.g__exchange⟩, ⟨c_d_test T, T.g__test⟩, ⟨c_d_call T, T.g__call⟩, ⟨c_d_call_low T, T.g__call_low⟩, ⟨Cal.up (c_d_return T) (by decide), T.g__return⟩, fun _ z => by cases z⟩
theorem deedA {P : Program} {w : World} {K : PySem.W.Frag} {mg : Str → Option Value} {base : Heap} (T : Txt w K mg) : ∀ n sp, deedS K n = some sp → C8.Cal P w K mg base 2 n sp [] := by
  intro n sp h
  unfold deedS at h
  cases e : deedL.find? fun q => decide (q.2 = n) with
  | none => rw [e] at h; cases h
  | some q =>
    rw [e] at h
    obtain ⟨h1, rfl⟩ := deed_find e
    rw [← Option.some.inj h]
    exact (deedAll T q h1).1
theorem deedAllG {w : World} {K : PySem.W.Frag} {mg : Str → Option Value} (T : Txt w K mg) : ∀ q ∈ deedL, mg q.2 = some (.ref (He.ga K q.2)) := by
  unfold deedL
  simp only [List.forall_mem_cons]
  exact ⟨T.g__push, T.g__plus, T.g__minus, T.g__digit, T.g__less, T.g__same, T.g__load, T.g__keep, T.g__assign, T.g__take, T.g__rewind, T.g__emit, T.g__cell, T.g__drop, T.g__double, T.g__exchange, T.g__test, T.g__call, T.g__call_low, T.g__return, fun _ z => by cases z⟩
theorem deedG {w : World} {K : PySem.W.Frag} {mg : Str → Option Value} (T : Txt w K mg) : ∀ n sp, deedS K n = some sp → mg n = some (.ref (He.ga K n)) := by
  intro n sp h
  unfold deedS at h
  cases e : deedL.find? fun q => decide (q.2 = n) with
  | none => rw [e] at h; cases h
  | some q =>
    obtain ⟨h1, rfl⟩ := deed_find e
    exact deedAllG T q h1
theorem deed_of {K : PySem.W.Frag} {i : Int} {n : Str} (h : deedOf i = some n) : deedS K n = some (spDeed K i) := by
  unfold deedOf at h
  cases e : deedL.find? fun q => decide (q.1 = i) with
  | none => rw [e] at h; cases h
  | some q =>
    rw [e] at h
    have h1 := List.mem_of_find?_eq_some e
    have h2 : q.1 = i := by simpa using List.find?_some e
    have h3 : ∀ q ∈ deedL, deedL.find? (fun r => decide (r.2 = q.2)) = some q := by decide +kernel
    unfold deedS
    rw [← Option.some.inj h, h3 q h1, ← h2]
    rfl
theorem act_free {lo : Int → Bool} {im nums : List Int} {op arg : Int} {m : M} (h : deedOf op = none) : act lo im nums op arg m = if 97 ≤ op ∧ op ≤ 122 then { m with stk := m.sto op :: m.stk } else if 65 ≤ op ∧ op ≤ 90 then { m with at_ := op, bk := m.at_ :: m.bk } else m := by
  have n : ∀ q ∈ deedL, op ≠ q.1 := by
    intro q hq z
    unfold deedOf at h
    cases e : deedL.find? fun q => decide (q.1 = op) with
    | none =>
      have := List.find?_eq_none.mp e q hq
      simp [z] at this
    | some r => rw [e] at h; cases h
  unfold deedL at n
  simp only [List.forall_mem_cons] at n
  obtain ⟨n1, n2, n3, n4, n5, n6, n7, n8, n9, n10, n11, n12, n13, n14, n15, n16, n17, n18, n19, n20, _⟩ := n
  unfold act
  simp only [if_neg n1, if_neg n2, if_neg n3, if_neg n4, if_neg n5, if_neg n6, if_neg n7, if_neg n8, if_neg n9, if_neg n10, if_neg n11, if_neg n12, if_neg n13, if_neg n14, if_neg n15, if_neg n16, if_neg n17, if_neg n18, if_neg n19, if_neg n20]
/-! ### has_ended, step -/
section
variable {K : PySem.W.Frag} {H : Hp} {a : SA} {img nums : List Int} {m : M} {steps : Int} {n pl : Nat} {kvs kvt : List (Key × V)}
theorem StAt.getN (h : StAt K H a img nums m steps n pl kvs kvt) {x : Int} (hx : look img x = none) : DGet H a.tb (.int x) none := by
  rw [← h.htb.no _ hx]
  exact DGet.k (k := Sum.inl x) h.htb.d
theorem StAt.getS (h : StAt K H a img nums m steps n pl kvs kvt) {x o ar nx : Int} (hx : look img x = some (o, ar, nx)) : ∃ t, DGet H a.tb (.int x) (some (.ref t)) ∧ H t = some (.tup [.int o, .int ar, .int nx]) := by
  obtain ⟨t, e1, e2⟩ := h.htb.yes _ _ _ _ hx
  exact ⟨t, by rw [← e1]; exact DGet.k (k := Sum.inl x) h.htb.d, e2⟩
end
def sp_State_has_ended (K : PySem.W.Frag) : Sp := fun vs H Q _ => ∃ a img nums m steps n pl kvs kvt, vs = [.ref a.p] ∧ StAt K H a img nums m steps n pl kvs kvt ∧ Q (.bl (!(look img m.at_).isSome)) H
theorem sc_State_has_ended : FnScope ["self"] ["self"] (defScope s_State_has_ended) := C8.fnScope_by (by decide +kernel)
def t_State_has_ended (K : PySem.W.Frag) : TS := (tRet (tDNotIn (tFld K (tVar 0) "at") (tFld K (tVar 0) "table")))
theorem d_State_has_ended {P : Program} {w : World} {K : PySem.W.Frag} {mg : Str → Option Value} {base : Heap} (T : Txt w K mg) (f : Addr) (cdv : Value) (A : Around) (outer : List Env) (s : Shared) (H : Hp) (E : XK) (hr : Room 0 (A.deeper (envOfC "State.has_ended" (defScope s_State_has_ended) s.heap.objs.size f cdv))) :
    PSs (Bx P w K mg base ["self"] "State.has_ended" s_State_has_ended f cdv A outer s H E) (defBody s_State_has_ended) (t_State_has_ended K) :=
  (pss_one (ps_ret (pe_cmp (pc_dnotin (hu_of hr) (pe_fld (pv 0) rfl) (pe_fld (pv 0) rfl)))))
theorem l_State_has_ended {K : PySem.W.Frag} : ∀ vs H Q E, sp_State_has_ended K vs H Q E → vs.length = ["self"].length := by
  rintro vs H Q E ⟨_, _, _, _, _, _, _, _, _, rfl, _⟩
  rfl
theorem r_State_has_ended {w : World} {K : PySem.W.Frag} {mg : Str → Option Value} (T : Txt w K mg) : ∀ vs H Q E, sp_State_has_ended K vs H Q E → t_State_has_ended K { nx := fun _ H' => Q .non H', rt := Q } (start ["self"] vs) H := by
  rintro vs H Q E ⟨a, img, nums, m, steps, n, pl, kvs, kvt, rfl, h, k⟩
  refine ⟨_, rfl, a.p, _, a.dx, _, _, rfl, h.ob, T.c_State, T.n_State_at, stF_at, _, rfl, a.p, _, a.dx, _, _, rfl, h.ob, T.c_State, T.n_State_table, stF_table, ?_⟩
  cases hx : look img m.at_ with
  | none =>
    rw [hx] at k
    exact ⟨a.tb, none, rfl, h.getN hx, k⟩
  | some q =>
    obtain ⟨o, ar, nx⟩ := q
    obtain ⟨t, e1, e2⟩ := h.getS hx
    rw [hx] at k
    exact ⟨a.tb, _, rfl, e1, k⟩
theorem m_State_has_ended {P : Program} {w : World} {K : PySem.W.Frag} {mg : Str → Option Value} {base : Heap} (T : Txt w K mg) : C8.Met P w K mg base 1 (He.ga K "State") "has_ended" (sp_State_has_ended K) [] := T.met 42 rfl T.c_State T.m_State_has_ended sc_State_has_ended (fun _ _ _ _ _ _ us hl => match us, hl with | [_], _ => rfl) l_State_has_ended (d_State_has_ended T) (r_State_has_ended T)
def sp_State_step (K : PySem.W.Frag) : Sp := fun vs H Q _ => ∃ a img nums m steps n pl kvs kvt, vs = [.ref a.p] ∧ StAt K H a img nums m steps n pl kvs kvt ∧ n ≤ 1000000 ∧ (look img m.at_ = none → Q (.bl false) H) ∧
  ∀ op arg nx, look img m.at_ = some (op, arg, nx) → ∀ H' pl' kvs', StAt K H' a img nums (act (lowOf (look img)) img nums op arg { m with at_ := nx }) (steps + 1) (n + 2) pl' kvs' kvt → KeepL a.mut H H' → Q (.bl true) H'
theorem sc_State_step : FnScope ["self", "operation", "argument", "successor", "deed"] ["self"] (defScope s_State_step) := C8.fnScope_by (by decide +kernel)
def t_State_step (K : PySem.W.Frag) : TS := (tSeq (tIfS (tB (tDNotIn (tFld K (tVar 0) "at") (tFld K (tVar 0) "table"))) (tRet (tC (.bl false))) tNext) (tSeq (tAsg (tDGet (tFld K (tVar 0) "table") (tFld K (tVar 0) "at")) (gTup K 3 (gCons (gName 1) (gCons (gName 2) (gCons (gName 3) gNil))))) (tSeq (sFld K (tVar 0) (tVar 3) "at") (tSeq (sFldAug K (tVar 0) (tC (.int 1)) L2.rAdd "steps") (tSeq (tIfS (tTest (tOp (rKiIn K) (tVar 1) (tC (.ref (He.ga K "DEEDS"))))) (tSeq (tAsg (tOp (rKiGet K) (tC (.ref (He.ga K "DEEDS"))) (tVar 1)) (gName 4)) (tDrop (tCallD K 4 (deedS K) (tCons (tVar 0) (tCons (tVar 2) tNil))))) (tIfS (tTest (tChain rLeI rLeI (tC (.int 97)) (tVar 1) (tC (.int 122)))) (tDrop (tBM K "list" rAppend (tFld K (tVar 0) "stack") (tCons (tDGet2 (tFld K (tVar 0) "store") (tVar 1) (tC (.int 0))) tNil))) (tIfS (tTest (tChain rLeI rLeI (tC (.int 65)) (tVar 1) (tC (.int 90)))) (tSeq (tDrop (tBM K "list" rAppend (tFld K (tVar 0) "back") (tCons (tVar 3) tNil))) (sFld K (tVar 0) (tVar 1) "at")) tNext))) (tRet (tC (.bl true))))))))
theorem d_State_step {P : Program} {w : World} {K : PySem.W.Frag} {mg : Str → Option Value} {base : Heap} (T : Txt w K mg) (f : Addr) (cdv : Value) (A : Around) (outer : List Env) (s : Shared) (H : Hp) (E : XK) (hr : Room 2 (A.deeper (envOfC "State.step" (defScope s_State_step) s.heap.objs.size f cdv))) :
    PSs (Bx P w K mg base ["self", "operation", "argument", "successor", "deed"] "State.step" s_State_step f cdv A outer s H E) (defBody s_State_step) (t_State_step K) :=
  (pss_cons (ps_if (pt_cmp (pc_dnotin (hu_of hr) (pe_fld (pv 0) rfl) (pe_fld (pv 0) rfl))) (pss_one (ps_ret pe_bl)) pss_nil) (pss_cons (ps_asg (pe_dget (hu_of hr) (pe_fld (pv 0) rfl) (pe_fld (pv 0) rfl) (fun _ _ => rfl)) (pg_tup rfl (pgs_cons (pg_name (i := 1) sc_State_step.nd rfl (by first | exact Or.inl rfl | exact Or.inr rfl)) (pgs_cons (pg_name (i := 2) sc_State_step.nd rfl (by first | exact Or.inl rfl | exact Or.inr rfl)) (pgs_cons (pg_name (i := 3) sc_State_step.nd rfl (by first | exact Or.inl rfl | exact Or.inr rfl)) pgs_nil))))) (pss_cons (ps_fld (pv 0) (pv 3) rfl) (pss_cons (ps_fldaug (pv 0) pe_int in_add) (pss_cons (ps_if (pt_cmpR (op_inKI T) (pv 1) (pe_glob rfl T.g_DEEDS rfl) (by rfl)) (pss_cons (ps_set (i := 4) sc_State_step.nd rfl (by first | exact Or.inl rfl | exact Or.inr rfl) (pe_getKI T (pe_glob rfl T.g_DEEDS rfl) (pv 1) (fun _ _ => rfl))) (pss_one (ps_expr (pe_callD (deedA T) (deedG T) hr (by decide) rfl (Or.inl rfl) (pa_cons (pv 0) (pa_cons (pv 2) pa_nil)))))) (pss_one (ps_if (pt_chain op_le op_le (pe_gint T.i_FIRST_LETTER rfl) (pv 1) (pe_gint T.i_LAST_LETTER rfl)) (pss_one (ps_expr (pe_bm PySem.F.plainAttrs_list PySem.F.slot_list_append PySem.F.type_list_append mt_append (pe_fld (pv 0) rfl) (pa_cons (pe_dget2 (hu_of hr) (pe_fld (pv 0) rfl) (pv 1) pe_int ⟨by rfl, by rfl, by rfl, by rfl⟩) pa_nil)))) (pss_one (ps_if (pt_chain op_le op_le (pe_gint T.i_FIRST_CAPITAL rfl) (pv 1) (pe_gint T.i_LAST_CAPITAL rfl)) (pss_cons (ps_expr (pe_bm PySem.F.plainAttrs_list PySem.F.slot_list_append PySem.F.type_list_append mt_append (pe_fld (pv 0) rfl) (pa_cons (pv 3) pa_nil))) (pss_one (ps_fld (pv 0) (pv 1) rfl))) pss_nil))))) (pss_one (ps_ret pe_bl)))))))
theorem l_State_step {K : PySem.W.Frag} : ∀ vs H Q E, sp_State_step K vs H Q E → vs.length = ["self"].length := by
  rintro vs H Q E ⟨_, _, _, _, _, _, _, _, _, rfl, _⟩
  rfl
theorem r_State_step {w : World} {K : PySem.W.Frag} {mg : Str → Option Value} (T : Txt w K mg) : ∀ vs H Q E, sp_State_step K vs H Q E → t_State_step K { nx := fun _ H' => Q .non H', rt := Q } (start ["self", "operation", "argument", "successor", "deed"] vs) H := by
  rintro vs H Q E ⟨a, img, nums, m, steps, n, pl, kvs, kvt, rfl, h, hn, k0, k⟩
  refine ⟨_, rfl, a.p, _, a.dx, _, _, rfl, h.ob, T.c_State, T.n_State_at, stF_at, _, rfl, a.p, _, a.dx, _, _, rfl, h.ob, T.c_State, T.n_State_table, stF_table, ?_⟩
  cases hx : look img m.at_ with
  | none => exact ⟨a.tb, none, rfl, h.getN hx, _, rfl, iteT (k0 hx)⟩
  | some q =>
    obtain ⟨op, arg, nx⟩ := q
    obtain ⟨t, e1, e2⟩ := h.getS hx
    refine ⟨a.tb, _, rfl, e1, _, rfl, iteF ?_⟩
    refine ⟨_, rfl, a.p, _, a.dx, _, _, rfl, h.ob, T.c_State, T.n_State_table, stF_table, _, rfl, a.p, _, a.dx, _, _, rfl, h.ob, T.c_State, T.n_State_at, stF_at, a.tb, _, rfl, e1, ?_⟩
    refine ⟨t, _, rfl, SqT.of e2, rfl, _, _, rfl, _, _, rfl, _, _, rfl, rfl, ?_⟩
    refine ⟨_, rfl, _, rfl, a.p, _, a.dx, _, rfl, h.ob, T.c_State, T.n_State_at, stF_small, ?_⟩
    have h1 := h.setAt nx (Nat.le_refl _)
    refine ⟨_, rfl, a.p, _, a.dx, _, _, rfl, h1.ob, T.c_State, T.n_State_steps, stF_steps, _, _, rfl, rfl, a.dx, _, h1.ob, stF_small, ?_⟩
    have h2 := h1.setF nx pl m.rest (steps + 1) (stP_steps (z := steps)) h1.hpl (Nat.le_refl _)
    have k2 : KeepL a.mut H _ := (KeepL.upd (mP (a := a)) (H := H) (o := .ins (CS K) a.dx (putF "at" (.int nx) (stF a m.at_ pl steps)))).trans (KeepL.upd (mP (a := a)) (o := .ins (CS K) a.dx (putF "steps" (.int (steps + 1)) (stF a nx pl steps))))
    refine ⟨_, rfl, rfl, op, rfl, _, rfl, ?_⟩
    cases hd : deedOf op with
    | some dn =>
      refine iteT ⟨_, rfl, rfl, op, dn, rfl, hd, ?_⟩
      refine ⟨dn, _, rfl, deed_of hd, _, rfl, _, rfl, a, img, nums, _, _, n, pl, kvs, kvt, arg, rfl, h2, hn, fun H' pl' kvs' h3 k3 => ?_⟩
      exact k _ _ _ hx _ _ _ h3 (k2.trans k3)
    | none =>
      refine iteF ?_
      have ea := act_free (lo := lowOf (look img)) (im := img) (nums := nums) (arg := arg) (m := { m with at_ := nx }) hd
      have rest : ¬ (97 ≤ op ∧ op ≤ 122) → tIfS (tTest (tChain rLeI rLeI (tC (.int 65)) (tVar 1) (tC (.int 90)))) (tSeq (tDrop (tBM K "list" rAppend (tFld K (tVar 0) "back") (tCons (tVar 3) tNil))) (sFld K (tVar 0) (tVar 1) "at")) tNext { nx := fun _ H' => Q (.bl true) H', rt := Q } [some (.ref a.p), some (.int op), some (.int arg), some (.int nx), none] _ := fun hl => by
        rw [if_neg hl] at ea
        have fin : ¬ (65 ≤ op ∧ op ≤ 90) → Q (.bl true) _ := fun hc => by
          rw [if_neg hc] at ea
          exact k _ _ _ hx _ _ _ (by rw [ea]; exact h2.mono (by omega)) k2
        refine ⟨_, rfl, _, _, rfl, rfl, _, rfl, ?_⟩
        by_cases c1 : 65 ≤ op
        · refine iteDT c1 ⟨_, _, rfl, rfl, _, rfl, ?_⟩
          by_cases c2 : op ≤ 90
          · refine iteDT c2 ?_
            rw [if_pos ⟨c1, c2⟩] at ea
            refine apbSeq T rfl h2 ⟨_, rfl, ?_⟩
            refine apB h2 (by omega) fun h3 => ?_
            refine ⟨_, rfl, _, rfl, a.p, _, a.dx, _, rfl, h3.ob, T.c_State, T.n_State_at, stF_small, ?_⟩
            exact k _ _ _ hx _ _ _ (by rw [ea]; exact (h3.setAt _ (Nat.le_refl _)).mono (by omega)) (k2.trans ((KeepL.upd mB).trans (KeepL.upd mP)))
          · exact iteDF c2 (fin fun z => c2 z.2)
        · exact iteDF c1 ⟨_, rfl, iteF (fin fun z => c1 z.1)⟩
      refine ⟨_, rfl, _, _, rfl, rfl, _, rfl, ?_⟩
      by_cases c1 : 97 ≤ op
      · refine iteDT c1 ⟨_, _, rfl, rfl, _, rfl, ?_⟩
        by_cases c2 : op ≤ 122
        · refine iteDT c2 ?_
          rw [if_pos ⟨c1, c2⟩] at ea
          refine apDrop T rfl h2 ⟨_, rfl, a.p, _, a.dx, _, _, rfl, h2.ob, T.c_State, T.n_State_store, stF_store, a.so, rfl, .inl ⟨_, Rd.of h2.hso⟩, _, rfl, _, DGet.k (k := Sum.inl op) h2.hso, ?_⟩
          rw [h2.sto]
          refine apR h2 (by omega) fun h3 => ?_
          exact k _ _ _ hx _ _ _ (by rw [ea]; exact h3.mono (by omega)) (k2.trans (KeepL.upd mS))
        · exact iteDF c2 (rest fun z => c2 z.2)
      · exact iteDF c1 ⟨_, rfl, iteF (rest fun z => c1 z.1)⟩
theorem m_State_step {P : Program} {w : World} {K : PySem.W.Frag} {mg : Str → Option Value} {base : Heap} (T : Txt w K mg) : C8.Met P w K mg base 3 (He.ga K "State") "step" (sp_State_step K) [] := T.met 43 rfl T.c_State T.m_State_step sc_State_step (fun _ _ _ _ _ _ us hl => match us, hl with | [_], _ => rfl) l_State_step (d_State_step T) (r_State_step T)
/-! ### advance -/
def sp_State_advance (K : PySem.W.Frag) : Sp := fun vs H Q _ => ∃ (a : SA) (img nums : List Int) (m : M) (steps : Int) (n pl : Nat) (kvs kvt : List (Key × V)) (F : Nat), vs = [.ref a.p, .int (F : Int)] ∧ StAt K H a img nums m steps n pl kvs kvt ∧ n + 2 * F ≤ 1000000 ∧
  ∀ H' n' pl' kvs', StAt K H' a img nums (goM (look img) (lowOf (look img)) img nums F m).2 (steps + (goM (look img) (lowOf (look img)) img nums F m).1) n' pl' kvs' kvt → KeepL a.mut H H' → Q (.int ((goM (look img) (lowOf (look img)) img nums F m).1 : Nat)) H'
theorem sc_State_advance : FnScope ["self", "fuel", "made"] ["self", "fuel"] (defScope s_State_advance) := C8.fnScope_by (by decide +kernel)
def t_State_advance (K : PySem.W.Frag) : TS := (tSeq (tIfS (tTest (tOp rLtI (tVar 1) (tC (.int 0)))) tNever tNext) (tSeq (tAsg (tC (.int 0)) (gName 2)) (tSeq (tWhile (tAnd (tTest (tOp rLtI (tVar 2) (tVar 1))) (tB (tMeth (He.ga K "State") "step" (sp_State_step K) [] C8.E0 (tVar 0) tNil))) (tAug 2 (tC (.int 1)) (ipI fun i j => i + j))) (tRet (tVar 2)))))
theorem d_State_advance {P : Program} {w : World} {K : PySem.W.Frag} {mg : Str → Option Value} {base : Heap} (T : Txt w K mg) (f : Addr) (cdv : Value) (A : Around) (outer : List Env) (s : Shared) (H : Hp) (E : XK) (hr : Room 3 (A.deeper (envOfC "State.advance" (defScope s_State_advance) s.heap.objs.size f cdv))) :
    PSs (Bx P w K mg base ["self", "fuel", "made"] "State.advance" s_State_advance f cdv A outer s H E) (defBody s_State_advance) (t_State_advance K) :=
  (pss_cons (ps_if (pt_cmpR op_lt (pv 1) pe_int (nomark _)) (pss_one ps_never) pss_nil) (pss_cons (ps_set (i := 2) sc_State_advance.nd rfl (by first | exact Or.inl rfl | exact Or.inr rfl) pe_int) (pss_cons (ps_while PassesOwn.never (PW.pt (pw_and (pt_cmpR op_lt (pv 2) (pv 1) (nomark _)) (pw_and1 (pt_val (C8.pe_mt0 (m_State_step T) hr (by decide) (pv 0)))))) (pss_one (ps_aug (i := 2) sc_State_advance.nd rfl (by first | exact Or.inl rfl | exact Or.inr rfl) pe_int ip_add))) (pss_one (ps_ret (pv 2))))))
theorem l_State_advance {K : PySem.W.Frag} : ∀ vs H Q E, sp_State_advance K vs H Q E → vs.length = ["self", "fuel"].length := by
  rintro vs H Q E ⟨_, _, _, _, _, _, _, _, _, _, rfl, _⟩
  rfl
theorem goM_none {T : Int → Option Node} {lo : Int → Bool} {im nums : List Int} {f : Nat} {m : M} (h : T m.at_ = none) : goM T lo im nums f m = (0, m) := by
  cases f with
  | zero => rfl
  | succ f => unfold goM stepM; rw [h]
theorem goM_some {T : Int → Option Node} {lo : Int → Bool} {im nums : List Int} {f : Nat} {m : M} {op arg nx : Int} (h : T m.at_ = some (op, arg, nx)) : goM T lo im nums (f + 1) m = ((goM T lo im nums f (act lo im nums op arg { m with at_ := nx })).1 + 1, (goM T lo im nums f (act lo im nums op arg { m with at_ := nx })).2) := by
  rw [goM]
  unfold stepM
  rw [h]
theorem r_State_advance {w : World} {K : PySem.W.Frag} {mg : Str → Option Value} (T : Txt w K mg) : ∀ vs H Q E, sp_State_advance K vs H Q E → t_State_advance K { nx := fun _ H' => Q .non H', rt := Q } (start ["self", "fuel", "made"] vs) H := by
  rintro vs H Q E ⟨a, img, nums, m, steps, n, pl, kvs, kvt, F, rfl, h, hn, k⟩
  refine ⟨_, rfl, _, _, rfl, rfl, _, rfl, iteDF (by omega) ?_⟩
  refine ⟨fun r σ H' => ∃ (j : Nat) (m' : M) (pl' : Nat) (kvs' : List (Key × V)), σ = [some (.ref a.p), some (.int (F : Int)), some (.int (j : Int))] ∧ r + j = F ∧ StAt K H' a img nums m' (steps + j) (n + 2 * j) pl' kvs' kvt ∧ KeepL a.mut H H' ∧
    goM (look img) (lowOf (look img)) img nums F m = (j + (goM (look img) (lowOf (look img)) img nums r m').1, (goM (look img) (lowOf (look img)) img nums r m').2), ⟨F, 0, m, pl, kvs, rfl, rfl, by simpa using h, KeepL.refl, by rw [Nat.zero_add]⟩, ?_⟩
  rintro r σ H' ⟨j, m', pl', kvs', rfl, hr, h', kp, e⟩
  refine ⟨_, rfl, _, rfl, _, _, rfl, rfl, _, rfl, ?_⟩
  cases r with
  | zero =>
    refine iteDF (by omega) (iteF ⟨_, rfl, ?_⟩)
    have e1 : goM (look img) (lowOf (look img)) img nums F m = (j, m') := by rw [e]; rfl
    rw [e1] at k
    exact k _ _ _ _ h' kp
  | succ r =>
    refine iteDT (by omega) ⟨_, rfl, a.p, a.dx, _, rfl, h'.ob, stF_step, a, img, nums, m', _, _, pl', kvs', kvt, rfl, h', by omega, fun hx => ?_, fun op arg nx hx H2 pl2 kvs2 h2 k2 => ?_⟩
    · refine ⟨_, rfl, iteF ⟨_, rfl, ?_⟩⟩
      have e1 : goM (look img) (lowOf (look img)) img nums F m = (j, m') := by rw [e, goM_none hx]; rfl
      rw [e1] at k
      exact k _ _ _ _ h' kp
    · refine ⟨_, rfl, iteT ⟨fun σ H' => ∃ (m' : M) (pl' : Nat) (kvs' : List (Key × V)), σ = [some (.ref a.p), some (.int (F : Int)), some (.int ((j + 1 : Nat) : Int))] ∧ StAt K H' a img nums m' (steps + ((j + 1 : Nat) : Int)) (n + 2 * (j + 1)) pl' kvs' kvt ∧ KeepL a.mut H H' ∧
        goM (look img) (lowOf (look img)) img nums F m = ((j + 1) + (goM (look img) (lowOf (look img)) img nums r m').1, (goM (look img) (lowOf (look img)) img nums r m').2), ?_, ?_⟩⟩
      · rintro σ' H3 ⟨m3, pl3, kvs3, rfl, h3, k3, e3⟩
        exact ⟨r, Nat.lt_succ_self r, j + 1, m3, pl3, kvs3, rfl, by omega, h3, k3, e3⟩
      · refine ⟨_, rfl, _, _, rfl, rfl, act (lowOf (look img)) img nums op arg { m' with at_ := nx }, pl2, kvs2, rfl, ?_, kp.trans k2, ?_⟩
        · rw [show (steps + ((j + 1 : Nat) : Int)) = steps + j + 1 by omega, show n + 2 * (j + 1) = n + 2 * j + 2 by omega]
          exact h2
        · rw [e, goM_some hx]
          simp only [Prod.mk.injEq, and_true]
          omega
end Pl

set_option Elab.async false
set_option linter.all false
set_option maxRecDepth 100000
set_option maxHeartbeats 4000000
namespace Pl
open PySem PySem.Spec PyProof.Rows L2
/-! ### nodes_of -/
theorem lcYes {te : TE} {σ : L2.St} {H : Hp} {R : VK} {E : Hp → Prop} (h : te σ H R) : tYes σ H fun b H3 => if b = true then te σ H3 R else E H3 := by
  show if true = true then te σ H R else E H
  rw [if_pos rfl]
  exact h
theorem cutN {ns : List Int} {lo hi : Nat} : cutV (ns.map V.int) (some (lo : Int)) (some (hi : Int)) = ((ns.drop lo).take (hi - lo)).map V.int := by
  unfold cutV
  rw [HT.sIx_nat, HT.sIx_nat, List.length_map, ← List.map_drop, ← List.map_take]
  by_cases h : lo ≤ ns.length
  · rw [Nat.min_eq_left h]
    by_cases h2 : hi ≤ ns.length
    · rw [Nat.min_eq_left h2]
    · rw [Nat.min_eq_right (by omega)]
      congr 1
      rw [List.take_of_length_le (by simp), List.take_of_length_le (by simp; omega)]
  · rw [Nat.min_eq_right (by omega : ns.length ≤ lo), List.drop_eq_nil_of_le (Nat.le_refl _), List.drop_eq_nil_of_le (by omega)]
    simp
def cell4 (img : List Int) (i : Nat) : List Int := (img.drop (4 * i)).take 4
/-- a list of tuples, the nodes of an image -/
structure NodesAt (H : Hp) (q : Addr) (img : List Int) (k : Nat) (rs : List Addr) : Prop where
  hq : H q = some (.lst (rs.map V.ref))
  hl : rs.length = k
  at_ : ∀ i r, rs[i]? = some r → H r = some (.tup ((cell4 img i).map V.int))
theorem NodesAt.keep {H H' : Hp} {q : Addr} {img : List Int} {k : Nat} {rs : List Addr} (h : NodesAt H q img k rs) (s : Same H H') : NodesAt H' q img k rs := ⟨s _ _ h.hq, h.hl, fun i r e => s _ _ (h.at_ i r e)⟩
theorem rgC4 {n : Nat} (h : n ≤ 16000000) : RgC 0 ((n : Int) - 3) 4 (n / 4) := by
  have e : Builtin.Range.rangeSize 0 ((n : Int) - 3) 4 = ((n / 4 : Nat) : Int) := by
    unfold Builtin.Range.rangeSize
    rw [if_pos (by decide)]
    split <;> omega
  refine ⟨by decide, by decide, ?_, e⟩
  unfold Builtin.Range.small
  rw [e]
  simp only [Builtin.Range.rangeFitsLong, Bool.and_eq_true, Bool.or_eq_true, decide_eq_true_eq, beq_iff_eq, show (4 : Int) > 0 by decide, if_true]
  omega
def sp_nodes_of (K : PySem.W.Frag) : Sp := fun vs H Q _ => ∃ b img, vs = [.ref b] ∧ SqL K H b (img.map V.int) ∧ img.length ≤ 1000000 ∧ ∀ q rs H', Same H H' → H q = none → (∀ r ∈ rs, H r = none) → NodesAt H' q img (img.length / 4) rs → Q (.ref q) H'
theorem sc_nodes_of : FnScope ["image", "start"] ["image"] (defScope s_nodes_of) := C8.fnScope_by (by decide +kernel)
def t_nodes_of (K : PySem.W.Frag) : TS := (tRet (tLc (iRng3 (tCons (tC (.int 0)) (tCons (tOp rSubI (tCB (rLenSeq K) (tCons (tVar 0) tNil)) (tC (.int 3))) (tCons (tC (.int 4)) tNil)))) (gName 1) tYes (tCB (rTupOf K) (tCons (tSl (rSlL K) (tVar 0) (tPart (tVar 1)) (tPart (tOp rAddI (tVar 1) (tC (.int 4))))) tNil)) [1]))
theorem d_nodes_of {P : Program} {w : World} {K : PySem.W.Frag} {mg : Str → Option Value} {base : Heap} (T : Txt w K mg) (f : Addr) (cdv : Value) (A : Around) (outer : List Env) (s : Shared) (H : Hp) (E : XK) (hr : Room 0 (A.deeper (envOfC "nodes_of" (defScope s_nodes_of) s.heap.objs.size f cdv))) :
    PSs (Bx P w K mg base ["image", "start"] "nodes_of" s_nodes_of f cdv A outer s H E) (defBody s_nodes_of) (t_nodes_of K) :=
  (pss_one (ps_ret (pe_lc (own := [("start", 1)]) (g := gName 1) (tt := tYes) rfl sc_nodes_of.nd (pi_range3 (by rfl) T.f_range (pa_cons pe_int (pa_cons (pe_op op_sub (pe_callB call_len_seq (by rfl) T.f_len boot_len (pa_cons (pv 0) pa_nil)) pe_int) (pa_cons pe_int pa_nil)))) (blkOk_by (own := [("start", 1)]) (N := ["image", "start"]) (sc := defScope s_nodes_of) (by decide +kernel)) (fun _ _ _ _ _ => pg_name (i := 1) sc_nodes_of.nd rfl (Or.inl rfl)) (fun _ _ _ _ _ => pts_nil) (fun _ _ _ _ _ => (pe_callTy call_tuple_of (by rfl) T.f_tuple boot_tuple (pa_cons (pe_slice sl_list (pv 0) (po_some (pv 1)) (po_some (pe_op op_add (pv 1) pe_int))) pa_nil))))))
theorem l_nodes_of {K : PySem.W.Frag} : ∀ vs H Q E, sp_nodes_of K vs H Q E → vs.length = ["image"].length := by
  rintro vs H Q E ⟨_, _, rfl, _⟩
  rfl
theorem r_nodes_of {w : World} {K : PySem.W.Frag} {mg : Str → Option Value} (T : Txt w K mg) : ∀ vs H Q E, sp_nodes_of K vs H Q E → t_nodes_of K { nx := fun _ H' => Q .non H', rt := Q } (start ["image", "start"] vs) H := by
  rintro vs H Q E ⟨b, img, rfl, hS, hl, k⟩
  refine ⟨_, rfl, b, _, rfl, .inl hS, _, _, rfl, rfl, _, _, 4, _, rfl, rgC4 (by simp; omega), fun D hD => ?_⟩
  refine ⟨fun i m H1 => m = img.length / 4 - i ∧ i ≤ img.length / 4 ∧ Same H H1 ∧ ∃ rs, NodesAt H1 D img i rs ∧ ∀ r ∈ rs, H r = none, ⟨_, rfl, Nat.zero_le _, Same.new hD, [], ⟨upd_same, rfl, fun i r e => by simp at e⟩, fun r e => by cases e⟩, ?_⟩
  rintro i m H1 ⟨rfl, hi, s, rs, hn, hf⟩
  rw [List.length_map]
  by_cases hlt : i < img.length / 4
  · refine .inr ⟨hlt, fun H1 => Same H H1 ∧ ∃ rs, NodesAt H1 D img (i + 1) rs ∧ ∀ r ∈ rs, H r = none, fun H' p' => ⟨_, by omega, rfl, hlt, p'⟩, ?_⟩
    rintro x H2 ⟨rfl, rfl⟩
    refine ⟨rfl, lcYes ?_⟩
    refine ⟨_, rfl, _, rfl, _, rfl, _, rfl, _, _, rfl, rfl, _, rfl, b, _, rfl, s.seq hS, fun p hp => ⟨p, _, rfl, .inl ⟨SqL.of upd_same, fun l hl => ?_⟩⟩⟩
    have e1 : (0 : Int) + (i : Nat) * 4 = ((4 * i : Nat) : Int) := by omega
    have e2 : (0 : Int) + (i : Nat) * 4 + 4 = ((4 * i + 4 : Nat) : Int) := by omega
    have n1 : D ≠ p := ne_of_none hn.hq hp
    have n2 : p ≠ l := ne_of_none upd_same hl
    have hl1 : H2 l = none := by rw [upd_ne n2.symm] at hl; exact hl
    have n3 : D ≠ l := ne_of_none hn.hq hl1
    refine ⟨rs.map V.ref, by rw [upd_ne n3, upd_ne n1]; exact hn.hq, line_lt (by rw [List.length_map, hn.hl]; omega), ?_, rs ++ [l], ⟨?_, by rw [List.length_append, hn.hl]; rfl, fun j r e => ?_⟩, fun r hr => ?_⟩
    · exact (((Same.keepL s (l := [D])).trans ((KeepL.new hp).trans (KeepL.new hl))).trans (KeepL.upd (by simp))).same (Same.refl H) (by simpa using hD)
    · rw [upd_same, List.map_append]
      rfl
    · by_cases hj : j < rs.length
      · rw [List.getElem?_append_left hj] at e
        have h1 := hn.at_ j r e
        have n4 : r ≠ D := ne_of h1 hn.hq (by intro z; cases z)
        rw [upd_ne n4, upd_ne (ne_of_none h1 hl1), upd_ne (ne_of_none h1 hp)]
        exact h1
      · rw [List.getElem?_append_right (by omega)] at e
        have h0 : j - rs.length = 0 := by
          cases hz : j - rs.length with
          | zero => rfl
          | succ z => rw [hz] at e; simp at e
        rw [h0] at e
        have e3 : l = r := by simpa using e
        have e4 : j = i := by have := hn.hl; omega
        subst e3 e4
        rw [upd_ne n3.symm, upd_same, e1, show ((4 * j : Nat) : Int) + 4 = ((4 * j + 4 : Nat) : Int) by omega, cutN]
        unfold cell4
        rw [show 4 * j + 4 - 4 * j = 4 by omega]
    · rcases List.mem_append.mp hr with h | h
      · exact hf r h
      · rw [List.mem_singleton.mp h]
        exact s.free hl1
  · have e : i = img.length / 4 := by omega
    subst e
    exact .inl ⟨Nat.le_refl _, k D rs _ s hD hf hn⟩
theorem c_nodes_of {P : Program} {w : World} {K : PySem.W.Frag} {mg : Str → Option Value} {base : Heap} (T : Txt w K mg) : C8.Cal P w K mg base 1 "nodes_of" (sp_nodes_of K) [] := T.cal 17 rfl T.g_nodes_of sc_nodes_of (fun _ _ _ _ _ _ us hl => match us, hl with | [_], _ => rfl) l_nodes_of (d_nodes_of T) (r_nodes_of T)
theorem cell4_eq {img : List Int} {i : Nat} (h : i < img.length / 4) : ∃ n o a s, cell4 img i = [n, o, a, s] := by
  have hl : (cell4 img i).length = 4 := by
    unfold cell4
    rw [List.length_take, List.length_drop]
    omega
  match cell4 img i, hl with
  | [n, o, a, s], _ => exact ⟨n, o, a, s, rfl⟩
theorem take4 (img : List Int) (i : Nat) : img.take (4 * (i + 1)) = img.take (4 * i) ++ cell4 img i := by
  unfold cell4
  rw [show 4 * (i + 1) = 4 * i + 4 by omega, List.take_add]
theorem look4 {img : List Int} {i : Nat} {n o a s : Int} (h : i < img.length / 4) (e : cell4 img i = [n, o, a, s]) (x : Int) : look (img.take (4 * (i + 1))) x = if n = x then some (o, a, s) else look (img.take (4 * i)) x := by
  rw [take4, look_app _ _ _ (by rw [List.length_take]; omega), e]
  show (match (match look [] x with | some q => some q | none => if n = x then some (o, a, s) else none) with | some q => some q | none => look (img.take (4 * i)) x) = _
  have e0 : look [] x = none := rfl
  rw [e0]
  by_cases hx : n = x
  · simp [hx]
  · simp [hx]
/-! ### image_of, table_of -/
def sp_image_of (K : PySem.W.Frag) : Sp := fun vs H Q _ => ∃ q img rs, vs = [.ref q] ∧ NodesAt H q img (img.length / 4) rs ∧ img.length % 4 = 0 ∧ img.length ≤ 1000000 ∧ NewL H Q (img.map V.int)
theorem sc_image_of : FnScope ["nodes", "image", "number", "operation", "argument", "successor"] ["nodes"] (defScope s_image_of) := C8.fnScope_by (by decide +kernel)
def t_image_of (K : PySem.W.Frag) : TS := (tSeq (tAsg (tLst tNil) (gName 1)) (tSeq (tFor (iList K (tVar 0)) (gTup K 4 (gCons (gName 2) (gCons (gName 3) (gCons (gName 4) (gCons (gName 5) gNil))))) (tDrop (tBM K "list" rExtend (tVar 1) (tCons (tLst (tCons (tVar 2) (tCons (tVar 3) (tCons (tVar 4) (tCons (tVar 5) tNil))))) tNil)))) (tRet (tVar 1))))
theorem d_image_of {P : Program} {w : World} {K : PySem.W.Frag} {mg : Str → Option Value} {base : Heap} (T : Txt w K mg) (f : Addr) (cdv : Value) (A : Around) (outer : List Env) (s : Shared) (H : Hp) (E : XK) (hr : Room 0 (A.deeper (envOfC "image_of" (defScope s_image_of) s.heap.objs.size f cdv))) :
    PSs (Bx P w K mg base ["nodes", "image", "number", "operation", "argument", "successor"] "image_of" s_image_of f cdv A outer s H E) (defBody s_image_of) (t_image_of K) :=
  (pss_cons (ps_set (i := 1) sc_image_of.nd rfl (by first | exact Or.inl rfl | exact Or.inr rfl) (pe_lst pa_nil)) (pss_cons (ps_for PassesOwn.never rfl (pi_list (pv 0)) (pg_tup rfl (pgs_cons (pg_name (i := 2) sc_image_of.nd rfl (by first | exact Or.inl rfl | exact Or.inr rfl)) (pgs_cons (pg_name (i := 3) sc_image_of.nd rfl (by first | exact Or.inl rfl | exact Or.inr rfl)) (pgs_cons (pg_name (i := 4) sc_image_of.nd rfl (by first | exact Or.inl rfl | exact Or.inr rfl)) (pgs_cons (pg_name (i := 5) sc_image_of.nd rfl (by first | exact Or.inl rfl | exact Or.inr rfl)) pgs_nil))))) (pss_one (ps_expr (pe_bm PySem.F.plainAttrs_list PySem.F.slot_list_extend PySem.F.type_list_extend mt_extend (pv 1) (pa_cons (pe_lst (pa_cons (pv 2) (pa_cons (pv 3) (pa_cons (pv 4) (pa_cons (pv 5) pa_nil))))) pa_nil))))) (pss_one (ps_ret (pv 1)))))
theorem l_image_of {K : PySem.W.Frag} : ∀ vs H Q E, sp_image_of K vs H Q E → vs.length = ["nodes"].length := by
  rintro vs H Q E ⟨_, _, _, rfl, _⟩
  rfl
theorem r_image_of {w : World} {K : PySem.W.Frag} {mg : Str → Option Value} (T : Txt w K mg) : ∀ vs H Q E, sp_image_of K vs H Q E → t_image_of K { nx := fun _ H' => Q .non H', rt := Q } (start ["nodes", "image", "number", "operation", "argument", "successor"] vs) H := by
  rintro vs H Q E ⟨b, img, rs, rfl, hn, h4, hl, k⟩
  refine ⟨by show 0 ≤ sizeLine; decide, fun q hq => ?_⟩
  have hn1 := hn.keep (Same.new (o := .lst []) hq)
  refine ⟨_, rfl, b, rfl, ⟨_, SqL.of hn1.hq⟩, for_list (K := K) (a := b) (xs := rs.map V.ref) (fun i σ H' => (∃ v2 v3 v4 v5, σ = [some (.ref b), some (.ref q), v2, v3, v4, v5]) ∧ Same H H' ∧ H' q = some (.lst ((img.take (4 * i)).map V.int))) ⟨⟨none, none, none, none, rfl⟩, Same.new hq, upd_same⟩ (fun i σ H' _ p => SqL.of (p.2.1 _ _ hn.hq)) ?_ ?_⟩
  · rintro i x σ H' hx ⟨⟨v2, v3, v4, v5, rfl⟩, s, h⟩
    rw [List.getElem?_map] at hx
    cases er : rs[i]? with
    | none => rw [er] at hx; cases hx
    | some r =>
      rw [er] at hx
      have ex : x = .ref r := (Option.some.inj hx).symm
      subst ex
      have hi : i < img.length / 4 := by rw [← hn.hl]; exact (List.getElem?_eq_some_iff.mp er).1
      obtain ⟨n, o, a, sc, e4⟩ := cell4_eq hi
      have hr := s _ _ (hn.at_ i r er)
      rw [e4] at hr
      refine ⟨r, _, rfl, SqT.of hr, rfl, _, _, rfl, _, _, rfl, _, _, rfl, _, _, rfl, rfl, ?_⟩
      refine ⟨_, rfl, .inl ⟨rfl, _, SqL.of h⟩, _, rfl, _, rfl, _, rfl, _, rfl, by show 4 ≤ sizeLine; decide, fun l hl0 => ?_⟩
      have n1 : q ≠ l := ne_of_none h hl0
      refine ⟨q, l, _, _, rfl, rfl, by rw [upd_ne n1]; exact h, upd_same, line_of (by simp; omega), ⟨_, _, _, _, rfl⟩, ?_, ?_⟩
      · exact ((Same.keepL s (l := [q])).trans ((KeepL.new hl0).trans (KeepL.upd (by simp)))).same (Same.refl H) (by simpa using hq)
      · rw [upd_same, take4, e4, List.map_append]
        rfl
  · rintro σ H' ⟨⟨v2, v3, v4, v5, rfl⟩, s, h⟩
    rw [List.length_map, hn.hl, List.take_of_length_le (by omega)] at h
    exact ⟨_, rfl, k q H' s hq h⟩
theorem c_image_of {P : Program} {w : World} {K : PySem.W.Frag} {mg : Str → Option Value} {base : Heap} (T : Txt w K mg) : C8.Cal P w K mg base 1 "image_of" (sp_image_of K) [] := T.cal 18 rfl T.g_image_of sc_image_of (fun _ _ _ _ _ _ us hl => match us, hl with | [_], _ => rfl) l_image_of (d_image_of T) (r_image_of T)
def sp_table_of (K : PySem.W.Frag) : Sp := fun vs H Q _ => ∃ b img, vs = [.ref b] ∧ SqL K H b (img.map V.int) ∧ img.length % 4 = 0 ∧ img.length ≤ 1000000 ∧ ∀ q kvs H', Same H H' → H q = none → TabAt H' q img kvs → Q (.ref q) H'
theorem sc_table_of : FnScope ["image", "table", "number", "operation", "argument", "successor"] ["image"] (defScope s_table_of) := C8.fnScope_by (by decide +kernel)
def t_table_of (K : PySem.W.Frag) : TS := (tSeq (tAsg tDNewK (gName 1)) (tSeq (tFor (iList K (tCall (sp_nodes_of K) [] C8.E0 (tCons (tVar 0) tNil))) (gTup K 4 (gCons (gName 2) (gCons (gName 3) (gCons (gName 4) (gCons (gName 5) gNil))))) (sDPut (tVar 1) (tVar 2) (tTup (tCons (tVar 3) (tCons (tVar 4) (tCons (tVar 5) tNil)))))) (tRet (tVar 1))))
theorem d_table_of {P : Program} {w : World} {K : PySem.W.Frag} {mg : Str → Option Value} {base : Heap} (T : Txt w K mg) (f : Addr) (cdv : Value) (A : Around) (outer : List Env) (s : Shared) (H : Hp) (E : XK) (hr : Room 1 (A.deeper (envOfC "table_of" (defScope s_table_of) s.heap.objs.size f cdv))) :
    PSs (Bx P w K mg base ["image", "table", "number", "operation", "argument", "successor"] "table_of" s_table_of f cdv A outer s H E) (defBody s_table_of) (t_table_of K) :=
  (pss_cons (ps_set (i := 1) sc_table_of.nd rfl (by first | exact Or.inl rfl | exact Or.inr rfl) pe_dnewK) (pss_cons (ps_for PassesOwn.never rfl (pi_list (C8.pe_c (c_nodes_of T) hr (by decide) (by rfl) (pa_cons (pv 0) pa_nil))) (pg_tup rfl (pgs_cons (pg_name (i := 2) sc_table_of.nd rfl (by first | exact Or.inl rfl | exact Or.inr rfl)) (pgs_cons (pg_name (i := 3) sc_table_of.nd rfl (by first | exact Or.inl rfl | exact Or.inr rfl)) (pgs_cons (pg_name (i := 4) sc_table_of.nd rfl (by first | exact Or.inl rfl | exact Or.inr rfl)) (pgs_cons (pg_name (i := 5) sc_table_of.nd rfl (by first | exact Or.inl rfl | exact Or.inr rfl)) pgs_nil))))) (pss_one (ps_dput (hu_of hr) (pv 1) (pv 2) (pe_tup (pa_cons (pv 3) (pa_cons (pv 4) (pa_cons (pv 5) pa_nil)))) rfl))) (pss_one (ps_ret (pv 1)))))
theorem l_table_of {K : PySem.W.Frag} : ∀ vs H Q E, sp_table_of K vs H Q E → vs.length = ["image"].length := by
  rintro vs H Q E ⟨_, _, rfl, _⟩
  rfl
theorem r_table_of {w : World} {K : PySem.W.Frag} {mg : Str → Option Value} (T : Txt w K mg) : ∀ vs H Q E, sp_table_of K vs H Q E → t_table_of K { nx := fun _ H' => Q .non H', rt := Q } (start ["image", "table", "number", "operation", "argument", "successor"] vs) H := by
  rintro vs H Q E ⟨b, img, rfl, hS, h4, hl, k⟩
  intro d hd
  have s0 : Same H (upd H d (.dK [])) := Same.new hd
  refine ⟨_, rfl, b, img, rfl, s0.seq hS, hl, fun q rs H1 s1 hq hrs hn => ⟨q, rfl, ⟨_, SqL.of hn.hq⟩, ?_⟩⟩
  have hd1 : H1 d = some (.dK []) := s1 _ _ upd_same
  have sh : Same H H1 := s0.trans s1
  have nqd : q ≠ d := ne_of hn.hq hd1 (by intro z; cases z)
  refine for_list (K := K) (a := q) (xs := rs.map V.ref) (fun i σ H' => (∃ v2 v3 v4 v5, σ = [some (.ref b), some (.ref d), v2, v3, v4, v5]) ∧ KeepL [d] H1 H' ∧ ∃ kvs, TabAt H' d (img.take (4 * i)) kvs ∧ kvs.length ≤ i) ⟨⟨none, none, none, none, rfl⟩, KeepL.refl, [], ⟨hd1, fun x _ => rfl, fun x o a n e => by simp [look] at e⟩, Nat.le_refl _⟩ (fun i σ H' _ p => SqL.of (p.2.1 _ _ hn.hq (by simpa using nqd))) ?_ ?_
  · rintro i x σ H' hx ⟨⟨v2, v3, v4, v5, rfl⟩, s, kvs, ht, hk⟩
    rw [List.getElem?_map] at hx
    cases er : rs[i]? with
    | none => rw [er] at hx; cases hx
    | some r =>
      rw [er] at hx
      have ex : x = .ref r := (Option.some.inj hx).symm
      subst ex
      have hi : i < img.length / 4 := by rw [← hn.hl]; exact (List.getElem?_eq_some_iff.mp er).1
      obtain ⟨n, o, a, sc, e4⟩ := cell4_eq hi
      have hr0 := hn.at_ i r er
      have hr := s _ _ hr0 (by simpa using ne_of hr0 hd1 (by intro z; cases z))
      rw [e4] at hr
      refine ⟨r, _, rfl, SqT.of hr, rfl, _, _, rfl, _, _, rfl, _, _, rfl, _, _, rfl, rfl, ?_⟩
      refine ⟨_, rfl, _, rfl, _, rfl, by show 3 ≤ sizeLine; decide, fun t htn => ?_⟩
      have ntd : d ≠ t := ne_of_none ht.d htn
      have ht1 : TabAt (upd H' t (.tup [.int o, .int a, .int sc])) d (img.take (4 * i)) kvs := ⟨by rw [upd_ne ntd]; exact ht.d, ht.no, fun x o' a' n' e => by
        obtain ⟨u, e1, e2⟩ := ht.yes _ _ _ _ e
        exact ⟨u, e1, by rw [upd_ne (ne_of_none e2 htn)]; exact e2⟩⟩
      refine ⟨_, rfl, _, rfl, d, _, rfl, DPut.k (k := Sum.inl n) ht1.d (line_lt (by omega)), ⟨_, _, _, _, rfl⟩, s.trans ((KeepL.new htn).trans (KeepL.upd (by simp))), putK kvs (Sum.inl n) (.ref t), ⟨upd_same, fun x e => ?_, fun x o' a' n' e => ?_⟩, Nat.le_trans (length_putK ..) (by omega)⟩
      · rw [look4 hi e4] at e
        rw [valV_put]
        by_cases hx : n = x
        · rw [if_pos hx] at e; cases e
        · rw [if_neg hx] at e
          rw [if_neg (fun z => hx (Sum.inl.inj z).symm)]
          exact ht.no _ e
      · rw [look4 hi e4] at e
        rw [valV_put]
        by_cases hx : n = x
        · rw [if_pos hx] at e
          rw [if_pos (by rw [hx])]
          refine ⟨t, rfl, ?_⟩
          rw [upd_ne ntd.symm, upd_same]
          have := Option.some.inj e
          injection this with p1 p2
          injection p2 with p3 p4
          rw [p1, p3, p4]
        · rw [if_neg hx] at e
          rw [if_neg (fun z => hx (Sum.inl.inj z).symm)]
          obtain ⟨u, e1, e2⟩ := ht1.yes _ _ _ _ e
          exact ⟨u, e1, by rw [upd_ne (ne_of e2 ht1.d (by intro z; cases z))]; exact e2⟩
  · rintro σ H' ⟨⟨v2, v3, v4, v5, rfl⟩, s, kvs, ht, hk⟩
    rw [List.length_map, hn.hl, List.take_of_length_le (by omega)] at ht
    exact ⟨_, rfl, k d kvs H' (s.same sh (by simpa using hd)) hd ht⟩
theorem c_table_of {P : Program} {w : World} {K : PySem.W.Frag} {mg : Str → Option Value} {base : Heap} (T : Txt w K mg) : C8.Cal P w K mg base 2 "table_of" (sp_table_of K) [] := T.cal 19 rfl T.g_table_of sc_table_of (fun _ _ _ _ _ _ us hl => match us, hl with | [_], _ => rfl) l_table_of (d_table_of T) (r_table_of T)
end Pl

set_option Elab.async false
set_option linter.all false
set_option maxRecDepth 100000
set_option maxHeartbeats 4000000
namespace Pl
open PySem PySem.Spec PyProof.Rows L2
/-! ### State.__init__ -/
def sp_State_init (K : PySem.W.Frag) : Sp := fun vs H Q _ => ∃ p dx b c img nums, vs = [.ref p, .ref b, .ref c] ∧ H p = some (.ins (CS K) dx []) ∧ H b = some (.lst (img.map V.int)) ∧ H c = some (.lst (nums.map V.int)) ∧ img.length % 4 = 0 ∧ img.length ≤ 1000000 ∧ nums.length ≤ 1000000 ∧
  ∀ (a : SA) kvt H', a.p = p → (∀ x ∈ [a.st, a.so, a.bk, a.ou], H x = none) → StAt K H' a img nums (m0 nums) 0 0 0 [] kvt → KeepL [p] H H' → Q .non H'
theorem sc_State_init : FnScope ["self", "image", "numbers"] ["self", "image", "numbers"] (defScope s_State_init) := C8.fnScope_by (by decide +kernel)
def t_State_init (K : PySem.W.Frag) : TS := (tSeq (sFld K (tVar 0) (tCB (rListOf K) (tCons (tVar 1) tNil)) "image") (tSeq (sFld K (tVar 0) (tCB (rListOf K) (tCons (tVar 2) tNil)) "numbers") (tSeq (sFld K (tVar 0) (tCall (sp_table_of K) [] C8.E0 (tCons (tVar 1) tNil)) "table") (tSeq (sFld K (tVar 0) (tC (.int 0)) "at") (tSeq (sFld K (tVar 0) (tLst tNil) "stack") (tSeq (sFld K (tVar 0) tDNewK "store") (tSeq (sFld K (tVar 0) (tLst tNil) "back") (tSeq (sFld K (tVar 0) (tC (.int 0)) "place") (tSeq (sFld K (tVar 0) (tLst tNil) "output") (sFld K (tVar 0) (tC (.int 0)) "steps"))))))))))
theorem d_State_init {P : Program} {w : World} {K : PySem.W.Frag} {mg : Str → Option Value} {base : Heap} (T : Txt w K mg) (f : Addr) (cdv : Value) (A : Around) (outer : List Env) (s : Shared) (H : Hp) (E : XK) (hr : Room 2 (A.deeper (envOfC "State.__init__" (defScope s_State_init) s.heap.objs.size f cdv))) :
    PSs (Bx P w K mg base ["self", "image", "numbers"] "State.__init__" s_State_init f cdv A outer s H E) (defBody s_State_init) (t_State_init K) :=
  (pss_cons (ps_fld (pv 0) (pe_callTy call_list_of (by rfl) T.f_list boot_list (pa_cons (pv 1) pa_nil)) rfl) (pss_cons (ps_fld (pv 0) (pe_callTy call_list_of (by rfl) T.f_list boot_list (pa_cons (pv 2) pa_nil)) rfl) (pss_cons (ps_fld (pv 0) (C8.pe_c (c_table_of T) hr (by decide) (by rfl) (pa_cons (pv 1) pa_nil)) rfl) (pss_cons (ps_fld (pv 0) pe_int rfl) (pss_cons (ps_fld (pv 0) (pe_lst pa_nil) rfl) (pss_cons (ps_fld (pv 0) pe_dnewK rfl) (pss_cons (ps_fld (pv 0) (pe_lst pa_nil) rfl) (pss_cons (ps_fld (pv 0) pe_int rfl) (pss_cons (ps_fld (pv 0) (pe_lst pa_nil) rfl) (pss_one (ps_fld (pv 0) pe_int rfl)))))))))))
theorem l_State_init {K : PySem.W.Frag} : ∀ vs H Q E, sp_State_init K vs H Q E → vs.length = ["self", "image", "numbers"].length := by
  rintro vs H Q E ⟨_, _, _, _, _, _, rfl, _⟩
  rfl
/-- an instance under construction: its fields so far, the new things; the rest of the heap is as it was -/
structure Bl (H0 H : Hp) (p C dx : Addr) (fs : List (Str × V)) (l : List (Addr × HO)) : Prop where
  ob : H p = some (.ins C dx fs)
  kp : KeepL [p] H0 H
  its : ∀ x ∈ l, H x.1 = some x.2
  nop : ∀ x ∈ l, x.1 ≠ p
  old : ∀ x ∈ l, H0 x.1 = none
  nd : (l.map (·.1)).Nodup
section
variable {H0 H : Hp} {p C dx : Addr} {fs : List (Str × V)} {l : List (Addr × HO)}
theorem Bl.start (h : H p = some (.ins C dx fs)) : Bl H H p C dx fs [] := ⟨h, KeepL.refl, (fun x z => nomatch z), (fun x z => nomatch z), (fun x z => nomatch z), List.nodup_nil⟩
theorem Bl.put (h : Bl H0 H p C dx fs l) (fs' : List (Str × V)) : Bl H0 (upd H p (.ins C dx fs')) p C dx fs' l :=
  ⟨upd_same, h.kp.trans (KeepL.upd (by simp)), fun x hx => by rw [upd_ne (h.nop x hx)]; exact h.its x hx, h.nop, h.old, h.nd⟩
theorem Bl.none0 (h : Bl H0 H p C dx fs l) {q : Addr} (hq : H q = none) : H0 q = none := h.kp.none (fun a ha => by
  simp only [List.mem_cons, List.mem_nil_iff, or_false] at ha
  subst ha
  exact ⟨_, h.ob⟩) hq
theorem Bl.same (h : Bl H0 H p C dx fs l) {H' : Hp} (s : Same H H') {q : Addr} {o : HO} (hq : H q = none) (ho : H' q = some o) : Bl H0 H' p C dx fs ((q, o) :: l) := by
  refine ⟨s _ _ h.ob, h.kp.trans (Same.keepL s), fun x hx => ?_, fun x hx => ?_, fun x hx => ?_, ?_⟩
  · rcases List.mem_cons.mp hx with e | hx
    · rw [e]; exact ho
    · exact s _ _ (h.its x hx)
  · rcases List.mem_cons.mp hx with e | hx
    · rw [e]; exact (ne_of_none h.ob hq).symm
    · exact h.nop x hx
  · rcases List.mem_cons.mp hx with e | hx
    · rw [e]; exact h.none0 hq
    · exact h.old x hx
  · rw [List.map_cons, List.nodup_cons]
    refine ⟨fun z => ?_, h.nd⟩
    obtain ⟨y, hy, e⟩ := List.mem_map.mp z
    have := h.its y hy
    rw [e, hq] at this
    cases this
theorem Bl.new (h : Bl H0 H p C dx fs l) {q : Addr} {o : HO} (hq : H q = none) : Bl H0 (upd H q o) p C dx fs ((q, o) :: l) := h.same (Same.new hq) hq upd_same
end
theorem TabAt.keep {H H' : Hp} {tb p C dx : Addr} {fs : List (Str × V)} {img : List Int} {kvs : List (Key × V)} (h : TabAt H tb img kvs) (hp : H p = some (.ins C dx fs)) (k : KeepL [p] H H') : TabAt H' tb img kvs :=
  ⟨k _ _ h.d (by simpa using ne_of h.d hp (by intro z; cases z)), h.no, fun x o a n e => by
    obtain ⟨t, e1, e2⟩ := h.yes x o a n e
    exact ⟨t, e1, k _ _ e2 (by simpa using ne_of e2 hp (by intro z; cases z))⟩⟩
theorem r_State_init {w : World} {K : PySem.W.Frag} {mg : Str → Option Value} (T : Txt w K mg) : ∀ vs H Q E, sp_State_init K vs H Q E → t_State_init K { nx := fun _ H' => Q .non H', rt := Q } (start ["self", "image", "numbers"] vs) H := by
  rintro vs H Q E ⟨p, dx, b, c, img, nums, rfl, h, hb, hc, h4, hl1, hl2, k⟩
  have B0 : Bl H H p (CS K) dx [] [] := Bl.start h
  have npb : b ≠ p := ne_of hb h (by intro z; cases z)
  have npc : c ≠ p := ne_of hc h (by intro z; cases z)
  refine ⟨_, rfl, b, _, rfl, .inl (SqL.of hb), fun im him => ?_⟩
  have B1 := B0.new (o := .lst (img.map V.int)) him
  generalize upd H im (.lst (img.map V.int)) = H1 at B1 ⊢
  refine ⟨_, rfl, p, _, dx, _, rfl, B1.ob, T.c_State, T.n_State_image, by decide, ?_⟩
  have B2 := B1.put (putF "image" (.ref im) [])
  generalize upd H1 p (.ins (CS K) dx (putF "image" (.ref im) [])) = H2 at B2 ⊢
  refine ⟨_, rfl, c, _, rfl, .inl (SqL.of (B2.kp _ _ hc (by simpa using npc))), fun nm hnm => ?_⟩
  have B3 := B2.new (o := .lst (nums.map V.int)) hnm
  generalize upd H2 nm (.lst (nums.map V.int)) = H3 at B3 ⊢
  refine ⟨_, rfl, p, _, dx, _, rfl, B3.ob, T.c_State, T.n_State_numbers, by show 1 < 1000; decide, ?_⟩
  have B4 := B3.put (putF "numbers" (.ref nm) (putF "image" (.ref im) []))
  generalize upd H3 p (.ins (CS K) dx (putF "numbers" (.ref nm) (putF "image" (.ref im) []))) = H4 at B4 ⊢
  refine ⟨_, rfl, b, img, rfl, SqL.of (B4.kp _ _ hb (by simpa using npb)), h4, hl1, fun tb kvt H5 s5 hn5 ht => ?_⟩
  have B5 := B4.same s5 hn5 ht.d
  have C0 : Bl H5 H5 p (CS K) dx (putF "numbers" (.ref nm) (putF "image" (.ref im) [])) [] := Bl.start B5.ob
  refine ⟨_, rfl, p, _, dx, _, rfl, C0.ob, T.c_State, T.n_State_table, by show 2 < 1000; decide, ?_⟩
  have C1 := C0.put (putF "table" (.ref tb) (putF "numbers" (.ref nm) (putF "image" (.ref im) [])))
  refine ⟨_, rfl, p, _, dx, _, rfl, C1.ob, T.c_State, T.n_State_at, by show 3 < 1000; decide, ?_⟩
  have C2 := C1.put (putF "at" (.int 0) (putF "table" (.ref tb) (putF "numbers" (.ref nm) (putF "image" (.ref im) []))))
  generalize upd _ p (.ins (CS K) dx (putF "at" (.int 0) (putF "table" (.ref tb) (putF "numbers" (.ref nm) (putF "image" (.ref im) []))))) = H6 at C2 ⊢
  refine ⟨Nat.zero_le _, fun st hst => ?_⟩
  have C3 := C2.new (o := .lst []) hst
  refine ⟨_, rfl, p, _, dx, _, rfl, C3.ob, T.c_State, T.n_State_stack, by show 4 < 1000; decide, ?_⟩
  have C4 := C3.put (putF "stack" (.ref st) (putF "at" (.int 0) (putF "table" (.ref tb) (putF "numbers" (.ref nm) (putF "image" (.ref im) [])))))
  generalize upd _ p (.ins (CS K) dx (putF "stack" (.ref st) (putF "at" (.int 0) (putF "table" (.ref tb) (putF "numbers" (.ref nm) (putF "image" (.ref im) [])))))) = H7 at C4 ⊢
  intro so hso
  have C5 := C4.new (o := .dK []) hso
  refine ⟨_, rfl, p, _, dx, _, rfl, C5.ob, T.c_State, T.n_State_store, by show 5 < 1000; decide, ?_⟩
  have C6 := C5.put (putF "store" (.ref so) (putF "stack" (.ref st) (putF "at" (.int 0) (putF "table" (.ref tb) (putF "numbers" (.ref nm) (putF "image" (.ref im) []))))))
  generalize upd _ p (.ins (CS K) dx (putF "store" (.ref so) (putF "stack" (.ref st) (putF "at" (.int 0) (putF "table" (.ref tb) (putF "numbers" (.ref nm) (putF "image" (.ref im) []))))))) = H8 at C6 ⊢
  refine ⟨Nat.zero_le _, fun bk hbk => ?_⟩
  have C7 := C6.new (o := .lst []) hbk
  refine ⟨_, rfl, p, _, dx, _, rfl, C7.ob, T.c_State, T.n_State_back, by show 6 < 1000; decide, ?_⟩
  have C8' := C7.put (putF "back" (.ref bk) (putF "store" (.ref so) (putF "stack" (.ref st) (putF "at" (.int 0) (putF "table" (.ref tb) (putF "numbers" (.ref nm) (putF "image" (.ref im) [])))))))
  refine ⟨_, rfl, p, _, dx, _, rfl, C8'.ob, T.c_State, T.n_State_place, by show 7 < 1000; decide, ?_⟩
  have C9 := C8'.put (putF "place" (.int 0) (putF "back" (.ref bk) (putF "store" (.ref so) (putF "stack" (.ref st) (putF "at" (.int 0) (putF "table" (.ref tb) (putF "numbers" (.ref nm) (putF "image" (.ref im) []))))))))
  generalize upd _ p (.ins (CS K) dx (putF "place" (.int 0) (putF "back" (.ref bk) (putF "store" (.ref so) (putF "stack" (.ref st) (putF "at" (.int 0) (putF "table" (.ref tb) (putF "numbers" (.ref nm) (putF "image" (.ref im) []))))))))) = H9 at C9 ⊢
  refine ⟨Nat.zero_le _, fun ou hou => ?_⟩
  have C10 := C9.new (o := .lst []) hou
  refine ⟨_, rfl, p, _, dx, _, rfl, C10.ob, T.c_State, T.n_State_output, by show 8 < 1000; decide, ?_⟩
  have C11 := C10.put (putF "output" (.ref ou) (putF "place" (.int 0) (putF "back" (.ref bk) (putF "store" (.ref so) (putF "stack" (.ref st) (putF "at" (.int 0) (putF "table" (.ref tb) (putF "numbers" (.ref nm) (putF "image" (.ref im) [])))))))))
  refine ⟨_, rfl, p, _, dx, _, rfl, C11.ob, T.c_State, T.n_State_steps, by show 9 < 1000; decide, ?_⟩
  have C12 := C11.put (putF "steps" (.int 0) (putF "output" (.ref ou) (putF "place" (.int 0) (putF "back" (.ref bk) (putF "store" (.ref so) (putF "stack" (.ref st) (putF "at" (.int 0) (putF "table" (.ref tb) (putF "numbers" (.ref nm) (putF "image" (.ref im) []))))))))))
  generalize upd _ p (.ins (CS K) dx (putF "steps" (.int 0) (putF "output" (.ref ou) (putF "place" (.int 0) (putF "back" (.ref bk) (putF "store" (.ref so) (putF "stack" (.ref st) (putF "at" (.int 0) (putF "table" (.ref tb) (putF "numbers" (.ref nm) (putF "image" (.ref im) []))))))))))) = HE at C12 ⊢
  have i1 := C12.its
  have n1 := C12.nop
  have o1 := C12.old
  have d1 := C12.nd
  have i2 := B5.its
  have n2 := B5.nop
  have d2 := B5.nd
  simp only [List.forall_mem_cons, List.map_cons, List.map_nil] at i1 n1 o1 d1 i2 n2 d2
  obtain ⟨i11, i12, i13, i14, _⟩ := i1
  obtain ⟨o11, o12, o13, o14, _⟩ := o1
  obtain ⟨i21, i22, i23, _⟩ := i2
  obtain ⟨n21, n22, n23, _⟩ := n2
  have e22 := C12.kp _ _ i22 (by simpa using n22)
  have e23 := C12.kp _ _ i23 (by simpa using n23)
  refine k ⟨p, dx, im, nm, tb, st, so, bk, ou⟩ kvt HE rfl ?_ ⟨?_, e23, e22, ht.keep B5.ob C12.kp, i14, i13, fun x => rfl, i12, i11, ⟨rfl, Nat.zero_le _⟩, ⟨Nat.le_refl _, Nat.le_refl _, Nat.le_refl _, Nat.le_refl _⟩, ?_, ?_⟩ (B5.kp.trans C12.kp)
  · intro x hx
    simp only [List.mem_cons, List.mem_nil_iff, or_false] at hx
    rcases hx with rfl | rfl | rfl | rfl
    · exact B5.none0 o14
    · exact B5.none0 o13
    · exact B5.none0 o12
    · exact B5.none0 o11
  · rw [C12.ob]
    exact congrArg (fun z => some (HO.ins (CS K) dx z)) (by kernel_rfl)
  · have ne : ∀ {x y : Addr} {o : HO}, H5 x = some o → H5 y = none → x ≠ y := fun h1 h2 => ne_of_none h1 h2
    simp only [List.nodup_cons, List.mem_cons, List.mem_nil_iff, or_false, not_or, List.nodup_nil, and_true, not_false_eq_true] at d1 d2 ⊢
    exact ⟨⟨Ne.symm d2.2, ne i23 o14, ne i23 o12, ne i23 o11⟩, ⟨ne i22 o14, ne i22 o12, ne i22 o11⟩, ⟨Ne.symm d1.2.1.2, Ne.symm d1.1.2.2⟩, Ne.symm d1.1.1⟩
  · exact (ne_of_none i21 o13).symm
theorem mk_State {P : Program} {w : World} {K : PySem.W.Frag} {mg : Str → Option Value} {base : Heap} (T : Txt w K mg) : C8.Mak P w K mg base 3 "State" (He.ga K "State") (sp_State_init K) [] := T.mak 40 rfl T.g_State T.k_State sc_State_init (fun _ _ _ _ _ _ us hl => match us, hl with | [_, _, _], _ => rfl) l_State_init (d_State_init T) (r_State_init T)
/-! ### run -/
def gv_State_advance_fuel (vs zs : List V) : List V := vs ++ zs
theorem FunD.kbindsN {K : PySem.W.Frag} {x qual : Str} {params : Arguments} {body : List Stmt} {scope : Scope} {kws : List (Str × V)} {f : Addr} {fd : FuncData} {ps : List Str} (F : FunD K x qual params body scope [] kws f fd) (n : Nat) (ks : List Str)
    (h : ∀ (kV doc pm : Value) (an : Option Addr) (cdv ct : Value) (us ws : List Value), us.length = n → ws.length = ks.length → bindArgs (PySem.W.fnOf x qual params body scope .none kV doc pm an cdv ct) ⟨us, ks.zip ws⟩ = pure (ps.zip (us ++ ws))) : KBn K fd ps n ks (fun us ws => us ++ ws) (fun vs zs => vs ++ zs) := by
  obtain ⟨oc, od, dV, kV, doc, pm, an, cdv, ct, osl, rfl, lk, hcd, hD, hK⟩ := F.ex
  rcases hD with ⟨_, rfl⟩ | ⟨e, _⟩
  · exact ⟨fun s us ws X l1 l2 => BindsTo.of_eq (h kV doc pm an cdv ct us ws l1 l2), fun r q => r.append q⟩
  · exact absurd rfl e
theorem mn_State_advance_fuel {P : Program} {w : World} {K : PySem.W.Frag} {mg : Str → Option Value} {base : Heap} (T : Txt w K mg) : MetN P w K mg base 4 (He.ga K "State") "advance" (sp_State_advance K) 0 ["fuel"] gv_State_advance_fuel := by
  obtain ⟨fd, F⟩ := T.st.d.def_ 44 (d := D_State_advance) rfl
  exact ⟨_, fd, _, _, T.c_State, T.m_State_advance, fok F sc_State_advance l_State_advance (d_State_advance T) (r_State_advance T), FunD.kbindsN (ps := ["self", "fuel"]) F 1 ["fuel"] (fun kV doc pm an cdv ct us ws h1 h2 => match us, ws, h1, h2 with | [_], [_], _, _ => rfl)⟩
def sp_run (K : PySem.W.Frag) : Sp := fun vs H Q _ => ∃ b c img nums, ∃ F : Nat, vs = [.ref b, .ref c, .int (F : Int)] ∧ H b = some (.lst (img.map V.int)) ∧ H c = some (.lst (nums.map V.int)) ∧ img.length % 4 = 0 ∧ img.length ≤ 1000000 ∧ nums.length ≤ 1000000 ∧ F ≤ 500000 ∧
  ∀ t o H', Same H H' → H t = none → H o = none → H' t = some (.tup [.bl (!(look img (goM (look img) (lowOf (look img)) img nums F (m0 nums)).2.at_).isSome), .ref o, .int ((goM (look img) (lowOf (look img)) img nums F (m0 nums)).1 : Nat)]) → H' o = some (.lst ((goM (look img) (lowOf (look img)) img nums F (m0 nums)).2.out.reverse.map V.int)) → Q (.ref t) H'
theorem sc_run : FnScope ["image", "numbers", "fuel", "state", "steps"] ["image", "numbers", "fuel"] (defScope s_run) := C8.fnScope_by (by decide +kernel)
def t_run (K : PySem.W.Frag) : TS := (tSeq (tAsg (tMake (He.ga K "State") (sp_State_init K) [] C8.E0 (tCons (tVar 0) (tCons (tVar 1) tNil))) (gName 3)) (tSeq (tAsg (tMethN (He.ga K "State") "advance" 0 1 (sp_State_advance K) gv_State_advance_fuel C8.E0 (tVar 3) tNil (tCons (tVar 2) tNil)) (gName 4)) (tRet (tTup (tCons (tMeth (He.ga K "State") "has_ended" (sp_State_has_ended K) [] C8.E0 (tVar 3) tNil) (tCons (tFld K (tVar 3) "output") (tCons (tVar 4) tNil)))))))
theorem d_run {P : Program} {w : World} {K : PySem.W.Frag} {mg : Str → Option Value} {base : Heap} (T : Txt w K mg) (f : Addr) (cdv : Value) (A : Around) (outer : List Env) (s : Shared) (H : Hp) (E : XK) (hr : Room 4 (A.deeper (envOfC "run" (defScope s_run) s.heap.objs.size f cdv))) :
    PSs (Bx P w K mg base ["image", "numbers", "fuel", "state", "steps"] "run" s_run f cdv A outer s H E) (defBody s_run) (t_run K) :=
  (pss_cons (ps_set (i := 3) sc_run.nd rfl (by first | exact Or.inl rfl | exact Or.inr rfl) (C8.pe_mk (mk_State T) hr (by decide) (by rfl) (pa_cons (pv 0) (pa_cons (pv 1) pa_nil)))) (pss_cons (ps_set (i := 4) sc_run.nd rfl (by first | exact Or.inl rfl | exact Or.inr rfl) (pe_mtN0 (mn_State_advance_fuel T) hr (by decide) (pv 3) (pk_cons (pv 2) pk_nil))) (pss_one (ps_ret (pe_tup (pa_cons (C8.pe_mt0 (m_State_has_ended T) hr (by decide) (pv 3)) (pa_cons (pe_fld (pv 3) rfl) (pa_cons (pv 4) pa_nil))))))))
theorem l_run {K : PySem.W.Frag} : ∀ vs H Q E, sp_run K vs H Q E → vs.length = ["image", "numbers", "fuel"].length := by
  rintro vs H Q E ⟨_, _, _, _, _, rfl, _⟩
  rfl
theorem r_run {w : World} {K : PySem.W.Frag} {mg : Str → Option Value} (T : Txt w K mg) : ∀ vs H Q E, sp_run K vs H Q E → t_run K { nx := fun _ H' => Q .non H', rt := Q } (start ["image", "numbers", "fuel", "state", "steps"] vs) H := by
  rintro vs H Q E ⟨b, c, img, nums, F, rfl, hb, hc, h4, hl1, hl2, hF, k⟩
  refine ⟨_, rfl, _, rfl, fun p dx np nd ne => ?_⟩
  have s0 : Same H (upd (upd H dx (.own p)) p (.ins (CS K) dx [])) := (Same.new nd).trans (Same.new (by rw [upd_ne ne.symm]; exact np))
  refine ⟨p, dx, b, c, img, nums, rfl, upd_same, s0 _ _ hb, s0 _ _ hc, h4, hl1, hl2, fun a kvt H1 ea ho h1 k1 => ⟨rfl, ?_⟩⟩
  subst ea
  have s1 : Same H H1 := k1.same s0 (by simpa using np)
  have hof : ∀ x ∈ [a.st, a.so, a.bk, a.ou], H x = none := fun x hx => none_of_same s0 (ho x hx)
  refine ⟨_, rfl, a.p, a.dx, _, rfl, h1.ob, stF_advance, _, rfl, rfl, rfl, a, img, nums, _, _, 0, 0, [], kvt, F, rfl, h1, by omega, fun H2 n' pl' kvs' h2 k2 => ?_⟩
  have hm : ∀ x ∈ a.mut, H x = none := by
    simp only [SA.mut, List.forall_mem_cons] at hof ⊢
    exact ⟨np, hof.1, hof.2.1, hof.2.2.1, hof.2.2.2⟩
  have s2 : Same H H2 := k2.same s1 hm
  refine ⟨_, rfl, a.p, a.dx, _, rfl, h2.ob, stF_has_ended, a, img, nums, _, _, _, _, _, _, rfl, h2, _, rfl, a.p, _, a.dx, _, _, rfl, h2.ob, T.c_State, T.n_State_output, stF_output, _, rfl, by show 3 ≤ sizeLine; decide, fun t ht => ?_⟩
  exact k t a.ou _ (s2.trans (Same.new ht)) (none_of_same s2 ht) (hof _ (by simp)) upd_same (by rw [upd_ne (ne_of_none h2.hou ht)]; exact h2.hou)
def gv_run_fuel (vs zs : List V) : List V := vs ++ zs
theorem cn_run_fuel {P : Program} {w : World} {K : PySem.W.Frag} {mg : Str → Option Value} {base : Heap} (T : Txt w K mg) : CalN P w K mg base 5 "run" (sp_run K) 2 ["fuel"] gv_run_fuel := by
  obtain ⟨fd, F⟩ := T.st.d.def_ 45 (d := D_run) rfl
  exact ⟨_, fd, _, _, fok F sc_run l_run (d_run T) (r_run T), T.g_run, F.kp, FunD.kbindsN (ps := ["image", "numbers", "fuel"]) F 2 ["fuel"] (fun kV doc pm an cdv ct us ws h1 h2 => match us, ws, h1, h2 with | [_, _], [_], _, _ => rfl)⟩
end Pl

set_option Elab.async false
set_option linter.all false
set_option maxRecDepth 100000
set_option maxHeartbeats 4000000
namespace Pl
open PySem PySem.Spec PyProof.Rows L2
/-! ### a Shelf -/
abbrev CH (K : PySem.W.Frag) : Addr := He.ga K "Shelf"
abbrev CE (K : PySem.W.Frag) : Addr := He.ga K "Entry"
structure En where
  nm : Str
  kind : Str
  text : Str
  bin : List Int
  e : Addr
  dx : Addr
  b : Addr
def enF (x : En) : List (Str × V) := [("kind", .str x.kind), ("text", .str x.text), ("binary", .ref x.b)]
def kvE (es : List En) : List (Key × V) := es.map fun x => ((Sum.inr x.nm : Key), V.ref x.e)
theorem enF_kind {x : En} : (enF x).lookup ("kind" : Str) = some (.str x.kind) := by kernel_rfl
theorem enF_text {x : En} : (enF x).lookup ("text" : Str) = some (.str x.text) := by kernel_rfl
theorem enF_binary {x : En} : (enF x).lookup ("binary" : Str) = some (.ref x.b) := by kernel_rfl
theorem enP_binary {x : En} {b : Addr} {bin : List Int} : putF "binary" (.ref b) (enF x) = enF { x with b := b, bin := bin } := by kernel_rfl
theorem enF_small {x : En} : (enF x).length < 1000 := by show 3 < 1000; decide
/-- the shelf at s: its dict, its entries in order -/
structure ShW (K : PySem.W.Frag) (H : Hp) (s dxs d : Addr) (es : List En) : Prop where
  ob : H s = some (.ins (CH K) dxs [("entries", .ref d)])
  hd : H d = some (.dK (kvE es))
  en : ∀ x ∈ es, H x.e = some (.ins (CE K) x.dx (enF x)) ∧ H x.b = some (.lst (x.bin.map V.int))
  pw : es.Pairwise fun x y => x.nm ≠ y.nm ∧ x.e ≠ y.e
structure ShAt (K : PySem.W.Frag) (H : Hp) (s dxs d : Addr) (es : List En) : Prop extends ShW K H s dxs d es where
  nb : es.Pairwise fun x y => x.b ≠ y.b
theorem pw_eq {R : En → En → Prop} {x y : En} : ∀ {es : List En}, es.Pairwise R → x ∈ es → y ∈ es → (∀ a b, R a b → ¬ (a = x ∧ b = y) ∧ ¬ (a = y ∧ b = x)) → x = y
  | a :: r, h, hx, hy, k => by
    rw [List.pairwise_cons] at h
    rcases List.mem_cons.mp hx with ex | hx'
    · rcases List.mem_cons.mp hy with ey | hy'
      · rw [ex, ey]
      · exact absurd ⟨ex.symm, rfl⟩ (k a y (h.1 y hy')).1
    · rcases List.mem_cons.mp hy with ey | hy'
      · exact absurd ⟨ey.symm, rfl⟩ (k a x (h.1 x hx')).2
      · exact pw_eq h.2 hx' hy' k
section
variable {K : PySem.W.Frag} {H : Hp} {s dxs d : Addr} {es : List En} {x y : En}
theorem ShW.byN (h : ShW K H s dxs d es) (hx : x ∈ es) (hy : y ∈ es) (e : x.nm = y.nm) : x = y := pw_eq h.pw hx hy fun a b r => ⟨fun z => r.1 (by rw [z.1, z.2, e]), fun z => r.1 (by rw [z.1, z.2, e])⟩
theorem ShW.byE (h : ShW K H s dxs d es) (hx : x ∈ es) (hy : y ∈ es) (e : x.e = y.e) : x = y := pw_eq h.pw hx hy fun a b r => ⟨fun z => r.2 (by rw [z.1, z.2, e]), fun z => r.2 (by rw [z.1, z.2, e])⟩
theorem ShAt.byB (h : ShAt K H s dxs d es) (hx : x ∈ es) (hy : y ∈ es) (e : x.b = y.b) : x = y := pw_eq h.nb hx hy fun a b r => ⟨fun z => r (by rw [z.1, z.2, e]), fun z => r (by rw [z.1, z.2, e])⟩
theorem val_kvE : ∀ {es : List En}, (es.Pairwise fun x y => x.nm ≠ y.nm ∧ x.e ≠ y.e) → x ∈ es → valV (kvE es) (Sum.inr x.nm : Key) = some (.ref x.e)
  | a :: r, h, hx => by
    rw [List.pairwise_cons] at h
    unfold valV kvE
    rw [List.map_cons, List.find?_cons]
    rcases List.mem_cons.mp hx with ex | hx'
    · rw [decide_eq_true (show ((Sum.inr a.nm : Key) = Sum.inr x.nm) by rw [ex])]
      rw [ex]
      rfl
    · rw [decide_eq_false (show ¬ ((Sum.inr a.nm : Key) = Sum.inr x.nm) from fun z => (h.1 x hx').1 (Sum.inr.inj z))]
      exact val_kvE h.2 hx'
theorem ShW.get (h : ShW K H s dxs d es) (hx : x ∈ es) : DGet H d (.str x.nm) (some (.ref x.e)) := by
  rw [← val_kvE h.pw hx]
  exact DGet.k (k := Sum.inr x.nm) h.hd
/-- what is at s, at d, an entry, a binary: apart -/
theorem ShW.keep (h : ShW K H s dxs d es) {H' : Hp} {l : List Addr} (k : KeepL l H H') (h1 : s ∉ l) (h2 : d ∉ l) (h3 : ∀ x ∈ es, x.e ∉ l ∧ x.b ∉ l) : ShW K H' s dxs d es :=
  ⟨k _ _ h.ob h1, k _ _ h.hd h2, fun x hx => ⟨k _ _ (h.en x hx).1 (h3 x hx).1, k _ _ (h.en x hx).2 (h3 x hx).2⟩, h.pw⟩
theorem ShAt.keep (h : ShAt K H s dxs d es) {H' : Hp} {l : List Addr} (k : KeepL l H H') (h1 : s ∉ l) (h2 : d ∉ l) (h3 : ∀ x ∈ es, x.e ∉ l ∧ x.b ∉ l) : ShAt K H' s dxs d es := ⟨h.toShW.keep k h1 h2 h3, h.nb⟩
theorem ShW.same (h : ShW K H s dxs d es) {H' : Hp} (k : Same H H') : ShW K H' s dxs d es := h.keep (l := []) (fun b o e _ => k b o e) (by simp) (by simp) (fun x _ => ⟨by simp, by simp⟩)
theorem ShAt.same (h : ShAt K H s dxs d es) {H' : Hp} (k : Same H H') : ShAt K H' s dxs d es := ⟨h.toShW.same k, h.nb⟩
end
/-- an entry's binary, anew -/
def setBin (es : List En) (nm : Str) (b : Addr) (bin : List Int) : List En := es.map fun z => if z.nm = nm then { z with b := b, bin := bin } else z
theorem setBin_mem {es : List En} {nm : Str} {b : Addr} {bin : List Int} {z : En} (h : z ∈ setBin es nm b bin) : ∃ y ∈ es, z = if y.nm = nm then { y with b := b, bin := bin } else y := by
  obtain ⟨y, hy, e⟩ := List.mem_map.mp h
  exact ⟨y, hy, e.symm⟩
theorem setBin_nm (nm : Str) (b : Addr) (bin : List Int) (y : En) : (if y.nm = nm then { y with b := b, bin := bin } else y : En).nm = y.nm := by split <;> rfl
theorem setBin_e (nm : Str) (b : Addr) (bin : List Int) (y : En) : (if y.nm = nm then { y with b := b, bin := bin } else y : En).e = y.e := by split <;> rfl
theorem kvE_setBin (es : List En) (nm : Str) (b : Addr) (bin : List Int) : kvE (setBin es nm b bin) = kvE es := by
  unfold kvE setBin
  rw [List.map_map]
  refine List.map_congr_left fun y _ => ?_
  show ((Sum.inr (if y.nm = nm then { y with b := b, bin := bin } else y : En).nm : Key), V.ref (if y.nm = nm then { y with b := b, bin := bin } else y : En).e) = _
  rw [setBin_nm, setBin_e]
section
variable {K : PySem.W.Frag} {H : Hp} {s dxs d : Addr} {es : List En} {x y : En}
theorem pw_setBin (h : es.Pairwise fun x y => x.nm ≠ y.nm ∧ x.e ≠ y.e) (nm : Str) (b : Addr) (bin : List Int) : (setBin es nm b bin).Pairwise fun x y => x.nm ≠ y.nm ∧ x.e ≠ y.e := by
  unfold setBin
  rw [List.pairwise_map]
  refine h.imp fun {p q} r => ?_
  rw [setBin_nm, setBin_nm, setBin_e, setBin_e]
  exact r
theorem ShW.ne_de (h : ShW K H s dxs d es) (hx : x ∈ es) : d ≠ x.e := ne_of h.hd (h.en x hx).1 (by intro z; cases z)
/-- an entry's field is set -/
theorem ShW.setB (h : ShW K H s dxs d es) (hx : x ∈ es) {b : Addr} {bin : List Int} (hb : H b = some (.lst (bin.map V.int))) : ShW K (upd H x.e (.ins (CE K) x.dx (putF "binary" (.ref b) (enF x)))) s dxs d (setBin es x.nm b bin) := by
  have ex := (h.en x hx).1
  have nl : ∀ {q : Addr} {xs : List V}, H q = some (.lst xs) → q ≠ x.e := fun hq => ne_of hq ex (by intro z; cases z)
  refine ⟨?_, ?_, fun z hz => ?_, pw_setBin h.pw ..⟩
  · rw [upd_ne (ne_of h.ob ex (by intro z; injection z with _ _ z3; exact absurd (congrArg List.length z3) (by show ¬ (1 = 3); decide)))]
    exact h.ob
  · rw [upd_ne (h.ne_de hx), kvE_setBin]
    exact h.hd
  · obtain ⟨y, hy, rfl⟩ := setBin_mem hz
    by_cases e : y.nm = x.nm
    · obtain rfl := h.byN hy hx e
      rw [if_pos rfl]
      refine ⟨?_, ?_⟩
      · rw [upd_same, enP_binary (bin := bin)]
      · rw [upd_ne (nl hb)]
        exact hb
    · rw [if_neg e]
      refine ⟨?_, ?_⟩
      · rw [upd_ne (fun z => e (by rw [h.byE hy hx z]))]
        exact (h.en y hy).1
      · rw [upd_ne (nl (h.en y hy).2)]
        exact (h.en y hy).2
theorem ShAt.setB (h : ShAt K H s dxs d es) (hx : x ∈ es) {b : Addr} {bin : List Int} (hb : H b = some (.lst (bin.map V.int))) (hn : ∀ y ∈ es, y.b ≠ b) : ShAt K (upd H x.e (.ins (CE K) x.dx (putF "binary" (.ref b) (enF x)))) s dxs d (setBin es x.nm b bin) := by
  refine ⟨h.toShW.setB hx hb, ?_⟩
  unfold setBin
  rw [List.pairwise_map]
  refine (h.nb.and h.pw).imp_of_mem fun {p q} hp hq r => ?_
  by_cases e1 : p.nm = x.nm
  · rw [if_pos e1, if_neg (fun z => r.2.1 (e1.trans z.symm))]
    exact (hn q hq).symm
  · rw [if_neg e1]
    by_cases e2 : q.nm = x.nm
    · rw [if_pos e2]
      exact hn p hp
    · rw [if_neg e2]
      exact r.1
end
/-- an entry is put -/
def putE (es : List En) (x : En) : List En := if (es.any fun y => decide (y.nm = x.nm)) = true then es.map (fun y => if y.nm = x.nm then x else y) else es ++ [x]
theorem kvE_putE (es : List En) (x : En) : kvE (putE es x) = putK (kvE es) (Sum.inr x.nm : Key) (.ref x.e) := by
  unfold kvE putE putK
  have e : ((es.map fun x => ((Sum.inr x.nm : Key), V.ref x.e)).any fun kv => decide (kv.1 = (Sum.inr x.nm : Key))) = es.any fun y => decide (y.nm = x.nm) := by
    rw [List.any_map]
    congr 1
    funext y
    show decide ((Sum.inr y.nm : Key) = Sum.inr x.nm) = _
    by_cases h : y.nm = x.nm
    · rw [decide_eq_true h, decide_eq_true (by rw [h])]
    · rw [decide_eq_false h, decide_eq_false (fun z => h (Sum.inr.inj z))]
  rw [e]
  split
  · rw [List.map_map, List.map_map]
    refine List.map_congr_left fun y _ => ?_
    show ((Sum.inr (if y.nm = x.nm then x else y : En).nm : Key), V.ref (if y.nm = x.nm then x else y : En).e) = if (Sum.inr y.nm : Key) = Sum.inr x.nm then ((Sum.inr y.nm : Key), V.ref x.e) else _
    by_cases h : y.nm = x.nm
    · rw [if_pos h, if_pos (by rw [h]), h]
    · rw [if_neg h, if_neg (fun z => h (Sum.inr.inj z))]
  · rw [List.map_append]
    rfl
theorem putE_mem {es : List En} {x z : En} (h : z ∈ putE es x) : z = x ∨ (z ∈ es ∧ z.nm ≠ x.nm) := by
  unfold putE at h
  split at h
  · obtain ⟨y, hy, e⟩ := List.mem_map.mp h
    by_cases hn : y.nm = x.nm
    · rw [if_pos hn] at e; exact .inl e.symm
    · rw [if_neg hn] at e; subst e; exact .inr ⟨hy, hn⟩
  · rename_i ha
    rcases List.mem_append.mp h with h | h
    · refine .inr ⟨h, fun e => ha ?_⟩
      exact List.any_eq_true.mpr ⟨z, h, decide_eq_true e⟩
    · exact .inl (List.mem_singleton.mp h)
theorem pw_putE {es : List En} {x : En} {R : En → En → Prop} (hn : es.Pairwise fun x y => x.nm ≠ y.nm ∧ x.e ≠ y.e) (h : es.Pairwise R) (h1 : ∀ y ∈ es, y.nm ≠ x.nm → R y x) (h2 : ∀ y ∈ es, y.nm ≠ x.nm → R x y) : (putE es x).Pairwise R := by
  unfold putE
  split
  · rw [List.pairwise_map]
    refine (h.and hn).imp_of_mem fun {p q} hp hq r => ?_
    by_cases e1 : p.nm = x.nm
    · have e2 : q.nm ≠ x.nm := fun z => r.2.1 (e1.trans z.symm)
      rw [if_pos e1, if_neg e2]
      exact h2 q hq e2
    · rw [if_neg e1]
      by_cases e2 : q.nm = x.nm
      · rw [if_pos e2]
        exact h1 p hp e1
      · rw [if_neg e2]
        exact r.1
  · rename_i ha
    refine List.pairwise_append.mpr ⟨h, List.pairwise_singleton .., fun y hy z hz => ?_⟩
    rw [List.mem_singleton.mp hz]
    exact h1 y hy fun e => ha (List.any_eq_true.mpr ⟨y, hy, decide_eq_true e⟩)
section
variable {K : PySem.W.Frag} {H H1 : Hp} {s dxs d : Addr} {es : List En} {x y : En}
theorem ShAt.put (h : ShAt K H s dxs d es) (k : Same H H1) (ne : H x.e = none) (nb : H x.b = none) (e1 : H1 x.e = some (.ins (CE K) x.dx (enF x))) (e2 : H1 x.b = some (.lst (x.bin.map V.int))) : ShAt K (upd H1 d (.dK (putK (kvE es) (Sum.inr x.nm : Key) (.ref x.e)))) s dxs d (putE es x) := by
  have h1 := h.same k
  have old : ∀ y ∈ es, y.e ≠ x.e ∧ y.b ≠ x.b := fun y hy => ⟨ne_of_none (h.en y hy).1 ne, ne_of_none (h.en y hy).2 nb⟩
  have nl : ∀ {q : Addr} {xs : List V}, H1 q = some (.lst xs) → q ≠ d := fun hq => ne_of hq h1.hd (by intro z; cases z)
  have ni : ∀ {q C dx : Addr} {fs : List (Str × V)}, H1 q = some (.ins C dx fs) → q ≠ d := fun hq => ne_of hq h1.hd (by intro z; cases z)
  refine ⟨⟨?_, ?_, fun z hz => ?_, ?_⟩, ?_⟩
  · rw [upd_ne (ni h1.ob)]
    exact h1.ob
  · rw [upd_same, kvE_putE]
  · rcases putE_mem hz with rfl | ⟨hz, _⟩
    · exact ⟨by rw [upd_ne (ni e1)]; exact e1, by rw [upd_ne (nl e2)]; exact e2⟩
    · exact ⟨by rw [upd_ne (ni (h1.en z hz).1)]; exact (h1.en z hz).1, by rw [upd_ne (nl (h1.en z hz).2)]; exact (h1.en z hz).2⟩
  · exact pw_putE h.pw h.pw (fun y hy n => ⟨n, (old y hy).1⟩) (fun y hy n => ⟨n.symm, (old y hy).1.symm⟩)
  · exact pw_putE h.pw h.nb (fun y hy n => (old y hy).2) (fun y hy n => (old y hy).2.symm)
end
end Pl

set_option Elab.async false
set_option linter.all false
set_option maxRecDepth 100000
set_option maxHeartbeats 4000000
namespace Pl
open PySem PySem.Spec PyProof.Rows L2
/-! ### Entry.__init__ -/
def sp_Entry_init (K : PySem.W.Frag) : Sp := fun vs H Q _ => ∃ p dx k t b bin, vs = [.ref p, .str k, .str t, .ref b] ∧ H p = some (.ins (CE K) dx []) ∧ H b = some (.lst (iL bin)) ∧
  ∀ q H', KeepL [p] H H' → H q = none → H' p = some (.ins (CE K) dx (enF ⟨"", k, t, bin, p, dx, q⟩)) → H' q = some (.lst (iL bin)) → Q .non H'
theorem sc_Entry_init : FnScope ["self", "kind", "text", "binary"] ["self", "kind", "text", "binary"] (defScope s_Entry_init) := C8.fnScope_by (by decide +kernel)
def t_Entry_init (K : PySem.W.Frag) : TS := (tSeq (sFld K (tVar 0) (tVar 1) "kind") (tSeq (sFld K (tVar 0) (tVar 2) "text") (sFld K (tVar 0) (tCB (rListOf K) (tCons (tVar 3) tNil)) "binary")))
theorem d_Entry_init {P : Program} {w : World} {K : PySem.W.Frag} {mg : Str → Option Value} {base : Heap} (T : Txt w K mg) (f : Addr) (cdv : Value) (A : Around) (outer : List Env) (s : Shared) (H : Hp) (E : XK) (hr : Room 0 (A.deeper (envOfC "Entry.__init__" (defScope s_Entry_init) s.heap.objs.size f cdv))) :
    PSs (Bx P w K mg base ["self", "kind", "text", "binary"] "Entry.__init__" s_Entry_init f cdv A outer s H E) (defBody s_Entry_init) (t_Entry_init K) :=
  (pss_cons (ps_fld (pv 0) (pv 1) rfl) (pss_cons (ps_fld (pv 0) (pv 2) rfl) (pss_one (ps_fld (pv 0) (pe_callTy call_list_of (by rfl) T.f_list boot_list (pa_cons (pv 3) pa_nil)) rfl))))
theorem l_Entry_init {K : PySem.W.Frag} : ∀ vs H Q E, sp_Entry_init K vs H Q E → vs.length = ["self", "kind", "text", "binary"].length := by
  rintro vs H Q E ⟨_, _, _, _, _, _, rfl, _⟩
  rfl
theorem r_Entry_init {w : World} {K : PySem.W.Frag} {mg : Str → Option Value} (T : Txt w K mg) : ∀ vs H Q E, sp_Entry_init K vs H Q E → t_Entry_init K { nx := fun _ H' => Q .non H', rt := Q } (start ["self", "kind", "text", "binary"] vs) H := by
  rintro vs H Q E ⟨p, dx, kk, t, b, bin, rfl, h, hb, k⟩
  have B0 : Bl H H p (CE K) dx [] [] := Bl.start h
  have npb : b ≠ p := ne_of hb h (by intro z; cases z)
  refine ⟨_, rfl, _, rfl, p, _, dx, _, rfl, B0.ob, T.c_Entry, T.n_Entry_kind, by decide, ?_⟩
  have B1 := B0.put (putF "kind" (.str kk) [])
  refine ⟨_, rfl, _, rfl, p, _, dx, _, rfl, B1.ob, T.c_Entry, T.n_Entry_text, by show 1 < 1000; decide, ?_⟩
  have B2 := B1.put (putF "text" (.str t) (putF "kind" (.str kk) []))
  generalize upd _ p (.ins (CE K) dx (putF "text" (.str t) (putF "kind" (.str kk) []))) = H2 at B2 ⊢
  refine ⟨_, rfl, b, _, rfl, .inl (SqL.of (B2.kp _ _ hb (by simpa using npb))), fun q hq => ?_⟩
  have B3 := B2.new (o := .lst (iL bin)) hq
  refine ⟨_, rfl, p, _, dx, _, rfl, B3.ob, T.c_Entry, T.n_Entry_binary, by show 2 < 1000; decide, ?_⟩
  have B4 := B3.put (putF "binary" (.ref q) (putF "text" (.str t) (putF "kind" (.str kk) [])))
  refine k q _ B4.kp (B2.none0 hq) ?_ (B4.its (q, _) (by simp))
  rw [B4.ob]
  exact congrArg (fun z => some (HO.ins (CE K) dx z)) (by kernel_rfl)
theorem mk_Entry {P : Program} {w : World} {K : PySem.W.Frag} {mg : Str → Option Value} {base : Heap} (T : Txt w K mg) : C8.Mak P w K mg base 1 "Entry" (He.ga K "Entry") (sp_Entry_init K) [] := T.mak 54 rfl T.g_Entry T.k_Entry sc_Entry_init (fun _ _ _ _ _ _ us hl => match us, hl with | [_, _, _, _], _ => rfl) l_Entry_init (d_Entry_init T) (r_Entry_init T)
/-! ### check_new -/
def goodN (x : Str) : Bool := decide (1 ≤ x.length) && decide (x.length ≤ 12) && x.cps.toList.all fun c => decide (97 ≤ c) && decide (c ≤ 122)
def kindB (x : Str) : Bool := decide (x = "plain") || decide (x = "turned")
theorem kindB_in {K : PySem.W.Frag} {x : Str} (h : kindB x = true) : inV (.str x) (kindsL.map (He.Dv.v K)) = true := by
  unfold kindB at h
  rcases Bool.or_eq_true_iff.mp h with h | h
  · rw [of_decide_eq_true h]; kernel_rfl
  · rw [of_decide_eq_true h]; kernel_rfl
def sp_check_new (_ : PySem.W.Frag) : Sp := fun vs H Q _ => ∃ nm k t, vs = [.str nm, .str k, .str t] ∧ goodN nm = true ∧ kindB k = true ∧ goodS t = true ∧ t.cps.toList.length ≤ 5000 ∧ ∀ H', Same H H' → Q .non H'
theorem sc_check_new : FnScope ["name", "kind", "text", "character"] ["name", "kind", "text"] (defScope s_check_new) := C8.fnScope_by (by decide +kernel)
def t_check_new (K : PySem.W.Frag) : TS := (tSeq (tIfS (tNot (tTest (tChain rLeI rLeI (tC (.int 1)) (tCB rLenStr (tCons (tVar 0) tNil)) (tC (.int 12))))) tNever tNext) (tSeq (tFor (iStr (tVar 0)) (gName 3) (tIfS (tNot (tTest (tChain rLeI rLeI (tC (.int 97)) (tCB rOrd (tCons (tVar 3) tNil)) (tC (.int 122))))) tNever tNext)) (tSeq (tIfS (tTest (tOp (rIn K true) (tVar 1) (tC (.ref (He.ga K "KINDS"))))) tNever tNext) (tDrop (tCall (sp_codes_of K) [] C8.E0 (tCons (tVar 2) tNil))))))
theorem d_check_new {P : Program} {w : World} {K : PySem.W.Frag} {mg : Str → Option Value} {base : Heap} (T : Txt w K mg) (f : Addr) (cdv : Value) (A : Around) (outer : List Env) (s : Shared) (H : Hp) (E : XK) (hr : Room 1 (A.deeper (envOfC "check_new" (defScope s_check_new) s.heap.objs.size f cdv))) :
    PSs (Bx P w K mg base ["name", "kind", "text", "character"] "check_new" s_check_new f cdv A outer s H E) (defBody s_check_new) (t_check_new K) :=
  (pss_cons (ps_if (pt_not (pt_chain op_le op_le pe_int (pe_callB call_len_str (by rfl) T.f_len boot_len (pa_cons (pv 0) pa_nil)) (pe_gint T.i_LONGEST_NAME rfl))) (pss_one ps_never) pss_nil) (pss_cons (ps_for PassesOwn.never rfl (pi_str (pv 0)) (pg_name (i := 3) sc_check_new.nd rfl (by first | exact Or.inl rfl | exact Or.inr rfl)) (pss_one (ps_if (pt_not (pt_chain op_le op_le pe_int (pe_callB call_ord (by rfl) T.f_ord boot_ord (pa_cons (pv 3) pa_nil)) pe_int)) (pss_one ps_never) pss_nil))) (pss_cons (ps_if (pt_cmpR op_notIn_seq (pv 1) (pe_glob rfl T.g_KINDS rfl) (by rfl)) (pss_one ps_never) pss_nil) (pss_one (ps_expr (C8.pe_c (c_codes_of T) hr (by decide) (by rfl) (pa_cons (pv 2) pa_nil)))))))
theorem l_check_new {K : PySem.W.Frag} : ∀ vs H Q E, sp_check_new K vs H Q E → vs.length = ["name", "kind", "text"].length := by
  rintro vs H Q E ⟨_, _, _, rfl, _⟩
  rfl
theorem r_check_new {w : World} {K : PySem.W.Frag} {mg : Str → Option Value} (T : Txt w K mg) : ∀ vs H Q E, sp_check_new K vs H Q E → t_check_new K { nx := fun _ H' => Q .non H', rt := Q } (start ["name", "kind", "text", "character"] vs) H := by
  rintro vs H Q E ⟨nm, kk, t, rfl, hn, hk, ht, hl, k⟩
  unfold goodN at hn
  simp only [Bool.and_eq_true, decide_eq_true_eq] at hn
  obtain ⟨⟨n1, n2⟩, n3⟩ := hn
  refine ⟨_, rfl, _, rfl, line_of (by omega), _, _, rfl, rfl, _, rfl, iteDT (by omega) ⟨_, _, rfl, rfl, _, rfl, iteNT (by omega) ?_⟩⟩
  refine ⟨_, rfl, nm, rfl, for_str (x := nm) (fun i σ H' => (∃ v, σ = [some (.str nm), some (.str kk), some (.str t), v]) ∧ H' = H) ⟨⟨none, rfl⟩, rfl⟩ ?_ ?_⟩
  · rintro i c σ H' hc ⟨⟨v, rfl⟩, rfl⟩
    have gc := List.all_eq_true.mp n3 c (List.mem_of_getElem? hc)
    simp only [Bool.and_eq_true, decide_eq_true_eq] at gc
    refine ⟨_, rfl, _, rfl, rfl, _, _, rfl, rfl, _, rfl, iteDT (by show (97 : Int) ≤ ((c : Nat) : Int); omega) ⟨_, _, rfl, rfl, _, rfl, iteNT (by show ((c : Nat) : Int) ≤ 122; omega) ?_⟩⟩
    exact ⟨⟨_, rfl⟩, rfl⟩
  · rintro σ H' ⟨⟨v, rfl⟩, rfl⟩
    refine ⟨_, rfl, _, _, rfl, .inr (T.kinds _), rfl, rfl, _, rfl, ?_⟩
    rw [kindB_in hk]
    refine iteF ⟨_, rfl, t, rfl, ht, hl, fun p H1 s _ _ => k H1 s⟩
theorem c_check_new {P : Program} {w : World} {K : PySem.W.Frag} {mg : Str → Option Value} {base : Heap} (T : Txt w K mg) : C8.Cal P w K mg base 2 "check_new" (sp_check_new K) [] := T.cal 55 rfl T.g_check_new sc_check_new (fun _ _ _ _ _ _ us hl => match us, hl with | [_, _, _], _ => rfl) l_check_new (d_check_new T) (r_check_new T)
/-! ### Shelf: __init__, entry, names, kind, text, binary -/
def sp_Shelf_init (K : PySem.W.Frag) : Sp := fun vs H Q _ => ∃ p dx, vs = [.ref p] ∧ H p = some (.ins (CH K) dx []) ∧ ∀ d H', ShAt K H' p dx d [] → KeepL [p] H H' → H d = none → Q .non H'
theorem sc_Shelf_init : FnScope ["self"] ["self"] (defScope s_Shelf_init) := C8.fnScope_by (by decide +kernel)
def t_Shelf_init (K : PySem.W.Frag) : TS := (sFld K (tVar 0) tDNewK "entries")
theorem d_Shelf_init {P : Program} {w : World} {K : PySem.W.Frag} {mg : Str → Option Value} {base : Heap} (T : Txt w K mg) (f : Addr) (cdv : Value) (A : Around) (outer : List Env) (s : Shared) (H : Hp) (E : XK) (hr : Room 0 (A.deeper (envOfC "Shelf.__init__" (defScope s_Shelf_init) s.heap.objs.size f cdv))) :
    PSs (Bx P w K mg base ["self"] "Shelf.__init__" s_Shelf_init f cdv A outer s H E) (defBody s_Shelf_init) (t_Shelf_init K) :=
  (pss_one (ps_fld (pv 0) pe_dnewK rfl))
theorem l_Shelf_init {K : PySem.W.Frag} : ∀ vs H Q E, sp_Shelf_init K vs H Q E → vs.length = ["self"].length := by
  rintro vs H Q E ⟨_, _, rfl, _⟩
  rfl
theorem r_Shelf_init {w : World} {K : PySem.W.Frag} {mg : Str → Option Value} (T : Txt w K mg) : ∀ vs H Q E, sp_Shelf_init K vs H Q E → t_Shelf_init K { nx := fun _ H' => Q .non H', rt := Q } (start ["self"] vs) H := by
  rintro vs H Q E ⟨p, dx, rfl, h, k⟩
  intro d hd
  have B1 := (Bl.start h).new (o := .dK []) hd
  refine ⟨_, rfl, p, _, dx, _, rfl, B1.ob, T.c_Shelf, T.n_Shelf_entries, by decide, ?_⟩
  have B2 := B1.put (putF "entries" (.ref d) [])
  exact k d _ ⟨⟨B2.ob, B2.its (d, .dK []) (by simp), (fun x hx => nomatch hx), List.Pairwise.nil⟩, List.Pairwise.nil⟩ B2.kp hd
theorem mk_Shelf {P : Program} {w : World} {K : PySem.W.Frag} {mg : Str → Option Value} {base : Heap} (T : Txt w K mg) : C8.Mak P w K mg base 1 "Shelf" (He.ga K "Shelf") (sp_Shelf_init K) [] := T.mak 56 rfl T.g_Shelf T.k_Shelf sc_Shelf_init (fun _ _ _ _ _ _ us hl => match us, hl with | [_], _ => rfl) l_Shelf_init (d_Shelf_init T) (r_Shelf_init T)
theorem shE {d : Addr} : ([("entries", .ref d)] : List (Str × V)).lookup ("entries" : Str) = some (.ref d) := by kernel_rfl
theorem shNo_entry {d : Addr} : ([("entries", .ref d)] : List (Str × V)).lookup ("entry" : Str) = none := by kernel_rfl
theorem shNo_names {d : Addr} : ([("entries", .ref d)] : List (Str × V)).lookup ("names" : Str) = none := by kernel_rfl
theorem shNo_kind {d : Addr} : ([("entries", .ref d)] : List (Str × V)).lookup ("kind" : Str) = none := by kernel_rfl
theorem shNo_text {d : Addr} : ([("entries", .ref d)] : List (Str × V)).lookup ("text" : Str) = none := by kernel_rfl
theorem shNo_binary {d : Addr} : ([("entries", .ref d)] : List (Str × V)).lookup ("binary" : Str) = none := by kernel_rfl
theorem shNo_put {d : Addr} : ([("entries", .ref d)] : List (Str × V)).lookup ("put" : Str) = none := by kernel_rfl
theorem shNo_build {d : Addr} : ([("entries", .ref d)] : List (Str × V)).lookup ("build" : Str) = none := by kernel_rfl
theorem shNo_swap {d : Addr} : ([("entries", .ref d)] : List (Str × V)).lookup ("swap" : Str) = none := by kernel_rfl
theorem shNo_clone {d : Addr} : ([("entries", .ref d)] : List (Str × V)).lookup ("clone" : Str) = none := by kernel_rfl
theorem shNo_damage {d : Addr} : ([("entries", .ref d)] : List (Str × V)).lookup ("damage" : Str) = none := by kernel_rfl
theorem shNo_trap {d : Addr} : ([("entries", .ref d)] : List (Str × V)).lookup ("trap" : Str) = none := by kernel_rfl
def sp_Shelf_entry (K : PySem.W.Frag) : Sp := fun vs H Q _ => ∃ s dxs d es x, vs = [.ref s, .str x.nm] ∧ ShW K H s dxs d es ∧ x ∈ es ∧ Q (.ref x.e) H
theorem sc_Shelf_entry : FnScope ["self", "name"] ["self", "name"] (defScope s_Shelf_entry) := C8.fnScope_by (by decide +kernel)
def t_Shelf_entry (K : PySem.W.Frag) : TS := (tSeq (tIfS (tB (tDNotIn (tVar 1) (tFld K (tVar 0) "entries"))) tNever tNext) (tRet (tDGet (tFld K (tVar 0) "entries") (tVar 1))))
theorem d_Shelf_entry {P : Program} {w : World} {K : PySem.W.Frag} {mg : Str → Option Value} {base : Heap} (T : Txt w K mg) (f : Addr) (cdv : Value) (A : Around) (outer : List Env) (s : Shared) (H : Hp) (E : XK) (hr : Room 0 (A.deeper (envOfC "Shelf.entry" (defScope s_Shelf_entry) s.heap.objs.size f cdv))) :
    PSs (Bx P w K mg base ["self", "name"] "Shelf.entry" s_Shelf_entry f cdv A outer s H E) (defBody s_Shelf_entry) (t_Shelf_entry K) :=
  (pss_cons (ps_if (pt_cmp (pc_dnotin (hu_of hr) (pv 1) (pe_fld (pv 0) rfl))) (pss_one ps_never) pss_nil) (pss_one (ps_ret (pe_dget (hu_of hr) (pe_fld (pv 0) rfl) (pv 1) (fun _ _ => rfl)))))
theorem l_Shelf_entry {K : PySem.W.Frag} : ∀ vs H Q E, sp_Shelf_entry K vs H Q E → vs.length = ["self", "name"].length := by
  rintro vs H Q E ⟨_, _, _, _, _, rfl, _⟩
  rfl
theorem r_Shelf_entry {w : World} {K : PySem.W.Frag} {mg : Str → Option Value} (T : Txt w K mg) : ∀ vs H Q E, sp_Shelf_entry K vs H Q E → t_Shelf_entry K { nx := fun _ H' => Q .non H', rt := Q } (start ["self", "name"] vs) H := by
  rintro vs H Q E ⟨s, dxs, d, es, x, rfl, h, hx, k⟩
  refine ⟨_, rfl, _, rfl, s, _, dxs, _, _, rfl, h.ob, T.c_Shelf, T.n_Shelf_entries, shE, d, _, rfl, h.get hx, _, rfl, iteF ?_⟩
  exact ⟨_, rfl, s, _, dxs, _, _, rfl, h.ob, T.c_Shelf, T.n_Shelf_entries, shE, _, rfl, d, _, rfl, h.get hx, k⟩
theorem m_Shelf_entry {P : Program} {w : World} {K : PySem.W.Frag} {mg : Str → Option Value} {base : Heap} (T : Txt w K mg) : C8.Met P w K mg base 1 (He.ga K "Shelf") "entry" (sp_Shelf_entry K) [] := T.met 57 rfl T.c_Shelf T.m_Shelf_entry sc_Shelf_entry (fun _ _ _ _ _ _ us hl => match us, hl with | [_, _], _ => rfl) l_Shelf_entry (d_Shelf_entry T) (r_Shelf_entry T)
def sp_Shelf_names (K : PySem.W.Frag) : Sp := fun vs H Q _ => ∃ s dxs d es, vs = [.ref s] ∧ ShW K H s dxs d es ∧ NewL H Q (es.map fun x => V.str x.nm)
theorem sc_Shelf_names : FnScope ["self"] ["self"] (defScope s_Shelf_names) := C8.fnScope_by (by decide +kernel)
def t_Shelf_names (K : PySem.W.Frag) : TS := (tRet (tCB rListD (tCons (tFld K (tVar 0) "entries") tNil)))
theorem d_Shelf_names {P : Program} {w : World} {K : PySem.W.Frag} {mg : Str → Option Value} {base : Heap} (T : Txt w K mg) (f : Addr) (cdv : Value) (A : Around) (outer : List Env) (s : Shared) (H : Hp) (E : XK) (hr : Room 0 (A.deeper (envOfC "Shelf.names" (defScope s_Shelf_names) s.heap.objs.size f cdv))) :
    PSs (Bx P w K mg base ["self"] "Shelf.names" s_Shelf_names f cdv A outer s H E) (defBody s_Shelf_names) (t_Shelf_names K) :=
  (pss_one (ps_ret (pe_callTy (call_list_dK rfl) (by rfl) T.f_list boot_list (pa_cons (pe_fld (pv 0) rfl) pa_nil))))
theorem l_Shelf_names {K : PySem.W.Frag} : ∀ vs H Q E, sp_Shelf_names K vs H Q E → vs.length = ["self"].length := by
  rintro vs H Q E ⟨_, _, _, _, rfl, _⟩
  rfl
theorem r_Shelf_names {w : World} {K : PySem.W.Frag} {mg : Str → Option Value} (T : Txt w K mg) : ∀ vs H Q E, sp_Shelf_names K vs H Q E → t_Shelf_names K { nx := fun _ H' => Q .non H', rt := Q } (start ["self"] vs) H := by
  rintro vs H Q E ⟨s, dxs, d, es, rfl, h, k⟩
  refine ⟨_, rfl, s, _, dxs, _, _, rfl, h.ob, T.c_Shelf, T.n_Shelf_entries, shE, d, _, rfl, h.hd, fun q hq => ?_⟩
  refine k q _ (Same.new hq) hq ?_
  rw [upd_same]
  unfold kvE
  rw [List.map_map]
  rfl
theorem m_Shelf_names {P : Program} {w : World} {K : PySem.W.Frag} {mg : Str → Option Value} {base : Heap} (T : Txt w K mg) : C8.Met P w K mg base 1 (He.ga K "Shelf") "names" (sp_Shelf_names K) [] := T.met 58 rfl T.c_Shelf T.m_Shelf_names sc_Shelf_names (fun _ _ _ _ _ _ us hl => match us, hl with | [_], _ => rfl) l_Shelf_names (d_Shelf_names T) (r_Shelf_names T)
def sp_Shelf_kind (K : PySem.W.Frag) : Sp := fun vs H Q _ => ∃ s dxs d es x, vs = [.ref s, .str x.nm] ∧ ShW K H s dxs d es ∧ x ∈ es ∧ Q (.str x.kind) H
theorem sc_Shelf_kind : FnScope ["self", "name"] ["self", "name"] (defScope s_Shelf_kind) := C8.fnScope_by (by decide +kernel)
def t_Shelf_kind (K : PySem.W.Frag) : TS := (tRet (tFld K (tMeth (He.ga K "Shelf") "entry" (sp_Shelf_entry K) [] C8.E0 (tVar 0) (tCons (tVar 1) tNil)) "kind"))
theorem d_Shelf_kind {P : Program} {w : World} {K : PySem.W.Frag} {mg : Str → Option Value} {base : Heap} (T : Txt w K mg) (f : Addr) (cdv : Value) (A : Around) (outer : List Env) (s : Shared) (H : Hp) (E : XK) (hr : Room 1 (A.deeper (envOfC "Shelf.kind" (defScope s_Shelf_kind) s.heap.objs.size f cdv))) :
    PSs (Bx P w K mg base ["self", "name"] "Shelf.kind" s_Shelf_kind f cdv A outer s H E) (defBody s_Shelf_kind) (t_Shelf_kind K) :=
  (pss_one (ps_ret (pe_fld (C8.pe_mt (m_Shelf_entry T) hr (by decide) (pv 0) (pa_cons (pv 1) pa_nil)) rfl)))
theorem l_Shelf_kind {K : PySem.W.Frag} : ∀ vs H Q E, sp_Shelf_kind K vs H Q E → vs.length = ["self", "name"].length := by
  rintro vs H Q E ⟨_, _, _, _, _, rfl, _⟩
  rfl
theorem r_Shelf_kind {w : World} {K : PySem.W.Frag} {mg : Str → Option Value} (T : Txt w K mg) : ∀ vs H Q E, sp_Shelf_kind K vs H Q E → t_Shelf_kind K { nx := fun _ H' => Q .non H', rt := Q } (start ["self", "name"] vs) H := by
  rintro vs H Q E ⟨s, dxs, d, es, x, rfl, h, hx, k⟩
  exact ⟨_, rfl, s, dxs, _, rfl, h.ob, shNo_entry, _, rfl, s, dxs, d, es, x, rfl, h, hx, x.e, _, x.dx, _, _, rfl, (h.en x hx).1, T.c_Entry, T.n_Entry_kind, enF_kind, k⟩
theorem m_Shelf_kind {P : Program} {w : World} {K : PySem.W.Frag} {mg : Str → Option Value} {base : Heap} (T : Txt w K mg) : C8.Met P w K mg base 2 (He.ga K "Shelf") "kind" (sp_Shelf_kind K) [] := T.met 59 rfl T.c_Shelf T.m_Shelf_kind sc_Shelf_kind (fun _ _ _ _ _ _ us hl => match us, hl with | [_, _], _ => rfl) l_Shelf_kind (d_Shelf_kind T) (r_Shelf_kind T)
def sp_Shelf_text (K : PySem.W.Frag) : Sp := fun vs H Q _ => ∃ s dxs d es x, vs = [.ref s, .str x.nm] ∧ ShW K H s dxs d es ∧ x ∈ es ∧ Q (.str x.text) H
theorem sc_Shelf_text : FnScope ["self", "name"] ["self", "name"] (defScope s_Shelf_text) := C8.fnScope_by (by decide +kernel)
def t_Shelf_text (K : PySem.W.Frag) : TS := (tRet (tFld K (tMeth (He.ga K "Shelf") "entry" (sp_Shelf_entry K) [] C8.E0 (tVar 0) (tCons (tVar 1) tNil)) "text"))
theorem d_Shelf_text {P : Program} {w : World} {K : PySem.W.Frag} {mg : Str → Option Value} {base : Heap} (T : Txt w K mg) (f : Addr) (cdv : Value) (A : Around) (outer : List Env) (s : Shared) (H : Hp) (E : XK) (hr : Room 1 (A.deeper (envOfC "Shelf.text" (defScope s_Shelf_text) s.heap.objs.size f cdv))) :
    PSs (Bx P w K mg base ["self", "name"] "Shelf.text" s_Shelf_text f cdv A outer s H E) (defBody s_Shelf_text) (t_Shelf_text K) :=
  (pss_one (ps_ret (pe_fld (C8.pe_mt (m_Shelf_entry T) hr (by decide) (pv 0) (pa_cons (pv 1) pa_nil)) rfl)))
theorem l_Shelf_text {K : PySem.W.Frag} : ∀ vs H Q E, sp_Shelf_text K vs H Q E → vs.length = ["self", "name"].length := by
  rintro vs H Q E ⟨_, _, _, _, _, rfl, _⟩
  rfl
theorem r_Shelf_text {w : World} {K : PySem.W.Frag} {mg : Str → Option Value} (T : Txt w K mg) : ∀ vs H Q E, sp_Shelf_text K vs H Q E → t_Shelf_text K { nx := fun _ H' => Q .non H', rt := Q } (start ["self", "name"] vs) H := by
  rintro vs H Q E ⟨s, dxs, d, es, x, rfl, h, hx, k⟩
  exact ⟨_, rfl, s, dxs, _, rfl, h.ob, shNo_entry, _, rfl, s, dxs, d, es, x, rfl, h, hx, x.e, _, x.dx, _, _, rfl, (h.en x hx).1, T.c_Entry, T.n_Entry_text, enF_text, k⟩
theorem m_Shelf_text {P : Program} {w : World} {K : PySem.W.Frag} {mg : Str → Option Value} {base : Heap} (T : Txt w K mg) : C8.Met P w K mg base 2 (He.ga K "Shelf") "text" (sp_Shelf_text K) [] := T.met 60 rfl T.c_Shelf T.m_Shelf_text sc_Shelf_text (fun _ _ _ _ _ _ us hl => match us, hl with | [_, _], _ => rfl) l_Shelf_text (d_Shelf_text T) (r_Shelf_text T)
def sp_Shelf_binary (K : PySem.W.Frag) : Sp := fun vs H Q _ => ∃ s dxs d es x, vs = [.ref s, .str x.nm] ∧ ShW K H s dxs d es ∧ x ∈ es ∧ NewL H Q (iL x.bin)
theorem sc_Shelf_binary : FnScope ["self", "name"] ["self", "name"] (defScope s_Shelf_binary) := C8.fnScope_by (by decide +kernel)
def t_Shelf_binary (K : PySem.W.Frag) : TS := (tRet (tCB (rListOf K) (tCons (tFld K (tMeth (He.ga K "Shelf") "entry" (sp_Shelf_entry K) [] C8.E0 (tVar 0) (tCons (tVar 1) tNil)) "binary") tNil)))
theorem d_Shelf_binary {P : Program} {w : World} {K : PySem.W.Frag} {mg : Str → Option Value} {base : Heap} (T : Txt w K mg) (f : Addr) (cdv : Value) (A : Around) (outer : List Env) (s : Shared) (H : Hp) (E : XK) (hr : Room 1 (A.deeper (envOfC "Shelf.binary" (defScope s_Shelf_binary) s.heap.objs.size f cdv))) :
    PSs (Bx P w K mg base ["self", "name"] "Shelf.binary" s_Shelf_binary f cdv A outer s H E) (defBody s_Shelf_binary) (t_Shelf_binary K) :=
  (pss_one (ps_ret (pe_callTy call_list_of (by rfl) T.f_list boot_list (pa_cons (pe_fld (C8.pe_mt (m_Shelf_entry T) hr (by decide) (pv 0) (pa_cons (pv 1) pa_nil)) rfl) pa_nil))))
theorem l_Shelf_binary {K : PySem.W.Frag} : ∀ vs H Q E, sp_Shelf_binary K vs H Q E → vs.length = ["self", "name"].length := by
  rintro vs H Q E ⟨_, _, _, _, _, rfl, _⟩
  rfl
theorem r_Shelf_binary {w : World} {K : PySem.W.Frag} {mg : Str → Option Value} (T : Txt w K mg) : ∀ vs H Q E, sp_Shelf_binary K vs H Q E → t_Shelf_binary K { nx := fun _ H' => Q .non H', rt := Q } (start ["self", "name"] vs) H := by
  rintro vs H Q E ⟨s, dxs, d, es, x, rfl, h, hx, k⟩
  exact ⟨_, rfl, s, dxs, _, rfl, h.ob, shNo_entry, _, rfl, s, dxs, d, es, x, rfl, h, hx, x.e, _, x.dx, _, _, rfl, (h.en x hx).1, T.c_Entry, T.n_Entry_binary, enF_binary, x.b, _, rfl, .inl (SqL.of (h.en x hx).2), fun q hq => k q _ (Same.new hq) hq upd_same⟩
theorem m_Shelf_binary {P : Program} {w : World} {K : PySem.W.Frag} {mg : Str → Option Value} {base : Heap} (T : Txt w K mg) : C8.Met P w K mg base 2 (He.ga K "Shelf") "binary" (sp_Shelf_binary K) [] := T.met 61 rfl T.c_Shelf T.m_Shelf_binary sc_Shelf_binary (fun _ _ _ _ _ _ us hl => match us, hl with | [_, _], _ => rfl) l_Shelf_binary (d_Shelf_binary T) (r_Shelf_binary T)
/-! ### put, swap, clone, damage -/
def sp_Shelf_put (K : PySem.W.Frag) : Sp := fun vs H Q _ => ∃ s dxs d es nm k t b0 bin, vs = [.ref s, .str nm, .str k, .str t, .ref b0] ∧ ShAt K H s dxs d es ∧ goodN nm = true ∧ kindB k = true ∧ goodS t = true ∧ t.cps.toList.length ≤ 5000 ∧ es.length ≤ 1000 ∧ H b0 = some (.lst (iL bin)) ∧
  ∀ e dx b H', H b = none → ShAt K H' s dxs d (putE es ⟨nm, k, t, bin, e, dx, b⟩) → KeepL [d] H H' → Q .non H'
theorem sc_Shelf_put : FnScope ["self", "name", "kind", "text", "binary"] ["self", "name", "kind", "text", "binary"] (defScope s_Shelf_put) := C8.fnScope_by (by decide +kernel)
def t_Shelf_put (K : PySem.W.Frag) : TS := (tSeq (tDrop (tCall (sp_check_new K) [] C8.E0 (tCons (tVar 1) (tCons (tVar 2) (tCons (tVar 3) tNil))))) (sDPut (tFld K (tVar 0) "entries") (tVar 1) (tMake (He.ga K "Entry") (sp_Entry_init K) [] C8.E0 (tCons (tVar 2) (tCons (tVar 3) (tCons (tVar 4) tNil))))))
theorem d_Shelf_put {P : Program} {w : World} {K : PySem.W.Frag} {mg : Str → Option Value} {base : Heap} (T : Txt w K mg) (f : Addr) (cdv : Value) (A : Around) (outer : List Env) (s : Shared) (H : Hp) (E : XK) (hr : Room 2 (A.deeper (envOfC "Shelf.put" (defScope s_Shelf_put) s.heap.objs.size f cdv))) :
    PSs (Bx P w K mg base ["self", "name", "kind", "text", "binary"] "Shelf.put" s_Shelf_put f cdv A outer s H E) (defBody s_Shelf_put) (t_Shelf_put K) :=
  (pss_cons (ps_expr (C8.pe_c (c_check_new T) hr (by decide) (by rfl) (pa_cons (pv 1) (pa_cons (pv 2) (pa_cons (pv 3) pa_nil))))) (pss_one (ps_dput (hu_of hr) (pe_fld (pv 0) rfl) (pv 1) (C8.pe_mk (mk_Entry T) hr (by decide) (by rfl) (pa_cons (pv 2) (pa_cons (pv 3) (pa_cons (pv 4) pa_nil)))) rfl)))
theorem l_Shelf_put {K : PySem.W.Frag} : ∀ vs H Q E, sp_Shelf_put K vs H Q E → vs.length = ["self", "name", "kind", "text", "binary"].length := by
  rintro vs H Q E ⟨_, _, _, _, _, _, _, _, _, rfl, _⟩
  rfl
theorem r_Shelf_put {w : World} {K : PySem.W.Frag} {mg : Str → Option Value} (T : Txt w K mg) : ∀ vs H Q E, sp_Shelf_put K vs H Q E → t_Shelf_put K { nx := fun _ H' => Q .non H', rt := Q } (start ["self", "name", "kind", "text", "binary"] vs) H := by
  rintro vs H Q E ⟨s, dxs, d, es, nm, kk, t, b0, bin, rfl, h, hn, hk, ht, hl, hes, hb, k⟩
  refine ⟨_, rfl, _, rfl, _, rfl, nm, kk, t, rfl, hn, hk, ht, hl, fun H1 s1 => ?_⟩
  refine ⟨_, rfl, _, rfl, _, rfl, fun p dx np nd ne => ?_⟩
  have s2 : Same H (upd (upd H1 dx (.own p)) p (.ins (CE K) dx [])) := s1.trans ((Same.new nd).trans (Same.new (by rw [upd_ne ne.symm]; exact np)))
  refine ⟨p, dx, kk, t, b0, bin, rfl, upd_same, s2 _ _ hb, fun q H3 k3 nq e1 e2 => ⟨rfl, ?_⟩⟩
  have np0 : H p = none := s1.free np
  have nq0 : H q = none := s2.free nq
  have s3 : Same H H3 := k3.same s2 (by simpa using np0)
  have h3 := h.same s3
  refine ⟨_, rfl, s, _, dxs, _, _, rfl, h3.ob, T.c_Shelf, T.n_Shelf_entries, shE, _, rfl, d, _, rfl, DPut.k (k := Sum.inr nm) h3.hd (line_lt (by unfold kvE; rw [List.length_map]; omega)), ?_⟩
  refine k p dx q _ nq0 (h.put (x := ⟨nm, kk, t, bin, p, dx, q⟩) s3 np0 nq0 ?_ e2) ((Same.keepL s3).trans (KeepL.upd (by simp)))
  rw [e1]
  exact congrArg (fun z => some (HO.ins (CE K) dx z)) (by kernel_rfl)
theorem m_Shelf_put {P : Program} {w : World} {K : PySem.W.Frag} {mg : Str → Option Value} {base : Heap} (T : Txt w K mg) : C8.Met P w K mg base 3 (He.ga K "Shelf") "put" (sp_Shelf_put K) [] := T.met 62 rfl T.c_Shelf T.m_Shelf_put sc_Shelf_put (fun _ _ _ _ _ _ us hl => match us, hl with | [_, _, _, _, _], _ => rfl) l_Shelf_put (d_Shelf_put T) (r_Shelf_put T)
def sp_Shelf_swap (K : PySem.W.Frag) : Sp := fun vs H Q _ => ∃ s dxs d es x y, vs = [.ref s, .str x.nm, .str y.nm] ∧ ShAt K H s dxs d es ∧ x ∈ es ∧ y ∈ es ∧
  ∀ H', ShAt K H' s dxs d (setBin (setBin es x.nm y.b y.bin) y.nm x.b x.bin) → KeepL [x.e, y.e] H H' → Q .non H'
theorem sc_Shelf_swap : FnScope ["self", "one", "other", "first", "second"] ["self", "one", "other"] (defScope s_Shelf_swap) := C8.fnScope_by (by decide +kernel)
def t_Shelf_swap (K : PySem.W.Frag) : TS := (tSeq (tAsg (tMeth (He.ga K "Shelf") "entry" (sp_Shelf_entry K) [] C8.E0 (tVar 0) (tCons (tVar 1) tNil)) (gName 3)) (tSeq (tAsg (tMeth (He.ga K "Shelf") "entry" (sp_Shelf_entry K) [] C8.E0 (tVar 0) (tCons (tVar 2) tNil)) (gName 4)) (tAsg (tTup (tCons (tFld K (tVar 4) "binary") (tCons (tFld K (tVar 3) "binary") tNil))) (gTup K 2 (gCons (gFld K (tVar 3) "binary") (gCons (gFld K (tVar 4) "binary") gNil))))))
theorem d_Shelf_swap {P : Program} {w : World} {K : PySem.W.Frag} {mg : Str → Option Value} {base : Heap} (T : Txt w K mg) (f : Addr) (cdv : Value) (A : Around) (outer : List Env) (s : Shared) (H : Hp) (E : XK) (hr : Room 1 (A.deeper (envOfC "Shelf.swap" (defScope s_Shelf_swap) s.heap.objs.size f cdv))) :
    PSs (Bx P w K mg base ["self", "one", "other", "first", "second"] "Shelf.swap" s_Shelf_swap f cdv A outer s H E) (defBody s_Shelf_swap) (t_Shelf_swap K) :=
  (pss_cons (ps_set (i := 3) sc_Shelf_swap.nd rfl (by first | exact Or.inl rfl | exact Or.inr rfl) (C8.pe_mt (m_Shelf_entry T) hr (by decide) (pv 0) (pa_cons (pv 1) pa_nil))) (pss_cons (ps_set (i := 4) sc_Shelf_swap.nd rfl (by first | exact Or.inl rfl | exact Or.inr rfl) (C8.pe_mt (m_Shelf_entry T) hr (by decide) (pv 0) (pa_cons (pv 2) pa_nil))) (pss_one (ps_asg (pe_tup (pa_cons (pe_fld (pv 4) rfl) (pa_cons (pe_fld (pv 3) rfl) pa_nil))) (pg_tup rfl (pgs_cons (pg_fld (pv 3)) (pgs_cons (pg_fld (pv 4)) pgs_nil)))))))
theorem l_Shelf_swap {K : PySem.W.Frag} : ∀ vs H Q E, sp_Shelf_swap K vs H Q E → vs.length = ["self", "one", "other"].length := by
  rintro vs H Q E ⟨_, _, _, _, _, _, rfl, _⟩
  rfl
/-- two addresses, one for the other -/
def swA (a b c : Addr) : Addr := if c = a then b else if c = b then a else c
theorem swA_inj {a b c d : Addr} (h : swA a b c = swA a b d) : c = d := by
  unfold swA at h
  by_cases c1 : c = a
  · rw [if_pos c1] at h
    by_cases d1 : d = a
    · rw [c1, d1]
    · rw [if_neg d1] at h
      by_cases d2 : d = b
      · rw [if_pos d2] at h
        rw [c1, d2, h]
      · rw [if_neg d2] at h
        exact absurd h.symm d2
  · rw [if_neg c1] at h
    by_cases c2 : c = b
    · rw [if_pos c2] at h
      by_cases d1 : d = a
      · rw [if_pos d1] at h
        rw [c2, d1, h]
      · rw [if_neg d1] at h
        by_cases d2 : d = b
        · rw [c2, d2]
        · rw [if_neg d2] at h
          exact absurd h.symm d1
    · rw [if_neg c2] at h
      by_cases d1 : d = a
      · rw [if_pos d1] at h
        exact absurd h c2
      · rw [if_neg d1] at h
        by_cases d2 : d = b
        · rw [if_pos d2] at h
          exact absurd h c1
        · rw [if_neg d2] at h
          exact h
theorem swap_nb {K : PySem.W.Frag} {H : Hp} {s dxs d : Addr} {es : List En} {x y : En} (h : ShAt K H s dxs d es) (hx : x ∈ es) (hy : y ∈ es) : (setBin (setBin es x.nm y.b y.bin) y.nm x.b x.bin).Pairwise fun x y => x.b ≠ y.b := by
  unfold setBin
  rw [List.map_map, List.pairwise_map]
  have e : ∀ z ∈ es, (((fun z : En => if z.nm = y.nm then { z with b := x.b, bin := x.bin } else z) ∘ fun z : En => if z.nm = x.nm then { z with b := y.b, bin := y.bin } else z) z).b = swA x.b y.b z.b := by
    intro z hz
    show (if (if z.nm = x.nm then { z with b := y.b, bin := y.bin } else z : En).nm = y.nm then { (if z.nm = x.nm then { z with b := y.b, bin := y.bin } else z : En) with b := x.b, bin := x.bin } else (if z.nm = x.nm then { z with b := y.b, bin := y.bin } else z : En) : En).b = _
    rw [setBin_nm]
    unfold swA
    by_cases e1 : z.nm = x.nm
    · obtain rfl := h.byN hz hx e1
      by_cases e2 : z.nm = y.nm
      · obtain rfl := h.byN hz hy e2
        simp
      · simp [e2]
    · have e3 : z.b ≠ x.b := fun w => e1 (by rw [h.byB hz hx w])
      by_cases e2 : z.nm = y.nm
      · obtain rfl := h.byN hz hy e2
        simp [e3]
      · have e4 : z.b ≠ y.b := fun w => e2 (by rw [h.byB hz hy w])
        simp [e1, e2, e3, e4]
  refine h.nb.imp_of_mem fun {p q} hp hq r => ?_
  rw [e p hp, e q hq]
  exact fun z => r (swA_inj z)
theorem setBin_in {es : List En} {nm : Str} {b : Addr} {bin : List Int} {y : En} (h : y ∈ es) : (if y.nm = nm then { y with b := b, bin := bin } else y) ∈ setBin es nm b bin := List.mem_map.mpr ⟨y, h, rfl⟩
theorem r_Shelf_swap {w : World} {K : PySem.W.Frag} {mg : Str → Option Value} (T : Txt w K mg) : ∀ vs H Q E, sp_Shelf_swap K vs H Q E → t_Shelf_swap K { nx := fun _ H' => Q .non H', rt := Q } (start ["self", "one", "other", "first", "second"] vs) H := by
  rintro vs H Q E ⟨s, dxs, d, es, x, y, rfl, h, hx, hy, k⟩
  refine ⟨_, rfl, s, dxs, _, rfl, h.ob, shNo_entry, _, rfl, s, dxs, d, es, x, rfl, h.toShW, hx, ?_⟩
  refine ⟨_, rfl, s, dxs, _, rfl, h.ob, shNo_entry, _, rfl, s, dxs, d, es, y, rfl, h.toShW, hy, ?_⟩
  refine ⟨_, rfl, y.e, _, y.dx, _, _, rfl, (h.en y hy).1, T.c_Entry, T.n_Entry_binary, enF_binary, _, rfl, x.e, _, x.dx, _, _, rfl, (h.en x hx).1, T.c_Entry, T.n_Entry_binary, enF_binary, by show 2 ≤ sizeLine; decide, fun t ht => ?_⟩
  have h1 := h.same (Same.new (o := .tup [.ref y.b, .ref x.b]) ht)
  refine ⟨t, _, rfl, SqT.of upd_same, rfl, _, _, rfl, ?_⟩
  refine ⟨_, rfl, x.e, _, x.dx, _, rfl, (h1.en x hx).1, T.c_Entry, T.n_Entry_binary, enF_small, _, _, rfl, ?_⟩
  have h2 := h1.toShW.setB hx (h1.en y hy).2
  have hy2 := setBin_in (nm := x.nm) (b := y.b) (bin := y.bin) hy
  have f : H x.e ≠ none := by rw [(h.en x hx).1]; intro z; cases z
  have ky : KeepL [x.e, y.e] H (upd (upd H t (.tup [.ref y.b, .ref x.b])) x.e (.ins (CE K) x.dx (putF "binary" (.ref y.b) (enF x)))) := (KeepL.new ht).trans (KeepL.upd (by simp))
  generalize upd (upd H t (.tup [.ref y.b, .ref x.b])) x.e (.ins (CE K) x.dx (putF "binary" (.ref y.b) (enF x))) = H2 at h2 ky ⊢
  have ey := (h2.en _ hy2).1
  rw [setBin_e] at ey
  have bx : H2 x.b = some (.lst (x.bin.map V.int)) := ky _ _ (h.en x hx).2 (by
    simp only [List.mem_cons, List.mem_nil_iff, or_false, not_or]
    exact ⟨ne_of (h.en x hx).2 (h.en x hx).1 (by intro z; cases z), ne_of (h.en x hx).2 (h.en y hy).1 (by intro z; cases z)⟩)
  have h3 := h2.setB hy2 bx
  rw [setBin_e, setBin_nm] at h3
  refine ⟨_, rfl, y.e, _, _, _, rfl, ey, T.c_Entry, T.n_Entry_binary, enF_small, rfl, ?_⟩
  exact k _ ⟨h3, swap_nb h hx hy⟩ (ky.trans (KeepL.upd (by simp)))
theorem m_Shelf_swap {P : Program} {w : World} {K : PySem.W.Frag} {mg : Str → Option Value} {base : Heap} (T : Txt w K mg) : C8.Met P w K mg base 2 (He.ga K "Shelf") "swap" (sp_Shelf_swap K) [] := T.met 64 rfl T.c_Shelf T.m_Shelf_swap sc_Shelf_swap (fun _ _ _ _ _ _ us hl => match us, hl with | [_, _, _], _ => rfl) l_Shelf_swap (d_Shelf_swap T) (r_Shelf_swap T)
def sp_Shelf_clone (K : PySem.W.Frag) : Sp := fun vs H Q _ => ∃ s dxs d es x y, vs = [.ref s, .str x.nm, .str y.nm] ∧ ShAt K H s dxs d es ∧ x ∈ es ∧ y ∈ es ∧
  ∀ b H', H b = none → ShAt K H' s dxs d (setBin es y.nm b x.bin) → KeepL [y.e] H H' → Q .non H'
theorem sc_Shelf_clone : FnScope ["self", "source", "name", "kept", "changed"] ["self", "source", "name"] (defScope s_Shelf_clone) := C8.fnScope_by (by decide +kernel)
def t_Shelf_clone (K : PySem.W.Frag) : TS := (tSeq (tAsg (tMeth (He.ga K "Shelf") "entry" (sp_Shelf_entry K) [] C8.E0 (tVar 0) (tCons (tVar 1) tNil)) (gName 3)) (tSeq (tAsg (tMeth (He.ga K "Shelf") "entry" (sp_Shelf_entry K) [] C8.E0 (tVar 0) (tCons (tVar 2) tNil)) (gName 4)) (sFld K (tVar 4) (tCB (rListOf K) (tCons (tFld K (tVar 3) "binary") tNil)) "binary")))
theorem d_Shelf_clone {P : Program} {w : World} {K : PySem.W.Frag} {mg : Str → Option Value} {base : Heap} (T : Txt w K mg) (f : Addr) (cdv : Value) (A : Around) (outer : List Env) (s : Shared) (H : Hp) (E : XK) (hr : Room 1 (A.deeper (envOfC "Shelf.clone" (defScope s_Shelf_clone) s.heap.objs.size f cdv))) :
    PSs (Bx P w K mg base ["self", "source", "name", "kept", "changed"] "Shelf.clone" s_Shelf_clone f cdv A outer s H E) (defBody s_Shelf_clone) (t_Shelf_clone K) :=
  (pss_cons (ps_set (i := 3) sc_Shelf_clone.nd rfl (by first | exact Or.inl rfl | exact Or.inr rfl) (C8.pe_mt (m_Shelf_entry T) hr (by decide) (pv 0) (pa_cons (pv 1) pa_nil))) (pss_cons (ps_set (i := 4) sc_Shelf_clone.nd rfl (by first | exact Or.inl rfl | exact Or.inr rfl) (C8.pe_mt (m_Shelf_entry T) hr (by decide) (pv 0) (pa_cons (pv 2) pa_nil))) (pss_one (ps_fld (pv 4) (pe_callTy call_list_of (by rfl) T.f_list boot_list (pa_cons (pe_fld (pv 3) rfl) pa_nil)) rfl))))
theorem l_Shelf_clone {K : PySem.W.Frag} : ∀ vs H Q E, sp_Shelf_clone K vs H Q E → vs.length = ["self", "source", "name"].length := by
  rintro vs H Q E ⟨_, _, _, _, _, _, rfl, _⟩
  rfl
theorem r_Shelf_clone {w : World} {K : PySem.W.Frag} {mg : Str → Option Value} (T : Txt w K mg) : ∀ vs H Q E, sp_Shelf_clone K vs H Q E → t_Shelf_clone K { nx := fun _ H' => Q .non H', rt := Q } (start ["self", "source", "name", "kept", "changed"] vs) H := by
  rintro vs H Q E ⟨s, dxs, d, es, x, y, rfl, h, hx, hy, k⟩
  refine ⟨_, rfl, s, dxs, _, rfl, h.ob, shNo_entry, _, rfl, s, dxs, d, es, x, rfl, h.toShW, hx, ?_⟩
  refine ⟨_, rfl, s, dxs, _, rfl, h.ob, shNo_entry, _, rfl, s, dxs, d, es, y, rfl, h.toShW, hy, ?_⟩
  refine ⟨_, rfl, x.e, _, x.dx, _, _, rfl, (h.en x hx).1, T.c_Entry, T.n_Entry_binary, enF_binary, x.b, _, rfl, .inl (SqL.of (h.en x hx).2), fun q hq => ?_⟩
  have h1 := h.same (Same.new (o := .lst (x.bin.map V.int)) hq)
  refine ⟨_, rfl, y.e, _, y.dx, _, rfl, (h1.en y hy).1, T.c_Entry, T.n_Entry_binary, enF_small, ?_⟩
  exact k q _ hq (h1.setB hy upd_same fun z hz => ne_of_none (h.en z hz).2 hq) ((KeepL.new hq).trans (KeepL.upd (by simp)))
theorem m_Shelf_clone {P : Program} {w : World} {K : PySem.W.Frag} {mg : Str → Option Value} {base : Heap} (T : Txt w K mg) : C8.Met P w K mg base 2 (He.ga K "Shelf") "clone" (sp_Shelf_clone K) [] := T.met 65 rfl T.c_Shelf T.m_Shelf_clone sc_Shelf_clone (fun _ _ _ _ _ _ us hl => match us, hl with | [_, _, _], _ => rfl) l_Shelf_clone (d_Shelf_clone T) (r_Shelf_clone T)
def hurt (l : List Int) (at_ : Nat) (n : Int) : List Int := if at_ = l.length then l ++ [n] else l.set at_ n
theorem ShAt.setL {K : PySem.W.Frag} {H : Hp} {s dxs d : Addr} {es : List En} {x : En} (h : ShAt K H s dxs d es) (hx : x ∈ es) (l : List Int) : ShAt K (upd H x.b (.lst (iL l))) s dxs d (setBin es x.nm x.b l) := by
  have hb := (h.en x hx).2
  refine ⟨⟨?_, ?_, fun z hz => ?_, pw_setBin h.pw ..⟩, ?_⟩
  · rw [upd_ne (ne_of h.ob hb (by intro z; cases z))]
    exact h.ob
  · rw [upd_ne (ne_of h.hd hb (by intro z; cases z)), kvE_setBin]
    exact h.hd
  · obtain ⟨y, hy, rfl⟩ := setBin_mem hz
    by_cases e : y.nm = x.nm
    · obtain rfl := h.byN hy hx e
      rw [if_pos rfl]
      refine ⟨?_, upd_same⟩
      rw [upd_ne (ne_of (h.en y hy).1 hb (by intro z; cases z))]
      exact (h.en y hy).1
    · rw [if_neg e]
      refine ⟨?_, ?_⟩
      · rw [upd_ne (ne_of (h.en y hy).1 hb (by intro z; cases z))]
        exact (h.en y hy).1
      · rw [upd_ne (fun z => e (by rw [h.byB hy hx z]))]
        exact (h.en y hy).2
  · unfold setBin
    rw [List.pairwise_map]
    refine h.nb.imp_of_mem fun {p q} hp hq r => ?_
    have e : ∀ z ∈ es, (if z.nm = x.nm then { z with b := x.b, bin := l } else z : En).b = z.b := fun z hz => by
      by_cases e : z.nm = x.nm
      · obtain rfl := h.byN hz hx e
        rw [if_pos rfl]
      · rw [if_neg e]
    rw [e p hp, e q hq]
    exact r
def sp_Shelf_damage (K : PySem.W.Frag) : Sp := fun vs H Q _ => ∃ s dxs d es x, ∃ (at_ : Nat) (n : Int), vs = [.ref s, .str x.nm, .int (at_ : Int), .int n] ∧ ShAt K H s dxs d es ∧ x ∈ es ∧ at_ ≤ x.bin.length ∧ x.bin.length ≤ 1000000 ∧
  ∀ H', ShAt K H' s dxs d (setBin es x.nm x.b (hurt x.bin at_ n)) → KeepL [x.b] H H' → Q .non H'
theorem sc_Shelf_damage : FnScope ["self", "name", "at", "number", "binary"] ["self", "name", "at", "number"] (defScope s_Shelf_damage) := C8.fnScope_by (by decide +kernel)
def t_Shelf_damage (K : PySem.W.Frag) : TS := (tSeq (tAsg (tFld K (tMeth (He.ga K "Shelf") "entry" (sp_Shelf_entry K) [] C8.E0 (tVar 0) (tCons (tVar 1) tNil)) "binary") (gName 4)) (tSeq (tIfS (tNot (tTest (tChain rLeI rLeI (tC (.int 0)) (tVar 2) (tCB (rLenSeq K) (tCons (tVar 4) tNil))))) tNever tNext) (tIfS (tTest (tOp rEq (tVar 2) (tCB (rLenSeq K) (tCons (tVar 4) tNil)))) (tDrop (tBM K "list" rAppend (tVar 4) (tCons (tVar 3) tNil))) (tAsg (tVar 3) (gSub (tVar 4) (tVar 2) rSetL)))))
theorem d_Shelf_damage {P : Program} {w : World} {K : PySem.W.Frag} {mg : Str → Option Value} {base : Heap} (T : Txt w K mg) (f : Addr) (cdv : Value) (A : Around) (outer : List Env) (s : Shared) (H : Hp) (E : XK) (hr : Room 1 (A.deeper (envOfC "Shelf.damage" (defScope s_Shelf_damage) s.heap.objs.size f cdv))) :
    PSs (Bx P w K mg base ["self", "name", "at", "number", "binary"] "Shelf.damage" s_Shelf_damage f cdv A outer s H E) (defBody s_Shelf_damage) (t_Shelf_damage K) :=
  (pss_cons (ps_set (i := 4) sc_Shelf_damage.nd rfl (by first | exact Or.inl rfl | exact Or.inr rfl) (pe_fld (C8.pe_mt (m_Shelf_entry T) hr (by decide) (pv 0) (pa_cons (pv 1) pa_nil)) rfl)) (pss_cons (ps_if (pt_not (pt_chain op_le op_le pe_int (pv 2) (pe_callB call_len_seq (by rfl) T.f_len boot_len (pa_cons (pv 4) pa_nil)))) (pss_one ps_never) pss_nil) (pss_one (ps_if (pt_cmpR op_eq (pv 2) (pe_callB call_len_seq (by rfl) T.f_len boot_len (pa_cons (pv 4) pa_nil)) (nomark _)) (pss_one (ps_expr (pe_bm PySem.F.plainAttrs_list PySem.F.slot_list_append PySem.F.type_list_append mt_append (pv 4) (pa_cons (pv 3) pa_nil)))) (pss_one (ps_asg (pv 3) (pg_sub (pv 4) (pv 2) set_list)))))))
theorem l_Shelf_damage {K : PySem.W.Frag} : ∀ vs H Q E, sp_Shelf_damage K vs H Q E → vs.length = ["self", "name", "at", "number"].length := by
  rintro vs H Q E ⟨_, _, _, _, _, _, _, rfl, _⟩
  rfl
theorem r_Shelf_damage {w : World} {K : PySem.W.Frag} {mg : Str → Option Value} (T : Txt w K mg) : ∀ vs H Q E, sp_Shelf_damage K vs H Q E → t_Shelf_damage K { nx := fun _ H' => Q .non H', rt := Q } (start ["self", "name", "at", "number", "binary"] vs) H := by
  rintro vs H Q E ⟨s, dxs, d, es, x, at_, n, rfl, h, hx, ha, hl, k⟩
  have hb := (h.en x hx).2
  refine ⟨_, rfl, s, dxs, _, rfl, h.ob, shNo_entry, _, rfl, s, dxs, d, es, x, rfl, h.toShW, hx, x.e, _, x.dx, _, _, rfl, (h.en x hx).1, T.c_Entry, T.n_Entry_binary, enF_binary, ?_⟩
  refine ⟨_, rfl, _, _, rfl, rfl, _, rfl, iteDT (by omega) ⟨_, rfl, x.b, _, rfl, .inl (SqL.of hb), _, _, rfl, rfl, _, rfl, ?_⟩⟩
  rw [List.length_map]
  refine iteNT (by omega) ?_
  refine ⟨_, rfl, _, rfl, x.b, _, rfl, .inl (SqL.of hb), rfl, _, rfl, ?_⟩
  rw [List.length_map]
  by_cases e : at_ = x.bin.length
  · refine ieT (by rw [e]) ⟨_, rfl, .inl ⟨rfl, _, SqL.of hb⟩, _, rfl, x.b, _, _, rfl, rfl, hb, line_lt (by rw [List.length_map]; omega), ?_⟩
    have e2 : hurt x.bin at_ n = x.bin ++ [n] := if_pos e
    rw [e2] at k
    rw [show x.bin.map V.int ++ [V.int n] = iL (x.bin ++ [n]) by simp]
    exact k _ (h.setL hx _) (KeepL.upd (by simp))
  · refine ieF (fun z => e (by omega)) ⟨_, rfl, _, rfl, _, rfl, x.b, _, _, at_, rfl, rfl, hb, ?_, ?_⟩
    · rw [List.length_map]
      unfold ixN
      rw [if_pos (by omega)]
      simp
      omega
    · have e2 : hurt x.bin at_ n = x.bin.set at_ n := if_neg e
      rw [e2] at k
      rw [show (x.bin.map V.int).set at_ (V.int n) = iL (x.bin.set at_ n) by simp [List.map_set]]
      exact k _ (h.setL hx _) (KeepL.upd (by simp))
theorem m_Shelf_damage {P : Program} {w : World} {K : PySem.W.Frag} {mg : Str → Option Value} {base : Heap} (T : Txt w K mg) : C8.Met P w K mg base 2 (He.ga K "Shelf") "damage" (sp_Shelf_damage K) [] := T.met 66 rfl T.c_Shelf T.m_Shelf_damage sc_Shelf_damage (fun _ _ _ _ _ _ us hl => match us, hl with | [_, _, _, _], _ => rfl) l_Shelf_damage (d_Shelf_damage T) (r_Shelf_damage T)
end Pl

set_option Elab.async false
set_option linter.all false
set_option maxRecDepth 100000
set_option maxHeartbeats 4000000
namespace Pl
open PySem PySem.Spec PyProof.Rows L2
/-! ### rung_text, due -/
def sp_rung_text (_ : PySem.W.Frag) : Sp := fun vs H Q _ => ∃ z v, vs = [.str z] ∧ (z, v) ∈ textsV ∧ Q v H
theorem sc_rung_text : FnScope ["name"] ["name"] (defScope s_rung_text) := C8.fnScope_by (by decide +kernel)
def t_rung_text (K : PySem.W.Frag) : TS := (tSeq (tIfS (tTest (tOp (rKdIn K true) (tVar 0) (tC (.ref (He.ga K "TEXTS"))))) tNever tNext) (tRet (tOp (rKdGet K) (tC (.ref (He.ga K "TEXTS"))) (tVar 0))))
theorem d_rung_text {P : Program} {w : World} {K : PySem.W.Frag} {mg : Str → Option Value} {base : Heap} (T : Txt w K mg) (f : Addr) (cdv : Value) (A : Around) (outer : List Env) (s : Shared) (H : Hp) (E : XK) (hr : Room 0 (A.deeper (envOfC "rung_text" (defScope s_rung_text) s.heap.objs.size f cdv))) :
    PSs (Bx P w K mg base ["name"] "rung_text" s_rung_text f cdv A outer s H E) (defBody s_rung_text) (t_rung_text K) :=
  (pss_cons (ps_if (pt_cmpR (op_notInKD T) (pv 0) (pe_glob rfl T.g_TEXTS rfl) (by rfl)) (pss_one ps_never) pss_nil) (pss_one (ps_ret (pe_getKD T (pe_glob rfl T.g_TEXTS rfl) (pv 0) (fun _ _ => rfl)))))
theorem l_rung_text {K : PySem.W.Frag} : ∀ vs H Q E, sp_rung_text K vs H Q E → vs.length = ["name"].length := by
  rintro vs H Q E ⟨_, _, rfl, _⟩
  rfl
theorem r_rung_text {w : World} {K : PySem.W.Frag} {mg : Str → Option Value} (T : Txt w K mg) : ∀ vs H Q E, sp_rung_text K vs H Q E → t_rung_text K { nx := fun _ H' => Q .non H', rt := Q } (start ["name"] vs) H := by
  rintro vs H Q E ⟨z, v, rfl, hm, k⟩
  exact ⟨_, rfl, rfl, z, v, rfl, hm, _, rfl, iteF ⟨_, rfl, rfl, z, v, rfl, hm, k⟩⟩
theorem c_rung_text {P : Program} {w : World} {K : PySem.W.Frag} {mg : Str → Option Value} {base : Heap} (T : Txt w K mg) : C8.Cal P w K mg base 1 "rung_text" (sp_rung_text K) [] := T.cal 16 rfl T.g_rung_text sc_rung_text (fun _ _ _ _ _ _ us hl => match us, hl with | [_], _ => rfl) l_rung_text (d_rung_text T) (r_rung_text T)
def dueOf (kind text : Str) : List Int := if kind = "turned" then trans (-1) (-1) (codesS text) else trans 200 1 (codesS text)
theorem strD (a b : Str) : decide (V.str a = V.str b) = decide (a = b) := by simp
theorem codes_nn (x : Str) : ∀ c ∈ codesS x, (0 : Int) ≤ c := by
  intro c hc
  obtain ⟨n, _, e⟩ := List.mem_map.mp hc
  subst e
  exact Int.natCast_nonneg n
def sp_due (_ : PySem.W.Frag) : Sp := fun vs H Q _ => ∃ kd tx, vs = [.str kd, .str tx] ∧ kindB kd = true ∧ goodS tx = true ∧ tx.cps.toList.length ≤ 5000 ∧ NewL H Q (iL (dueOf kd tx))
theorem sc_due : FnScope ["kind", "text", "codes"] ["kind", "text"] (defScope s_due) := C8.fnScope_by (by decide +kernel)
def t_due (K : PySem.W.Frag) : TS := (tSeq (tIfS (tTest (tOp (rIn K true) (tVar 0) (tC (.ref (He.ga K "KINDS"))))) tNever tNext) (tSeq (tAsg (tCall (sp_codes_of K) [] C8.E0 (tCons (tVar 1) tNil)) (gName 2)) (tSeq (tIfS (tTest (tOp rEq (tVar 0) (tC (.str (strE (top 33)))))) tNever tNext) (tSeq (tIfS (tTest (tOp rEq (tVar 0) (tC (.str (strE (top 34)))))) tNever tNext) (tSeq (tIfS (tTest (tOp rEq (tVar 0) (tC (.str (strE (top 35)))))) (tRet (tCall (sp_translate K) [.int 200, .int 1] C8.E0 (tCons (tVar 2) tNil))) tNext) (tRet (tCallN 1 2 (sp_translate K) gv_translate_first_by C8.E0 (tCons (tVar 2) tNil) (tCons (tUn rNegI (tC (.int 1))) (tCons (tUn rNegI (tC (.int 1))) tNil)))))))))
theorem d_due {P : Program} {w : World} {K : PySem.W.Frag} {mg : Str → Option Value} {base : Heap} (T : Txt w K mg) (f : Addr) (cdv : Value) (A : Around) (outer : List Env) (s : Shared) (H : Hp) (E : XK) (hr : Room 6 (A.deeper (envOfC "due" (defScope s_due) s.heap.objs.size f cdv))) :
    PSs (Bx P w K mg base ["kind", "text", "codes"] "due" s_due f cdv A outer s H E) (defBody s_due) (t_due K) :=
  (pss_cons (ps_if (pt_cmpR op_notIn_seq (pv 0) (pe_glob rfl T.g_KINDS rfl) (by rfl)) (pss_one ps_never) pss_nil) (pss_cons (ps_set (i := 2) sc_due.nd rfl (by first | exact Or.inl rfl | exact Or.inr rfl) (C8.pe_c (c_codes_of T) hr (by decide) (by rfl) (pa_cons (pv 1) pa_nil))) (pss_cons (ps_if (pt_cmpR op_eq (pv 0) (pe_gstr T.s_DIGITS rfl) (nomark _)) (pss_one ps_never) pss_nil) (pss_cons (ps_if (pt_cmpR op_eq (pv 0) (pe_gstr T.s_SHORT rfl) (nomark _)) (pss_one ps_never) pss_nil) (pss_cons (ps_if (pt_cmpR op_eq (pv 0) (pe_gstr T.s_PLAIN_audit rfl) (nomark _)) (pss_one (ps_ret (C8.pe_c (c_translateD T) hr (by decide) (by rfl) (pa_cons (pv 2) pa_nil)))) pss_nil) (pss_one (ps_ret (pe_cn (cn_translate_first_by T) hr (by decide) (by rfl) (pa_cons (pv 2) pa_nil) (pk_cons (pe_un un_neg pe_int) (pk_cons (pe_un un_neg pe_int) pk_nil))))))))))
theorem l_due {K : PySem.W.Frag} : ∀ vs H Q E, sp_due K vs H Q E → vs.length = ["kind", "text"].length := by
  rintro vs H Q E ⟨_, _, rfl, _⟩
  rfl
theorem k33 : strE (top 33) = "digits" := by kernel_rfl
theorem k34 : strE (top 34) = "short" := by kernel_rfl
theorem k35 : strE (top 35) = "plain" := by kernel_rfl
theorem r_due {w : World} {K : PySem.W.Frag} {mg : Str → Option Value} (T : Txt w K mg) : ∀ vs H Q E, sp_due K vs H Q E → t_due K { nx := fun _ H' => Q .non H', rt := Q } (start ["kind", "text", "codes"] vs) H := by
  rintro vs H Q E ⟨kd, tx, rfl, hk, ht, hl, k⟩
  refine ⟨_, rfl, _, _, rfl, .inr (T.kinds _), rfl, rfl, _, rfl, ?_⟩
  rw [kindB_in hk]
  refine iteF ⟨_, rfl, tx, rfl, ht, hl, fun p H1 s1 n1 e1 => ?_⟩
  have hcl : (codesS tx).length ≤ 5000 := by unfold codesS; rw [List.length_map]; exact hl
  unfold kindB at hk
  rcases Bool.or_eq_true_iff.mp hk with h | h
  · have e := of_decide_eq_true h
    subst e
    refine ⟨_, rfl, rfl, _, rfl, ?_⟩
    rw [strD, k33, show decide (("plain" : Str) = "digits") = false by kernel_rfl]
    refine iteF ⟨_, rfl, rfl, _, rfl, ?_⟩
    rw [strD, k34, show decide (("plain" : Str) = "short") = false by kernel_rfl]
    refine iteF ⟨_, rfl, rfl, _, rfl, ?_⟩
    rw [strD, k35, show decide (("plain" : Str) = "plain") = true by kernel_rfl]
    refine iteT ⟨_, rfl, p, 200, 1, codesS tx, rfl, SqL.of e1, hcl, codes_nn tx, fun q H2 s2 n2 e2 => k q H2 (s1.trans s2) (s1.free n2) ?_⟩
    rw [e2]
    unfold dueOf
    rw [if_neg (by decide +kernel)]
  · have e := of_decide_eq_true h
    subst e
    refine ⟨_, rfl, rfl, _, rfl, ?_⟩
    rw [strD, k33, show decide (("turned" : Str) = "digits") = false by kernel_rfl]
    refine iteF ⟨_, rfl, rfl, _, rfl, ?_⟩
    rw [strD, k34, show decide (("turned" : Str) = "short") = false by kernel_rfl]
    refine iteF ⟨_, rfl, rfl, _, rfl, ?_⟩
    rw [strD, k35, show decide (("turned" : Str) = "plain") = false by kernel_rfl]
    refine iteF ⟨_, rfl, _, rfl, _, rfl, rfl, rfl, p, -1, -1, codesS tx, rfl, SqL.of e1, hcl, codes_nn tx, fun q H2 s2 n2 e2 => k q H2 (s1.trans s2) (s1.free n2) ?_⟩
    rw [e2]
    unfold dueOf
    rw [if_pos rfl]
theorem c_due {P : Program} {w : World} {K : PySem.W.Frag} {mg : Str → Option Value} {base : Heap} (T : Txt w K mg) : C8.Cal P w K mg base 7 "due" (sp_due K) [] := T.cal 13 rfl T.g_due sc_due (fun _ _ _ _ _ _ us hl => match us, hl with | [_, _], _ => rfl) l_due (d_due T) (r_due T)
/-! ### first_difference -/
def fd : List Int → List Int → Nat → Option Nat
  | [], [], _ => none
  | [], _ :: _, n => some n
  | _ :: _, [], n => some n
  | x :: xs, y :: ys, n => if y = x then fd xs ys (n + 1) else some n
def optV : Option Nat → V
  | none => .non
  | some n => .int (n : Int)
theorem fd_go {xs ys : List Int} {i : Nat} (h1 : i < xs.length) (h2 : i < ys.length) (e : ys[i] = xs[i]) : fd (xs.drop i) (ys.drop i) i = fd (xs.drop (i + 1)) (ys.drop (i + 1)) (i + 1) := by
  rw [List.drop_eq_getElem_cons h1, List.drop_eq_getElem_cons h2]
  show (if ys[i] = xs[i] then _ else _) = _
  rw [if_pos e]
theorem fd_ne {xs ys : List Int} {i : Nat} (h1 : i < xs.length) (h2 : i < ys.length) (e : ys[i] ≠ xs[i]) : fd (xs.drop i) (ys.drop i) i = some i := by
  rw [List.drop_eq_getElem_cons h1, List.drop_eq_getElem_cons h2]
  show (if ys[i] = xs[i] then _ else _) = _
  rw [if_neg e]
theorem fd_short {xs ys : List Int} {i : Nat} (h1 : i < xs.length) (h2 : ys.length ≤ i) : fd (xs.drop i) (ys.drop i) i = some i := by
  rw [List.drop_eq_getElem_cons h1, List.drop_eq_nil_of_le h2]
  rfl
theorem fd_end {xs ys : List Int} : fd (xs.drop xs.length) (ys.drop xs.length) xs.length = if xs.length < ys.length then some xs.length else none := by
  rw [List.drop_eq_nil_of_le (Nat.le_refl _)]
  by_cases h : xs.length < ys.length
  · rw [if_pos h, List.drop_eq_getElem_cons h]
    rfl
  · rw [if_neg h, List.drop_eq_nil_of_le (by omega)]
    rfl
def sp_first_difference (_ : PySem.W.Frag) : Sp := fun vs H Q _ => ∃ a b xs ys, vs = [.ref a, .ref b] ∧ H a = some (.lst (iL xs)) ∧ H b = some (.lst (iL ys)) ∧ ∀ H', Same H H' → Q (optV (fd xs ys 0)) H'
theorem sc_first_difference : FnScope ["one", "other", "at", "number"] ["one", "other"] (defScope s_first_difference) := C8.fnScope_by (by decide +kernel)
def t_first_difference (K : PySem.W.Frag) : TS := (tSeq (tFor (iEnum K (tCons (tVar 0) tNil)) (gTup K 2 (gCons (gName 2) (gCons (gName 3) gNil))) (tIfS (tOr (tTest (tOp rGeI (tVar 2) (tCB (rLenSeq K) (tCons (tVar 1) tNil)))) (tTest (tOp rNe (tOp (rIxL K) (tVar 1) (tVar 2)) (tVar 3)))) (tRet (tVar 2)) tNext)) (tSeq (tIfS (tTest (tOp rGtI (tCB (rLenSeq K) (tCons (tVar 1) tNil)) (tCB (rLenSeq K) (tCons (tVar 0) tNil)))) (tRet (tCB (rLenSeq K) (tCons (tVar 0) tNil))) tNext) (tRet (tC .non))))
theorem d_first_difference {P : Program} {w : World} {K : PySem.W.Frag} {mg : Str → Option Value} {base : Heap} (T : Txt w K mg) (f : Addr) (cdv : Value) (A : Around) (outer : List Env) (s : Shared) (H : Hp) (E : XK) (hr : Room 0 (A.deeper (envOfC "first_difference" (defScope s_first_difference) s.heap.objs.size f cdv))) :
    PSs (Bx P w K mg base ["one", "other", "at", "number"] "first_difference" s_first_difference f cdv A outer s H E) (defBody s_first_difference) (t_first_difference K) :=
  (pss_cons (ps_for PassesOwn.never rfl (pi_enum (by rfl) T.f_enumerate (pa_cons (pv 0) pa_nil)) (pg_tup rfl (pgs_cons (pg_name (i := 2) sc_first_difference.nd rfl (by first | exact Or.inl rfl | exact Or.inr rfl)) (pgs_cons (pg_name (i := 3) sc_first_difference.nd rfl (by first | exact Or.inl rfl | exact Or.inr rfl)) pgs_nil))) (pss_one (ps_if (PW.pt (pw_or (pt_cmpR op_ge (pv 2) (pe_callB call_len_seq (by rfl) T.f_len boot_len (pa_cons (pv 1) pa_nil)) (nomark _)) (pw_or1 (pt_cmpR op_ne (pe_ix ix_list (pv 1) (pv 2) (fun _ _ => rfl)) (pv 3) (nomark _))))) (pss_one (ps_ret (pv 2))) pss_nil))) (pss_cons (ps_if (pt_cmpR op_gt (pe_callB call_len_seq (by rfl) T.f_len boot_len (pa_cons (pv 1) pa_nil)) (pe_callB call_len_seq (by rfl) T.f_len boot_len (pa_cons (pv 0) pa_nil)) (nomark _)) (pss_one (ps_ret (pe_callB call_len_seq (by rfl) T.f_len boot_len (pa_cons (pv 0) pa_nil)))) pss_nil) (pss_one (ps_ret pe_non))))
theorem l_first_difference {K : PySem.W.Frag} : ∀ vs H Q E, sp_first_difference K vs H Q E → vs.length = ["one", "other"].length := by
  rintro vs H Q E ⟨_, _, _, _, rfl, _⟩
  rfl
theorem r_first_difference {w : World} {K : PySem.W.Frag} {mg : Str → Option Value} (T : Txt w K mg) : ∀ vs H Q E, sp_first_difference K vs H Q E → t_first_difference K { nx := fun _ H' => Q .non H', rt := Q } (start ["one", "other", "at", "number"] vs) H := by
  rintro vs H Q E ⟨a, b, xs, ys, rfl, ha, hb, k⟩
  refine ⟨_, rfl, a, _, rfl, SqL.of ha, fun i m σ H' => m = xs.length - i ∧ i ≤ xs.length ∧ (∃ v2 v3, σ = [some (.ref a), some (.ref b), v2, v3]) ∧ Same H H' ∧ fd xs ys 0 = fd (xs.drop i) (ys.drop i) i, ⟨_, rfl, Nat.zero_le _, ⟨none, none, rfl⟩, Same.refl H, rfl⟩, ?_⟩
  rintro i m σ H1 ⟨rfl, hi, ⟨v2, v3, rfl⟩, s, e⟩
  have ha1 := s _ _ ha
  have hb1 := s _ _ hb
  by_cases hlt : i < xs.length
  · refine .inr ⟨⟨_, .int xs[i], SqL.of ha1, by rw [List.getElem?_map, List.getElem?_eq_getElem hlt]; rfl⟩, fun σ H' => (∃ v2 v3, σ = [some (.ref a), some (.ref b), v2, v3]) ∧ Same H H' ∧ fd xs ys 0 = fd (xs.drop (i + 1)) (ys.drop (i + 1)) (i + 1), fun σ' H' p => ⟨_, by omega, rfl, hlt, p⟩, ?_⟩
    rintro v H2 ⟨t, x, rfl, ht, rfl, hx⟩
    have ex : x = .int xs[i] := by
      have := hx _ (SqL.of ha1)
      rw [List.getElem?_map, List.getElem?_eq_getElem hlt] at this
      exact (Option.some.inj this).symm
    subst ex
    have s2 : Same H (upd H1 t (.tup [.int (i : Nat), .int xs[i]])) := s.trans (Same.new ht)
    have hb2 := s2 _ _ hb
    refine ⟨t, _, rfl, SqT.of upd_same, rfl, _, _, rfl, _, _, rfl, rfl, ?_⟩
    refine ⟨_, rfl, _, rfl, b, _, rfl, .inl (SqL.of hb2), _, _, rfl, rfl, _, rfl, ?_⟩
    rw [List.length_map]
    by_cases h2 : ys.length ≤ i
    · refine iteDT (by omega) (iteT ⟨_, rfl, ?_⟩)
      rw [e, fd_short hlt h2] at k
      exact k _ s2
    · have h2' : i < ys.length := by omega
      refine iteDF (by omega) ⟨_, rfl, _, rfl, b, _, (i : Int), .int ys[i], rfl, rfl, SqL.of hb2, atI_nat (by rw [List.getElem?_map, List.getElem?_eq_getElem h2']; rfl), _, rfl, rfl, _, rfl, ?_⟩
      rw [int_eq_dec]
      by_cases h3 : ys[i] = xs[i]
      · refine iteNT h3 ?_
        rw [fd_go hlt h2' h3] at e
        exact ⟨⟨_, _, rfl⟩, s2, e⟩
      · refine iteND h3 ⟨_, rfl, ?_⟩
        rw [e, fd_ne hlt h2' h3] at k
        exact k _ s2
  · have ei : i = xs.length := by omega
    subst ei
    refine .inl ⟨⟨_, SqL.of ha1, by rw [List.length_map]; exact Nat.le_refl _⟩, ?_⟩
    refine ⟨_, rfl, b, _, rfl, .inl (SqL.of hb1), _, rfl, a, _, rfl, .inl (SqL.of ha1), _, _, rfl, rfl, _, rfl, ?_⟩
    rw [List.length_map, List.length_map]
    rw [e, fd_end] at k
    by_cases h : xs.length < ys.length
    · refine iteDT (by omega) ⟨_, rfl, a, _, rfl, .inl (SqL.of ha1), ?_⟩
      rw [if_pos h] at k
      rw [List.length_map]
      exact k _ s
    · refine iteDF (by omega) ?_
      rw [if_neg h] at k
      exact k _ s
theorem c_first_difference {P : Program} {w : World} {K : PySem.W.Frag} {mg : Str → Option Value} {base : Heap} (T : Txt w K mg) : C8.Cal P w K mg base 1 "first_difference" (sp_first_difference K) [] := T.cal 14 rfl T.g_first_difference sc_first_difference (fun _ _ _ _ _ _ us hl => match us, hl with | [_, _], _ => rfl) l_first_difference (d_first_difference T) (r_first_difference T)
/-! ### audit -/
structure FoundAt (H : Hp) (q : Addr) (l : List (Str × Nat)) (rs : List Addr) : Prop where
  hq : H q = some (.lst (rs.map V.ref))
  hl : rs.length = l.length
  at_ : ∀ (i : Nat) (r : Addr) (p : Str × Nat), rs[i]? = some r → l[i]? = some p → H r = some (.tup [.str p.1, .int (p.2 : Int)])
theorem FoundAt.same {H H' : Hp} {q : Addr} {l : List (Str × Nat)} {rs : List Addr} (h : FoundAt H q l rs) (s : Same H H') : FoundAt H' q l rs := ⟨s _ _ h.hq, h.hl, fun i r p e1 e2 => s _ _ (h.at_ i r p e1 e2)⟩
/-- one more pair behind -/
theorem FoundAt.snoc {H : Hp} {q t : Addr} {l : List (Str × Nat)} {rs : List Addr} {p : Str × Nat} (h : FoundAt H q l rs) (ht : H t = none) : FoundAt (upd (upd H t (.tup [.str p.1, .int (p.2 : Int)])) q (.lst (rs.map V.ref ++ [.ref t]))) q (l ++ [p]) (rs ++ [t]) := by
  refine ⟨by rw [upd_same, List.map_append]; rfl, by rw [List.length_append, List.length_append, h.hl]; rfl, fun i r p' e1 e2 => ?_⟩
  by_cases hi : i < rs.length
  · rw [List.getElem?_append_left hi] at e1
    rw [List.getElem?_append_left (by rw [← h.hl]; exact hi)] at e2
    have h1 := h.at_ i r p' e1 e2
    rw [upd_ne (ne_of h1 h.hq (by intro z; cases z)), upd_ne (ne_of_none h1 ht)]
    exact h1
  · rw [List.getElem?_append_right (by omega)] at e1
    rw [List.getElem?_append_right (by rw [← h.hl]; omega)] at e2
    have hz : i - rs.length = 0 := by
      cases z : i - rs.length with
      | zero => rfl
      | succ z' => rw [z] at e1; simp at e1
    rw [hz] at e1
    rw [← h.hl, hz] at e2
    have e3 : t = r := by simpa using e1
    have e4 : p = p' := by simpa using e2
    subst e3 e4
    rw [upd_ne (ne_of_none h.hq ht).symm, upd_same]
def found1 (x : En) : Option (Str × Nat) := (fd x.bin (dueOf x.kind x.text) 0).map fun n => (x.nm, n)
def founds (es : List En) : List (Str × Nat) := es.filterMap found1
theorem founds_snoc {es : List En} {i : Nat} {x : En} (h : es[i]? = some x) : founds (es.take (i + 1)) = founds (es.take i) ++ (found1 x).toList := by
  rw [take_snoc h]
  unfold founds
  rw [List.filterMap_append]
  cases e : found1 x <;> simp [e]
theorem founds_len (es : List En) : (founds es).length ≤ es.length := List.length_filterMap_le ..
def goodE (x : En) : Prop := kindB x.kind = true ∧ goodS x.text = true ∧ x.text.cps.toList.length ≤ 5000
def sp_audit (K : PySem.W.Frag) : Sp := fun vs H Q _ => ∃ s dxs d es, vs = [.ref s] ∧ ShAt K H s dxs d es ∧ (∀ x ∈ es, goodE x) ∧ es.length ≤ 1000 ∧ ∀ q rs H', Same H H' → H q = none → FoundAt H' q (founds es) rs → Q (.ref q) H'
theorem sc_audit : FnScope ["shelf", "found", "name", "place"] ["shelf"] (defScope s_audit) := C8.fnScope_by (by decide +kernel)
def t_audit (K : PySem.W.Frag) : TS := (tSeq (tAsg (tLst tNil) (gName 1)) (tSeq (tFor (iList K (tMeth (He.ga K "Shelf") "names" (sp_Shelf_names K) [] C8.E0 (tVar 0) tNil)) (gName 2) (tSeq (tAsg (tCall (sp_first_difference K) [] C8.E0 (tCons (tMeth (He.ga K "Shelf") "binary" (sp_Shelf_binary K) [] C8.E0 (tVar 0) (tCons (tVar 2) tNil)) (tCons (tCall (sp_due K) [] C8.E0 (tCons (tMeth (He.ga K "Shelf") "kind" (sp_Shelf_kind K) [] C8.E0 (tVar 0) (tCons (tVar 2) tNil)) (tCons (tMeth (He.ga K "Shelf") "text" (sp_Shelf_text K) [] C8.E0 (tVar 0) (tCons (tVar 2) tNil)) tNil))) tNil))) (gName 3)) (tIfS (tTest (tOp rNotN (tVar 3) (tC .non))) (tDrop (tBM K "list" rAppend (tVar 1) (tCons (tTup (tCons (tVar 2) (tCons (tVar 3) tNil))) tNil))) tNext))) (tRet (tVar 1))))
theorem d_audit {P : Program} {w : World} {K : PySem.W.Frag} {mg : Str → Option Value} {base : Heap} (T : Txt w K mg) (f : Addr) (cdv : Value) (A : Around) (outer : List Env) (s : Shared) (H : Hp) (E : XK) (hr : Room 7 (A.deeper (envOfC "audit" (defScope s_audit) s.heap.objs.size f cdv))) :
    PSs (Bx P w K mg base ["shelf", "found", "name", "place"] "audit" s_audit f cdv A outer s H E) (defBody s_audit) (t_audit K) :=
  (pss_cons (ps_set (i := 1) sc_audit.nd rfl (by first | exact Or.inl rfl | exact Or.inr rfl) (pe_lst pa_nil)) (pss_cons (ps_for PassesOwn.never rfl (pi_list (C8.pe_mt0 (m_Shelf_names T) hr (by decide) (pv 0))) (pg_name (i := 2) sc_audit.nd rfl (by first | exact Or.inl rfl | exact Or.inr rfl)) (pss_cons (ps_set (i := 3) sc_audit.nd rfl (by first | exact Or.inl rfl | exact Or.inr rfl) (C8.pe_c (c_first_difference T) hr (by decide) (by rfl) (pa_cons (C8.pe_mt (m_Shelf_binary T) hr (by decide) (pv 0) (pa_cons (pv 2) pa_nil)) (pa_cons (C8.pe_c (c_due T) hr (by decide) (by rfl) (pa_cons (C8.pe_mt (m_Shelf_kind T) hr (by decide) (pv 0) (pa_cons (pv 2) pa_nil)) (pa_cons (C8.pe_mt (m_Shelf_text T) hr (by decide) (pv 0) (pa_cons (pv 2) pa_nil)) pa_nil))) pa_nil)))) (pss_one (ps_if (pt_cmpR op_notN1 (pv 3) pe_non (nomark _)) (pss_one (ps_expr (pe_bm PySem.F.plainAttrs_list PySem.F.slot_list_append PySem.F.type_list_append mt_append (pv 1) (pa_cons (pe_tup (pa_cons (pv 2) (pa_cons (pv 3) pa_nil))) pa_nil)))) pss_nil)))) (pss_one (ps_ret (pv 1)))))
theorem l_audit {K : PySem.W.Frag} : ∀ vs H Q E, sp_audit K vs H Q E → vs.length = ["shelf"].length := by
  rintro vs H Q E ⟨_, _, _, _, rfl, _⟩
  rfl
theorem r_audit {w : World} {K : PySem.W.Frag} {mg : Str → Option Value} (T : Txt w K mg) : ∀ vs H Q E, sp_audit K vs H Q E → t_audit K { nx := fun _ H' => Q .non H', rt := Q } (start ["shelf", "found", "name", "place"] vs) H := by
  rintro vs H Q E ⟨s, dxs, d, es, rfl, h, hg, hes, k⟩
  refine ⟨Nat.zero_le _, fun q hq => ?_⟩
  have h0 := h.same (Same.new (o := .lst []) hq)
  refine ⟨_, rfl, s, dxs, _, rfl, h0.ob, shNo_names, s, dxs, d, es, rfl, h0.toShW, fun nl H1 s1 n1 e1 => ⟨nl, rfl, ⟨_, SqL.of e1⟩, ?_⟩⟩
  have s01 : Same H H1 := (Same.new hq).trans s1
  have q1 : H1 q = some (.lst []) := s1 _ _ upd_same
  have nq : nl ≠ q := by
    intro z
    rw [z, upd_same] at n1
    cases n1
  refine for_list (K := K) (a := nl) (xs := es.map fun x => V.str x.nm) (fun i σ H' => (∃ v2 v3, σ = [some (.ref s), some (.ref q), v2, v3]) ∧ Same H H' ∧ H' nl = some (.lst (es.map fun x => V.str x.nm)) ∧ ∃ rs, FoundAt H' q (founds (es.take i)) rs) ⟨⟨none, none, rfl⟩, s01, e1, [], q1, rfl, fun i r p e => by simp at e⟩ (fun i σ H' _ p => SqL.of p.2.2.1) ?_ ?_
  · rintro i v σ H2 hv ⟨⟨v2, v3, rfl⟩, s2, hn, rs, hf⟩
    rw [List.getElem?_map] at hv
    cases ex : es[i]? with
    | none => rw [ex] at hv; cases hv
    | some x =>
      rw [ex] at hv
      have ev : v = .str x.nm := (Option.some.inj hv).symm
      subst ev
      have hx : x ∈ es := List.mem_of_getElem? ex
      have h2 := h.same s2
      obtain ⟨g1, g2, g3⟩ := hg x hx
      refine ⟨_, rfl, s, dxs, _, rfl, h2.ob, shNo_binary, _, rfl, s, dxs, d, es, x, rfl, h2.toShW, hx, fun p1 H3 s3 n3 e3 => ?_⟩
      have h3 := h2.same s3
      refine ⟨_, rfl, s, dxs, _, rfl, h3.ob, shNo_kind, _, rfl, s, dxs, d, es, x, rfl, h3.toShW, hx, ?_⟩
      refine ⟨_, rfl, s, dxs, _, rfl, h3.ob, shNo_text, _, rfl, s, dxs, d, es, x, rfl, h3.toShW, hx, ?_⟩
      refine ⟨x.kind, x.text, rfl, g1, g2, g3, fun p2 H4 s4 n4 e4 => ?_⟩
      refine ⟨p1, p2, x.bin, _, rfl, s4 _ _ e3, e4, fun H5 s5 => ?_⟩
      have s25 : Same H2 H5 := s3.trans (s4.trans s5)
      have s5' : Same H H5 := s2.trans s25
      have hf5 := hf.same s25
      refine ⟨_, rfl, rfl, _, rfl, ?_⟩
      rw [founds_snoc ex]
      unfold found1
      cases e : fd x.bin (dueOf x.kind x.text) 0 with
      | none =>
        refine iteNT rfl ⟨⟨_, _, rfl⟩, s5', s25 _ _ hn, rs, ?_⟩
        simpa using hf5
      | some n =>
        refine iteND (by intro z; cases z) ⟨_, rfl, .inl ⟨rfl, _, SqL.of hf5.hq⟩, _, rfl, _, rfl, by show 2 ≤ sizeLine; decide, fun t ht => ?_⟩
        refine ⟨q, _, _, rfl, rfl, by rw [upd_ne (ne_of_none hf5.hq ht)]; exact hf5.hq, line_lt ?_, ⟨_, _, rfl⟩, ?_, ?_, rs ++ [t], ?_⟩
        · rw [List.length_map, hf5.hl]
          have := founds_len (es.take i)
          rw [List.length_take] at this
          omega
        · exact ((Same.keepL s5' (l := [q])).trans ((KeepL.new ht).trans (KeepL.upd (by simp)))).same (Same.refl H) (by simpa using hq)
        · have en := s25 _ _ hn
          rw [upd_ne nq, upd_ne (ne_of_none en ht)]
          exact en
        · exact hf5.snoc (p := (x.nm, n)) ht
  · rintro σ H2 ⟨⟨v2, v3, rfl⟩, s2, hn, rs, hf⟩
    rw [List.length_map, List.take_length] at hf
    exact ⟨_, rfl, k q rs H2 s2 hq hf⟩
theorem c_audit {P : Program} {w : World} {K : PySem.W.Frag} {mg : Str → Option Value} {base : Heap} (T : Txt w K mg) : C8.Cal P w K mg base 8 "audit" (sp_audit K) [] := T.cal 15 rfl T.g_audit sc_audit (fun _ _ _ _ _ _ us hl => match us, hl with | [_], _ => rfl) l_audit (d_audit T) (r_audit T)
end Pl

set_option Elab.async false
set_option linter.all false
set_option maxRecDepth 100000
set_option maxHeartbeats 4000000
namespace Pl
open PySem PySem.Spec PyProof.Rows L2
/-! ### == of lists of ints -/
def dI (xs : List Int) : PyData := .list (xs.map PyData.int)
theorem dpI {K : PySem.W.Frag} {H : Hp} : ∀ xs : List Int, DpAll K H (iL xs) (xs.map PyData.int)
  | [] => .nil
  | x :: r => .cons (.int x) (dpI r)
theorem dpL {K : PySem.W.Frag} {H : Hp} {a : Addr} {xs : List Int} (h : H a = some (.lst (iL xs))) : Dp K H (.ref a) (dI xs) := .lst (SqL.of h) (dpI xs)
theorem eqvI : ∀ xs ys : List Int, PyData.eqvAll (xs.map PyData.int) (ys.map PyData.int) = decide (xs = ys)
  | [], [] => rfl
  | [], _ :: _ => rfl
  | _ :: _, [] => rfl
  | x :: xs, y :: ys => by
    show ((x == y) && PyData.eqvAll (xs.map PyData.int) (ys.map PyData.int)) = _
    rw [eqvI xs ys]
    by_cases h1 : x = y
    · by_cases h2 : xs = ys
      · simp [h1, h2]
      · simp [h1, h2]
    · simp [h1]
theorem eqvD (xs ys : List Int) : PyData.eqv (dI xs) (dI ys) = decide (xs = ys) := eqvI xs ys
theorem layI : ∀ xs : List Int, PyData.canLayAll0 (xs.map PyData.int) = true
  | [] => by simp [PyData.canLayAll0]
  | z :: zs => by simp [PyData.canLayAll0, PyData.canLay0, layI zs]
theorem depI : ∀ xs : List Int, PyData.depthAll (xs.map PyData.int) ≤ 2
  | [] => by simp [PyData.depthAll]
  | z :: zs => by
    have h1 := depI zs
    have h2 : PyData.depth (.int z) ≤ 2 := by simp [PyData.depth]
    simp only [List.map_cons, PyData.depthAll]
    omega
theorem shI (xs : List Int) : SeqAt.shaped (dI xs) = true := by
  have h1 := depI xs
  have h2 : PyData.depth (dI xs) ≤ 64 := by
    simp only [dI, PyData.depth]
    omega
  show (PyData.canLay0 (dI xs) && decide (PyData.depth (dI xs) ≤ 64)) = true
  rw [Bool.and_eq_true]
  exact ⟨by simp only [dI, PyData.canLay0]; exact layI xs, decide_eq_true h2⟩
/-! ### lists of nodes -/
abbrev tupO (p : Int × Node) : HO := .tup [.int p.1, .int p.2.1, .int p.2.2.1, .int p.2.2.2]
def NdL (H : Hp) : List Addr → List (Int × Node) → Prop
  | [], [] => True
  | r :: rs, p :: ns => H r = some (tupO p) ∧ NdL H rs ns
  | _, _ => False
theorem NdL.same {H H' : Hp} (s : Same H H') : ∀ {rs : List Addr} {ns : List (Int × Node)}, NdL H rs ns → NdL H' rs ns
  | [], [], _ => trivial
  | _ :: _, _ :: _, h => ⟨s _ _ h.1, NdL.same s h.2⟩
theorem NdL.upd {H : Hp} {q : Addr} {xs : List V} {o : HO} (hq : H q = some (.lst xs)) : ∀ {rs : List Addr} {ns : List (Int × Node)}, NdL H rs ns → NdL (L2.upd H q o) rs ns
  | [], [], _ => trivial
  | _ :: _, _ :: _, h => ⟨by rw [upd_ne (ne_of h.1 hq (by intro z; cases z))]; exact h.1, NdL.upd hq h.2⟩
theorem NdL.len {H : Hp} : ∀ {rs : List Addr} {ns : List (Int × Node)}, NdL H rs ns → rs.length = ns.length
  | [], [], _ => rfl
  | _ :: _, _ :: _, h => congrArg Nat.succ (NdL.len h.2)
theorem NdL.app {H : Hp} {rs' : List Addr} {ns' : List (Int × Node)} (h' : NdL H rs' ns') : ∀ {rs : List Addr} {ns : List (Int × Node)}, NdL H rs ns → NdL H (rs ++ rs') (ns ++ ns')
  | [], [], _ => h'
  | _ :: _, _ :: _, h => ⟨h.1, NdL.app h' h.2⟩
theorem NdL.at_ {H : Hp} : ∀ {rs : List Addr} {ns : List (Int × Node)}, NdL H rs ns → ∀ {i : Nat} {r : Addr}, rs[i]? = some r → ∃ p, ns[i]? = some p ∧ H r = some (tupO p)
  | r :: rs, p :: ns, h, 0, _, e => ⟨p, rfl, by rw [← show r = _ from Option.some.inj e]; exact h.1⟩
  | r :: rs, p :: ns, h, i + 1, _, e => NdL.at_ h.2 (i := i) e
  | [], [], _, i, r, e => by simp at e
theorem cell4_flat : ∀ {ns : List (Int × Node)} {i : Nat} {p : Int × Node}, ns[i]? = some p → cell4 (flatN ns) i = [p.1, p.2.1, p.2.2.1, p.2.2.2]
  | (a, b, c, d) :: ns, 0, p, e => by
    have : (a, b, c, d) = p := Option.some.inj e
    subst this
    rfl
  | (a, b, c, d) :: ns, i + 1, p, e => by
    have h := cell4_flat (ns := ns) (i := i) (p := p) e
    unfold cell4 at h ⊢
    rw [show 4 * (i + 1) = 4 * i + 1 + 1 + 1 + 1 by omega]
    exact h
  | [], i, p, e => by simp at e
structure NdAt (H : Hp) (q : Addr) (ns : List (Int × Node)) (rs : List Addr) : Prop where
  hq : H q = some (.lst (rs.map V.ref))
  nd : NdL H rs ns
theorem NdAt.nodes {H : Hp} {q : Addr} {ns : List (Int × Node)} {rs : List Addr} (h : NdAt H q ns rs) : NodesAt H q (flatN ns) ((flatN ns).length / 4) rs := by
  refine ⟨h.hq, by rw [flatN_len, h.nd.len]; omega, fun i r e => ?_⟩
  obtain ⟨p, e1, e2⟩ := h.nd.at_ e
  rw [e2, cell4_flat e1]
  rfl
def GNd (ns : List (Int × Node)) (H : Hp) (R : List V → Hp → Prop) : Prop := ∀ rs H', Same H H' → NdL H' rs ns → R (rs.map V.ref) H'
theorem GNd.cons {p : Int × Node} {ns : List (Int × Node)} {H : Hp} {R : List V → Hp → Prop} {t : Addr} (g : GNd (p :: ns) H R) (h : H t = none) : GNd ns (L2.upd H t (tupO p)) fun vs H' => R (.ref t :: vs) H' :=
  fun rs H' s n => g (t :: rs) H' ((Same.new h).trans s) ⟨s _ _ upd_same, n⟩
def NewN (H : Hp) (Q : VK) (ns : List (Int × Node)) : Prop := ∀ q rs H', Same H H' → H q = none → NdAt H' q ns rs → Q (.ref q) H'
theorem NewN.g {H : Hp} {Q : VK} {ns : List (Int × Node)} (k : NewN H Q ns) (hl : ns.length ≤ 1000) : GNd ns H fun xs H1 => xs.length ≤ sizeLine ∧ ∀ q, H1 q = none → Q (.ref q) (L2.upd H1 q (.lst xs)) :=
  fun rs H' s n => ⟨line_of (by rw [List.length_map, n.len]; omega), fun q hq => k q rs _ (s.trans (Same.new hq)) (s.free hq) ⟨upd_same, n.same (Same.new hq)⟩⟩
theorem extN {H : Hp} {Q : VK} {q : Addr} {ns ns' : List (Int × Node)} {rs : List Addr} (h : NdAt H q ns rs) (h1 : ns.length ≤ 100000) (h2 : ns'.length ≤ 1000) (k : ∀ rs2 H2, NdAt H2 q (ns ++ ns') rs2 → KeepL [q] H H2 → Q .non H2) : NewN H (fun x H1 => rExtend (.ref q) [x] H1 Q) ns' := by
  intro l rs' H1 s hl n
  have hq := s _ _ h.hq
  refine ⟨q, l, _, _, rfl, rfl, hq, n.hq, line_of (by rw [List.length_map, List.length_map, h.nd.len, n.nd.len]; omega), ?_⟩
  rw [← List.map_append]
  exact k (rs ++ rs') _ ⟨upd_same, (NdL.upd hq (n.nd.app (h.nd.same s)))⟩ ((Same.keepL s).trans (KeepL.upd (by simp)))
theorem extSeq {K : PySem.W.Frag} {H : Hp} {σ : L2.St} {j : Nat} {q : Addr} {ns ns' : List (Int × Node)} {rs : List Addr} {te : TE} {S : TS} {D : L2.Ends} (hs : σ[j]? = some (some (.ref q))) (h : NdAt H q ns rs) (h1 : ns.length ≤ 100000) (h2 : ns'.length ≤ 1000) (ht : ∀ R : VK, NewN H R ns' → te σ H R) (k : ∀ rs2 H2, NdAt H2 q (ns ++ ns') rs2 → KeepL [q] H H2 → S D σ H2) :
    tSeq (tDrop (tBM K "list" rExtend (tVar j) (tCons te tNil))) S D σ H := ⟨_, hs, .inl ⟨rfl, _, SqL.of h.hq⟩, ht (fun x H1 => rExtend (.ref q) [x] H1 fun _ H2 => S D σ H2) (extN (Q := fun _ H2 => S D σ H2) h h1 h2 k)⟩
/-! ### is_trap, is_plantable -/
structure TrapOk (l e : List Int) : Prop where
  l1 : 1 ≤ l.length ∧ l.length ≤ 12
  lc : ∀ c ∈ l, 0 ≤ c ∧ c ≤ 126
  el : e.length ≤ 24 ∧ e.length % 4 = 0
def sp_is_trap (_ : PySem.W.Frag) : Sp := fun vs H Q _ => ∃ a b l e, vs = [.ref a, .ref b] ∧ H a = some (.lst (iL l)) ∧ H b = some (.lst (iL e)) ∧ TrapOk l e ∧ ∀ H', Same H H' → Q (.bl true) H'
theorem sc_is_trap : FnScope ["lure", "extra", "code"] ["lure", "extra"] (defScope s_is_trap) := C8.fnScope_by (by decide +kernel)
def t_is_trap (K : PySem.W.Frag) : TS := (tSeq (tIfS (tNot (tTest (tChain rLeI rLeI (tC (.int 1)) (tCB (rLenSeq K) (tCons (tVar 0) tNil)) (tC (.int 12))))) (tRet (tC (.bl false))) tNext) (tSeq (tIfS (tB (tCB (rAny K) (tCons (tLc (iList K (tVar 0)) (gName 2) tYes (tNotV (tChain rLeI rLeI (tC (.int 0)) (tVar 2) (tC (.int 126)))) [2]) tNil))) (tRet (tC (.bl false))) tNext) (tRet (tAndV (tOp rLeI (tCB (rLenSeq K) (tCons (tVar 1) tNil)) (tC (.int 24))) (tOp rEq (tOp rModI (tCB (rLenSeq K) (tCons (tVar 1) tNil)) (tC (.int 4))) (tC (.int 0)))))))
theorem d_is_trap {P : Program} {w : World} {K : PySem.W.Frag} {mg : Str → Option Value} {base : Heap} (T : Txt w K mg) (f : Addr) (cdv : Value) (A : Around) (outer : List Env) (s : Shared) (H : Hp) (E : XK) (hr : Room 0 (A.deeper (envOfC "is_trap" (defScope s_is_trap) s.heap.objs.size f cdv))) :
    PSs (Bx P w K mg base ["lure", "extra", "code"] "is_trap" s_is_trap f cdv A outer s H E) (defBody s_is_trap) (t_is_trap K) :=
  (pss_cons (ps_if (pt_not (pt_chain op_le op_le pe_int (pe_callB call_len_seq (by rfl) T.f_len boot_len (pa_cons (pv 0) pa_nil)) (pe_gint T.i_MOST_LURE rfl))) (pss_one (ps_ret pe_bl)) pss_nil) (pss_cons (ps_if (pt_val (pe_callB (cr_any rfl) (by rfl) T.f_any boot_any (pa_cons (pe_lc (own := [("code", 2)]) (g := gName 2) (tt := tYes) rfl sc_is_trap.nd (pi_list (pv 0)) (blkOk_by (own := [("code", 2)]) (N := ["lure", "extra", "code"]) (sc := defScope s_is_trap) (by decide +kernel)) (fun _ _ _ _ _ => pg_name (i := 2) sc_is_trap.nd rfl (Or.inl rfl)) (fun _ _ _ _ _ => pts_nil) (fun _ _ _ _ _ => (pe_not (pe_chain op_le op_le pe_int (pv 2) pe_int)))) pa_nil))) (pss_one (ps_ret pe_bl)) pss_nil) (pss_one (ps_ret (pe_and (pe_cmpR op_le (pe_callB call_len_seq (by rfl) T.f_len boot_len (pa_cons (pv 1) pa_nil)) (pe_gint T.i_MOST_EXTRA rfl) (nomark _)) (pe_one (pe_cmpR op_eq (pe_op op_mod (pe_callB call_len_seq (by rfl) T.f_len boot_len (pa_cons (pv 1) pa_nil)) pe_int) pe_int (nomark _))))))))
theorem l_is_trap {K : PySem.W.Frag} : ∀ vs H Q E, sp_is_trap K vs H Q E → vs.length = ["lure", "extra"].length := by
  rintro vs H Q E ⟨_, _, _, _, rfl, _⟩
  rfl
theorem r_is_trap {w : World} {K : PySem.W.Frag} {mg : Str → Option Value} (T : Txt w K mg) : ∀ vs H Q E, sp_is_trap K vs H Q E → t_is_trap K { nx := fun _ H' => Q .non H', rt := Q } (start ["lure", "extra", "code"] vs) H := by
  rintro vs H Q E ⟨a, b, l, e, rfl, ha, hb, ok, k⟩
  have hl := ok.l1
  have he := ok.el
  refine ⟨_, rfl, a, _, rfl, .inl (SqL.of ha), _, _, rfl, rfl, _, rfl, ?_⟩
  rw [List.length_map]
  refine iteDT (by omega) ⟨_, _, rfl, rfl, _, rfl, iteNT (by omega) ?_⟩
  refine ⟨_, rfl, a, rfl, ⟨_, SqL.of ha⟩, fun D hD => ?_⟩
  refine lc_list (K := K) (a := a) (xs := iL l) (fun i H' => Same H H' ∧ H' D = some (.lst ((List.replicate i false).map V.bl))) ⟨Same.new hD, upd_same⟩ (fun i H' _ p => SqL.of (p.1 _ _ ha)) ?_ ?_
  · intro i x H' hx p
    obtain ⟨c, rfl, hc⟩ := getV hx
    have gc := ok.lc c (List.mem_of_getElem? hc)
    refine ⟨rfl, lcYes ?_⟩
    refine ⟨_, rfl, _, _, rfl, rfl, _, rfl, iteDT gc.1 ⟨_, _, rfl, rfl, _, rfl, _, p.2, line_lt ?_, ?_, ?_⟩⟩
    · have := (List.getElem?_eq_some_iff.mp hc).1
      simp
      omega
    · exact ((Same.keepL p.1 (l := [D])).trans (KeepL.upd (by simp))).same (Same.refl H) (by simpa using hD)
    · rw [upd_same, decide_eq_true gc.2, List.replicate_succ', List.map_append]
      rfl
  · rintro H' ⟨s, h⟩
    refine ⟨D, _, rfl, SqL.of h, _, rfl, ?_⟩
    rw [show (List.replicate (iL l).length false).any id = false by simp]
    have hb' := s _ _ hb
    refine iteF ⟨_, rfl, b, _, rfl, .inl (SqL.of hb'), _, _, rfl, rfl, _, rfl, ?_⟩
    rw [List.length_map]
    refine iteDT (by omega) ⟨_, rfl, b, _, rfl, .inl (SqL.of hb'), _, _, rfl, rfl, by show (0 : Int) < 4; decide, rfl, ?_⟩
    rw [List.length_map, int_eq_dec, decide_eq_true (show ((e.length : Int)) % 4 = 0 by omega)]
    exact k H' s
theorem c_is_trap {P : Program} {w : World} {K : PySem.W.Frag} {mg : Str → Option Value} {base : Heap} (T : Txt w K mg) : C8.Cal P w K mg base 1 "is_trap" (sp_is_trap K) [] := T.cal 46 rfl T.g_is_trap sc_is_trap (fun _ _ _ _ _ _ us hl => match us, hl with | [_, _], _ => rfl) l_is_trap (d_is_trap T) (r_is_trap T)
def plN : List Int → Bool
  | n :: o :: _ :: _ :: r => !decide (n = 0) && (decide (n < 1000000) && (!decide (o = 38) && plN r))
  | _ => true
structure Plantable (img : List Int) : Prop where
  l4 : 4 ≤ img.length ∧ img.length % 4 = 0 ∧ img.length ≤ 1000000
  t3 : img.take 3 = [0, 32, 0]
  nd : plN (img.drop 4) = true
theorem plN_at : ∀ {img : List Int} {i : Nat} {n o a s : Int}, plN img = true → i < img.length / 4 → cell4 img i = [n, o, a, s] → n ≠ 0 ∧ n < 1000000 ∧ o ≠ 38
  | x :: y :: z :: u :: r, 0, n, o, a, s, h, _, e => by
    have e' : [x, y, z, u] = [n, o, a, s] := e
    injection e' with e1 e2
    injection e2 with e2 e3
    subst e1 e2
    unfold plN at h
    simp only [Bool.and_eq_true, Bool.not_eq_true', decide_eq_false_iff_not, decide_eq_true_eq] at h
    exact ⟨h.1, h.2.1, h.2.2.1⟩
  | x :: y :: z :: u :: r, i + 1, n, o, a, s, h, hi, e => by
    unfold plN at h
    simp only [Bool.and_eq_true, Bool.not_eq_true', decide_eq_false_iff_not, decide_eq_true_eq] at h
    refine plN_at (img := r) (i := i) (a := a) (s := s) h.2.2.2 (by simp only [List.length_cons] at hi; omega) ?_
    unfold cell4 at e ⊢
    rw [show 4 * (i + 1) = 4 * i + 1 + 1 + 1 + 1 by omega] at e
    exact e
  | [], i, n, o, a, s, _, hi, _ => by simp at hi
  | [_], i, n, o, a, s, _, hi, _ => by simp at hi
  | [_, _], i, n, o, a, s, _, hi, _ => by simp at hi
  | [_, _, _], i, n, o, a, s, _, hi, _ => by simp at hi
def sp_is_plantable (_ : PySem.W.Frag) : Sp := fun vs H Q _ => ∃ a img, vs = [.ref a] ∧ H a = some (.lst (iL img)) ∧ Plantable img ∧ ∀ H', Same H H' → Q (.bl true) H'
theorem sc_is_plantable : FnScope ["image", "number", "operation", "_"] ["image"] (defScope s_is_plantable) := C8.fnScope_by (by decide +kernel)
def t_is_plantable (K : PySem.W.Frag) : TS := (tSeq (tIfS (tOr (tTest (tOp rLtI (tCB (rLenSeq K) (tCons (tVar 0) tNil)) (tC (.int 4)))) (tOr (tTest (tOp rNe (tOp rModI (tCB (rLenSeq K) (tCons (tVar 0) tNil)) (tC (.int 4))) (tC (.int 0)))) (tTest (tOp (rNeD K) (tSl (rSlL K) (tVar 0) tNoPart (tPart (tC (.int 3)))) (tLst (tCons (tC (.int 0)) (tCons (tC (.int 32)) (tCons (tC (.int 0)) tNil)))))))) (tRet (tC (.bl false))) tNext) (tSeq (tFor (iList K (tCall (sp_nodes_of K) [] C8.E0 (tCons (tSl (rSlL K) (tVar 0) (tPart (tC (.int 4))) tNoPart) tNil))) (gTup K 4 (gCons (gName 1) (gCons (gName 2) (gCons (gName 3) (gCons (gName 3) gNil))))) (tIfS (tOr (tTest (tOp rEq (tVar 1) (tC (.int 0)))) (tOr (tTest (tOp rGeI (tVar 1) (tC (.int 1000000)))) (tTest (tOp rEq (tVar 2) (tC (.int 38)))))) (tRet (tC (.bl false))) tNext)) (tRet (tC (.bl true)))))
theorem d_is_plantable {P : Program} {w : World} {K : PySem.W.Frag} {mg : Str → Option Value} {base : Heap} (T : Txt w K mg) (f : Addr) (cdv : Value) (A : Around) (outer : List Env) (s : Shared) (H : Hp) (E : XK) (hr : Room 1 (A.deeper (envOfC "is_plantable" (defScope s_is_plantable) s.heap.objs.size f cdv))) :
    PSs (Bx P w K mg base ["image", "number", "operation", "_"] "is_plantable" s_is_plantable f cdv A outer s H E) (defBody s_is_plantable) (t_is_plantable K) :=
  (pss_cons (ps_if (PW.pt (pw_or (pt_cmpR op_lt (pe_callB call_len_seq (by rfl) T.f_len boot_len (pa_cons (pv 0) pa_nil)) pe_int (nomark _)) (pw_or (pt_cmpR op_ne (pe_op op_mod (pe_callB call_len_seq (by rfl) T.f_len boot_len (pa_cons (pv 0) pa_nil)) pe_int) pe_int (nomark _)) (pw_or1 (pt_cmpR (op_neD hr.units) (pe_slice sl_list (pv 0) po_none (po_some pe_int)) (pe_lst (pa_cons pe_int (pa_cons pe_int (pa_cons pe_int pa_nil)))) (nomark _)))))) (pss_one (ps_ret pe_bl)) pss_nil) (pss_cons (ps_for PassesOwn.never rfl (pi_list (C8.pe_c (c_nodes_of T) hr (by decide) (by rfl) (pa_cons (pe_slice sl_list (pv 0) (po_some pe_int) po_none) pa_nil))) (pg_tup rfl (pgs_cons (pg_name (i := 1) sc_is_plantable.nd rfl (by first | exact Or.inl rfl | exact Or.inr rfl)) (pgs_cons (pg_name (i := 2) sc_is_plantable.nd rfl (by first | exact Or.inl rfl | exact Or.inr rfl)) (pgs_cons (pg_name (i := 3) sc_is_plantable.nd rfl (by first | exact Or.inl rfl | exact Or.inr rfl)) (pgs_cons (pg_name (i := 3) sc_is_plantable.nd rfl (by first | exact Or.inl rfl | exact Or.inr rfl)) pgs_nil))))) (pss_one (ps_if (PW.pt (pw_or (pt_cmpR op_eq (pv 1) pe_int (nomark _)) (pw_or (pt_cmpR op_ge (pv 1) (pe_gint T.i_BASE rfl) (nomark _)) (pw_or1 (pt_cmpR op_eq (pv 2) (pe_gint T.i_CELL rfl) (nomark _)))))) (pss_one (ps_ret pe_bl)) pss_nil))) (pss_one (ps_ret pe_bl))))
theorem l_is_plantable {K : PySem.W.Frag} : ∀ vs H Q E, sp_is_plantable K vs H Q E → vs.length = ["image"].length := by
  rintro vs H Q E ⟨_, _, rfl, _⟩
  rfl
theorem r_is_plantable {w : World} {K : PySem.W.Frag} {mg : Str → Option Value} (T : Txt w K mg) : ∀ vs H Q E, sp_is_plantable K vs H Q E → t_is_plantable K { nx := fun _ H' => Q .non H', rt := Q } (start ["image", "number", "operation", "_"] vs) H := by
  rintro vs H Q E ⟨a, img, rfl, ha, ok, k⟩
  obtain ⟨h4, hm, hl⟩ := ok.l4
  refine ⟨_, rfl, a, _, rfl, .inl (SqL.of ha), _, _, rfl, rfl, _, rfl, ?_⟩
  rw [List.length_map]
  refine iteDF (by omega) ⟨_, rfl, a, _, rfl, .inl (SqL.of ha), _, _, rfl, rfl, by show (0 : Int) < 4; decide, rfl, _, rfl, ?_⟩
  rw [List.length_map, int_eq_dec]
  refine iteNT (by omega) ?_
  refine ⟨_, rfl, _, rfl, a, _, rfl, SqL.of ha, fun p hp => ?_⟩
  have e3 : cutV (iL img) none (some 3) = iL [0, 32, 0] := by
    unfold cutV
    rw [HT.sIx_none, show (3 : Int) = ((3 : Nat) : Int) from rfl, HT.sIx_nat, List.length_map, Nat.min_eq_left (by omega), List.drop_zero, ← List.map_take, ok.t3]
  rw [e3]
  refine ⟨by show 3 ≤ sizeLine; decide, fun q hq => ?_⟩
  have s2 : Same H (L2.upd (L2.upd H p (.lst (iL [0, 32, 0]))) q (.lst [.int 0, .int 32, .int 0])) := (Same.new hp).trans (Same.new hq)
  have npq : p ≠ q := ne_of_none upd_same hq
  refine ⟨dI [0, 32, 0], dI [0, 32, 0], dpL (by rw [upd_ne npq, upd_same]), dpL upd_same, shI _, shI _, _, rfl, ?_⟩
  rw [eqvD, decide_eq_true rfl]
  refine iteF ?_
  have ha2 := s2 _ _ ha
  refine ⟨_, rfl, 4, rfl, a, _, rfl, SqL.of ha2, fun c hc => ?_⟩
  have e4 : cutV (iL img) (some 4) none = iL (img.drop 4) := by
    unfold cutV
    rw [HT.sIx_none, show (4 : Int) = ((4 : Nat) : Int) from rfl, HT.sIx_nat, List.length_map, Nat.min_eq_left (by omega), ← List.map_drop, List.take_of_length_le (by simp)]
  rw [e4]
  refine ⟨c, img.drop 4, rfl, SqL.of upd_same, by simp; omega, fun nl rs H3 s3 n3 hr hn => ⟨nl, rfl, ⟨_, SqL.of hn.hq⟩, ?_⟩⟩
  have sH : Same H H3 := s2.trans ((Same.new hc).trans s3)
  refine for_list (K := K) (a := nl) (xs := rs.map V.ref) (fun i σ H' => (∃ v1 v2 v3, σ = [some (.ref a), v1, v2, v3]) ∧ H' = H3) ⟨⟨none, none, none, rfl⟩, rfl⟩ (fun i σ H' _ p => by rw [p.2]; exact SqL.of hn.hq) ?_ ?_
  · rintro i x σ H' hx ⟨⟨v1, v2, v3, rfl⟩, rfl⟩
    rw [List.getElem?_map] at hx
    cases er : rs[i]? with
    | none => rw [er] at hx; cases hx
    | some r =>
      rw [er] at hx
      have ex : x = .ref r := (Option.some.inj hx).symm
      subst ex
      have hi : i < (img.drop 4).length / 4 := by rw [← hn.hl]; exact (List.getElem?_eq_some_iff.mp er).1
      obtain ⟨n, o, ar, sc, e5⟩ := cell4_eq hi
      obtain ⟨f1, f2, f3⟩ := plN_at ok.nd hi e5
      have hr := hn.at_ i r er
      rw [e5] at hr
      refine ⟨r, _, rfl, SqT.of hr, rfl, _, _, rfl, _, _, rfl, _, _, rfl, _, _, rfl, rfl, ?_⟩
      refine ⟨_, rfl, rfl, _, rfl, ieF f1 ?_⟩
      refine ⟨_, rfl, _, _, rfl, rfl, _, rfl, iteDF (by omega) ?_⟩
      refine ⟨_, rfl, rfl, _, rfl, ieF f3 ⟨⟨_, _, _, rfl⟩, rfl⟩⟩
  · rintro σ H' ⟨⟨v1, v2, v3, rfl⟩, rfl⟩
    exact k _ sH
theorem c_is_plantable {P : Program} {w : World} {K : PySem.W.Frag} {mg : Str → Option Value} {base : Heap} (T : Txt w K mg) : C8.Cal P w K mg base 2 "is_plantable" (sp_is_plantable K) [] := T.cal 47 rfl T.g_is_plantable sc_is_plantable (fun _ _ _ _ _ _ us hl => match us, hl with | [_], _ => rfl) l_is_plantable (d_is_plantable T) (r_is_plantable T)
/-! ### the nodes of a trap -/
def sp_beginning (_ : PySem.W.Frag) : Sp := fun vs H Q _ => vs = [] ∧ NewN H Q [(0, 35, 3, 1000000), (1000000, 38, 0, 1000001), (1000001, 40, 0, 1000002), (1000002, 94, 0, 1000003)]
theorem sc_beginning : FnScope [] [] (defScope s_beginning) := C8.fnScope_by (by decide +kernel)
def t_beginning (K : PySem.W.Frag) : TS := (tRet (tLst (tCons (tTup (tCons (tC (.int 0)) (tCons (tC (.int 35)) (tCons (tC (.int 3)) (tCons (tC (.int 1000000)) tNil))))) (tCons (tTup (tCons (tC (.int 1000000)) (tCons (tC (.int 38)) (tCons (tC (.int 0)) (tCons (tOp rAddI (tC (.int 1000000)) (tC (.int 1))) tNil))))) (tCons (tTup (tCons (tOp rAddI (tC (.int 1000000)) (tC (.int 1))) (tCons (tC (.int 40)) (tCons (tC (.int 0)) (tCons (tOp rAddI (tC (.int 1000000)) (tC (.int 2))) tNil))))) (tCons (tTup (tCons (tOp rAddI (tC (.int 1000000)) (tC (.int 2))) (tCons (tC (.int 94)) (tCons (tC (.int 0)) (tCons (tOp rAddI (tC (.int 1000000)) (tC (.int 3))) tNil))))) tNil))))))
theorem d_beginning {P : Program} {w : World} {K : PySem.W.Frag} {mg : Str → Option Value} {base : Heap} (T : Txt w K mg) (f : Addr) (cdv : Value) (A : Around) (outer : List Env) (s : Shared) (H : Hp) (E : XK) (hr : Room 0 (A.deeper (envOfC "beginning" (defScope s_beginning) s.heap.objs.size f cdv))) :
    PSs (Bx P w K mg base [] "beginning" s_beginning f cdv A outer s H E) (defBody s_beginning) (t_beginning K) :=
  (pss_one (ps_ret (pe_lst (pa_cons (pe_tup (pa_cons pe_int (pa_cons (pe_gint T.i_PUSH_traps rfl) (pa_cons pe_int (pa_cons (pe_gint T.i_BASE rfl) pa_nil))))) (pa_cons (pe_tup (pa_cons (pe_gint T.i_BASE rfl) (pa_cons (pe_gint T.i_CELL rfl) (pa_cons pe_int (pa_cons (pe_op op_add (pe_gint T.i_BASE rfl) pe_int) pa_nil))))) (pa_cons (pe_tup (pa_cons (pe_op op_add (pe_gint T.i_BASE rfl) pe_int) (pa_cons (pe_gint T.i_CALL rfl) (pa_cons pe_int (pa_cons (pe_op op_add (pe_gint T.i_BASE rfl) pe_int) pa_nil))))) (pa_cons (pe_tup (pa_cons (pe_op op_add (pe_gint T.i_BASE rfl) pe_int) (pa_cons (pe_gint T.i_REWIND rfl) (pa_cons pe_int (pa_cons (pe_op op_add (pe_gint T.i_BASE rfl) pe_int) pa_nil))))) pa_nil)))))))
theorem l_beginning {K : PySem.W.Frag} : ∀ vs H Q E, sp_beginning K vs H Q E → vs.length = ([] : List Str).length := by
  rintro vs H Q E ⟨rfl, _⟩
  rfl
theorem r_beginning {w : World} {K : PySem.W.Frag} {mg : Str → Option Value} (T : Txt w K mg) : ∀ vs H Q E, sp_beginning K vs H Q E → t_beginning K { nx := fun _ H' => Q .non H', rt := Q } (start [] vs) H := by
  rintro vs H Q E ⟨rfl, k⟩
  have g := k.g (by decide)
  refine ⟨by show 4 ≤ sizeLine; decide, fun t0 h0 => ?_⟩
  have g := g.cons h0
  refine ⟨_, _, rfl, rfl, by show 4 ≤ sizeLine; decide, fun t1 h1 => ?_⟩
  have g := g.cons h1
  refine ⟨_, _, rfl, rfl, _, _, rfl, rfl, by show 4 ≤ sizeLine; decide, fun t2 h2 => ?_⟩
  have g := g.cons h2
  refine ⟨_, _, rfl, rfl, _, _, rfl, rfl, by show 4 ≤ sizeLine; decide, fun t3 h3 => ?_⟩
  have g := g.cons h3
  exact g [] _ (Same.refl _) trivial
theorem c_beginning {P : Program} {w : World} {K : PySem.W.Frag} {mg : Str → Option Value} {base : Heap} (T : Txt w K mg) : C8.Cal P w K mg base 1 "beginning" (sp_beginning K) [] := T.cal 48 rfl T.g_beginning sc_beginning (fun _ _ _ _ _ _ us hl => match us, hl with | [], _ => rfl) l_beginning (d_beginning T) (r_beginning T)
def sp_comparison (_ : PySem.W.Frag) : Sp := fun vs H Q _ => ∃ p c e, vs = [.int p, .int c, .int e] ∧ NewN H Q [(p, 44, 0, p + 1), (p + 1, 35, c, p + 2), (p + 2, 126, 0, p + 3), (p + 3, 63, e, p + 4)]
theorem sc_comparison : FnScope ["at", "code", "end"] ["at", "code", "end"] (defScope s_comparison) := C8.fnScope_by (by decide +kernel)
def t_comparison (K : PySem.W.Frag) : TS := (tRet (tLst (tCons (tTup (tCons (tVar 0) (tCons (tC (.int 44)) (tCons (tC (.int 0)) (tCons (tOp rAddI (tVar 0) (tC (.int 1))) tNil))))) (tCons (tTup (tCons (tOp rAddI (tVar 0) (tC (.int 1))) (tCons (tC (.int 35)) (tCons (tVar 1) (tCons (tOp rAddI (tVar 0) (tC (.int 2))) tNil))))) (tCons (tTup (tCons (tOp rAddI (tVar 0) (tC (.int 2))) (tCons (tC (.int 126)) (tCons (tC (.int 0)) (tCons (tOp rAddI (tVar 0) (tC (.int 3))) tNil))))) (tCons (tTup (tCons (tOp rAddI (tVar 0) (tC (.int 3))) (tCons (tC (.int 63)) (tCons (tVar 2) (tCons (tOp rAddI (tVar 0) (tC (.int 4))) tNil))))) tNil))))))
theorem d_comparison {P : Program} {w : World} {K : PySem.W.Frag} {mg : Str → Option Value} {base : Heap} (T : Txt w K mg) (f : Addr) (cdv : Value) (A : Around) (outer : List Env) (s : Shared) (H : Hp) (E : XK) (hr : Room 0 (A.deeper (envOfC "comparison" (defScope s_comparison) s.heap.objs.size f cdv))) :
    PSs (Bx P w K mg base ["at", "code", "end"] "comparison" s_comparison f cdv A outer s H E) (defBody s_comparison) (t_comparison K) :=
  (pss_one (ps_ret (pe_lst (pa_cons (pe_tup (pa_cons (pv 0) (pa_cons (pe_gint T.i_TAKE rfl) (pa_cons pe_int (pa_cons (pe_op op_add (pv 0) pe_int) pa_nil))))) (pa_cons (pe_tup (pa_cons (pe_op op_add (pv 0) pe_int) (pa_cons (pe_gint T.i_PUSH_traps rfl) (pa_cons (pv 1) (pa_cons (pe_op op_add (pv 0) pe_int) pa_nil))))) (pa_cons (pe_tup (pa_cons (pe_op op_add (pv 0) pe_int) (pa_cons (pe_gint T.i_SAME rfl) (pa_cons pe_int (pa_cons (pe_op op_add (pv 0) pe_int) pa_nil))))) (pa_cons (pe_tup (pa_cons (pe_op op_add (pv 0) pe_int) (pa_cons (pe_gint T.i_TEST_traps rfl) (pa_cons (pv 2) (pa_cons (pe_op op_add (pv 0) pe_int) pa_nil))))) pa_nil)))))))
theorem l_comparison {K : PySem.W.Frag} : ∀ vs H Q E, sp_comparison K vs H Q E → vs.length = ["at", "code", "end"].length := by
  rintro vs H Q E ⟨_, _, _, rfl, _⟩
  rfl
theorem r_comparison {w : World} {K : PySem.W.Frag} {mg : Str → Option Value} (T : Txt w K mg) : ∀ vs H Q E, sp_comparison K vs H Q E → t_comparison K { nx := fun _ H' => Q .non H', rt := Q } (start ["at", "code", "end"] vs) H := by
  rintro vs H Q E ⟨p, c, e, rfl, k⟩
  have g := k.g (by simp)
  refine ⟨_, rfl, _, rfl, _, _, rfl, rfl, by show 4 ≤ sizeLine; decide, fun t0 h0 => ?_⟩
  have g := g.cons h0
  refine ⟨_, rfl, _, _, rfl, rfl, _, rfl, _, rfl, _, _, rfl, rfl, by show 4 ≤ sizeLine; decide, fun t1 h1 => ?_⟩
  have g := g.cons h1
  refine ⟨_, rfl, _, _, rfl, rfl, _, rfl, _, _, rfl, rfl, by show 4 ≤ sizeLine; decide, fun t2 h2 => ?_⟩
  have g := g.cons h2
  refine ⟨_, rfl, _, _, rfl, rfl, _, rfl, _, rfl, _, _, rfl, rfl, by show 4 ≤ sizeLine; decide, fun t3 h3 => ?_⟩
  have g := g.cons h3
  exact g [] _ (Same.refl _) trivial
theorem c_comparison {P : Program} {w : World} {K : PySem.W.Frag} {mg : Str → Option Value} {base : Heap} (T : Txt w K mg) : C8.Cal P w K mg base 1 "comparison" (sp_comparison K) [] := T.cal 49 rfl T.g_comparison sc_comparison (fun _ _ _ _ _ _ us hl => match us, hl with | [_, _, _], _ => rfl) l_comparison (d_comparison T) (r_comparison T)
def sp_writing (_ : PySem.W.Frag) : Sp := fun vs H Q _ => ∃ p c, vs = [.int p, .int c] ∧ NewN H Q [(p, 35, c, p + 1), (p + 1, 46, 0, p + 2)]
theorem sc_writing : FnScope ["at", "number"] ["at", "number"] (defScope s_writing) := C8.fnScope_by (by decide +kernel)
def t_writing (K : PySem.W.Frag) : TS := (tRet (tLst (tCons (tTup (tCons (tVar 0) (tCons (tC (.int 35)) (tCons (tVar 1) (tCons (tOp rAddI (tVar 0) (tC (.int 1))) tNil))))) (tCons (tTup (tCons (tOp rAddI (tVar 0) (tC (.int 1))) (tCons (tC (.int 46)) (tCons (tC (.int 0)) (tCons (tOp rAddI (tVar 0) (tC (.int 2))) tNil))))) tNil))))
theorem d_writing {P : Program} {w : World} {K : PySem.W.Frag} {mg : Str → Option Value} {base : Heap} (T : Txt w K mg) (f : Addr) (cdv : Value) (A : Around) (outer : List Env) (s : Shared) (H : Hp) (E : XK) (hr : Room 0 (A.deeper (envOfC "writing" (defScope s_writing) s.heap.objs.size f cdv))) :
    PSs (Bx P w K mg base ["at", "number"] "writing" s_writing f cdv A outer s H E) (defBody s_writing) (t_writing K) :=
  (pss_one (ps_ret (pe_lst (pa_cons (pe_tup (pa_cons (pv 0) (pa_cons (pe_gint T.i_PUSH_traps rfl) (pa_cons (pv 1) (pa_cons (pe_op op_add (pv 0) pe_int) pa_nil))))) (pa_cons (pe_tup (pa_cons (pe_op op_add (pv 0) pe_int) (pa_cons (pe_gint T.i_GIVE rfl) (pa_cons pe_int (pa_cons (pe_op op_add (pv 0) pe_int) pa_nil))))) pa_nil)))))
theorem l_writing {K : PySem.W.Frag} : ∀ vs H Q E, sp_writing K vs H Q E → vs.length = ["at", "number"].length := by
  rintro vs H Q E ⟨_, _, rfl, _⟩
  rfl
theorem r_writing {w : World} {K : PySem.W.Frag} {mg : Str → Option Value} (T : Txt w K mg) : ∀ vs H Q E, sp_writing K vs H Q E → t_writing K { nx := fun _ H' => Q .non H', rt := Q } (start ["at", "number"] vs) H := by
  rintro vs H Q E ⟨p, c, rfl, k⟩
  have g := k.g (by simp)
  refine ⟨_, rfl, _, rfl, _, rfl, _, _, rfl, rfl, by show 4 ≤ sizeLine; decide, fun t0 h0 => ?_⟩
  have g := g.cons h0
  refine ⟨_, rfl, _, _, rfl, rfl, _, rfl, _, _, rfl, rfl, by show 4 ≤ sizeLine; decide, fun t1 h1 => ?_⟩
  have g := g.cons h1
  exact g [] _ (Same.refl _) trivial
theorem c_writing {P : Program} {w : World} {K : PySem.W.Frag} {mg : Str → Option Value} {base : Heap} (T : Txt w K mg) : C8.Cal P w K mg base 1 "writing" (sp_writing K) [] := T.cal 50 rfl T.g_writing sc_writing (fun _ _ _ _ _ _ us hl => match us, hl with | [_, _], _ => rfl) l_writing (d_writing T) (r_writing T)
theorem cpN_eq (r n : Int) : cpN r n = [(r, 35, -n, r + 1), (r + 1, 34, 0, r + 2), (r + 2, 38, 0, r + 3), (r + 3, 46, 0, r + 4), (r + 4, 35, 1, r + 5), (r + 5, 43, 0, r + 6), (r + 6, 34, 0, r + 7), (r + 7, 63, r + 8, r + 1), (r + 8, 95, 0, r + 9), (r + 9, 41, 0, r + 9 + 1)] := by
  unfold cpN
  rw [show r + 10 = r + 9 + 1 by omega]
def sp_copying (_ : PySem.W.Frag) : Sp := fun vs H Q _ => ∃ p c, vs = [.int p, .int c] ∧ NewN H Q (cpN p c)
theorem sc_copying : FnScope ["at", "cells", "end"] ["at", "cells"] (defScope s_copying) := C8.fnScope_by (by decide +kernel)
def t_copying (K : PySem.W.Frag) : TS := (tSeq (tAsg (tOp rAddI (tVar 0) (tC (.int 9))) (gName 2)) (tRet (tLst (tCons (tTup (tCons (tVar 0) (tCons (tC (.int 35)) (tCons (tUn rNegI (tVar 1)) (tCons (tOp rAddI (tVar 0) (tC (.int 1))) tNil))))) (tCons (tTup (tCons (tOp rAddI (tVar 0) (tC (.int 1))) (tCons (tC (.int 34)) (tCons (tC (.int 0)) (tCons (tOp rAddI (tVar 0) (tC (.int 2))) tNil))))) (tCons (tTup (tCons (tOp rAddI (tVar 0) (tC (.int 2))) (tCons (tC (.int 38)) (tCons (tC (.int 0)) (tCons (tOp rAddI (tVar 0) (tC (.int 3))) tNil))))) (tCons (tTup (tCons (tOp rAddI (tVar 0) (tC (.int 3))) (tCons (tC (.int 46)) (tCons (tC (.int 0)) (tCons (tOp rAddI (tVar 0) (tC (.int 4))) tNil))))) (tCons (tTup (tCons (tOp rAddI (tVar 0) (tC (.int 4))) (tCons (tC (.int 35)) (tCons (tC (.int 1)) (tCons (tOp rAddI (tVar 0) (tC (.int 5))) tNil))))) (tCons (tTup (tCons (tOp rAddI (tVar 0) (tC (.int 5))) (tCons (tC (.int 43)) (tCons (tC (.int 0)) (tCons (tOp rAddI (tVar 0) (tC (.int 6))) tNil))))) (tCons (tTup (tCons (tOp rAddI (tVar 0) (tC (.int 6))) (tCons (tC (.int 34)) (tCons (tC (.int 0)) (tCons (tOp rAddI (tVar 0) (tC (.int 7))) tNil))))) (tCons (tTup (tCons (tOp rAddI (tVar 0) (tC (.int 7))) (tCons (tC (.int 63)) (tCons (tOp rAddI (tVar 0) (tC (.int 8))) (tCons (tOp rAddI (tVar 0) (tC (.int 1))) tNil))))) (tCons (tTup (tCons (tOp rAddI (tVar 0) (tC (.int 8))) (tCons (tC (.int 95)) (tCons (tC (.int 0)) (tCons (tVar 2) tNil))))) (tCons (tTup (tCons (tVar 2) (tCons (tC (.int 41)) (tCons (tC (.int 0)) (tCons (tOp rAddI (tVar 2) (tC (.int 1))) tNil))))) tNil)))))))))))))
theorem d_copying {P : Program} {w : World} {K : PySem.W.Frag} {mg : Str → Option Value} {base : Heap} (T : Txt w K mg) (f : Addr) (cdv : Value) (A : Around) (outer : List Env) (s : Shared) (H : Hp) (E : XK) (hr : Room 0 (A.deeper (envOfC "copying" (defScope s_copying) s.heap.objs.size f cdv))) :
    PSs (Bx P w K mg base ["at", "cells", "end"] "copying" s_copying f cdv A outer s H E) (defBody s_copying) (t_copying K) :=
  (pss_cons (ps_set (i := 2) sc_copying.nd rfl (by first | exact Or.inl rfl | exact Or.inr rfl) (pe_op op_add (pv 0) pe_int)) (pss_one (ps_ret (pe_lst (pa_cons (pe_tup (pa_cons (pv 0) (pa_cons (pe_gint T.i_PUSH_traps rfl) (pa_cons (pe_un un_neg (pv 1)) (pa_cons (pe_op op_add (pv 0) pe_int) pa_nil))))) (pa_cons (pe_tup (pa_cons (pe_op op_add (pv 0) pe_int) (pa_cons (pe_gint T.i_DOUBLE rfl) (pa_cons pe_int (pa_cons (pe_op op_add (pv 0) pe_int) pa_nil))))) (pa_cons (pe_tup (pa_cons (pe_op op_add (pv 0) pe_int) (pa_cons (pe_gint T.i_CELL rfl) (pa_cons pe_int (pa_cons (pe_op op_add (pv 0) pe_int) pa_nil))))) (pa_cons (pe_tup (pa_cons (pe_op op_add (pv 0) pe_int) (pa_cons (pe_gint T.i_GIVE rfl) (pa_cons pe_int (pa_cons (pe_op op_add (pv 0) pe_int) pa_nil))))) (pa_cons (pe_tup (pa_cons (pe_op op_add (pv 0) pe_int) (pa_cons (pe_gint T.i_PUSH_traps rfl) (pa_cons pe_int (pa_cons (pe_op op_add (pv 0) pe_int) pa_nil))))) (pa_cons (pe_tup (pa_cons (pe_op op_add (pv 0) pe_int) (pa_cons (pe_gint T.i_PLUS rfl) (pa_cons pe_int (pa_cons (pe_op op_add (pv 0) pe_int) pa_nil))))) (pa_cons (pe_tup (pa_cons (pe_op op_add (pv 0) pe_int) (pa_cons (pe_gint T.i_DOUBLE rfl) (pa_cons pe_int (pa_cons (pe_op op_add (pv 0) pe_int) pa_nil))))) (pa_cons (pe_tup (pa_cons (pe_op op_add (pv 0) pe_int) (pa_cons (pe_gint T.i_TEST_traps rfl) (pa_cons (pe_op op_add (pv 0) pe_int) (pa_cons (pe_op op_add (pv 0) pe_int) pa_nil))))) (pa_cons (pe_tup (pa_cons (pe_op op_add (pv 0) pe_int) (pa_cons (pe_gint T.i_DROP rfl) (pa_cons pe_int (pa_cons (pv 2) pa_nil))))) (pa_cons (pe_tup (pa_cons (pv 2) (pa_cons (pe_gint T.i_RETURN_traps rfl) (pa_cons pe_int (pa_cons (pe_op op_add (pv 2) pe_int) pa_nil))))) pa_nil))))))))))))))
theorem l_copying {K : PySem.W.Frag} : ∀ vs H Q E, sp_copying K vs H Q E → vs.length = ["at", "cells"].length := by
  rintro vs H Q E ⟨_, _, rfl, _⟩
  rfl
theorem r_copying {w : World} {K : PySem.W.Frag} {mg : Str → Option Value} (T : Txt w K mg) : ∀ vs H Q E, sp_copying K vs H Q E → t_copying K { nx := fun _ H' => Q .non H', rt := Q } (start ["at", "cells", "end"] vs) H := by
  rintro vs H Q E ⟨p, c, rfl, k⟩
  rw [cpN_eq] at k
  have g := k.g (by simp)
  refine ⟨_, rfl, _, _, rfl, rfl, ?_⟩
  refine ⟨_, rfl, _, rfl, _, rfl, _, rfl, _, _, rfl, rfl, by show 4 ≤ sizeLine; decide, fun t0 h0 => ?_⟩
  have g := g.cons h0
  refine ⟨_, rfl, _, _, rfl, rfl, _, rfl, _, _, rfl, rfl, by show 4 ≤ sizeLine; decide, fun t1 h1 => ?_⟩
  have g := g.cons h1
  refine ⟨_, rfl, _, _, rfl, rfl, _, rfl, _, _, rfl, rfl, by show 4 ≤ sizeLine; decide, fun t2 h2 => ?_⟩
  have g := g.cons h2
  refine ⟨_, rfl, _, _, rfl, rfl, _, rfl, _, _, rfl, rfl, by show 4 ≤ sizeLine; decide, fun t3 h3 => ?_⟩
  have g := g.cons h3
  refine ⟨_, rfl, _, _, rfl, rfl, _, rfl, _, _, rfl, rfl, by show 4 ≤ sizeLine; decide, fun t4 h4 => ?_⟩
  have g := g.cons h4
  refine ⟨_, rfl, _, _, rfl, rfl, _, rfl, _, _, rfl, rfl, by show 4 ≤ sizeLine; decide, fun t5 h5 => ?_⟩
  have g := g.cons h5
  refine ⟨_, rfl, _, _, rfl, rfl, _, rfl, _, _, rfl, rfl, by show 4 ≤ sizeLine; decide, fun t6 h6 => ?_⟩
  have g := g.cons h6
  refine ⟨_, rfl, _, _, rfl, rfl, _, rfl, _, _, rfl, rfl, _, rfl, _, _, rfl, rfl, by show 4 ≤ sizeLine; decide, fun t7 h7 => ?_⟩
  have g := g.cons h7
  refine ⟨_, rfl, _, _, rfl, rfl, _, rfl, by show 4 ≤ sizeLine; decide, fun t8 h8 => ?_⟩
  have g := g.cons h8
  refine ⟨_, rfl, _, rfl, _, _, rfl, rfl, by show 4 ≤ sizeLine; decide, fun t9 h9 => ?_⟩
  have g := g.cons h9
  exact g [] _ (Same.refl _) trivial
theorem c_copying {P : Program} {w : World} {K : PySem.W.Frag} {mg : Str → Option Value} {base : Heap} (T : Txt w K mg) : C8.Cal P w K mg base 1 "copying" (sp_copying K) [] := T.cal 51 rfl T.g_copying sc_copying (fun _ _ _ _ _ _ us hl => match us, hl with | [_, _], _ => rfl) l_copying (d_copying T) (r_copying T)
theorem cmpN_snoc (e : Int) : ∀ (l : List Int) (p c : Int), cmpN e p (l ++ [c]) = cmpN e p l ++ [(p + 4 * (l.length : Int), 44, 0, p + 4 * (l.length : Int) + 1), (p + 4 * (l.length : Int) + 1, 35, c, p + 4 * (l.length : Int) + 2), (p + 4 * (l.length : Int) + 2, 126, 0, p + 4 * (l.length : Int) + 3), (p + 4 * (l.length : Int) + 3, 63, e, p + 4 * (l.length : Int) + 4)]
  | [], p, c => by simp [cmpN]
  | x :: l, p, c => by
    simp only [List.cons_append, cmpN, cmpN_snoc e l (p + 4) c]
    rw [show p + 4 * (((x :: l).length : Nat) : Int) = p + 4 + 4 * (l.length : Int) by simp; omega]
theorem wrN_snoc : ∀ (l : List Int) (p c : Int), wrN p (l ++ [c]) = wrN p l ++ [(p + 2 * (l.length : Int), 35, c, p + 2 * (l.length : Int) + 1), (p + 2 * (l.length : Int) + 1, 46, 0, p + 2 * (l.length : Int) + 2)]
  | [], p, c => by simp [wrN]
  | x :: l, p, c => by
    simp only [List.cons_append, wrN, wrN_snoc l (p + 2) c]
    rw [show p + 2 * (((x :: l).length : Nat) : Int) = p + 2 + 2 * (l.length : Int) by simp; omega]
abbrev begN : List (Int × Node) := [(0, 35, 3, 1000000), (1000000, 38, 0, 1000001), (1000001, 40, 0, 1000002), (1000002, 94, 0, 1000003)]
def sp_trap_nodes (_ : PySem.W.Frag) : Sp := fun vs H Q _ => ∃ a b l e, vs = [.ref a, .ref b] ∧ H a = some (.lst (iL l)) ∧ H b = some (.lst (iL e)) ∧ l.length ≤ 100 ∧ e.length ≤ 100 ∧ NewN H Q (trapN l e)
theorem sc_trap_nodes : FnScope ["lure", "extra", "start", "after", "nodes", "at", "code", "number", "cells"] ["lure", "extra"] (defScope s_trap_nodes) := C8.fnScope_by (by decide +kernel)
def t_trap_nodes (K : PySem.W.Frag) : TS := (tSeq (tAsg (tOp rAddI (tC (.int 1000000)) (tC (.int 3))) (gName 2)) (tSeq (tAsg (tOp rAddI (tOp rAddI (tVar 2) (tOp rMulI (tC (.int 4)) (tCB (rLenSeq K) (tCons (tVar 0) tNil)))) (tOp rMulI (tC (.int 2)) (tCB (rLenSeq K) (tCons (tVar 1) tNil)))) (gName 3)) (tSeq (tAsg (tCall (sp_beginning K) [] C8.E0 tNil) (gName 4)) (tSeq (tAsg (tVar 2) (gName 5)) (tSeq (tFor (iList K (tVar 0)) (gName 6) (tSeq (tDrop (tBM K "list" rExtend (tVar 4) (tCons (tCall (sp_comparison K) [] C8.E0 (tCons (tVar 5) (tCons (tVar 6) (tCons (tOp rAddI (tVar 3) (tC (.int 9))) tNil)))) tNil))) (tAug 5 (tC (.int 4)) (ipI fun i j => i + j)))) (tSeq (tFor (iList K (tVar 1)) (gName 7) (tSeq (tDrop (tBM K "list" rExtend (tVar 4) (tCons (tCall (sp_writing K) [] C8.E0 (tCons (tVar 5) (tCons (tVar 7) tNil))) tNil))) (tAug 5 (tC (.int 2)) (ipI fun i j => i + j)))) (tSeq (tAsg (tOp rMulI (tC (.int 4)) (tOp rAddI (tOp rAddI (tC (.int 14)) (tOp rMulI (tC (.int 4)) (tCB (rLenSeq K) (tCons (tVar 0) tNil)))) (tOp rMulI (tC (.int 2)) (tCB (rLenSeq K) (tCons (tVar 1) tNil))))) (gName 8)) (tSeq (tDrop (tBM K "list" rExtend (tVar 4) (tCons (tCall (sp_copying K) [] C8.E0 (tCons (tVar 3) (tCons (tVar 8) tNil))) tNil))) (tRet (tVar 4))))))))))
theorem d_trap_nodes {P : Program} {w : World} {K : PySem.W.Frag} {mg : Str → Option Value} {base : Heap} (T : Txt w K mg) (f : Addr) (cdv : Value) (A : Around) (outer : List Env) (s : Shared) (H : Hp) (E : XK) (hr : Room 1 (A.deeper (envOfC "trap_nodes" (defScope s_trap_nodes) s.heap.objs.size f cdv))) :
    PSs (Bx P w K mg base ["lure", "extra", "start", "after", "nodes", "at", "code", "number", "cells"] "trap_nodes" s_trap_nodes f cdv A outer s H E) (defBody s_trap_nodes) (t_trap_nodes K) :=
  (pss_cons (ps_set (i := 2) sc_trap_nodes.nd rfl (by first | exact Or.inl rfl | exact Or.inr rfl) (pe_op op_add (pe_gint T.i_BASE rfl) pe_int)) (pss_cons (ps_set (i := 3) sc_trap_nodes.nd rfl (by first | exact Or.inl rfl | exact Or.inr rfl) (pe_op op_add (pe_op op_add (pv 2) (pe_op op_mul pe_int (pe_callB call_len_seq (by rfl) T.f_len boot_len (pa_cons (pv 0) pa_nil)))) (pe_op op_mul pe_int (pe_callB call_len_seq (by rfl) T.f_len boot_len (pa_cons (pv 1) pa_nil))))) (pss_cons (ps_set (i := 4) sc_trap_nodes.nd rfl (by first | exact Or.inl rfl | exact Or.inr rfl) (pe_c0 (c_beginning T) hr (by decide) (by rfl))) (pss_cons (ps_set (i := 5) sc_trap_nodes.nd rfl (by first | exact Or.inl rfl | exact Or.inr rfl) (pv 2)) (pss_cons (ps_for PassesOwn.never rfl (pi_list (pv 0)) (pg_name (i := 6) sc_trap_nodes.nd rfl (by first | exact Or.inl rfl | exact Or.inr rfl)) (pss_cons (ps_expr (pe_bm PySem.F.plainAttrs_list PySem.F.slot_list_extend PySem.F.type_list_extend mt_extend (pv 4) (pa_cons (C8.pe_c (c_comparison T) hr (by decide) (by rfl) (pa_cons (pv 5) (pa_cons (pv 6) (pa_cons (pe_op op_add (pv 3) pe_int) pa_nil)))) pa_nil))) (pss_one (ps_aug (i := 5) sc_trap_nodes.nd rfl (by first | exact Or.inl rfl | exact Or.inr rfl) pe_int ip_add)))) (pss_cons (ps_for PassesOwn.never rfl (pi_list (pv 1)) (pg_name (i := 7) sc_trap_nodes.nd rfl (by first | exact Or.inl rfl | exact Or.inr rfl)) (pss_cons (ps_expr (pe_bm PySem.F.plainAttrs_list PySem.F.slot_list_extend PySem.F.type_list_extend mt_extend (pv 4) (pa_cons (C8.pe_c (c_writing T) hr (by decide) (by rfl) (pa_cons (pv 5) (pa_cons (pv 7) pa_nil))) pa_nil))) (pss_one (ps_aug (i := 5) sc_trap_nodes.nd rfl (by first | exact Or.inl rfl | exact Or.inr rfl) pe_int ip_add)))) (pss_cons (ps_set (i := 8) sc_trap_nodes.nd rfl (by first | exact Or.inl rfl | exact Or.inr rfl) (pe_op op_mul pe_int (pe_op op_add (pe_op op_add (pe_gint T.i_FIXED rfl) (pe_op op_mul pe_int (pe_callB call_len_seq (by rfl) T.f_len boot_len (pa_cons (pv 0) pa_nil)))) (pe_op op_mul pe_int (pe_callB call_len_seq (by rfl) T.f_len boot_len (pa_cons (pv 1) pa_nil)))))) (pss_cons (ps_expr (pe_bm PySem.F.plainAttrs_list PySem.F.slot_list_extend PySem.F.type_list_extend mt_extend (pv 4) (pa_cons (C8.pe_c (c_copying T) hr (by decide) (by rfl) (pa_cons (pv 3) (pa_cons (pv 8) pa_nil))) pa_nil))) (pss_one (ps_ret (pv 4)))))))))))
theorem l_trap_nodes {K : PySem.W.Frag} : ∀ vs H Q E, sp_trap_nodes K vs H Q E → vs.length = ["lure", "extra"].length := by
  rintro vs H Q E ⟨_, _, _, _, rfl, _⟩
  rfl
theorem r_trap_nodes {w : World} {K : PySem.W.Frag} {mg : Str → Option Value} (T : Txt w K mg) : ∀ vs H Q E, sp_trap_nodes K vs H Q E → t_trap_nodes K { nx := fun _ H' => Q .non H', rt := Q } (start ["lure", "extra", "start", "after", "nodes", "at", "code", "number", "cells"] vs) H := by
  rintro vs H Q E ⟨a, b, l, e, rfl, ha, hb, hl, he, k⟩
  refine ⟨_, _, rfl, rfl, ?_⟩
  refine ⟨_, rfl, _, rfl, a, _, rfl, .inl (SqL.of ha), _, _, rfl, rfl, .inl ⟨by decide, by decide⟩, _, _, rfl, rfl, _, rfl, b, _, rfl, .inl (SqL.of hb), _, _, rfl, rfl, .inl ⟨by decide, by decide⟩, _, _, rfl, rfl, ?_⟩
  rw [List.length_map, List.length_map]
  refine ⟨rfl, fun q rs H1 s1 nq n1 => ?_⟩
  have nqa : a ≠ q := ne_of_none ha nq
  have nqb : b ≠ q := ne_of_none hb nq
  have ka : ∀ {H' : Hp}, KeepL [q] H H' → H' a = some (.lst (iL l)) ∧ H' b = some (.lst (iL e)) := fun kk => ⟨kk _ _ ha (by simpa using nqa), kk _ _ hb (by simpa using nqb)⟩
  refine ⟨_, rfl, ?_⟩
  have k1 : KeepL [q] H H1 := Same.keepL s1
  refine ⟨_, rfl, a, rfl, ⟨_, SqL.of (ka k1).1⟩, for_list (K := K) (a := a) (xs := iL l) (fun i σ H' => (∃ w v6 v7 v8, σ = [some (.ref a), some (.ref b), some (.int (1000000 + 3)), some (.int (1000000 + 3 + 4 * (l.length : Int) + 2 * (e.length : Int))), some (.ref q), some (.int w), v6, v7, v8] ∧ w = 1000003 + 4 * (i : Int)) ∧ KeepL [q] H H' ∧ ∃ rs, NdAt H' q (begN ++ cmpN (1000003 + 4 * (l.length : Int) + 2 * (e.length : Int) + 9) 1000003 (l.take i)) rs) ⟨⟨_, none, none, none, rfl, rfl⟩, k1, rs, n1⟩ (fun i σ H' _ p => SqL.of (ka p.2.1).1) ?_ ?_⟩
  · rintro i x σ H' hx ⟨⟨w, v6, v7, v8, rfl, rfl⟩, kk, rs, n⟩
    obtain ⟨c, rfl, hc⟩ := getV hx
    have hi := (List.getElem?_eq_some_iff.mp hc).1
    have lt : (l.take i).length = i := by rw [List.length_take]; omega
    refine extSeq rfl n (by rw [List.length_append, cmpN_len, lt]; show 4 + 4 * i ≤ 100000; omega) ?_ (fun R g => ⟨_, rfl, _, rfl, _, rfl, _, _, rfl, rfl, _, _, _, rfl, g⟩) ?_
    · simp
    intro rs2 H2 n2 k2
    refine ⟨_, rfl, _, _, rfl, rfl, ⟨_, _, _, _, rfl, by show 1000003 + 4 * (i : Int) + 4 = _; omega⟩, kk.trans k2, rs2, ?_⟩
    rw [take_snoc hc, cmpN_snoc, lt, ← List.append_assoc]
    exact n2
  · rintro σ H' ⟨⟨w, v6, v7, v8, rfl, rfl⟩, kk, rs, n⟩
    rw [List.length_map, List.take_length] at n
    refine ⟨_, rfl, b, rfl, ⟨_, SqL.of (ka kk).2⟩, for_list (K := K) (a := b) (xs := iL e) (fun i σ H' => (∃ w v6 v7 v8, σ = [some (.ref a), some (.ref b), some (.int (1000000 + 3)), some (.int (1000000 + 3 + 4 * (l.length : Int) + 2 * (e.length : Int))), some (.ref q), some (.int w), v6, v7, v8] ∧ w = 1000003 + 4 * (l.length : Int) + 2 * (i : Int)) ∧ KeepL [q] H H' ∧ ∃ rs, NdAt H' q (begN ++ cmpN (1000003 + 4 * (l.length : Int) + 2 * (e.length : Int) + 9) 1000003 l ++ wrN (1000003 + 4 * (l.length : Int)) (e.take i)) rs) ⟨⟨_, v6, v7, v8, rfl, by rw [List.length_map]; omega⟩, kk, rs, by simpa [wrN] using n⟩ (fun i σ H' _ p => SqL.of (ka p.2.1).2) ?_ ?_⟩
    · rintro i x σ H' hx ⟨⟨w, v6, v7, v8, rfl, rfl⟩, kk, rs, n⟩
      obtain ⟨c, rfl, hc⟩ := getV hx
      have hi := (List.getElem?_eq_some_iff.mp hc).1
      have lt : (e.take i).length = i := by rw [List.length_take]; omega
      refine extSeq rfl n (by rw [List.length_append, List.length_append, cmpN_len, wrN_len, lt]; show 4 + 4 * l.length + 2 * i ≤ 100000; omega) ?_ (fun R g => ⟨_, rfl, _, rfl, _, _, rfl, g⟩) ?_
      · simp
      intro rs2 H2 n2 k2
      refine ⟨_, rfl, _, _, rfl, rfl, ⟨_, _, _, _, rfl, by show 1000003 + 4 * (l.length : Int) + 2 * (i : Int) + 2 = _; omega⟩, kk.trans k2, rs2, ?_⟩
      rw [take_snoc hc, wrN_snoc, lt, ← List.append_assoc]
      exact n2
    · rintro σ H' ⟨⟨w, v6, v7, v8, rfl, rfl⟩, kk, rs, n⟩
      rw [List.length_map, List.take_length] at n
      refine ⟨_, rfl, a, _, rfl, .inl (SqL.of (ka kk).1), _, _, rfl, rfl, .inl ⟨by decide, by decide⟩, _, _, rfl, rfl, _, rfl, b, _, rfl, .inl (SqL.of (ka kk).2), _, _, rfl, rfl, .inl ⟨by decide, by decide⟩, _, _, rfl, rfl, _, _, rfl, rfl, .inl ⟨by decide, by decide⟩, ?_⟩
      rw [List.length_map, List.length_map]
      refine extSeq rfl n (by rw [List.length_append, List.length_append, cmpN_len, wrN_len]; show 4 + 4 * l.length + 2 * e.length ≤ 100000; omega) ?_ (fun R g => ⟨_, rfl, _, rfl, _, _, rfl, g⟩) ?_
      · unfold cpN; simp
      intro rs2 H2 n2 k2
      refine ⟨_, rfl, k q rs2 H2 ?_ nq ?_⟩
      · exact (kk.trans k2).same (Same.refl H) (by simpa using nq)
      · unfold trapN
        rw [List.append_assoc, List.append_assoc] at n2
        exact n2
theorem c_trap_nodes {P : Program} {w : World} {K : PySem.W.Frag} {mg : Str → Option Value} {base : Heap} (T : Txt w K mg) : C8.Cal P w K mg base 2 "trap_nodes" (sp_trap_nodes K) [] := T.cal 52 rfl T.g_trap_nodes sc_trap_nodes (fun _ _ _ _ _ _ us hl => match us, hl with | [_, _], _ => rfl) l_trap_nodes (d_trap_nodes T) (r_trap_nodes T)
/-! ### plant -/
theorem trapC_small {l e : List Int} (h1 : l.length ≤ 100) (h2 : e.length ≤ 100) : (trapC l e).length ≤ 10000 := by
  rw [trapC_len]
  omega
def sp_plant (_ : PySem.W.Frag) : Sp := fun vs H Q _ => ∃ i a b img l e, vs = [.ref i, .ref a, .ref b] ∧ H i = some (.lst (iL img)) ∧ H a = some (.lst (iL l)) ∧ H b = some (.lst (iL e)) ∧ TrapOk l e ∧ Plantable img ∧ NewL H Q (iL (img ++ trapC l e))
theorem sc_plant : FnScope ["image", "lure", "extra"] ["image", "lure", "extra"] (defScope s_plant) := C8.fnScope_by (by decide +kernel)
def t_plant (K : PySem.W.Frag) : TS := (tSeq (tIfS (tNot (tB (tCall (sp_is_trap K) [] C8.E0 (tCons (tVar 1) (tCons (tVar 2) tNil))))) tNever tNext) (tSeq (tIfS (tNot (tB (tCall (sp_is_plantable K) [] C8.E0 (tCons (tVar 0) tNil)))) tNever tNext) (tRet (tOp rCat (tVar 0) (tCall (sp_image_of K) [] C8.E0 (tCons (tCall (sp_trap_nodes K) [] C8.E0 (tCons (tVar 1) (tCons (tVar 2) tNil))) tNil))))))
theorem d_plant {P : Program} {w : World} {K : PySem.W.Frag} {mg : Str → Option Value} {base : Heap} (T : Txt w K mg) (f : Addr) (cdv : Value) (A : Around) (outer : List Env) (s : Shared) (H : Hp) (E : XK) (hr : Room 2 (A.deeper (envOfC "plant" (defScope s_plant) s.heap.objs.size f cdv))) :
    PSs (Bx P w K mg base ["image", "lure", "extra"] "plant" s_plant f cdv A outer s H E) (defBody s_plant) (t_plant K) :=
  (pss_cons (ps_if (pt_not (pt_val (C8.pe_c (c_is_trap T) hr (by decide) (by rfl) (pa_cons (pv 1) (pa_cons (pv 2) pa_nil))))) (pss_one ps_never) pss_nil) (pss_cons (ps_if (pt_not (pt_val (C8.pe_c (c_is_plantable T) hr (by decide) (by rfl) (pa_cons (pv 0) pa_nil)))) (pss_one ps_never) pss_nil) (pss_one (ps_ret (pe_op op_cat (pv 0) (C8.pe_c (c_image_of T) hr (by decide) (by rfl) (pa_cons (C8.pe_c (c_trap_nodes T) hr (by decide) (by rfl) (pa_cons (pv 1) (pa_cons (pv 2) pa_nil))) pa_nil)))))))
theorem l_plant {K : PySem.W.Frag} : ∀ vs H Q E, sp_plant K vs H Q E → vs.length = ["image", "lure", "extra"].length := by
  rintro vs H Q E ⟨_, _, _, _, _, _, rfl, _⟩
  rfl
theorem r_plant {w : World} {K : PySem.W.Frag} {mg : Str → Option Value} (T : Txt w K mg) : ∀ vs H Q E, sp_plant K vs H Q E → t_plant K { nx := fun _ H' => Q .non H', rt := Q } (start ["image", "lure", "extra"] vs) H := by
  rintro vs H Q E ⟨i, a, b, img, l, e, rfl, hi, ha, hb, ok, pl, k⟩
  refine ⟨_, rfl, _, rfl, a, b, l, e, rfl, ha, hb, ok, fun H1 s1 => ⟨_, rfl, iteF ?_⟩⟩
  refine ⟨_, rfl, i, img, rfl, s1 _ _ hi, pl, fun H2 s2 => ⟨_, rfl, iteF ?_⟩⟩
  have s12 := s1.trans s2
  have h1 := ok.l1
  have h2 := ok.el
  have h3 := pl.l4
  refine ⟨_, rfl, _, rfl, _, rfl, a, b, l, e, rfl, s12 _ _ ha, s12 _ _ hb, by omega, by omega, fun q rs H3 s3 nq n => ?_⟩
  have hs := trapC_small (l := l) (e := e) (by omega) (by omega)
  refine ⟨q, trapC l e, rs, rfl, n.nodes, by rw [trapC_len]; omega, by omega, fun p H4 s4 np hp => ?_⟩
  have s14 := s12.trans (s3.trans s4)
  refine ⟨i, p, _, _, rfl, rfl, s14 _ _ hi, hp, line_of (by rw [List.length_map, List.length_map]; omega), fun r hr => ?_⟩
  rw [← List.map_append]
  exact k r _ (s14.trans (Same.new hr)) (s14.free hr) upd_same
theorem c_plant {P : Program} {w : World} {K : PySem.W.Frag} {mg : Str → Option Value} {base : Heap} (T : Txt w K mg) : C8.Cal P w K mg base 3 "plant" (sp_plant K) [] := T.cal 53 rfl T.g_plant sc_plant (fun _ _ _ _ _ _ us hl => match us, hl with | [_, _, _], _ => rfl) l_plant (d_plant T) (r_plant T)
end Pl

set_option Elab.async false
set_option linter.all false
set_option maxRecDepth 100000
set_option maxHeartbeats 4000000
namespace Pl
open PySem PySem.Spec PyProof.Rows L2
/-! ### trap -/
def sp_Shelf_trap (K : PySem.W.Frag) : Sp := fun vs H Q _ => ∃ s dxs d es x a b l e, vs = [.ref s, .str x.nm, .ref a, .ref b] ∧ ShAt K H s dxs d es ∧ x ∈ es ∧ H a = some (.lst (iL l)) ∧ H b = some (.lst (iL e)) ∧ TrapOk l e ∧ Plantable x.bin ∧
  ∀ b' H', H b' = none → ShAt K H' s dxs d (setBin es x.nm b' (x.bin ++ trapC l e)) → KeepL [x.e] H H' → Q .non H'
theorem sc_Shelf_trap : FnScope ["self", "name", "lure", "extra", "kept"] ["self", "name", "lure", "extra"] (defScope s_Shelf_trap) := C8.fnScope_by (by decide +kernel)
def t_Shelf_trap (K : PySem.W.Frag) : TS := (tSeq (tAsg (tMeth (He.ga K "Shelf") "entry" (sp_Shelf_entry K) [] C8.E0 (tVar 0) (tCons (tVar 1) tNil)) (gName 4)) (sFld K (tVar 4) (tCall (sp_plant K) [] C8.E0 (tCons (tFld K (tVar 4) "binary") (tCons (tVar 2) (tCons (tVar 3) tNil)))) "binary"))
theorem d_Shelf_trap {P : Program} {w : World} {K : PySem.W.Frag} {mg : Str → Option Value} {base : Heap} (T : Txt w K mg) (f : Addr) (cdv : Value) (A : Around) (outer : List Env) (s : Shared) (H : Hp) (E : XK) (hr : Room 3 (A.deeper (envOfC "Shelf.trap" (defScope s_Shelf_trap) s.heap.objs.size f cdv))) :
    PSs (Bx P w K mg base ["self", "name", "lure", "extra", "kept"] "Shelf.trap" s_Shelf_trap f cdv A outer s H E) (defBody s_Shelf_trap) (t_Shelf_trap K) :=
  (pss_cons (ps_set (i := 4) sc_Shelf_trap.nd rfl (by first | exact Or.inl rfl | exact Or.inr rfl) (C8.pe_mt (m_Shelf_entry T) hr (by decide) (pv 0) (pa_cons (pv 1) pa_nil))) (pss_one (ps_fld (pv 4) (C8.pe_c (c_plant T) hr (by decide) (by rfl) (pa_cons (pe_fld (pv 4) rfl) (pa_cons (pv 2) (pa_cons (pv 3) pa_nil)))) rfl)))
theorem l_Shelf_trap {K : PySem.W.Frag} : ∀ vs H Q E, sp_Shelf_trap K vs H Q E → vs.length = ["self", "name", "lure", "extra"].length := by
  rintro vs H Q E ⟨_, _, _, _, _, _, _, _, _, rfl, _⟩
  rfl
theorem r_Shelf_trap {w : World} {K : PySem.W.Frag} {mg : Str → Option Value} (T : Txt w K mg) : ∀ vs H Q E, sp_Shelf_trap K vs H Q E → t_Shelf_trap K { nx := fun _ H' => Q .non H', rt := Q } (start ["self", "name", "lure", "extra", "kept"] vs) H := by
  rintro vs H Q E ⟨s, dxs, d, es, x, a, b, l, e, rfl, h, hx, ha, hb, ok, pl, k⟩
  refine ⟨_, rfl, s, dxs, _, rfl, h.ob, shNo_entry, _, rfl, s, dxs, d, es, x, rfl, h.toShW, hx, ?_⟩
  refine ⟨_, rfl, x.e, _, x.dx, _, _, rfl, (h.en x hx).1, T.c_Entry, T.n_Entry_binary, enF_binary, _, rfl, _, rfl, x.b, a, b, x.bin, l, e, rfl, (h.en x hx).2, ha, hb, ok, pl, fun q H1 s1 nq e1 => ?_⟩
  have h1 := h.same s1
  refine ⟨_, rfl, x.e, _, x.dx, _, rfl, (h1.en x hx).1, T.c_Entry, T.n_Entry_binary, enF_small, ?_⟩
  exact k q _ nq (h1.setB hx e1 fun z hz => ne_of_none (h.en z hz).2 nq) ((Same.keepL s1).trans (KeepL.upd (by simp)))
theorem m_Shelf_trap {P : Program} {w : World} {K : PySem.W.Frag} {mg : Str → Option Value} {base : Heap} (T : Txt w K mg) : C8.Met P w K mg base 4 (He.ga K "Shelf") "trap" (sp_Shelf_trap K) [] := T.met 67 rfl T.c_Shelf T.m_Shelf_trap sc_Shelf_trap (fun _ _ _ _ _ _ us hl => match us, hl with | [_, _, _, _], _ => rfl) l_Shelf_trap (d_Shelf_trap T) (r_Shelf_trap T)
/-! ### build -/
abbrev goS (bin : List Int) (t : Str) (F : Nat) : Nat × M := goM (look bin) (lowOf (look bin)) bin (codesS t) F (m0 (codesS t))
def sp_Shelf_build (K : PySem.W.Frag) : Sp := fun vs H Q _ => ∃ s dxs d es nm k t y, ∃ F : Nat, vs = [.ref s, .str nm, .str k, .str t, .str y.nm, .int (F : Int)] ∧ ShAt K H s dxs d es ∧ goodN nm = true ∧ kindB k = true ∧ goodS t = true ∧ t.cps.toList.length ≤ 5000 ∧ es.length ≤ 1000 ∧ y ∈ es ∧ y.bin.length % 4 = 0 ∧ y.bin.length ≤ 1000000 ∧ F ≤ 500000 ∧
  (look y.bin (goS y.bin t F).2.at_ = none → ∀ e dx b H', H b = none → ShAt K H' s dxs d (putE es ⟨nm, k, t, (goS y.bin t F).2.out.reverse, e, dx, b⟩) → KeepL [d] H H' → Q (.bl true) H') ∧
  (∀ q, look y.bin (goS y.bin t F).2.at_ = some q → ∀ H', Same H H' → Q (.bl false) H')
theorem sc_Shelf_build : FnScope ["self", "name", "kind", "text", "by", "fuel", "ended", "output", "_"] ["self", "name", "kind", "text", "by", "fuel"] (defScope s_Shelf_build) := C8.fnScope_by (by decide +kernel)
def t_Shelf_build (K : PySem.W.Frag) : TS := (tSeq (tDrop (tCall (sp_check_new K) [] C8.E0 (tCons (tVar 1) (tCons (tVar 2) (tCons (tVar 3) tNil))))) (tSeq (tIfS (tTest (tOp rLtI (tVar 5) (tC (.int 0)))) tNever tNext) (tSeq (tAsg (tCallN 2 1 (sp_run K) gv_run_fuel C8.E0 (tCons (tFld K (tMeth (He.ga K "Shelf") "entry" (sp_Shelf_entry K) [] C8.E0 (tVar 0) (tCons (tVar 4) tNil)) "binary") (tCons (tCall (sp_codes_of K) [] C8.E0 (tCons (tVar 3) tNil)) tNil)) (tCons (tVar 5) tNil)) (gTup K 3 (gCons (gName 6) (gCons (gName 7) (gCons (gName 8) gNil))))) (tSeq (tIfS (tB (tVar 6)) (tDrop (tMeth (He.ga K "Shelf") "put" (sp_Shelf_put K) [] C8.E0 (tVar 0) (tCons (tVar 1) (tCons (tVar 2) (tCons (tVar 3) (tCons (tVar 7) tNil)))))) tNext) (tRet (tVar 6))))))
theorem d_Shelf_build {P : Program} {w : World} {K : PySem.W.Frag} {mg : Str → Option Value} {base : Heap} (T : Txt w K mg) (f : Addr) (cdv : Value) (A : Around) (outer : List Env) (s : Shared) (H : Hp) (E : XK) (hr : Room 5 (A.deeper (envOfC "Shelf.build" (defScope s_Shelf_build) s.heap.objs.size f cdv))) :
    PSs (Bx P w K mg base ["self", "name", "kind", "text", "by", "fuel", "ended", "output", "_"] "Shelf.build" s_Shelf_build f cdv A outer s H E) (defBody s_Shelf_build) (t_Shelf_build K) :=
  (pss_cons (ps_expr (C8.pe_c (c_check_new T) hr (by decide) (by rfl) (pa_cons (pv 1) (pa_cons (pv 2) (pa_cons (pv 3) pa_nil))))) (pss_cons (ps_if (pt_cmpR op_lt (pv 5) pe_int (nomark _)) (pss_one ps_never) pss_nil) (pss_cons (ps_asg (pe_cn (cn_run_fuel T) hr (by decide) (by rfl) (pa_cons (pe_fld (C8.pe_mt (m_Shelf_entry T) hr (by decide) (pv 0) (pa_cons (pv 4) pa_nil)) rfl) (pa_cons (C8.pe_c (c_codes_of T) hr (by decide) (by rfl) (pa_cons (pv 3) pa_nil)) pa_nil)) (pk_cons (pv 5) pk_nil)) (pg_tup rfl (pgs_cons (pg_name (i := 6) sc_Shelf_build.nd rfl (by first | exact Or.inl rfl | exact Or.inr rfl)) (pgs_cons (pg_name (i := 7) sc_Shelf_build.nd rfl (by first | exact Or.inl rfl | exact Or.inr rfl)) (pgs_cons (pg_name (i := 8) sc_Shelf_build.nd rfl (by first | exact Or.inl rfl | exact Or.inr rfl)) pgs_nil))))) (pss_cons (ps_if (pt_val (pv 6)) (pss_one (ps_expr (C8.pe_mt (m_Shelf_put T) hr (by decide) (pv 0) (pa_cons (pv 1) (pa_cons (pv 2) (pa_cons (pv 3) (pa_cons (pv 7) pa_nil))))))) pss_nil) (pss_one (ps_ret (pv 6)))))))
theorem l_Shelf_build {K : PySem.W.Frag} : ∀ vs H Q E, sp_Shelf_build K vs H Q E → vs.length = ["self", "name", "kind", "text", "by", "fuel"].length := by
  rintro vs H Q E ⟨_, _, _, _, _, _, _, _, _, rfl, _⟩
  rfl
theorem r_Shelf_build {w : World} {K : PySem.W.Frag} {mg : Str → Option Value} (T : Txt w K mg) : ∀ vs H Q E, sp_Shelf_build K vs H Q E → t_Shelf_build K { nx := fun _ H' => Q .non H', rt := Q } (start ["self", "name", "kind", "text", "by", "fuel", "ended", "output", "_"] vs) H := by
  rintro vs H Q E ⟨s, dxs, d, es, nm, kk, t, y, F, rfl, h, hn, hk, ht, hl, hes, hy, b4, bl, hF, k1, k2⟩
  refine ⟨_, rfl, _, rfl, _, rfl, nm, kk, t, rfl, hn, hk, ht, hl, fun H1 s1 => ?_⟩
  refine ⟨_, rfl, _, _, rfl, rfl, _, rfl, iteDF (by omega) ?_⟩
  have h1 := h.same s1
  refine ⟨_, rfl, s, dxs, _, rfl, h1.ob, shNo_entry, _, rfl, s, dxs, d, es, y, rfl, h1.toShW, hy, y.e, _, y.dx, _, _, rfl, (h1.en y hy).1, T.c_Entry, T.n_Entry_binary, enF_binary, ?_⟩
  refine ⟨_, rfl, t, rfl, ht, hl, fun p H2 s2 np e2 => ?_⟩
  have hb2 := s2 _ _ (h1.en y hy).2
  have hcl : (codesS t).length ≤ 5000 := by unfold codesS; rw [List.length_map]; exact hl
  refine ⟨_, rfl, rfl, rfl, y.b, p, y.bin, codesS t, F, rfl, hb2, e2, b4, bl, by omega, hF, fun tp o H3 s3 nt no et eo => ?_⟩
  have s13 : Same H H3 := s1.trans (s2.trans s3)
  refine ⟨tp, _, rfl, SqT.of et, rfl, _, _, rfl, _, _, rfl, _, _, rfl, rfl, ?_⟩
  refine ⟨_, rfl, _, rfl, ?_⟩
  cases hq : look y.bin (goS y.bin t F).2.at_ with
  | none =>
    have h3 := h.same s13
    refine iteT ⟨_, rfl, s, dxs, _, rfl, h3.ob, shNo_put, _, rfl, _, rfl, _, rfl, _, rfl, s, dxs, d, es, nm, kk, t, o, _, rfl, h3, hn, hk, ht, hl, hes, eo, fun e dx b H4 nb h4 k4 => ?_⟩
    refine ⟨_, rfl, ?_⟩
    exact k1 hq e dx b H4 (s13.free nb) h4 ((Same.keepL s13).trans k4)
  | some q =>
    refine iteF ⟨_, rfl, ?_⟩
    exact k2 q hq H3 s13
def gv_Shelf_build_by_fuel (vs zs : List V) : List V := vs ++ zs
def gv_Shelf_build_by (vs zs : List V) : List V := vs ++ zs ++ [.int 100000]
theorem mn_Shelf_build_by_fuel {P : Program} {w : World} {K : PySem.W.Frag} {mg : Str → Option Value} {base : Heap} (T : Txt w K mg) : MetN P w K mg base 6 (He.ga K "Shelf") "build" (sp_Shelf_build K) 3 ["by", "fuel"] gv_Shelf_build_by_fuel := by
  obtain ⟨fd, F⟩ := T.st.d.def_ 63 (d := D_Shelf_build) rfl
  obtain ⟨mv, b⟩ := FunD.kbinds0 (ps := ["self", "name", "kind", "text", "by", "fuel"]) F 4 ["by", "fuel"] [] (fun us _ ws => us ++ ws) (by intro z; cases z) (fun q hq => by cases hq) (fun r _ q => r.append q)
    (fun D doc pm an cdv ct us mv ws h1 h2 h3 => match us, mv, ws, h1, h2, h3 with | [_, _, _, _], [], [_, _], _, _, _ => rfl)
  exact ⟨_, fd, _, _, T.c_Shelf, T.m_Shelf_build, fok F sc_Shelf_build l_Shelf_build (d_Shelf_build T) (r_Shelf_build T), b⟩
theorem mn_Shelf_build_by {P : Program} {w : World} {K : PySem.W.Frag} {mg : Str → Option Value} {base : Heap} (T : Txt w K mg) : MetN P w K mg base 6 (He.ga K "Shelf") "build" (sp_Shelf_build K) 3 ["by"] gv_Shelf_build_by := by
  obtain ⟨fd, F⟩ := T.st.d.def_ 63 (d := D_Shelf_build) rfl
  obtain ⟨mv, b⟩ := FunD.kbinds0 (ps := ["self", "name", "kind", "text", "by", "fuel"]) F 4 ["by"] [("fuel", .int 100000)] (fun us ms ws => us ++ ws ++ ms) (by intro z; cases z) (fun q hq => hq) (fun r m q => (r.append q).append m)
    (fun D doc pm an cdv ct us mv ws h1 h2 h3 => match us, mv, ws, h1, h2, h3 with | [_, _, _, _], [_], [_], _, _, _ => ⟨_, _, _, _, _, _, rfl, rfl, rfl⟩)
  exact ⟨_, fd, _, _, T.c_Shelf, T.m_Shelf_build, fok F sc_Shelf_build l_Shelf_build (d_Shelf_build T) (r_Shelf_build T), b⟩
end Pl

set_option Elab.async false
set_option linter.all false
set_option maxRecDepth 100000
set_option maxHeartbeats 4000000
namespace Pl
open PySem PySem.Spec PyProof.Rows L2
/-- the constant that the i-th statement of a def binds, or adds -/
def strAt (s : Stmt) (i : Nat) : Str := match (defBody s)[i]? with
  | some (.Assign _ (.BinOp _ _ b _) _) => strX b
  | some st => strE st
  | none => Str.empty
theorem upd_upd {H : Hp} {a : Addr} {o u : HO} : upd (upd H a o) a u = upd H a u := by
  funext b
  unfold upd
  by_cases e : b = a
  · rw [if_pos e, if_pos e]
  · rw [if_neg e, if_neg e, if_neg e]
/-! ### _law_number, _law_draws -/
def sp_law_number (_ : PySem.W.Frag) : Sp := fun vs H Q _ => ∃ i, vs = [.int i] ∧ ∀ j, Q (.int j) H
theorem sc_law_number : FnScope ["_law_cell"] ["_law_cell"] (defScope s_law_number) := C8.fnScope_by (by decide +kernel)
def t_law_number (K : PySem.W.Frag) : TS := (tSeq (tIfS (tTest (tOp rLtI (tVar 0) (tC (.int 0)))) (tRet (tOp rSubI (tC (.int 0)) (tVar 0))) tNext) (tRet (tVar 0)))
theorem d_law_number {P : Program} {w : World} {K : PySem.W.Frag} {mg : Str → Option Value} {base : Heap} (T : Txt w K mg) (f : Addr) (cdv : Value) (A : Around) (outer : List Env) (s : Shared) (H : Hp) (E : XK) (hr : Room 0 (A.deeper (envOfC "_law_number" (defScope s_law_number) s.heap.objs.size f cdv))) :
    PSs (Bx P w K mg base ["_law_cell"] "_law_number" s_law_number f cdv A outer s H E) (defBody s_law_number) (t_law_number K) :=
  (pss_cons (ps_if (pt_cmpR op_lt (pv 0) pe_int (nomark _)) (pss_one (ps_ret (pe_op op_sub pe_int (pv 0)))) pss_nil) (pss_one (ps_ret (pv 0))))
theorem l_law_number {K : PySem.W.Frag} : ∀ vs H Q E, sp_law_number K vs H Q E → vs.length = ["_law_cell"].length := by
  rintro vs H Q E ⟨_, rfl, _⟩
  rfl
theorem r_law_number {w : World} {K : PySem.W.Frag} {mg : Str → Option Value} (T : Txt w K mg) : ∀ vs H Q E, sp_law_number K vs H Q E → t_law_number K { nx := fun _ H' => Q .non H', rt := Q } (start ["_law_cell"] vs) H := by
  rintro vs H Q E ⟨i, rfl, k⟩
  refine ⟨_, rfl, _, _, rfl, rfl, _, rfl, ?_⟩
  by_cases h : i < 0
  · exact iteDT h ⟨_, rfl, _, _, rfl, rfl, k _⟩
  · exact iteDF h ⟨_, rfl, k _⟩
theorem c_law_number {P : Program} {w : World} {K : PySem.W.Frag} {mg : Str → Option Value} {base : Heap} (T : Txt w K mg) : C8.Cal P w K mg base 1 "_law_number" (sp_law_number K) [] := T.cal 68 rfl T.g__law_number sc_law_number (fun _ _ _ _ _ _ us hl => match us, hl with | [_], _ => rfl) l_law_number (d_law_number T) (r_law_number T)
def sp_law_draws (K : PySem.W.Frag) : Sp := fun vs H Q _ => ∃ a xs, vs = [.ref a] ∧ SqL K H a (iL xs) ∧ xs.length ≤ 10000 ∧ ∀ ds, NewL H Q (iL ds)
theorem sc_law_draws : FnScope ["_law_script", "_law_draws_here", "_law_cell", "_law_rest", "_law_k", "_law_once", "_law_twice"] ["_law_script"] (defScope s_law_draws) := C8.fnScope_by (by decide +kernel)
def t_law_draws (K : PySem.W.Frag) : TS := (tSeq (tAsg (tLst tNil) (gName 1)) (tSeq (tFor (iList K (tVar 0)) (gName 2) (tSeq (tAsg (tCall (sp_law_number K) [] C8.E0 (tCons (tVar 2) tNil)) (gName 3)) (tIfS (tTest (tOp rGeI (tVar 3) (tC (.int 1000000000000000000)))) (tFor (iRng1 (tCons (tC (.int 60)) tNil)) (gName 4) (tSeq (tIfS (tTest (tOp rEq (tVar 3) (tC (.int 0)))) tBreak tNext) (tSeq (tDrop (tBM K "list" rAppend (tVar 1) (tCons (tOp rModI (tCB rInt1 (tCons (tVar 3) tNil)) (tC (.int 1000))) tNil))) (tAsg (tOp rFdivI (tVar 3) (tC (.int 1000))) (gName 3))))) (tSeq (tAsg (tOp rModI (tCB rInt1 (tCons (tOp rAddI (tOp rMulI (tVar 3) (tC (.int 48271))) (tC (.int 11))) tNil)) (tC (.int 2147483647))) (gName 5)) (tSeq (tAsg (tOp rModI (tCB rInt1 (tCons (tOp rAddI (tOp rMulI (tVar 5) (tC (.int 69621))) (tVar 3)) tNil)) (tC (.int 2147483629))) (gName 6)) (tDrop (tBM K "list" rExtend (tVar 1) (tCons (tLst (tCons (tOp rModI (tCB rInt1 (tCons (tVar 3) tNil)) (tC (.int 1000))) (tCons (tOp rModI (tCB rInt1 (tCons (tVar 5) tNil)) (tC (.int 1000))) (tCons (tOp rModI (tCB rInt1 (tCons (tVar 6) tNil)) (tC (.int 1000))) tNil)))) tNil)))))))) (tRet (tVar 1))))
theorem d_law_draws {P : Program} {w : World} {K : PySem.W.Frag} {mg : Str → Option Value} {base : Heap} (T : Txt w K mg) (f : Addr) (cdv : Value) (A : Around) (outer : List Env) (s : Shared) (H : Hp) (E : XK) (hr : Room 1 (A.deeper (envOfC "_law_draws" (defScope s_law_draws) s.heap.objs.size f cdv))) :
    PSs (Bx P w K mg base ["_law_script", "_law_draws_here", "_law_cell", "_law_rest", "_law_k", "_law_once", "_law_twice"] "_law_draws" s_law_draws f cdv A outer s H E) (defBody s_law_draws) (t_law_draws K) :=
  (pss_cons (ps_set (i := 1) sc_law_draws.nd rfl (by first | exact Or.inl rfl | exact Or.inr rfl) (pe_lst pa_nil)) (pss_cons (ps_for PassesOwn.never rfl (pi_list (pv 0)) (pg_name (i := 2) sc_law_draws.nd rfl (by first | exact Or.inl rfl | exact Or.inr rfl)) (pss_cons (ps_set (i := 3) sc_law_draws.nd rfl (by first | exact Or.inl rfl | exact Or.inr rfl) (C8.pe_c (c_law_number T) hr (by decide) (by rfl) (pa_cons (pv 2) pa_nil))) (pss_one (ps_if (pt_cmpR op_ge (pv 3) pe_int (nomark _)) (pss_one (ps_for PassesOwn.never rfl (pi_range1 (by rfl) T.f_range (pa_cons pe_int pa_nil)) (pg_name (i := 4) sc_law_draws.nd rfl (by first | exact Or.inl rfl | exact Or.inr rfl)) (pss_cons (ps_if (pt_cmpR op_eq (pv 3) pe_int (nomark _)) (pss_one ps_break) pss_nil) (pss_cons (ps_expr (pe_bm PySem.F.plainAttrs_list PySem.F.slot_list_append PySem.F.type_list_append mt_append (pv 1) (pa_cons (pe_op op_mod (pe_callTy call_int1 (by rfl) T.f_int boot_int (pa_cons (pv 3) pa_nil)) pe_int) pa_nil))) (pss_one (ps_set (i := 3) sc_law_draws.nd rfl (by first | exact Or.inl rfl | exact Or.inr rfl) (pe_op op_fdiv (pv 3) pe_int))))))) (pss_cons (ps_set (i := 5) sc_law_draws.nd rfl (by first | exact Or.inl rfl | exact Or.inr rfl) (pe_op op_mod (pe_callTy call_int1 (by rfl) T.f_int boot_int (pa_cons (pe_op op_add (pe_op op_mul (pv 3) pe_int) pe_int) pa_nil)) pe_int)) (pss_cons (ps_set (i := 6) sc_law_draws.nd rfl (by first | exact Or.inl rfl | exact Or.inr rfl) (pe_op op_mod (pe_callTy call_int1 (by rfl) T.f_int boot_int (pa_cons (pe_op op_add (pe_op op_mul (pv 5) pe_int) (pv 3)) pa_nil)) pe_int)) (pss_one (ps_expr (pe_bm PySem.F.plainAttrs_list PySem.F.slot_list_extend PySem.F.type_list_extend mt_extend (pv 1) (pa_cons (pe_lst (pa_cons (pe_op op_mod (pe_callTy call_int1 (by rfl) T.f_int boot_int (pa_cons (pv 3) pa_nil)) pe_int) (pa_cons (pe_op op_mod (pe_callTy call_int1 (by rfl) T.f_int boot_int (pa_cons (pv 5) pa_nil)) pe_int) (pa_cons (pe_op op_mod (pe_callTy call_int1 (by rfl) T.f_int boot_int (pa_cons (pv 6) pa_nil)) pe_int) pa_nil)))) pa_nil)))))))))) (pss_one (ps_ret (pv 1)))))
theorem l_law_draws {K : PySem.W.Frag} : ∀ vs H Q E, sp_law_draws K vs H Q E → vs.length = ["_law_script"].length := by
  rintro vs H Q E ⟨_, _, rfl, _⟩
  rfl
theorem r_law_draws {w : World} {K : PySem.W.Frag} {mg : Str → Option Value} (T : Txt w K mg) : ∀ vs H Q E, sp_law_draws K vs H Q E → t_law_draws K { nx := fun _ H' => Q .non H', rt := Q } (start ["_law_script", "_law_draws_here", "_law_cell", "_law_rest", "_law_k", "_law_once", "_law_twice"] vs) H := by
  rintro vs H Q E ⟨a, xs, rfl, hS, hl, k⟩
  refine ⟨Nat.zero_le _, fun q hq => ?_⟩
  refine ⟨_, rfl, a, rfl, ⟨_, (Same.new hq).seq hS⟩, for_list (K := K) (a := a) (xs := iL xs) (fun i σ H' => (∃ v2 v3 v4 v5 v6, σ = [some (.ref a), some (.ref q), v2, v3, v4, v5, v6]) ∧ Same H H' ∧ ∃ ds : List Int, H' q = some (.lst (iL ds)) ∧ ds.length ≤ 60 * i) ⟨⟨none, none, none, none, none, rfl⟩, Same.new hq, [], upd_same, Nat.zero_le _⟩ (fun i σ H' _ p => p.2.1.seq hS) ?_ ?_⟩
  · rintro i x σ H' hx ⟨⟨v2, v3, v4, v5, v6, rfl⟩, s, ds, hd, hn⟩
    obtain ⟨c, rfl, hc⟩ := getV hx
    have hi := (List.getElem?_eq_some_iff.mp hc).1
    refine ⟨_, rfl, c, rfl, fun j => ?_⟩
    refine ⟨_, rfl, _, _, rfl, rfl, _, rfl, ?_⟩
    by_cases hj : 1000000000000000000 ≤ j
    · refine iteDT hj ⟨60, rfl, by decide, by decide, for_range (n := (60 : Int).toNat) (fun t σ H' => (∃ j v2 v4 v5 v6, σ = [some (.ref a), some (.ref q), v2, some (.int j), v4, v5, v6]) ∧ Same H H' ∧ ∃ ds : List Int, H' q = some (.lst (iL ds)) ∧ ds.length ≤ 60 * i + t) ⟨⟨_, _, _, _, _, rfl⟩, s, ds, hd, by omega⟩ ?_ ?_⟩
      · rintro t σ H1 ht ⟨⟨j, v2, v4, v5, v6, rfl⟩, s1, ds1, hd1, hn1⟩
        have ht' : t < 60 := ht
        refine ⟨_, rfl, rfl, _, rfl, ?_⟩
        by_cases h0 : j = 0
        · refine ieT h0 ⟨⟨_, _, _, _, _, rfl⟩, s1, ds1, hd1, by omega⟩
        · refine ieF h0 ⟨_, rfl, .inl ⟨rfl, _, SqL.of hd1⟩, _, rfl, .inl ⟨_, rfl, _, _, rfl, rfl, by show (0 : Int) < 1000; decide, ?_⟩⟩
          refine ⟨q, _, _, rfl, rfl, hd1, line_lt (by rw [List.length_map]; omega), _, rfl, _, _, rfl, rfl, by show (0 : Int) < 1000 ∧ _; decide, ⟨_, _, _, _, _, rfl⟩, ?_, ds1 ++ [j % 1000], ?_, by simp; omega⟩
          · exact ((Same.keepL s1 (l := [q])).trans (KeepL.upd (by simp))).same (Same.refl H) (by simpa using hq)
          · rw [upd_same]
            simp
      · rintro σ H1 ⟨⟨j, v2, v4, v5, v6, rfl⟩, s1, ds1, hd1, hn1⟩
        exact ⟨⟨_, _, _, _, _, rfl⟩, s1, ds1, hd1, by have : (60 : Int).toNat = 60 := rfl; omega⟩
    · refine iteDF hj ?_
      refine ⟨_, rfl, _, _, rfl, rfl, .inr ⟨by decide, by decide⟩, _, _, rfl, rfl, .inl ⟨_, rfl, _, _, rfl, rfl, by show (0 : Int) < 2147483647; decide, ?_⟩⟩
      refine ⟨_, rfl, _, _, rfl, rfl, .inr ⟨by decide, by decide⟩, _, rfl, _, _, rfl, rfl, .inl ⟨_, rfl, _, _, rfl, rfl, by show (0 : Int) < 2147483629; decide, ?_⟩⟩
      refine ⟨_, rfl, .inl ⟨rfl, _, SqL.of hd⟩, _, rfl, .inl ⟨_, rfl, _, _, rfl, rfl, by show (0 : Int) < 1000; decide, _, rfl, .inl ⟨_, rfl, _, _, rfl, rfl, by show (0 : Int) < 1000; decide, _, rfl, .inl ⟨_, rfl, _, _, rfl, rfl, by show (0 : Int) < 1000; decide, by show 3 ≤ sizeLine; decide, fun l hl0 => ?_⟩⟩⟩⟩
      refine ⟨q, l, _, _, rfl, rfl, by rw [upd_ne (ne_of_none hd hl0)]; exact hd, upd_same, line_of (by rw [List.length_map]; show ds.length + 3 ≤ _; omega), ⟨_, _, _, _, _, rfl⟩, ?_, ds ++ [j % 1000, (j * 48271 + 11) % 2147483647 % 1000, ((j * 48271 + 11) % 2147483647 * 69621 + j) % 2147483629 % 1000], ?_, by simp; omega⟩
      · exact ((Same.keepL s (l := [q])).trans ((KeepL.new hl0).trans (KeepL.upd (by simp)))).same (Same.refl H) (by simpa using hq)
      · rw [upd_same]
        simp
  · rintro σ H' ⟨⟨v2, v3, v4, v5, v6, rfl⟩, s, ds, hd, hn⟩
    exact ⟨_, rfl, k ds q H' s hq hd⟩
theorem c_law_draws {P : Program} {w : World} {K : PySem.W.Frag} {mg : Str → Option Value} {base : Heap} (T : Txt w K mg) : C8.Cal P w K mg base 2 "_law_draws" (sp_law_draws K) [] := T.cal 69 rfl T.g__law_draws sc_law_draws (fun _ _ _ _ _ _ us hl => match us, hl with | [_], _ => rfl) l_law_draws (d_law_draws T) (r_law_draws T)
/-! ### _law_is_integer, _law_is_integers -/
def sp_law_is_integer (_ : PySem.W.Frag) : Sp := fun vs H Q _ => ∃ i, vs = [.int i] ∧ Q (.bl true) H
theorem sc_law_is_integer : FnScope ["_law_actual"] ["_law_actual"] (defScope s_law_is_integer) := C8.fnScope_by (by decide +kernel)
def t_law_is_integer (K : PySem.W.Frag) : TS := (tRet (tAndV (tCB (rIsi K) (tCons (tVar 0) (tCons (tC (.ty "int")) tNil))) (tNotV (tCB (rIsi K) (tCons (tVar 0) (tCons (tC (.ty "bool")) tNil))))))
theorem d_law_is_integer {P : Program} {w : World} {K : PySem.W.Frag} {mg : Str → Option Value} {base : Heap} (T : Txt w K mg) (f : Addr) (cdv : Value) (A : Around) (outer : List Env) (s : Shared) (H : Hp) (E : XK) (hr : Room 0 (A.deeper (envOfC "_law_is_integer" (defScope s_law_is_integer) s.heap.objs.size f cdv))) :
    PSs (Bx P w K mg base ["_law_actual"] "_law_is_integer" s_law_is_integer f cdv A outer s H E) (defBody s_law_is_integer) (t_law_is_integer K) :=
  (pss_one (ps_ret (pe_and (pe_callB call_isi (by rfl) T.f_isinstance boot_isinstance (pa_cons (pv 0) (pa_cons (pe_bltn rfl T.f_int boot_int rfl) pa_nil))) (pe_one (pe_not (pe_callB call_isi (by rfl) T.f_isinstance boot_isinstance (pa_cons (pv 0) (pa_cons (pe_bltn rfl T.f_bool boot_bool rfl) pa_nil))))))))
theorem l_law_is_integer {K : PySem.W.Frag} : ∀ vs H Q E, sp_law_is_integer K vs H Q E → vs.length = ["_law_actual"].length := by
  rintro vs H Q E ⟨_, rfl, _⟩
  rfl
theorem r_law_is_integer {w : World} {K : PySem.W.Frag} {mg : Str → Option Value} (T : Txt w K mg) : ∀ vs H Q E, sp_law_is_integer K vs H Q E → t_law_is_integer K { nx := fun _ H' => Q .non H', rt := Q } (start ["_law_actual"] vs) H := by
  rintro vs H Q E ⟨i, rfl, k⟩
  refine ⟨_, rfl, _, _, _, _, _, rfl, .ty "int", .base (.int i), kit_ty (r := true) (by decide), _, rfl, iteT ?_⟩
  exact ⟨_, rfl, _, _, _, _, _, rfl, .ty "bool", .base (.int i), kit_ty (r := false) (by decide), _, rfl, k⟩
theorem c_law_is_integer {P : Program} {w : World} {K : PySem.W.Frag} {mg : Str → Option Value} {base : Heap} (T : Txt w K mg) : C8.Cal P w K mg base 1 "_law_is_integer" (sp_law_is_integer K) [] := T.cal 78 rfl T.g__law_is_integer sc_law_is_integer (fun _ _ _ _ _ _ us hl => match us, hl with | [_], _ => rfl) l_law_is_integer (d_law_is_integer T) (r_law_is_integer T)
def sp_law_is_integers (_ : PySem.W.Frag) : Sp := fun vs H Q _ => ∃ a xs, vs = [.ref a] ∧ H a = some (.lst (iL xs)) ∧ Q (.bl true) H
theorem sc_law_is_integers : FnScope ["_law_actual", "_law_number_here"] ["_law_actual"] (defScope s_law_is_integers) := C8.fnScope_by (by decide +kernel)
def t_law_is_integers (K : PySem.W.Frag) : TS := (tSeq (tIfS (tNot (tB (tCB (rIsi K) (tCons (tVar 0) (tCons (tC (.ty "list")) tNil))))) (tRet (tC (.bl false))) tNext) (tSeq (tFor (iList K (tVar 0)) (gName 1) (tIfS (tNot (tB (tCall (sp_law_is_integer K) [] C8.E0 (tCons (tVar 1) tNil)))) (tRet (tC (.bl false))) tNext)) (tRet (tC (.bl true)))))
theorem d_law_is_integers {P : Program} {w : World} {K : PySem.W.Frag} {mg : Str → Option Value} {base : Heap} (T : Txt w K mg) (f : Addr) (cdv : Value) (A : Around) (outer : List Env) (s : Shared) (H : Hp) (E : XK) (hr : Room 1 (A.deeper (envOfC "_law_is_integers" (defScope s_law_is_integers) s.heap.objs.size f cdv))) :
    PSs (Bx P w K mg base ["_law_actual", "_law_number_here"] "_law_is_integers" s_law_is_integers f cdv A outer s H E) (defBody s_law_is_integers) (t_law_is_integers K) :=
  (pss_cons (ps_if (pt_not (pt_val (pe_callB call_isi (by rfl) T.f_isinstance boot_isinstance (pa_cons (pv 0) (pa_cons (pe_bltn rfl T.f_list boot_list rfl) pa_nil))))) (pss_one (ps_ret pe_bl)) pss_nil) (pss_cons (ps_for PassesOwn.never rfl (pi_list (pv 0)) (pg_name (i := 1) sc_law_is_integers.nd rfl (by first | exact Or.inl rfl | exact Or.inr rfl)) (pss_one (ps_if (pt_not (pt_val (C8.pe_c (c_law_is_integer T) hr (by decide) (by rfl) (pa_cons (pv 1) pa_nil)))) (pss_one (ps_ret pe_bl)) pss_nil))) (pss_one (ps_ret pe_bl))))
theorem l_law_is_integers {K : PySem.W.Frag} : ∀ vs H Q E, sp_law_is_integers K vs H Q E → vs.length = ["_law_actual"].length := by
  rintro vs H Q E ⟨_, _, rfl, _⟩
  rfl
theorem r_law_is_integers {w : World} {K : PySem.W.Frag} {mg : Str → Option Value} (T : Txt w K mg) : ∀ vs H Q E, sp_law_is_integers K vs H Q E → t_law_is_integers K { nx := fun _ H' => Q .non H', rt := Q } (start ["_law_actual", "_law_number_here"] vs) H := by
  rintro vs H Q E ⟨a, xs, rfl, ha, k⟩
  refine ⟨_, rfl, _, _, _, _, _, rfl, .ty "list", .base (.lst ha), kit_ty (r := true) (by decide), _, rfl, iteF ?_⟩
  refine ⟨_, rfl, a, rfl, ⟨_, SqL.of ha⟩, for_list (K := K) (a := a) (xs := iL xs) (fun i σ H' => (∃ v, σ = [some (.ref a), v]) ∧ H' = H) ⟨⟨none, rfl⟩, rfl⟩ (fun i σ H' _ p => by rw [p.2]; exact SqL.of ha) ?_ ?_⟩
  · rintro i x σ H' hx ⟨⟨v, rfl⟩, rfl⟩
    obtain ⟨c, rfl, hc⟩ := getV hx
    exact ⟨_, rfl, c, rfl, _, rfl, iteF ⟨⟨_, rfl⟩, rfl⟩⟩
  · rintro σ H' ⟨⟨v, rfl⟩, rfl⟩
    exact k
theorem c_law_is_integers {P : Program} {w : World} {K : PySem.W.Frag} {mg : Str → Option Value} {base : Heap} (T : Txt w K mg) : C8.Cal P w K mg base 2 "_law_is_integers" (sp_law_is_integers K) [] := T.cal 79 rfl T.g__law_is_integers sc_law_is_integers (fun _ _ _ _ _ _ us hl => match us, hl with | [_], _ => rfl) l_law_is_integers (d_law_is_integers T) (r_law_is_integers T)
/-! ### _law_char, _law_codes, _law_text, _law_char_of -/
def chN (i : Nat) : Nat := if i < 5 then 32 + i else 33 + i
def chS (x : Int) : Str := ⟨#[chN (x % 94).toNat]⟩
theorem chars_eq : (strAt s_law_char 0 ++ strAt s_law_char 1).cps.toList = (List.range 94).map chN := by kernel_rfl
theorem chars_len : (strAt s_law_char 0).length + (strAt s_law_char 1).length = 94 := by kernel_rfl
theorem chars_at {x : Int} : atI (strAt s_law_char 0 ++ strAt s_law_char 1).cps.toList (x % 94) = some (chN (x % 94).toNat) := by
  have h1 : 0 ≤ x % 94 := Int.emod_nonneg _ (by decide)
  have h2 : x % 94 < 94 := Int.emod_lt_of_pos _ (by decide)
  have h3 := atI_nat (xs := (strAt s_law_char 0 ++ strAt s_law_char 1).cps.toList) (j := (x % 94).toNat) (v := chN (x % 94).toNat) (by
    rw [chars_eq, List.getElem?_map, List.getElem?_range (by omega)]
    rfl)
  rw [Int.toNat_of_nonneg h1] at h3
  exact h3
def sp_law_char (_ : PySem.W.Frag) : Sp := fun vs H Q _ => ∃ x, vs = [.int x] ∧ Q (.str (chS x)) H
theorem sc_law_char : FnScope ["_law_code_here", "_law_chars"] ["_law_code_here"] (defScope s_law_char) := C8.fnScope_by (by decide +kernel)
def t_law_char (K : PySem.W.Frag) : TS := (tSeq (tAsg (tC (.str (strAt s_law_char 0))) (gName 1)) (tSeq (tAsg (tOp rAddStr (tVar 1) (tC (.str (strAt s_law_char 1)))) (gName 1)) (tRet (tOp rIxS (tVar 1) (tOp rModI (tCB rInt1 (tCons (tVar 0) tNil)) (tC (.int 94)))))))
theorem d_law_char {P : Program} {w : World} {K : PySem.W.Frag} {mg : Str → Option Value} {base : Heap} (T : Txt w K mg) (f : Addr) (cdv : Value) (A : Around) (outer : List Env) (s : Shared) (H : Hp) (E : XK) (hr : Room 0 (A.deeper (envOfC "_law_char" (defScope s_law_char) s.heap.objs.size f cdv))) :
    PSs (Bx P w K mg base ["_law_code_here", "_law_chars"] "_law_char" s_law_char f cdv A outer s H E) (defBody s_law_char) (t_law_char K) :=
  (pss_cons (ps_set (i := 1) sc_law_char.nd rfl (by first | exact Or.inl rfl | exact Or.inr rfl) pe_str) (pss_cons (ps_set (i := 1) sc_law_char.nd rfl (by first | exact Or.inl rfl | exact Or.inr rfl) (pe_op op_add_str (pv 1) pe_str)) (pss_one (ps_ret (pe_ix ix_str (pv 1) (pe_op op_mod (pe_callTy call_int1 (by rfl) T.f_int boot_int (pa_cons (pv 0) pa_nil)) pe_int) (fun _ _ => rfl))))))
theorem l_law_char {K : PySem.W.Frag} : ∀ vs H Q E, sp_law_char K vs H Q E → vs.length = ["_law_code_here"].length := by
  rintro vs H Q E ⟨_, rfl, _⟩
  rfl
theorem r_law_char {w : World} {K : PySem.W.Frag} {mg : Str → Option Value} (T : Txt w K mg) : ∀ vs H Q E, sp_law_char K vs H Q E → t_law_char K { nx := fun _ H' => Q .non H', rt := Q } (start ["_law_code_here", "_law_chars"] vs) H := by
  rintro vs H Q E ⟨x, rfl, k⟩
  refine ⟨_, rfl, _, _, rfl, rfl, line_of (by rw [chars_len]; decide), ?_⟩
  exact ⟨_, rfl, _, rfl, .inl ⟨_, rfl, _, _, rfl, rfl, by show (0 : Int) < 94; decide, _, _, _, rfl, rfl, line_of (by show (strAt s_law_char 0 ++ strAt s_law_char 1).cps.size ≤ _; rw [← Array.length_toList, chars_eq]; decide), chars_at, k⟩⟩
theorem c_law_char {P : Program} {w : World} {K : PySem.W.Frag} {mg : Str → Option Value} {base : Heap} (T : Txt w K mg) : C8.Cal P w K mg base 1 "_law_char" (sp_law_char K) [] := T.cal 80 rfl T.g__law_char sc_law_char (fun _ _ _ _ _ _ us hl => match us, hl with | [_], _ => rfl) l_law_char (d_law_char T) (r_law_char T)
def sp_law_codes (_ : PySem.W.Frag) : Sp := fun vs H Q _ => ∃ x, vs = [.str x] ∧ x.cps.toList.length ≤ 5000 ∧ NewL H Q (iL (codesS x))
theorem sc_law_codes : FnScope ["_law_text_here", "_law_char_here"] ["_law_text_here"] (defScope s_law_codes) := C8.fnScope_by (by decide +kernel)
def t_law_codes (K : PySem.W.Frag) : TS := (tRet (tLc (iStr (tVar 0)) (gName 1) tYes (tCB rOrd (tCons (tVar 1) tNil)) [1]))
theorem d_law_codes {P : Program} {w : World} {K : PySem.W.Frag} {mg : Str → Option Value} {base : Heap} (T : Txt w K mg) (f : Addr) (cdv : Value) (A : Around) (outer : List Env) (s : Shared) (H : Hp) (E : XK) (hr : Room 0 (A.deeper (envOfC "_law_codes" (defScope s_law_codes) s.heap.objs.size f cdv))) :
    PSs (Bx P w K mg base ["_law_text_here", "_law_char_here"] "_law_codes" s_law_codes f cdv A outer s H E) (defBody s_law_codes) (t_law_codes K) :=
  (pss_one (ps_ret (pe_lc (own := [("_law_char_here", 1)]) (g := gName 1) (tt := tYes) rfl sc_law_codes.nd (pi_str (pv 0)) (blkOk_by (own := [("_law_char_here", 1)]) (N := ["_law_text_here", "_law_char_here"]) (sc := defScope s_law_codes) (by decide +kernel)) (fun _ _ _ _ _ => pg_name (i := 1) sc_law_codes.nd rfl (Or.inl rfl)) (fun _ _ _ _ _ => pts_nil) (fun _ _ _ _ _ => (pe_callB call_ord (by rfl) T.f_ord boot_ord (pa_cons (pv 1) pa_nil))))))
theorem l_law_codes {K : PySem.W.Frag} : ∀ vs H Q E, sp_law_codes K vs H Q E → vs.length = ["_law_text_here"].length := by
  rintro vs H Q E ⟨_, rfl, _⟩
  rfl
theorem r_law_codes {w : World} {K : PySem.W.Frag} {mg : Str → Option Value} (T : Txt w K mg) : ∀ vs H Q E, sp_law_codes K vs H Q E → t_law_codes K { nx := fun _ H' => Q .non H', rt := Q } (start ["_law_text_here", "_law_char_here"] vs) H := by
  rintro vs H Q E ⟨x, rfl, hl, k⟩
  refine ⟨_, rfl, x, rfl, fun D hD => ?_⟩
  have en : x.cps.toList.length = x.cps.size := by simp
  refine ⟨fun i m H' => m = x.cps.size - i ∧ i ≤ x.cps.size ∧ Same H H' ∧ H' D = some (.lst (iL ((codesS x).take i))), ⟨_, rfl, Nat.zero_le _, Same.new hD, upd_same⟩, ?_⟩
  rintro i m H1 ⟨rfl, hi, s, h⟩
  by_cases hlt : i < x.cps.size
  · refine .inr ⟨hlt, fun H' => Same H H' ∧ H' D = some (.lst (iL ((codesS x).take (i + 1)))), fun H' p' => ⟨_, by omega, rfl, hlt, p'⟩, fun v H' y => ?_⟩
    obtain ⟨e, c, ec, ev⟩ := y
    subst e ev
    refine ⟨rfl, lcYes ?_⟩
    have hc : (codesS x)[i]? = some (c : Int) := by
      unfold codesS
      rw [List.getElem?_map, show x.cps.toList[i]? = some c by simpa using ec]
      rfl
    refine ⟨_, rfl, _, rfl, rfl, _, h, line_lt (by rw [List.length_map, List.length_take]; omega), ?_, ?_⟩
    · exact ((Same.keepL s (l := [D])).trans (KeepL.upd (by simp))).same (Same.refl H) (by simpa using hD)
    · rw [upd_same, take_snoc hc]
      simp
  · have e : i = x.cps.size := by omega
    subst e
    refine .inl ⟨Nat.le_refl _, k D H1 s hD ?_⟩
    rw [List.take_of_length_le (by unfold codesS; rw [List.length_map, en]; exact Nat.le_refl _)] at h
    exact h
theorem c_law_codes {P : Program} {w : World} {K : PySem.W.Frag} {mg : Str → Option Value} {base : Heap} (T : Txt w K mg) : C8.Cal P w K mg base 1 "_law_codes" (sp_law_codes K) [] := T.cal 81 rfl T.g__law_codes sc_law_codes (fun _ _ _ _ _ _ us hl => match us, hl with | [_], _ => rfl) l_law_codes (d_law_codes T) (r_law_codes T)
theorem chN_good (i : Nat) (h : i < 94) : goodC (chN i) = true := by
  have : ∀ i, i < 94 → goodC (chN i) = true := by decide +kernel
  exact this i h
theorem goodS_app {x y : Str} (h : goodS x = true) (g : goodS y = true) : goodS (x ++ y) = true := by
  unfold goodS at h g ⊢
  have e : (x ++ y).cps.toList = x.cps.toList ++ y.cps.toList := Array.toList_append
  rw [e, List.all_append, h, g]
  rfl
theorem len_app (x y : Str) : (x ++ y).cps.toList.length = x.cps.toList.length + y.cps.toList.length := by
  have e : (x ++ y).cps.toList = x.cps.toList ++ y.cps.toList := Array.toList_append
  rw [e, List.length_append]
theorem chS_good (x : Int) : goodS (chS x) = true := by
  have h1 : 0 ≤ x % 94 := Int.emod_nonneg _ (by decide)
  have h2 : x % 94 < 94 := Int.emod_lt_of_pos _ (by decide)
  show (goodC (chN (x % 94).toNat) && true) = true
  rw [chN_good _ (by omega)]
  rfl
theorem often_good : (strAt s_law_text 0).cps.toList.all goodC = true := by kernel_rfl
theorem often_len : (strAt s_law_text 0).cps.toList.length = 18 := by kernel_rfl
theorem str_len (x : Str) : x.length = x.cps.toList.length := by
  show x.cps.size = _
  simp
def sp_law_text (_ : PySem.W.Frag) : Sp := fun vs H Q _ => ∃ a ds, vs = [.ref a] ∧ H a = some (stk ds) ∧ ∀ ds' x, goodS x = true → x.cps.toList.length ≤ 30 → Q (.str x) (upd H a (stk ds'))
theorem sc_law_text : FnScope ["_law_draws_here", "_law_often", "_law_text_here", "_law_k", "_law_draw"] ["_law_draws_here"] (defScope s_law_text) := C8.fnScope_by (by decide +kernel)
def t_law_text (K : PySem.W.Frag) : TS := (tSeq (tAsg (tC (.str (strAt s_law_text 0))) (gName 1)) (tSeq (tAsg (tC (.str "")) (gName 2)) (tSeq (tFor (iRng1 (tCons (tOp rModI (tCB rInt1 (tCons (tCall (sp_law_next K) [] C8.E0 (tCons (tVar 0) tNil)) tNil)) (tC (.int 31))) tNil)) (gName 3) (tSeq (tAsg (tCall (sp_law_next K) [] C8.E0 (tCons (tVar 0) tNil)) (gName 4)) (tIfS (tTest (tOp rLtI (tVar 4) (tC (.int 800)))) (tAsg (tOp rAddStr (tVar 2) (tOp rIxS (tVar 1) (tOp rModI (tCB rInt1 (tCons (tVar 4) tNil)) (tC (.int 18))))) (gName 2)) (tAsg (tOp rAddStr (tVar 2) (tCall (sp_law_char K) [] C8.E0 (tCons (tVar 4) tNil))) (gName 2))))) (tRet (tVar 2)))))
theorem d_law_text {P : Program} {w : World} {K : PySem.W.Frag} {mg : Str → Option Value} {base : Heap} (T : Txt w K mg) (f : Addr) (cdv : Value) (A : Around) (outer : List Env) (s : Shared) (H : Hp) (E : XK) (hr : Room 1 (A.deeper (envOfC "_law_text" (defScope s_law_text) s.heap.objs.size f cdv))) :
    PSs (Bx P w K mg base ["_law_draws_here", "_law_often", "_law_text_here", "_law_k", "_law_draw"] "_law_text" s_law_text f cdv A outer s H E) (defBody s_law_text) (t_law_text K) :=
  (pss_cons (ps_set (i := 1) sc_law_text.nd rfl (by first | exact Or.inl rfl | exact Or.inr rfl) pe_str) (pss_cons (ps_set (i := 2) sc_law_text.nd rfl (by first | exact Or.inl rfl | exact Or.inr rfl) pe_str) (pss_cons (ps_for PassesOwn.never rfl (pi_range1 (by rfl) T.f_range (pa_cons (pe_op op_mod (pe_callTy call_int1 (by rfl) T.f_int boot_int (pa_cons (C8.pe_c (c_law_next T) hr (by decide) (by rfl) (pa_cons (pv 0) pa_nil)) pa_nil)) pe_int) pa_nil)) (pg_name (i := 3) sc_law_text.nd rfl (by first | exact Or.inl rfl | exact Or.inr rfl)) (pss_cons (ps_set (i := 4) sc_law_text.nd rfl (by first | exact Or.inl rfl | exact Or.inr rfl) (C8.pe_c (c_law_next T) hr (by decide) (by rfl) (pa_cons (pv 0) pa_nil))) (pss_one (ps_if (pt_cmpR op_lt (pv 4) pe_int (nomark _)) (pss_one (ps_set (i := 2) sc_law_text.nd rfl (by first | exact Or.inl rfl | exact Or.inr rfl) (pe_op op_add_str (pv 2) (pe_ix ix_str (pv 1) (pe_op op_mod (pe_callTy call_int1 (by rfl) T.f_int boot_int (pa_cons (pv 4) pa_nil)) pe_int) (fun _ _ => rfl))))) (pss_one (ps_set (i := 2) sc_law_text.nd rfl (by first | exact Or.inl rfl | exact Or.inr rfl) (pe_op op_add_str (pv 2) (C8.pe_c (c_law_char T) hr (by decide) (by rfl) (pa_cons (pv 4) pa_nil))))))))) (pss_one (ps_ret (pv 2))))))
theorem l_law_text {K : PySem.W.Frag} : ∀ vs H Q E, sp_law_text K vs H Q E → vs.length = ["_law_draws_here"].length := by
  rintro vs H Q E ⟨_, _, rfl, _⟩
  rfl
theorem r_law_text {w : World} {K : PySem.W.Frag} {mg : Str → Option Value} (T : Txt w K mg) : ∀ vs H Q E, sp_law_text K vs H Q E → t_law_text K { nx := fun _ H' => Q .non H', rt := Q } (start ["_law_draws_here", "_law_often", "_law_text_here", "_law_k", "_law_draw"] vs) H := by
  rintro vs H Q E ⟨a, ds, rfl, h, k⟩
  refine ⟨_, rfl, a, ds, rfl, h, .inl ⟨_, rfl, _, _, rfl, rfl, by show (0 : Int) < 31; decide, ?_⟩⟩
  generalize hd : ds.headD 0 = d0
  have b1 : 0 ≤ d0 % 31 := Int.emod_nonneg _ (by decide)
  have b2 : d0 % 31 < 31 := Int.emod_lt_of_pos _ (by decide)
  refine ⟨_, rfl, by omega, by omega, for_range (n := (d0 % 31).toNat) (fun i σ H' => ∃ x v3 v4 ds', σ = [some (.ref a), some (.str (strAt s_law_text 0)), some (.str x), v3, v4] ∧ H' = upd H a (stk ds') ∧ goodS x = true ∧ x.cps.toList.length = i) ⟨"", none, none, ds.tail, rfl, rfl, rfl, rfl⟩ ?_ ?_⟩
  · rintro i σ H' hi ⟨x, v3, v4, ds', rfl, rfl, hg, hn⟩
    refine ⟨_, rfl, a, ds', rfl, upd_same, ?_⟩
    rw [upd_upd]
    refine ⟨_, rfl, _, _, rfl, rfl, _, rfl, ?_⟩
    have lx : x.length ≤ 30 := by rw [str_len]; omega
    by_cases h8 : ds'.headD 0 < 800
    · have c1 : 0 ≤ ds'.headD 0 % 18 := Int.emod_nonneg _ (by decide)
      have c2 : ds'.headD 0 % 18 < 18 := Int.emod_lt_of_pos _ (by decide)
      have hj : (ds'.headD 0 % 18).toNat < (strAt s_law_text 0).cps.toList.length := by rw [often_len]; omega
      have ha := atI_nat (xs := (strAt s_law_text 0).cps.toList) (j := (ds'.headD 0 % 18).toNat) (v := (strAt s_law_text 0).cps.toList[(ds'.headD 0 % 18).toNat]) (List.getElem?_eq_getElem hj)
      rw [Int.toNat_of_nonneg c1] at ha
      have gc : goodC ((strAt s_law_text 0).cps.toList[(ds'.headD 0 % 18).toNat]) = true := List.all_eq_true.mp often_good _ (List.getElem_mem hj)
      refine iteDT h8 ⟨_, rfl, _, rfl, _, rfl, .inl ⟨_, rfl, _, _, rfl, rfl, by show (0 : Int) < 18; decide, _, _, _, rfl, rfl, line_of (by rw [str_len, often_len]; decide), ha, _, _, rfl, rfl, line_of (by show x.length + 1 ≤ _; omega), ?_⟩⟩
      refine ⟨_, _, _, ds'.tail, rfl, rfl, goodS_app hg ?_, ?_⟩
      · show (goodC _ && true) = true
        rw [gc]
        rfl
      · rw [len_app, hn]
        rfl
    · refine iteDF h8 ⟨_, rfl, _, rfl, _, rfl, _, _, rfl, rfl, line_of (by show x.length + 1 ≤ _; omega), ?_⟩
      refine ⟨_, _, _, ds'.tail, rfl, rfl, goodS_app hg (chS_good _), ?_⟩
      rw [len_app, hn]
      rfl
  · rintro σ H' ⟨x, v3, v4, ds', rfl, rfl, hg, hn⟩
    exact ⟨_, rfl, k ds' x hg (by omega)⟩
theorem c_law_text {P : Program} {w : World} {K : PySem.W.Frag} {mg : Str → Option Value} {base : Heap} (T : Txt w K mg) : C8.Cal P w K mg base 2 "_law_text" (sp_law_text K) [] := T.cal 82 rfl T.g__law_text sc_law_text (fun _ _ _ _ _ _ us hl => match us, hl with | [_], _ => rfl) l_law_text (d_law_text T) (r_law_text T)
/-- a good character, from its code -/
theorem chS_38 {c : Nat} (h : goodC c = true) (h1 : c ≠ 10) (h2 : 37 ≤ c) : chS ((c : Int) - 33) = ⟨#[c]⟩ := by
  unfold goodC at h
  simp only [Bool.or_eq_true, Bool.and_eq_true, decide_eq_true_eq, Bool.not_eq_true', decide_eq_false_iff_not] at h
  have e : ((c : Int) - 33) % 94 = (c : Int) - 33 := Int.emod_eq_of_lt (by omega) (by omega)
  unfold chS chN
  rw [e, if_neg (by omega)]
  rw [show 33 + ((c : Int) - 33).toNat = c by omega]
theorem chS_32 {c : Nat} (h : goodC c = true) (h1 : c ≠ 10) (h2 : c < 37) : chS ((c : Int) - 32) = ⟨#[c]⟩ := by
  unfold goodC at h
  simp only [Bool.or_eq_true, Bool.and_eq_true, decide_eq_true_eq, Bool.not_eq_true', decide_eq_false_iff_not] at h
  have e : ((c : Int) - 32) % 94 = (c : Int) - 32 := Int.emod_eq_of_lt (by omega) (by omega)
  unfold chS chN
  rw [e, if_pos (by omega)]
  rw [show 32 + ((c : Int) - 32).toNat = c by omega]
def sp_law_char_of (_ : PySem.W.Frag) : Sp := fun vs H Q _ => ∃ c : Nat, vs = [.int (c : Int)] ∧ goodC c = true ∧ Q (.str ⟨#[c]⟩) H
theorem sc_law_char_of : FnScope ["_law_code_here"] ["_law_code_here"] (defScope s_law_char_of) := C8.fnScope_by (by decide +kernel)
def t_law_char_of (K : PySem.W.Frag) : TS := (tSeq (tIfS (tTest (tOp rEq (tVar 0) (tC (.int 10)))) (tRet (tC (.str "\n"))) tNext) (tSeq (tIfS (tTest (tOp rLtI (tVar 0) (tC (.int 37)))) (tRet (tCall (sp_law_char K) [] C8.E0 (tCons (tOp rSubI (tVar 0) (tC (.int 32))) tNil))) tNext) (tRet (tCall (sp_law_char K) [] C8.E0 (tCons (tOp rSubI (tVar 0) (tC (.int 33))) tNil)))))
theorem d_law_char_of {P : Program} {w : World} {K : PySem.W.Frag} {mg : Str → Option Value} {base : Heap} (T : Txt w K mg) (f : Addr) (cdv : Value) (A : Around) (outer : List Env) (s : Shared) (H : Hp) (E : XK) (hr : Room 1 (A.deeper (envOfC "_law_char_of" (defScope s_law_char_of) s.heap.objs.size f cdv))) :
    PSs (Bx P w K mg base ["_law_code_here"] "_law_char_of" s_law_char_of f cdv A outer s H E) (defBody s_law_char_of) (t_law_char_of K) :=
  (pss_cons (ps_if (pt_cmpR op_eq (pv 0) pe_int (nomark _)) (pss_one (ps_ret pe_str)) pss_nil) (pss_cons (ps_if (pt_cmpR op_lt (pv 0) pe_int (nomark _)) (pss_one (ps_ret (C8.pe_c (c_law_char T) hr (by decide) (by rfl) (pa_cons (pe_op op_sub (pv 0) pe_int) pa_nil)))) pss_nil) (pss_one (ps_ret (C8.pe_c (c_law_char T) hr (by decide) (by rfl) (pa_cons (pe_op op_sub (pv 0) pe_int) pa_nil))))))
theorem l_law_char_of {K : PySem.W.Frag} : ∀ vs H Q E, sp_law_char_of K vs H Q E → vs.length = ["_law_code_here"].length := by
  rintro vs H Q E ⟨_, rfl, _⟩
  rfl
theorem r_law_char_of {w : World} {K : PySem.W.Frag} {mg : Str → Option Value} (T : Txt w K mg) : ∀ vs H Q E, sp_law_char_of K vs H Q E → t_law_char_of K { nx := fun _ H' => Q .non H', rt := Q } (start ["_law_code_here"] vs) H := by
  rintro vs H Q E ⟨c, rfl, hg, k⟩
  refine ⟨_, rfl, rfl, _, rfl, ?_⟩
  by_cases h1 : c = 10
  · subst h1
    refine ieT rfl ?_
    show Q (.str (Str.ofString "\n")) H
    rw [newline]
    exact k
  · refine ieF (by omega) ⟨_, rfl, _, _, rfl, rfl, _, rfl, ?_⟩
    by_cases h2 : c < 37
    · refine iteDT (by omega) ⟨_, rfl, _, _, rfl, rfl, _, rfl, ?_⟩
      rw [chS_32 hg h1 h2]
      exact k
    · refine iteDF (by omega) ⟨_, rfl, _, _, rfl, rfl, _, rfl, ?_⟩
      rw [chS_38 hg h1 (by omega)]
      exact k
theorem c_law_char_of {P : Program} {w : World} {K : PySem.W.Frag} {mg : Str → Option Value} {base : Heap} (T : Txt w K mg) : C8.Cal P w K mg base 2 "_law_char_of" (sp_law_char_of K) [] := T.cal 88 rfl T.g__law_char_of sc_law_char_of (fun _ _ _ _ _ _ us hl => match us, hl with | [_], _ => rfl) l_law_char_of (d_law_char_of T) (r_law_char_of T)
/-! ### _law_place -/
def plV : Option Nat → V
  | none => .int (-1)
  | some n => .int (n : Int)
def sp_law_place (_ : PySem.W.Frag) : Sp := fun vs H Q _ => ∃ a b xs ys, vs = [.ref a, .ref b] ∧ H a = some (.lst (iL xs)) ∧ H b = some (.lst (iL ys)) ∧ xs.length ≤ 1000000 ∧ Q (plV (fd xs ys 0)) H
theorem sc_law_place : FnScope ["_law_one", "_law_other", "_law_at"] ["_law_one", "_law_other"] (defScope s_law_place) := C8.fnScope_by (by decide +kernel)
def t_law_place (K : PySem.W.Frag) : TS := (tSeq (tFor (iRng1 (tCons (tCB (rLenSeq K) (tCons (tVar 0) tNil)) tNil)) (gName 2) (tIfS (tOr (tTest (tOp rGeI (tVar 2) (tCB (rLenSeq K) (tCons (tVar 1) tNil)))) (tTest (tOp rNe (tOp (rIxL K) (tVar 0) (tVar 2)) (tOp (rIxL K) (tVar 1) (tVar 2))))) (tRet (tVar 2)) tNext)) (tSeq (tIfS (tTest (tOp rGtI (tCB (rLenSeq K) (tCons (tVar 1) tNil)) (tCB (rLenSeq K) (tCons (tVar 0) tNil)))) (tRet (tCB (rLenSeq K) (tCons (tVar 0) tNil))) tNext) (tRet (tUn rNegI (tC (.int 1))))))
theorem d_law_place {P : Program} {w : World} {K : PySem.W.Frag} {mg : Str → Option Value} {base : Heap} (T : Txt w K mg) (f : Addr) (cdv : Value) (A : Around) (outer : List Env) (s : Shared) (H : Hp) (E : XK) (hr : Room 0 (A.deeper (envOfC "_law_place" (defScope s_law_place) s.heap.objs.size f cdv))) :
    PSs (Bx P w K mg base ["_law_one", "_law_other", "_law_at"] "_law_place" s_law_place f cdv A outer s H E) (defBody s_law_place) (t_law_place K) :=
  (pss_cons (ps_for PassesOwn.never rfl (pi_range1 (by rfl) T.f_range (pa_cons (pe_callB call_len_seq (by rfl) T.f_len boot_len (pa_cons (pv 0) pa_nil)) pa_nil)) (pg_name (i := 2) sc_law_place.nd rfl (by first | exact Or.inl rfl | exact Or.inr rfl)) (pss_one (ps_if (PW.pt (pw_or (pt_cmpR op_ge (pv 2) (pe_callB call_len_seq (by rfl) T.f_len boot_len (pa_cons (pv 1) pa_nil)) (nomark _)) (pw_or1 (pt_cmpR op_ne (pe_ix ix_list (pv 0) (pv 2) (fun _ _ => rfl)) (pe_ix ix_list (pv 1) (pv 2) (fun _ _ => rfl)) (nomark _))))) (pss_one (ps_ret (pv 2))) pss_nil))) (pss_cons (ps_if (pt_cmpR op_gt (pe_callB call_len_seq (by rfl) T.f_len boot_len (pa_cons (pv 1) pa_nil)) (pe_callB call_len_seq (by rfl) T.f_len boot_len (pa_cons (pv 0) pa_nil)) (nomark _)) (pss_one (ps_ret (pe_callB call_len_seq (by rfl) T.f_len boot_len (pa_cons (pv 0) pa_nil)))) pss_nil) (pss_one (ps_ret (pe_un un_neg pe_int)))))
theorem l_law_place {K : PySem.W.Frag} : ∀ vs H Q E, sp_law_place K vs H Q E → vs.length = ["_law_one", "_law_other"].length := by
  rintro vs H Q E ⟨_, _, _, _, rfl, _⟩
  rfl
theorem r_law_place {w : World} {K : PySem.W.Frag} {mg : Str → Option Value} (T : Txt w K mg) : ∀ vs H Q E, sp_law_place K vs H Q E → t_law_place K { nx := fun _ H' => Q .non H', rt := Q } (start ["_law_one", "_law_other", "_law_at"] vs) H := by
  rintro vs H Q E ⟨a, b, xs, ys, rfl, ha, hb, hl, k⟩
  refine ⟨_, rfl, a, _, rfl, .inl (SqL.of ha), ?_⟩
  rw [List.length_map]
  refine ⟨_, rfl, by omega, by omega, for_range (n := ((xs.length : Int)).toNat) (fun i σ H' => (∃ v, σ = [some (.ref a), some (.ref b), v]) ∧ H' = H ∧ fd xs ys 0 = fd (xs.drop i) (ys.drop i) i) ⟨⟨none, rfl⟩, rfl, rfl⟩ ?_ ?_⟩
  · rintro i σ H' hi ⟨⟨v, rfl⟩, rfl, e⟩
    have hlt : i < xs.length := by omega
    refine ⟨_, rfl, _, rfl, b, _, rfl, .inl (SqL.of hb), _, _, rfl, rfl, _, rfl, ?_⟩
    rw [List.length_map]
    by_cases h2 : ys.length ≤ i
    · refine iteDT (by omega) (iteT ⟨_, rfl, ?_⟩)
      rw [e, fd_short hlt h2] at k
      rw [show (0 : Int) + (i : Int) = (i : Int) by omega]
      exact k
    · have h2' : i < ys.length := by omega
      refine iteDF (by omega) ⟨_, rfl, _, rfl, a, _, _, .int xs[i], rfl, rfl, SqL.of ha, ?_, _, rfl, _, rfl, b, _, _, .int ys[i], rfl, rfl, SqL.of hb, ?_, rfl, _, rfl, ?_⟩
      · rw [show (0 : Int) + (i : Int) = (i : Int) by omega]
        exact atI_nat (by rw [List.getElem?_map, List.getElem?_eq_getElem hlt]; rfl)
      · rw [show (0 : Int) + (i : Int) = (i : Int) by omega]
        exact atI_nat (by rw [List.getElem?_map, List.getElem?_eq_getElem h2']; rfl)
      · rw [int_eq_dec]
        by_cases h3 : xs[i] = ys[i]
        · refine iteNT h3 ⟨⟨_, rfl⟩, rfl, ?_⟩
          rw [fd_go hlt h2' h3.symm] at e
          exact e
        · refine iteND h3 ⟨_, rfl, ?_⟩
          rw [e, fd_ne hlt h2' (fun z => h3 z.symm)] at k
          rw [show (0 : Int) + (i : Int) = (i : Int) by omega]
          exact k
  · rintro σ H' ⟨⟨v, rfl⟩, rfl, e⟩
    rw [show ((xs.length : Int)).toNat = xs.length by omega] at e
    refine ⟨_, rfl, b, _, rfl, .inl (SqL.of hb), _, rfl, a, _, rfl, .inl (SqL.of ha), _, _, rfl, rfl, _, rfl, ?_⟩
    rw [List.length_map, List.length_map]
    rw [e, fd_end] at k
    by_cases h : xs.length < ys.length
    · refine iteDT (by omega) ⟨_, rfl, a, _, rfl, .inl (SqL.of ha), ?_⟩
      rw [if_pos h] at k
      rw [List.length_map]
      exact k
    · refine iteDF (by omega) ⟨_, rfl, ?_⟩
      rw [if_neg h] at k
      exact k
theorem c_law_place {P : Program} {w : World} {K : PySem.W.Frag} {mg : Str → Option Value} {base : Heap} (T : Txt w K mg) : C8.Cal P w K mg base 1 "_law_place" (sp_law_place K) [] := T.cal 84 rfl T.g__law_place sc_law_place (fun _ _ _ _ _ _ us hl => match us, hl with | [_, _], _ => rfl) l_law_place (d_law_place T) (r_law_place T)
end Pl

set_option Elab.async false
set_option linter.all false
set_option maxRecDepth 100000
set_option maxHeartbeats 4000000
namespace Pl
open PySem PySem.Spec PyProof.Rows L2
theorem upd_old {H : Hp} {q r : Addr} {o u : HO} (hq : H q = some o) (hr : H r = none) : upd H r u q = some o := by
  rw [upd_ne (ne_of_none hq hr)]
  exact hq
/-! ### the state of the law's translation: a dict -/
def kvT (by_ : Int) (im pl : Addr) (t : Tr) : List (Key × V) := [(Sum.inr "image", .ref im), (Sum.inr "m", .int t.m), (Sum.inr "k", .int t.k), (Sum.inr "by", .int by_), (Sum.inr "pile", .ref pl)]
structure TrD (H : Hp) (d im pl : Addr) (by_ : Int) (t : Tr) : Prop where
  hd : H d = some (.dK (kvT by_ im pl t))
  hi : H im = some (stk t.img)
  hp : H pl = some (stk t.pile)
  ne : im ≠ pl
section
variable {H : Hp} {d im pl : Addr} {by_ x : Int} {t : Tr}
theorem kvT_I : valV (kvT by_ im pl t) (Sum.inr "image") = some (.ref im) := by kernel_rfl
theorem kvT_M : valV (kvT by_ im pl t) (Sum.inr "m") = some (.int t.m) := by kernel_rfl
theorem kvT_K : valV (kvT by_ im pl t) (Sum.inr "k") = some (.int t.k) := by kernel_rfl
theorem kvT_B : valV (kvT by_ im pl t) (Sum.inr "by") = some (.int by_) := by kernel_rfl
theorem kvT_P : valV (kvT by_ im pl t) (Sum.inr "pile") = some (.ref pl) := by kernel_rfl
theorem kvT_m : putK (kvT by_ im pl t) (Sum.inr "m") (.int x) = kvT by_ im pl { t with m := x } := by kernel_rfl
theorem kvT_k : putK (kvT by_ im pl t) (Sum.inr "k") (.int x) = kvT by_ im pl { t with k := x } := by kernel_rfl
theorem TrD.gI (h : TrD H d im pl by_ t) : DGet H d (.str "image") (some (.ref im)) := by rw [← kvT_I (by_ := by_) (pl := pl) (t := t)]; exact DGet.k (k := Sum.inr "image") h.hd
theorem TrD.gM (h : TrD H d im pl by_ t) : DGet H d (.str "m") (some (.int t.m)) := by rw [← kvT_M (by_ := by_) (im := im) (pl := pl) (t := t)]; exact DGet.k (k := Sum.inr "m") h.hd
theorem TrD.gK (h : TrD H d im pl by_ t) : DGet H d (.str "k") (some (.int t.k)) := by rw [← kvT_K (by_ := by_) (im := im) (pl := pl) (t := t)]; exact DGet.k (k := Sum.inr "k") h.hd
theorem TrD.gB (h : TrD H d im pl by_ t) : DGet H d (.str "by") (some (.int by_)) := by rw [← kvT_B (by_ := by_) (im := im) (pl := pl) (t := t)]; exact DGet.k (k := Sum.inr "by") h.hd
theorem TrD.gP (h : TrD H d im pl by_ t) : DGet H d (.str "pile") (some (.ref pl)) := by rw [← kvT_P (by_ := by_) (im := im) (t := t)]; exact DGet.k (k := Sum.inr "pile") h.hd
theorem TrD.di (h : TrD H d im pl by_ t) : d ≠ im := ne_of h.hd h.hi (by intro z; cases z)
theorem TrD.dp (h : TrD H d im pl by_ t) : d ≠ pl := ne_of h.hd h.hp (by intro z; cases z)
theorem TrD.new (h : TrD H d im pl by_ t) {q : Addr} {o : HO} (hq : H q = none) : TrD (upd H q o) d im pl by_ t := ⟨upd_old h.hd hq, upd_old h.hi hq, upd_old h.hp hq, h.ne⟩
theorem TrD.setD (h : TrD H d im pl by_ t) {t' : Tr} {kvs : List (Key × V)} (e : kvs = kvT by_ im pl t') (e1 : t'.img = t.img) (e2 : t'.pile = t.pile) : TrD (upd H d (.dK kvs)) d im pl by_ t' :=
  ⟨by rw [upd_same, e], by rw [upd_ne h.di.symm, e1]; exact h.hi, by rw [upd_ne h.dp.symm, e2]; exact h.hp, h.ne⟩
theorem TrD.sM (h : TrD H d im pl by_ t) (x : Int) : TrD (upd H d (.dK (putK (kvT by_ im pl t) (Sum.inr "m") (.int x)))) d im pl by_ { t with m := x } := h.setD kvT_m rfl rfl
theorem TrD.sK (h : TrD H d im pl by_ t) (x : Int) : TrD (upd H d (.dK (putK (kvT by_ im pl t) (Sum.inr "k") (.int x)))) d im pl by_ { t with k := x } := h.setD kvT_k rfl rfl
theorem TrD.setI (h : TrD H d im pl by_ t) (l : List Int) : TrD (upd H im (stk l)) d im pl by_ { t with img := l } :=
  ⟨by rw [upd_ne h.di]; exact h.hd, upd_same, by rw [upd_ne h.ne.symm]; exact h.hp, h.ne⟩
theorem TrD.setP (h : TrD H d im pl by_ t) (l : List Int) : TrD (upd H pl (stk l)) d im pl by_ { t with pile := l } :=
  ⟨by rw [upd_ne h.dp]; exact h.hd, by rw [upd_ne h.ne]; exact h.hi, upd_same, h.ne⟩
theorem TrD.pM (h : TrD H d im pl by_ t) (x : Int) : DPut H d (.str "m") (.int x) (upd H d (.dK (putK (kvT by_ im pl t) (Sum.inr "m") (.int x)))) := DPut.k (k := Sum.inr "m") h.hd (by show 5 < sizeLine; decide)
theorem TrD.pK (h : TrD H d im pl by_ t) (x : Int) : DPut H d (.str "k") (.int x) (upd H d (.dK (putK (kvT by_ im pl t) (Sum.inr "k") (.int x)))) := DPut.k (k := Sum.inr "k") h.hd (by show 5 < sizeLine; decide)
theorem TrD.ext (h : TrD H d im pl by_ t) {q : Addr} {a b c e : Int} {Q : VK} (hq : H q = none) (hb : t.img.length ≤ 200000) (k : ∀ {H' : Hp}, TrD H' d im pl by_ { t with img := e :: c :: b :: a :: t.img } → KeepL [d, im, pl] H H' → Q .non H') :
    rExtend (.ref im) [.ref q] (upd H q (.lst [.int a, .int b, .int c, .int e])) Q := by
  have h1 := h.new (o := .lst [.int a, .int b, .int c, .int e]) hq
  refine ⟨im, q, _, _, rfl, rfl, h1.hi, upd_same, line_of (by simp; omega), ?_⟩
  rw [stk4]
  exact k (h1.setI _) ((KeepL.new hq).trans (KeepL.upd (by simp)))
end
def TrToD (H : Hp) (d im pl : Addr) (by_ : Int) (t' : Tr) (Q : VK) : Prop := ∀ H', TrD H' d im pl by_ t' → KeepL [d, im, pl] H H' → Q .non H'
/-! ### _law_emit .. _law_code -/
theorem extSeqI {K : PySem.W.Frag} {σ : L2.St} {H : Hp} {d im pl : Addr} {by_ : Int} {t : Tr} (h : TrD H d im pl by_ t) (hd : σ[0]? = some (some (.ref d))) (hb : t.img.length ≤ 200000) {ta tb tc : TE} {a b c : Int} {S : TS} {D : L2.Ends} (ha : ∀ R : VK, R (.int a) H → ta σ H R) (hbb : ∀ R : VK, R (.int b) H → tb σ H R) (hc : ∀ R : VK, R (.int c) H → tc σ H R)
    (k : ∀ {H' : Hp}, TrD H' d im pl by_ { t with img := c :: b :: a :: t.m :: t.img } → KeepL [d, im, pl] H H' → S D σ H') :
    tSeq (tDrop (tBM K "list" rExtend (tDGet (tVar 0) (tC (.str "image"))) (tCons (tLst (tCons (tDGet (tVar 0) (tC (.str "m"))) (tCons ta (tCons tb (tCons tc tNil))))) tNil))) S D σ H :=
  ⟨_, hd, d, _, rfl, h.gI, .inl ⟨rfl, _, SqL.of h.hi⟩, _, hd, d, _, rfl, h.gM, ha _ (hbb _ (hc _ ⟨by show 4 ≤ sizeLine; decide, fun q hq => h.ext (Q := fun _ H' => S D σ H') hq hb fun h1 k1 => k h1 k1⟩))⟩
def sp_law_emit (_ : PySem.W.Frag) : Sp := fun vs H Q _ => ∃ d im pl by_ t op arg, vs = [.ref d, .int op, .int arg] ∧ TrD H d im pl by_ t ∧ t.img.length ≤ 100000 ∧ TrToD H d im pl by_ (t.emit by_ op arg) Q
theorem sc_law_emit : FnScope ["_law_state", "_law_op", "_law_arg"] ["_law_state", "_law_op", "_law_arg"] (defScope s_law_emit) := C8.fnScope_by (by decide +kernel)
def t_law_emit (K : PySem.W.Frag) : TS := (tSeq (tDrop (tBM K "list" rExtend (tDGet (tVar 0) (tC (.str "image"))) (tCons (tLst (tCons (tDGet (tVar 0) (tC (.str "m"))) (tCons (tVar 1) (tCons (tVar 2) (tCons (tDGet (tVar 0) (tC (.str "k"))) tNil))))) tNil))) (tSeq (sDPut (tVar 0) (tC (.str "m")) (tDGet (tVar 0) (tC (.str "k")))) (sDPut (tVar 0) (tC (.str "k")) (tOp rAddI (tDGet (tVar 0) (tC (.str "k"))) (tDGet (tVar 0) (tC (.str "by")))))))
theorem d_law_emit {P : Program} {w : World} {K : PySem.W.Frag} {mg : Str → Option Value} {base : Heap} (T : Txt w K mg) (f : Addr) (cdv : Value) (A : Around) (outer : List Env) (s : Shared) (H : Hp) (E : XK) (hr : Room 0 (A.deeper (envOfC "_law_emit" (defScope s_law_emit) s.heap.objs.size f cdv))) :
    PSs (Bx P w K mg base ["_law_state", "_law_op", "_law_arg"] "_law_emit" s_law_emit f cdv A outer s H E) (defBody s_law_emit) (t_law_emit K) :=
  (pss_cons (ps_expr (pe_bm PySem.F.plainAttrs_list PySem.F.slot_list_extend PySem.F.type_list_extend mt_extend (pe_dget (hu_of hr) (pv 0) pe_str (fun _ _ => rfl)) (pa_cons (pe_lst (pa_cons (pe_dget (hu_of hr) (pv 0) pe_str (fun _ _ => rfl)) (pa_cons (pv 1) (pa_cons (pv 2) (pa_cons (pe_dget (hu_of hr) (pv 0) pe_str (fun _ _ => rfl)) pa_nil))))) pa_nil))) (pss_cons (ps_dput (hu_of hr) (pv 0) pe_str (pe_dget (hu_of hr) (pv 0) pe_str (fun _ _ => rfl)) rfl) (pss_one (ps_dput (hu_of hr) (pv 0) pe_str (pe_op op_add (pe_dget (hu_of hr) (pv 0) pe_str (fun _ _ => rfl)) (pe_dget (hu_of hr) (pv 0) pe_str (fun _ _ => rfl))) rfl))))
theorem l_law_emit {K : PySem.W.Frag} : ∀ vs H Q E, sp_law_emit K vs H Q E → vs.length = ["_law_state", "_law_op", "_law_arg"].length := by
  rintro vs H Q E ⟨_, _, _, _, _, _, _, rfl, _⟩
  rfl
theorem r_law_emit {w : World} {K : PySem.W.Frag} {mg : Str → Option Value} (T : Txt w K mg) : ∀ vs H Q E, sp_law_emit K vs H Q E → t_law_emit K { nx := fun _ H' => Q .non H', rt := Q } (start ["_law_state", "_law_op", "_law_arg"] vs) H := by
  rintro vs H Q E ⟨d, im, pl, by_, t, op, arg, rfl, h, hb, k⟩
  refine extSeqI h rfl (by omega) (fun R r => ⟨_, rfl, r⟩) (fun R r => ⟨_, rfl, r⟩) (fun R r => ⟨_, rfl, d, _, rfl, h.gK, r⟩) fun h1 kh1 => ?_
  refine ⟨_, rfl, d, _, rfl, h1.gK, _, rfl, d, _, rfl, h1.pM _, ?_⟩
  have h2 := h1.sM t.k
  refine ⟨_, rfl, d, _, rfl, h2.gK, _, rfl, d, _, rfl, h2.gB, _, _, rfl, rfl, _, rfl, d, _, rfl, h2.pK _, ?_⟩
  exact k _ (h2.sK _) (kh1.trans ((KeepL.upd (by simp)).trans (KeepL.upd (by simp))))
theorem c_law_emit {P : Program} {w : World} {K : PySem.W.Frag} {mg : Str → Option Value} {base : Heap} (T : Txt w K mg) : C8.Cal P w K mg base 1 "_law_emit" (sp_law_emit K) [] := T.cal 72 rfl T.g__law_emit sc_law_emit (fun _ _ _ _ _ _ us hl => match us, hl with | [_, _, _], _ => rfl) l_law_emit (d_law_emit T) (r_law_emit T)
def sp_law_branch (_ : PySem.W.Frag) : Sp := fun vs H Q _ => ∃ d im pl by_ t c, vs = [.ref d, .int c] ∧ TrD H d im pl by_ t ∧ t.img.length ≤ 99000 ∧ t.pile.length ≤ 99000 ∧ (c = 91 ∨ c = 93 ∨ (123 ≤ c ∧ c ≤ 125)) ∧ TrToD H d im pl by_ (t.bracket by_ c) Q
theorem sc_law_branch : FnScope ["_law_state", "_law_code_here", "_law_pile", "_law_new", "_law_after", "_law_start"] ["_law_state", "_law_code_here"] (defScope s_law_branch) := C8.fnScope_by (by decide +kernel)
def t_law_branch (K : PySem.W.Frag) : TS := (tSeq (tAsg (tDGet (tVar 0) (tC (.str "pile"))) (gName 2)) (tSeq (tAsg (tDGet (tVar 0) (tC (.str "k"))) (gName 3)) (tIfS (tTest (tOp rEq (tVar 1) (tC (.int 91)))) (tSeq (tDrop (tBM K "list" rAppend (tVar 2) (tCons (tVar 3) tNil))) (tSeq (sDPut (tVar 0) (tC (.str "k")) (tOp rAddI (tVar 3) (tDGet (tVar 0) (tC (.str "by"))))) (tDrop (tCall (sp_law_emit K) [] C8.E0 (tCons (tVar 0) (tCons (tC (.int 63)) (tCons (tVar 3) tNil))))))) (tIfS (tTest (tOp rEq (tVar 1) (tC (.int 93)))) (tSeq (tAsg (tCall (sp_law_pull K) [] C8.E0 (tCons (tVar 2) tNil)) (gName 4)) (tSeq (tDrop (tBM K "list" rExtend (tDGet (tVar 0) (tC (.str "image"))) (tCons (tLst (tCons (tDGet (tVar 0) (tC (.str "m"))) (tCons (tC (.int 32)) (tCons (tC (.int 0)) (tCons (tVar 4) tNil))))) tNil))) (sDPut (tVar 0) (tC (.str "m")) (tVar 4)))) (tIfS (tTest (tOp rEq (tVar 1) (tC (.int 125)))) (tSeq (tAsg (tCall (sp_law_pull K) [] C8.E0 (tCons (tVar 2) tNil)) (gName 5)) (tSeq (sDPut (tVar 0) (tC (.str "k")) (tOp rAddI (tVar 3) (tDGet (tVar 0) (tC (.str "by"))))) (tSeq (tDrop (tBM K "list" rExtend (tDGet (tVar 0) (tC (.str "image"))) (tCons (tLst (tCons (tDGet (tVar 0) (tC (.str "m"))) (tCons (tC (.int 63)) (tCons (tVar 3) (tCons (tVar 5) tNil))))) tNil))) (sDPut (tVar 0) (tC (.str "m")) (tVar 3))))) (tSeq (sDPut (tVar 0) (tC (.str "k")) (tOp rAddI (tVar 3) (tDGet (tVar 0) (tC (.str "by"))))) (tSeq (tDrop (tBM K "list" rExtend (tDGet (tVar 0) (tC (.str "image"))) (tCons (tLst (tCons (tDGet (tVar 0) (tC (.str "m"))) (tCons (tC (.int 32)) (tCons (tC (.int 0)) (tCons (tVar 3) tNil))))) tNil))) (tSeq (sDPut (tVar 0) (tC (.str "m")) (tVar 3)) (tSeq (tIfS (tTest (tOp rEq (tVar 1) (tC (.int 124)))) (sDPut (tVar 0) (tC (.str "m")) (tCall (sp_law_pull K) [] C8.E0 (tCons (tVar 2) tNil))) tNext) (tDrop (tBM K "list" rAppend (tVar 2) (tCons (tVar 3) tNil))))))))))))
theorem d_law_branch {P : Program} {w : World} {K : PySem.W.Frag} {mg : Str → Option Value} {base : Heap} (T : Txt w K mg) (f : Addr) (cdv : Value) (A : Around) (outer : List Env) (s : Shared) (H : Hp) (E : XK) (hr : Room 1 (A.deeper (envOfC "_law_branch" (defScope s_law_branch) s.heap.objs.size f cdv))) :
    PSs (Bx P w K mg base ["_law_state", "_law_code_here", "_law_pile", "_law_new", "_law_after", "_law_start"] "_law_branch" s_law_branch f cdv A outer s H E) (defBody s_law_branch) (t_law_branch K) :=
  (pss_cons (ps_set (i := 2) sc_law_branch.nd rfl (by first | exact Or.inl rfl | exact Or.inr rfl) (pe_dget (hu_of hr) (pv 0) pe_str (fun _ _ => rfl))) (pss_cons (ps_set (i := 3) sc_law_branch.nd rfl (by first | exact Or.inl rfl | exact Or.inr rfl) (pe_dget (hu_of hr) (pv 0) pe_str (fun _ _ => rfl))) (pss_one (ps_if (pt_cmpR op_eq (pv 1) pe_int (nomark _)) (pss_cons (ps_expr (pe_bm PySem.F.plainAttrs_list PySem.F.slot_list_append PySem.F.type_list_append mt_append (pv 2) (pa_cons (pv 3) pa_nil))) (pss_cons (ps_dput (hu_of hr) (pv 0) pe_str (pe_op op_add (pv 3) (pe_dget (hu_of hr) (pv 0) pe_str (fun _ _ => rfl))) rfl) (pss_one (ps_expr (C8.pe_c (c_law_emit T) hr (by decide) (by rfl) (pa_cons (pv 0) (pa_cons pe_int (pa_cons (pv 3) pa_nil)))))))) (pss_one (ps_if (pt_cmpR op_eq (pv 1) pe_int (nomark _)) (pss_cons (ps_set (i := 4) sc_law_branch.nd rfl (by first | exact Or.inl rfl | exact Or.inr rfl) (C8.pe_c (c_law_pull T) hr (by decide) (by rfl) (pa_cons (pv 2) pa_nil))) (pss_cons (ps_expr (pe_bm PySem.F.plainAttrs_list PySem.F.slot_list_extend PySem.F.type_list_extend mt_extend (pe_dget (hu_of hr) (pv 0) pe_str (fun _ _ => rfl)) (pa_cons (pe_lst (pa_cons (pe_dget (hu_of hr) (pv 0) pe_str (fun _ _ => rfl)) (pa_cons pe_int (pa_cons pe_int (pa_cons (pv 4) pa_nil))))) pa_nil))) (pss_one (ps_dput (hu_of hr) (pv 0) pe_str (pv 4) rfl)))) (pss_one (ps_if (pt_cmpR op_eq (pv 1) pe_int (nomark _)) (pss_cons (ps_set (i := 5) sc_law_branch.nd rfl (by first | exact Or.inl rfl | exact Or.inr rfl) (C8.pe_c (c_law_pull T) hr (by decide) (by rfl) (pa_cons (pv 2) pa_nil))) (pss_cons (ps_dput (hu_of hr) (pv 0) pe_str (pe_op op_add (pv 3) (pe_dget (hu_of hr) (pv 0) pe_str (fun _ _ => rfl))) rfl) (pss_cons (ps_expr (pe_bm PySem.F.plainAttrs_list PySem.F.slot_list_extend PySem.F.type_list_extend mt_extend (pe_dget (hu_of hr) (pv 0) pe_str (fun _ _ => rfl)) (pa_cons (pe_lst (pa_cons (pe_dget (hu_of hr) (pv 0) pe_str (fun _ _ => rfl)) (pa_cons pe_int (pa_cons (pv 3) (pa_cons (pv 5) pa_nil))))) pa_nil))) (pss_one (ps_dput (hu_of hr) (pv 0) pe_str (pv 3) rfl))))) (pss_cons (ps_dput (hu_of hr) (pv 0) pe_str (pe_op op_add (pv 3) (pe_dget (hu_of hr) (pv 0) pe_str (fun _ _ => rfl))) rfl) (pss_cons (ps_expr (pe_bm PySem.F.plainAttrs_list PySem.F.slot_list_extend PySem.F.type_list_extend mt_extend (pe_dget (hu_of hr) (pv 0) pe_str (fun _ _ => rfl)) (pa_cons (pe_lst (pa_cons (pe_dget (hu_of hr) (pv 0) pe_str (fun _ _ => rfl)) (pa_cons pe_int (pa_cons pe_int (pa_cons (pv 3) pa_nil))))) pa_nil))) (pss_cons (ps_dput (hu_of hr) (pv 0) pe_str (pv 3) rfl) (pss_cons (ps_if (pt_cmpR op_eq (pv 1) pe_int (nomark _)) (pss_one (ps_dput (hu_of hr) (pv 0) pe_str (C8.pe_c (c_law_pull T) hr (by decide) (by rfl) (pa_cons (pv 2) pa_nil)) rfl)) pss_nil) (pss_one (ps_expr (pe_bm PySem.F.plainAttrs_list PySem.F.slot_list_append PySem.F.type_list_append mt_append (pv 2) (pa_cons (pv 3) pa_nil))))))))))))))))
theorem l_law_branch {K : PySem.W.Frag} : ∀ vs H Q E, sp_law_branch K vs H Q E → vs.length = ["_law_state", "_law_code_here"].length := by
  rintro vs H Q E ⟨_, _, _, _, _, _, rfl, _⟩
  rfl
theorem TrD.push {H : Hp} {d im pl : Addr} {by_ x : Int} {t : Tr} (h : TrD H d im pl by_ t) {Q : VK} (hb : t.pile.length ≤ 200000) (k : TrD (upd H pl (stk (x :: t.pile))) d im pl by_ { t with pile := x :: t.pile } → Q .non (upd H pl (stk (x :: t.pile)))) : rAppend (.ref pl) [.int x] H Q :=
  ⟨pl, _, _, rfl, rfl, h.hp, line_lt (by simp; omega), by rw [stk_push]; exact k (h.setP _)⟩
theorem pushSeqP {K : PySem.W.Frag} {σ : L2.St} {i j : Nat} {H : Hp} {d im pl : Addr} {by_ x : Int} {t : Tr} (h : TrD H d im pl by_ t) (hi : σ[i]? = some (some (.ref pl))) (hj : σ[j]? = some (some (.int x))) (hb : t.pile.length ≤ 200000) {S : TS} {D : L2.Ends} (k : S D σ (upd H pl (stk (x :: t.pile)))) :
    tSeq (tDrop (tBM K "list" rAppend (tVar i) (tCons (tVar j) tNil))) S D σ H := ⟨_, hi, .inl ⟨rfl, _, SqL.of h.hp⟩, _, hj, pl, _, _, rfl, rfl, h.hp, line_lt (by simp; omega), by rw [stk_push]; exact k⟩
theorem r_law_branch {w : World} {K : PySem.W.Frag} {mg : Str → Option Value} (T : Txt w K mg) : ∀ vs H Q E, sp_law_branch K vs H Q E → t_law_branch K { nx := fun _ H' => Q .non H', rt := Q } (start ["_law_state", "_law_code_here", "_law_pile", "_law_new", "_law_after", "_law_start"] vs) H := by
  rintro vs H Q E ⟨d, im, pl, by_, t, c, rfl, h, hb, hpl, hc, k⟩
  refine ⟨_, rfl, d, _, rfl, h.gP, ?_⟩
  refine ⟨_, rfl, d, _, rfl, h.gK, ?_⟩
  unfold Tr.bracket at k
  refine ⟨_, rfl, rfl, _, rfl, ?_⟩
  by_cases c1 : c = 91
  · refine ieT c1 ?_
    rw [if_pos c1] at k
    refine pushSeqP h rfl rfl (by omega) ?_
    have h1 := h.setP (t.k :: t.pile)
    refine ⟨_, rfl, _, rfl, d, _, rfl, h1.gB, _, _, rfl, rfl, _, rfl, d, _, rfl, h1.pK _, ?_⟩
    have h2 := h1.sK (t.k + by_)
    exact ⟨_, rfl, _, rfl, d, im, pl, by_, _, 63, t.k, rfl, h2, by show t.img.length ≤ 100000; omega, fun H3 h3 k3 => k _ h3 ((KeepL.upd (by simp)).trans ((KeepL.upd (by simp)).trans k3))⟩
  · refine ieF c1 ⟨_, rfl, rfl, _, rfl, ?_⟩
    rw [if_neg c1] at k
    by_cases c2 : c = 93
    · refine ieT c2 ?_
      rw [if_neg (by omega : ¬ c = 124), if_pos c2] at k
      refine ⟨_, rfl, pl, t.pile, rfl, h.hp, ?_⟩
      have h1 := h.setP t.pile.tail
      refine extSeqI h1 rfl (by show t.img.length ≤ 200000; omega) (fun R r => r) (fun R r => r) (fun R r => ⟨_, rfl, r⟩) fun h2 k2 => ?_
      refine ⟨_, rfl, _, rfl, d, _, rfl, h2.pM _, ?_⟩
      exact k _ (h2.sM _) ((KeepL.upd (by simp)).trans (k2.trans (KeepL.upd (by simp))))
    · refine ieF c2 ⟨_, rfl, rfl, _, rfl, ?_⟩
      by_cases c3 : c = 125
      · refine ieT c3 ?_
        rw [if_neg (by omega : ¬ c = 124), if_neg c2, if_neg (by omega : ¬ c = 123)] at k
        refine ⟨_, rfl, pl, t.pile, rfl, h.hp, ?_⟩
        have h1 := h.setP t.pile.tail
        refine ⟨_, rfl, _, rfl, d, _, rfl, h1.gB, _, _, rfl, rfl, _, rfl, d, _, rfl, h1.pK _, ?_⟩
        have h2 := h1.sK (t.k + by_)
        refine extSeqI h2 rfl (by show t.img.length ≤ 200000; omega) (fun R r => r) (fun R r => ⟨_, rfl, r⟩) (fun R r => ⟨_, rfl, r⟩) fun h3 k3 => ?_
        refine ⟨_, rfl, _, rfl, d, _, rfl, h3.pM _, ?_⟩
        exact k _ (h3.sM _) ((KeepL.upd (by simp)).trans ((KeepL.upd (by simp)).trans (k3.trans (KeepL.upd (by simp)))))
      · refine ieF c3 ?_
        refine ⟨_, rfl, _, rfl, d, _, rfl, h.gB, _, _, rfl, rfl, _, rfl, d, _, rfl, h.pK _, ?_⟩
        have h2 := h.sK (t.k + by_)
        refine extSeqI h2 rfl (by show t.img.length ≤ 200000; omega) (fun R r => r) (fun R r => r) (fun R r => ⟨_, rfl, r⟩) fun h3 k3 => ?_
        refine ⟨_, rfl, _, rfl, d, _, rfl, h3.pM _, ?_⟩
        have h4 := h3.sM t.k
        refine ⟨_, rfl, rfl, _, rfl, ?_⟩
        by_cases c4 : c = 124
        · refine ieT c4 ?_
          rw [if_pos c4] at k
          refine ⟨_, rfl, pl, t.pile, rfl, h4.hp, ?_⟩
          have h5 := h4.setP t.pile.tail
          refine ⟨_, rfl, d, _, rfl, h5.pM _, ?_⟩
          have h6 := h5.sM (t.pile.headD 0)
          refine ⟨_, rfl, .inl ⟨rfl, _, SqL.of h6.hp⟩, _, rfl, ?_⟩
          refine h6.push (by show t.pile.tail.length ≤ 200000; simp; omega) fun h7 => ?_
          exact k _ h7 ((KeepL.upd (by simp)).trans (k3.trans ((KeepL.upd (by simp)).trans ((KeepL.upd (by simp)).trans ((KeepL.upd (by simp)).trans (KeepL.upd (by simp)))))))
        · refine ieF c4 ?_
          rw [if_neg c4, if_neg c2, if_pos (by omega : c = 123)] at k
          refine ⟨_, rfl, .inl ⟨rfl, _, SqL.of h4.hp⟩, _, rfl, ?_⟩
          refine h4.push (by show t.pile.length ≤ 200000; omega) fun h7 => ?_
          exact k _ h7 ((KeepL.upd (by simp)).trans (k3.trans ((KeepL.upd (by simp)).trans (KeepL.upd (by simp)))))
theorem c_law_branch {P : Program} {w : World} {K : PySem.W.Frag} {mg : Str → Option Value} {base : Heap} (T : Txt w K mg) : C8.Cal P w K mg base 2 "_law_branch" (sp_law_branch K) [] := T.cal 73 rfl T.g__law_branch sc_law_branch (fun _ _ _ _ _ _ us hl => match us, hl with | [_, _], _ => rfl) l_law_branch (d_law_branch T) (r_law_branch T)
def sp_law_pair (_ : PySem.W.Frag) : Sp := fun vs H Q _ => ∃ d im pl by_ t c, vs = [.ref d, .int t.wait, .int c] ∧ TrD H d im pl by_ t ∧ t.img.length ≤ 99000 ∧ t.pile.length ≤ 99000 ∧ TrToD H d im pl by_ (t.paired by_ c) Q
theorem sc_law_pair : FnScope ["_law_state", "_law_sign", "_law_code_here"] ["_law_state", "_law_sign", "_law_code_here"] (defScope s_law_pair) := C8.fnScope_by (by decide +kernel)
def t_law_pair (K : PySem.W.Frag) : TS := (tIfS (tTest (tOp rEq (tVar 1) (tC (.int 39)))) (tDrop (tCall (sp_law_emit K) [] C8.E0 (tCons (tVar 0) (tCons (tC (.int 35)) (tCons (tVar 2) tNil))))) (tIfS (tTest (tOp rEq (tVar 1) (tC (.int 61)))) (tDrop (tCall (sp_law_emit K) [] C8.E0 (tCons (tVar 0) (tCons (tC (.int 61)) (tCons (tVar 2) tNil))))) (tSeq (tDrop (tBM K "list" rAppend (tDGet (tVar 0) (tC (.str "pile"))) (tCons (tDGet (tVar 0) (tC (.str "m"))) tNil))) (sDPut (tVar 0) (tC (.str "m")) (tVar 2)))))
theorem d_law_pair {P : Program} {w : World} {K : PySem.W.Frag} {mg : Str → Option Value} {base : Heap} (T : Txt w K mg) (f : Addr) (cdv : Value) (A : Around) (outer : List Env) (s : Shared) (H : Hp) (E : XK) (hr : Room 1 (A.deeper (envOfC "_law_pair" (defScope s_law_pair) s.heap.objs.size f cdv))) :
    PSs (Bx P w K mg base ["_law_state", "_law_sign", "_law_code_here"] "_law_pair" s_law_pair f cdv A outer s H E) (defBody s_law_pair) (t_law_pair K) :=
  (pss_one (ps_if (pt_cmpR op_eq (pv 1) pe_int (nomark _)) (pss_one (ps_expr (C8.pe_c (c_law_emit T) hr (by decide) (by rfl) (pa_cons (pv 0) (pa_cons pe_int (pa_cons (pv 2) pa_nil)))))) (pss_one (ps_if (pt_cmpR op_eq (pv 1) pe_int (nomark _)) (pss_one (ps_expr (C8.pe_c (c_law_emit T) hr (by decide) (by rfl) (pa_cons (pv 0) (pa_cons pe_int (pa_cons (pv 2) pa_nil)))))) (pss_cons (ps_expr (pe_bm PySem.F.plainAttrs_list PySem.F.slot_list_append PySem.F.type_list_append mt_append (pe_dget (hu_of hr) (pv 0) pe_str (fun _ _ => rfl)) (pa_cons (pe_dget (hu_of hr) (pv 0) pe_str (fun _ _ => rfl)) pa_nil))) (pss_one (ps_dput (hu_of hr) (pv 0) pe_str (pv 2) rfl)))))))
theorem l_law_pair {K : PySem.W.Frag} : ∀ vs H Q E, sp_law_pair K vs H Q E → vs.length = ["_law_state", "_law_sign", "_law_code_here"].length := by
  rintro vs H Q E ⟨_, _, _, _, _, _, rfl, _⟩
  rfl
theorem TrD.waitTo {H : Hp} {d im pl : Addr} {by_ : Int} {t : Tr} (h : TrD H d im pl by_ t) (x : Int) : TrD H d im pl by_ { t with wait := x } := ⟨h.hd, h.hi, h.hp, h.ne⟩
theorem TrD.numTo {H : Hp} {d im pl : Addr} {by_ : Int} {t : Tr} (h : TrD H d im pl by_ t) (x : Option Int) : TrD H d im pl by_ { t with num := x } := ⟨h.hd, h.hi, h.hp, h.ne⟩
theorem r_law_pair {w : World} {K : PySem.W.Frag} {mg : Str → Option Value} (T : Txt w K mg) : ∀ vs H Q E, sp_law_pair K vs H Q E → t_law_pair K { nx := fun _ H' => Q .non H', rt := Q } (start ["_law_state", "_law_sign", "_law_code_here"] vs) H := by
  rintro vs H Q E ⟨d, im, pl, by_, t, c, rfl, h, hb, hpl, k⟩
  unfold Tr.paired at k
  refine ⟨_, rfl, rfl, _, rfl, ?_⟩
  by_cases c1 : t.wait = 39
  · rw [if_pos c1] at k
    exact ieT c1 ⟨_, rfl, _, rfl, d, im, pl, by_, t, 35, c, rfl, h, by omega, fun H3 h3 k3 => k _ (h3.waitTo 0) k3⟩
  · rw [if_neg c1] at k
    refine ieF c1 ⟨_, rfl, rfl, _, rfl, ?_⟩
    by_cases c2 : t.wait = 61
    · rw [if_pos c2] at k
      exact ieT c2 ⟨_, rfl, _, rfl, d, im, pl, by_, t, 61, c, rfl, h, by omega, fun H3 h3 k3 => k _ (h3.waitTo 0) k3⟩
    · rw [if_neg c2] at k
      refine ieF c2 ⟨_, rfl, d, _, rfl, h.gP, .inl ⟨rfl, _, SqL.of h.hp⟩, _, rfl, d, _, rfl, h.gM, pl, _, _, rfl, rfl, h.hp, line_lt (by simp; omega), ?_⟩
      rw [stk_push]
      have h1 := h.setP (t.m :: t.pile)
      refine ⟨_, rfl, _, rfl, d, _, rfl, h1.pM _, ?_⟩
      exact k _ ((h1.sM c).waitTo 0) ((KeepL.upd (by simp)).trans (KeepL.upd (by simp)))
theorem c_law_pair {P : Program} {w : World} {K : PySem.W.Frag} {mg : Str → Option Value} {base : Heap} (T : Txt w K mg) : C8.Cal P w K mg base 2 "_law_pair" (sp_law_pair K) [] := T.cal 74 rfl T.g__law_pair sc_law_pair (fun _ _ _ _ _ _ us hl => match us, hl with | [_, _, _], _ => rfl) l_law_pair (d_law_pair T) (r_law_pair T)
def sp_law_code (_ : PySem.W.Frag) : Sp := fun vs H Q _ => ∃ d im pl by_ t c, vs = [.ref d, .int c] ∧ TrD H d im pl by_ t ∧ t.img.length ≤ 99000 ∧ t.pile.length ≤ 99000 ∧ ¬ (c = 39 ∨ c = 61 ∨ c = 58) ∧ TrToD H d im pl by_ (t.sign by_ c) Q
theorem sc_law_code : FnScope ["_law_state", "_law_code_here"] ["_law_state", "_law_code_here"] (defScope s_law_code) := C8.fnScope_by (by decide +kernel)
def t_law_code (K : PySem.W.Frag) : TS := (tSeq (tIfS (tTest (tOp rLeI (tVar 1) (tC (.int 32)))) tRetN tNext) (tIfS (tTest (tOp rEq (tVar 1) (tC (.int 59)))) (tSeq (tDrop (tBM K "list" rExtend (tDGet (tVar 0) (tC (.str "image"))) (tCons (tLst (tCons (tDGet (tVar 0) (tC (.str "m"))) (tCons (tC (.int 41)) (tCons (tC (.int 0)) (tCons (tC (.int 1)) tNil))))) tNil))) (sDPut (tVar 0) (tC (.str "m")) (tCall (sp_law_pull K) [] C8.E0 (tCons (tDGet (tVar 0) (tC (.str "pile"))) tNil)))) (tIfS (tOr (tTest (tOp rEq (tVar 1) (tC (.int 91)))) (tOr (tTest (tOp rEq (tVar 1) (tC (.int 93)))) (tTest (tChain rLeI rLeI (tC (.int 123)) (tVar 1) (tC (.int 125)))))) (tDrop (tCall (sp_law_branch K) [] C8.E0 (tCons (tVar 0) (tCons (tVar 1) tNil)))) (tDrop (tCall (sp_law_emit K) [] C8.E0 (tCons (tVar 0) (tCons (tVar 1) (tCons (tC (.int 0)) tNil))))))))
theorem d_law_code {P : Program} {w : World} {K : PySem.W.Frag} {mg : Str → Option Value} {base : Heap} (T : Txt w K mg) (f : Addr) (cdv : Value) (A : Around) (outer : List Env) (s : Shared) (H : Hp) (E : XK) (hr : Room 2 (A.deeper (envOfC "_law_code" (defScope s_law_code) s.heap.objs.size f cdv))) :
    PSs (Bx P w K mg base ["_law_state", "_law_code_here"] "_law_code" s_law_code f cdv A outer s H E) (defBody s_law_code) (t_law_code K) :=
  (pss_cons (ps_if (pt_cmpR op_le (pv 1) pe_int (nomark _)) (pss_one ps_retN) pss_nil) (pss_one (ps_if (pt_cmpR op_eq (pv 1) pe_int (nomark _)) (pss_cons (ps_expr (pe_bm PySem.F.plainAttrs_list PySem.F.slot_list_extend PySem.F.type_list_extend mt_extend (pe_dget (hu_of hr) (pv 0) pe_str (fun _ _ => rfl)) (pa_cons (pe_lst (pa_cons (pe_dget (hu_of hr) (pv 0) pe_str (fun _ _ => rfl)) (pa_cons pe_int (pa_cons pe_int (pa_cons pe_int pa_nil))))) pa_nil))) (pss_one (ps_dput (hu_of hr) (pv 0) pe_str (C8.pe_c (c_law_pull T) hr (by decide) (by rfl) (pa_cons (pe_dget (hu_of hr) (pv 0) pe_str (fun _ _ => rfl)) pa_nil)) rfl))) (pss_one (ps_if (PW.pt (pw_or (pt_cmpR op_eq (pv 1) pe_int (nomark _)) (pw_or (pt_cmpR op_eq (pv 1) pe_int (nomark _)) (pw_or1 (pt_chain op_le op_le pe_int (pv 1) pe_int))))) (pss_one (ps_expr (C8.pe_c (c_law_branch T) hr (by decide) (by rfl) (pa_cons (pv 0) (pa_cons (pv 1) pa_nil))))) (pss_one (ps_expr (C8.pe_c (c_law_emit T) hr (by decide) (by rfl) (pa_cons (pv 0) (pa_cons (pv 1) (pa_cons pe_int pa_nil)))))))))))
theorem l_law_code {K : PySem.W.Frag} : ∀ vs H Q E, sp_law_code K vs H Q E → vs.length = ["_law_state", "_law_code_here"].length := by
  rintro vs H Q E ⟨_, _, _, _, _, _, rfl, _⟩
  rfl
theorem r_law_code {w : World} {K : PySem.W.Frag} {mg : Str → Option Value} (T : Txt w K mg) : ∀ vs H Q E, sp_law_code K vs H Q E → t_law_code K { nx := fun _ H' => Q .non H', rt := Q } (start ["_law_state", "_law_code_here"] vs) H := by
  rintro vs H Q E ⟨d, im, pl, by_, t, c, rfl, h, hb, hpl, hn, k⟩
  unfold Tr.sign at k
  refine ⟨_, rfl, _, _, rfl, rfl, _, rfl, ?_⟩
  by_cases c0 : c ≤ 32
  · rw [if_pos c0] at k
    exact iteDT c0 (k _ h KeepL.refl)
  · rw [if_neg c0, if_neg hn] at k
    refine iteDF c0 ⟨_, rfl, rfl, _, rfl, ?_⟩
    by_cases c1 : c = 59
    · refine ieT c1 ?_
      rw [if_neg (by omega), if_pos c1] at k
      refine extSeqI h rfl (by omega) (fun R r => r) (fun R r => r) (fun R r => r) fun h2 k2 => ?_
      refine ⟨_, rfl, d, _, rfl, h2.gP, pl, t.pile, rfl, h2.hp, ?_⟩
      have h3 := h2.setP t.pile.tail
      refine ⟨_, rfl, d, _, rfl, h3.pM _, ?_⟩
      exact k _ (h3.sM _) (k2.trans ((KeepL.upd (by simp)).trans (KeepL.upd (by simp))))
    · refine ieF c1 ?_
      have br : (c = 91 ∨ c = 93 ∨ (123 ≤ c ∧ c ≤ 125)) → tDrop (tCall (sp_law_branch K) [] C8.E0 (tCons (tVar 0) (tCons (tVar 1) tNil))) { nx := fun _ H' => Q .non H', rt := Q } [some (.ref d), some (.int c)] H := fun hc => by
        rw [if_pos hc] at k
        exact ⟨_, rfl, _, rfl, d, im, pl, by_, t, c, rfl, h, hb, hpl, hc, k⟩
      have em : ¬ (c = 91 ∨ c = 93 ∨ (123 ≤ c ∧ c ≤ 125)) → tDrop (tCall (sp_law_emit K) [] C8.E0 (tCons (tVar 0) (tCons (tVar 1) (tCons (tC (.int 0)) tNil)))) { nx := fun _ H' => Q .non H', rt := Q } [some (.ref d), some (.int c)] H := fun hc => by
        rw [if_neg hc, if_neg c1] at k
        exact ⟨_, rfl, _, rfl, d, im, pl, by_, t, c, 0, rfl, h, by omega, k⟩
      refine ⟨_, rfl, rfl, _, rfl, ?_⟩
      by_cases d1 : c = 91
      · exact ieT d1 (iteT (br (.inl d1)))
      · refine ieF d1 ⟨_, rfl, rfl, _, rfl, ?_⟩
        by_cases d2 : c = 93
        · exact ieT d2 (iteT (br (.inr (.inl d2))))
        · refine ieF d2 ⟨_, rfl, _, _, rfl, rfl, _, rfl, ?_⟩
          by_cases d3 : 123 ≤ c
          · refine iteDT d3 ⟨_, _, rfl, rfl, _, rfl, ?_⟩
            by_cases d4 : c ≤ 125
            · exact iteDT d4 (br (.inr (.inr ⟨d3, d4⟩)))
            · exact iteDF d4 (em (by omega))
          · exact iteDF d3 ⟨_, rfl, iteF (em (by omega))⟩
theorem c_law_code {P : Program} {w : World} {K : PySem.W.Frag} {mg : Str → Option Value} {base : Heap} (T : Txt w K mg) : C8.Cal P w K mg base 3 "_law_code" (sp_law_code K) [] := T.cal 75 rfl T.g__law_code sc_law_code (fun _ _ _ _ _ _ us hl => match us, hl with | [_, _], _ => rfl) l_law_code (d_law_code T) (r_law_code T)
/-! ### _law_translate, _law_due -/
def sp_law_translate (K : PySem.W.Frag) : Sp := fun vs H Q _ => ∃ a first by_ cs, vs = [.ref a, .int first, .int by_] ∧ H a = some (.lst (iL cs)) ∧ cs.length ≤ 5000 ∧ (∀ c ∈ cs, (0 : Int) ≤ c) ∧ NewL H Q (iL (trans first by_ cs))
theorem sc_law_translate : FnScope ["_law_codes_here", "_law_first", "_law_by", "_law_state", "_law_numeral", "_law_sign", "_law_code_here"] ["_law_codes_here", "_law_first", "_law_by"] (defScope s_law_translate) := C8.fnScope_by (by decide +kernel)
def t_law_translate (K : PySem.W.Frag) : TS := (tSeq (tAsg (tDisp [((tC (.str "image")), (tLst (tCons (tC (.int 0)) (tCons (tC (.int 32)) (tCons (tC (.int 0)) (tCons (tVar 1) tNil)))))), ((tC (.str "m")), (tVar 1)), ((tC (.str "k")), (tOp rAddI (tVar 1) (tVar 2))), ((tC (.str "by")), (tVar 2)), ((tC (.str "pile")), (tLst tNil))]) (gName 3)) (tSeq (tAsg (tC .non) (gName 4)) (tSeq (tAsg (tC (.int 0)) (gName 5)) (tSeq (tFor (iList K (tVar 0)) (gName 6) (tSeq (tIfS (tTest (tOp rLtI (tVar 6) (tC (.int 0)))) tBreak tNext) (tIfS (tTest (tOp rNe (tVar 5) (tC (.int 0)))) (tSeq (tDrop (tCall (sp_law_pair K) [] C8.E0 (tCons (tVar 3) (tCons (tVar 5) (tCons (tVar 6) tNil))))) (tAsg (tC (.int 0)) (gName 5))) (tIfS (tTest (tChain rLeI rLeI (tC (.int 48)) (tVar 6) (tC (.int 57)))) (tSeq (tIfS (tTest (tOp rIsN (tVar 4) (tC .non))) (tAsg (tC (.int 0)) (gName 4)) tNext) (tAsg (tOp rSubI (tOp rAddI (tOp rMulI (tC (.int 10)) (tVar 4)) (tVar 6)) (tC (.int 48))) (gName 4))) (tSeq (tIfS (tTest (tOp rNotN (tVar 4) (tC .non))) (tSeq (tDrop (tCall (sp_law_emit K) [] C8.E0 (tCons (tVar 3) (tCons (tC (.int 35)) (tCons (tVar 4) tNil))))) (tAsg (tC .non) (gName 4))) tNext) (tIfS (tOr (tTest (tOp rEq (tVar 6) (tC (.int 39)))) (tOr (tTest (tOp rEq (tVar 6) (tC (.int 61)))) (tTest (tOp rEq (tVar 6) (tC (.int 58)))))) (tAsg (tVar 6) (gName 5)) (tDrop (tCall (sp_law_code K) [] C8.E0 (tCons (tVar 3) (tCons (tVar 6) tNil)))))))))) (tSeq (tIfS (tTest (tOp rNotN (tVar 4) (tC .non))) (tDrop (tCall (sp_law_emit K) [] C8.E0 (tCons (tVar 3) (tCons (tC (.int 35)) (tCons (tVar 4) tNil))))) tNext) (tSeq (tDrop (tCall (sp_law_emit K) [] C8.E0 (tCons (tVar 3) (tCons (tC (.int 41)) (tCons (tC (.int 0)) tNil))))) (tRet (tDGet (tVar 3) (tC (.str "image"))))))))))
theorem d_law_translate {P : Program} {w : World} {K : PySem.W.Frag} {mg : Str → Option Value} {base : Heap} (T : Txt w K mg) (f : Addr) (cdv : Value) (A : Around) (outer : List Env) (s : Shared) (H : Hp) (E : XK) (hr : Room 3 (A.deeper (envOfC "_law_translate" (defScope s_law_translate) s.heap.objs.size f cdv))) :
    PSs (Bx P w K mg base ["_law_codes_here", "_law_first", "_law_by", "_law_state", "_law_numeral", "_law_sign", "_law_code_here"] "_law_translate" s_law_translate f cdv A outer s H E) (defBody s_law_translate) (t_law_translate K) :=
  (pss_cons (ps_set (i := 3) sc_law_translate.nd rfl (by first | exact Or.inl rfl | exact Or.inr rfl) (pe_disp (pps_cons pe_str (pe_lst (pa_cons pe_int (pa_cons pe_int (pa_cons pe_int (pa_cons (pv 1) pa_nil))))) (pps_cons pe_str (pv 1) (pps_cons pe_str (pe_op op_add (pv 1) (pv 2)) (pps_cons pe_str (pv 2) (pps_cons pe_str (pe_lst pa_nil) pps_nil))))) (by rfl) (by rfl) (fun z => by cases z) (by decide))) (pss_cons (ps_set (i := 4) sc_law_translate.nd rfl (by first | exact Or.inl rfl | exact Or.inr rfl) pe_non) (pss_cons (ps_set (i := 5) sc_law_translate.nd rfl (by first | exact Or.inl rfl | exact Or.inr rfl) pe_int) (pss_cons (ps_for PassesOwn.never rfl (pi_list (pv 0)) (pg_name (i := 6) sc_law_translate.nd rfl (by first | exact Or.inl rfl | exact Or.inr rfl)) (pss_cons (ps_if (pt_cmpR op_lt (pv 6) pe_int (nomark _)) (pss_one ps_break) pss_nil) (pss_one (ps_if (pt_cmpR op_ne (pv 5) pe_int (nomark _)) (pss_cons (ps_expr (C8.pe_c (c_law_pair T) hr (by decide) (by rfl) (pa_cons (pv 3) (pa_cons (pv 5) (pa_cons (pv 6) pa_nil))))) (pss_one (ps_set (i := 5) sc_law_translate.nd rfl (by first | exact Or.inl rfl | exact Or.inr rfl) pe_int))) (pss_one (ps_if (pt_chain op_le op_le pe_int (pv 6) pe_int) (pss_cons (ps_if (pt_cmpR op_isN1 (pv 4) pe_non (nomark _)) (pss_one (ps_set (i := 4) sc_law_translate.nd rfl (by first | exact Or.inl rfl | exact Or.inr rfl) pe_int)) pss_nil) (pss_one (ps_set (i := 4) sc_law_translate.nd rfl (by first | exact Or.inl rfl | exact Or.inr rfl) (pe_op op_sub (pe_op op_add (pe_op op_mul pe_int (pv 4)) (pv 6)) pe_int)))) (pss_cons (ps_if (pt_cmpR op_notN1 (pv 4) pe_non (nomark _)) (pss_cons (ps_expr (C8.pe_c (c_law_emit T) hr (by decide) (by rfl) (pa_cons (pv 3) (pa_cons pe_int (pa_cons (pv 4) pa_nil))))) (pss_one (ps_set (i := 4) sc_law_translate.nd rfl (by first | exact Or.inl rfl | exact Or.inr rfl) pe_non))) pss_nil) (pss_one (ps_if (PW.pt (pw_or (pt_cmpR op_eq (pv 6) pe_int (nomark _)) (pw_or (pt_cmpR op_eq (pv 6) pe_int (nomark _)) (pw_or1 (pt_cmpR op_eq (pv 6) pe_int (nomark _)))))) (pss_one (ps_set (i := 5) sc_law_translate.nd rfl (by first | exact Or.inl rfl | exact Or.inr rfl) (pv 6))) (pss_one (ps_expr (C8.pe_c (c_law_code T) hr (by decide) (by rfl) (pa_cons (pv 3) (pa_cons (pv 6) pa_nil)))))))))))))) (pss_cons (ps_if (pt_cmpR op_notN1 (pv 4) pe_non (nomark _)) (pss_one (ps_expr (C8.pe_c (c_law_emit T) hr (by decide) (by rfl) (pa_cons (pv 3) (pa_cons pe_int (pa_cons (pv 4) pa_nil)))))) pss_nil) (pss_cons (ps_expr (C8.pe_c (c_law_emit T) hr (by decide) (by rfl) (pa_cons (pv 3) (pa_cons pe_int (pa_cons pe_int pa_nil))))) (pss_one (ps_ret (pe_dget (hu_of hr) (pv 3) pe_str (fun _ _ => rfl))))))))))
theorem l_law_translate {K : PySem.W.Frag} : ∀ vs H Q E, sp_law_translate K vs H Q E → vs.length = ["_law_codes_here", "_law_first", "_law_by"].length := by
  rintro vs H Q E ⟨_, _, _, _, rfl, _⟩
  rfl
theorem mergeT {by_ : Int} {im pl : Addr} {t : Tr} : mergeK [] (kvT by_ im pl t) = kvT by_ im pl t := by kernel_rfl
theorem sign_nw {by_ c : Int} {u : Tr} (hn : ¬ (c = 39 ∨ c = 61 ∨ c = 58)) : (u.sign by_ c).num = u.num ∧ (u.sign by_ c).wait = u.wait := by
  unfold Tr.sign
  rw [if_neg hn]
  split
  · exact ⟨rfl, rfl⟩
  · split
    · unfold Tr.bracket Tr.emit
      split
      · exact ⟨rfl, rfl⟩
      · split
        · exact ⟨rfl, rfl⟩
        · split
          · exact ⟨rfl, rfl⟩
          · split
            · exact ⟨rfl, rfl⟩
            · exact ⟨rfl, rfl⟩
    · split
      · exact ⟨rfl, rfl⟩
      · exact ⟨rfl, rfl⟩
theorem law_tr_two {K : PySem.W.Frag} {H2 : Hp} {d im pl : Addr} {by_ c : Int} {u : Tr} {s0 s1 s2 : Option V} {D : L2.Ends} (h : TrD H2 d im pl by_ u) (hn : u.num = none) (hw : u.wait = 0) (l1 : u.img.length ≤ 99000) (l2 : u.pile.length ≤ 99000)
    (k : ∀ H3 t', KeepL [d, im, pl] H2 H3 → TrD H3 d im pl by_ t' → t' = u.sign by_ c → D.nx [s0, s1, s2, some (.ref d), some (numV t'.num), some (.int t'.wait), some (.int c)] H3) (c0 : 32 < c ∨ True) :
    tIfS (tOr (tTest (tOp rEq (tVar 6) (tC (.int 39)))) (tOr (tTest (tOp rEq (tVar 6) (tC (.int 61)))) (tTest (tOp rEq (tVar 6) (tC (.int 58)))))) (tAsg (tVar 6) (gName 5)) (tDrop (tCall (sp_law_code K) [] C8.E0 (tCons (tVar 3) (tCons (tVar 6) tNil)))) D [s0, s1, s2, some (.ref d), some .non, some (.int 0), some (.int c)] H2 := by
  have sg : (c = 39 ∨ c = 61 ∨ c = 58) → tAsg (tVar 6) (gName 5) D [s0, s1, s2, some (.ref d), some .non, some (.int 0), some (.int c)] H2 := fun hc => by
    have e : u.sign by_ c = { u with wait := c } := by
      unfold Tr.sign
      rw [if_neg (by omega), if_pos hc]
    have := k H2 _ KeepL.refl (h.waitTo c) e.symm
    refine ⟨_, rfl, ?_⟩
    rw [show (numV ({ u with wait := c } : Tr).num) = .non by show numV u.num = _; rw [hn]; rfl] at this
    exact this
  have cd : ¬ (c = 39 ∨ c = 61 ∨ c = 58) → tDrop (tCall (sp_law_code K) [] C8.E0 (tCons (tVar 3) (tCons (tVar 6) tNil))) D [s0, s1, s2, some (.ref d), some .non, some (.int 0), some (.int c)] H2 := fun hc => by
    refine ⟨_, rfl, _, rfl, d, im, pl, by_, u, c, rfl, h, l1, l2, hc, fun H3 h3 k3 => ?_⟩
    have := k H3 _ k3 h3 rfl
    rw [(sign_nw hc).1, (sign_nw hc).2, hn, hw] at this
    exact this
  refine ⟨_, rfl, rfl, _, rfl, ?_⟩
  by_cases d1 : c = 39
  · exact ieT d1 (iteT (sg (.inl d1)))
  · refine ieF d1 ⟨_, rfl, rfl, _, rfl, ?_⟩
    by_cases d2 : c = 61
    · exact ieT d2 (iteT (sg (.inr (.inl d2))))
    · refine ieF d2 ⟨_, rfl, rfl, _, rfl, ?_⟩
      by_cases d3 : c = 58
      · exact ieT d3 (sg (.inr (.inr d3)))
      · exact ieF d3 (cd (by omega))
theorem law_tr_rest {w : World} {K : PySem.W.Frag} {mg : Str → Option Value} (T : Txt w K mg) {H' : Hp} {d im pl : Addr} {by_ c : Int} {t : Tr} {s0 s1 s2 : Option V} {D : L2.Ends} (h : TrD H' d im pl by_ t) (hw : t.wait = 0) (l1 : t.img.length ≤ 90000) (l2 : t.pile.length ≤ 90000)
    (k : ∀ H2 t', KeepL [d, im, pl] H' H2 → TrD H2 d im pl by_ t' → t' = (t.endNum by_).sign by_ c → D.nx [s0, s1, s2, some (.ref d), some (numV t'.num), some (.int t'.wait), some (.int c)] H2) :
    tSeq (tIfS (tTest (tOp rNotN (tVar 4) (tC .non))) (tSeq (tDrop (tCall (sp_law_emit K) [] C8.E0 (tCons (tVar 3) (tCons (tC (.int 35)) (tCons (tVar 4) tNil))))) (tAsg (tC .non) (gName 4))) tNext) (tIfS (tOr (tTest (tOp rEq (tVar 6) (tC (.int 39)))) (tOr (tTest (tOp rEq (tVar 6) (tC (.int 61)))) (tTest (tOp rEq (tVar 6) (tC (.int 58)))))) (tAsg (tVar 6) (gName 5)) (tDrop (tCall (sp_law_code K) [] C8.E0 (tCons (tVar 3) (tCons (tVar 6) tNil))))) D [s0, s1, s2, some (.ref d), some (numV t.num), some (.int t.wait), some (.int c)] H' := by
  rw [hw]
  cases e : t.num with
  | none =>
    have en : t.endNum by_ = t := by unfold Tr.endNum; rw [e]
    rw [en] at k
    exact ⟨_, rfl, rfl, _, rfl, iteNT rfl (law_tr_two h e hw (by omega) (by omega) k (.inr trivial))⟩
  | some v =>
    have en : t.endNum by_ = { t.emit by_ 35 v with num := none } := by unfold Tr.endNum; rw [e]
    rw [en] at k
    refine ⟨_, rfl, rfl, _, rfl, iteND (by intro z; cases z) ⟨_, rfl, _, rfl, d, im, pl, by_, t, 35, v, rfl, h, by omega, fun H2 h2 k2 => ?_⟩⟩
    exact law_tr_two (u := { t.emit by_ 35 v with num := none }) (h2.numTo none) rfl hw (by show t.img.length + 4 ≤ 99000; omega) (by show t.pile.length ≤ 99000; omega) (fun H3 t' k3 h3 e3 => k H3 t' (k2.trans k3) h3 e3) (.inr trivial)
theorem r_law_translate {w : World} {K : PySem.W.Frag} {mg : Str → Option Value} (T : Txt w K mg) : ∀ vs H Q E, sp_law_translate K vs H Q E → t_law_translate K { nx := fun _ H' => Q .non H', rt := Q } (start ["_law_codes_here", "_law_first", "_law_by", "_law_state", "_law_numeral", "_law_sign", "_law_code_here"] vs) H := by
  rintro vs H Q E ⟨a, first, by_, cs, rfl, hS, hl, hc, k⟩
  intro d hd
  refine ⟨_, rfl, by show 4 ≤ sizeLine; decide, fun im him => ?_⟩
  refine ⟨_, rfl, _, rfl, _, rfl, _, _, rfl, rfl, _, rfl, by show 0 ≤ sizeLine; decide, fun pl hpl => ?_⟩
  have ndi : d ≠ im := ne_of_none upd_same him
  have nip : im ≠ pl := ne_of_none upd_same hpl
  have him0 : H im = none := by rw [upd_ne ndi.symm] at him; exact him
  have hpl1 : upd H d (.dK []) pl = none := by rw [upd_ne nip.symm] at hpl; exact hpl
  have ndp : d ≠ pl := ne_of_none upd_same hpl1
  have hpl0 : H pl = none := by rw [upd_ne ndp.symm] at hpl1; exact hpl1
  refine ⟨by rw [upd_ne ndp, upd_ne ndi, upd_same], kvT by_ im pl (Tr.start first by_), rfl, by show 5 ≤ 15; decide, ?_⟩
  rw [mergeT]
  have old : ∀ b ∈ [d, im, pl], H b = none := by simpa using ⟨hd, him0, hpl0⟩
  have h0 : TrD (upd (upd (upd (upd H d (.dK [])) im (.lst [.int 0, .int 32, .int 0, .int first])) pl (.lst [])) d (.dK (kvT by_ im pl (Tr.start first by_)))) d im pl by_ (Tr.start first by_) :=
    ⟨upd_same, by rw [upd_ne ndi.symm, upd_ne nip, upd_same]; rfl, by rw [upd_ne ndp.symm, upd_same]; rfl, nip⟩
  have k0 : KeepL [d, im, pl] H (upd (upd (upd (upd H d (.dK [])) im (.lst [.int 0, .int 32, .int 0, .int first])) pl (.lst [])) d (.dK (kvT by_ im pl (Tr.start first by_)))) :=
    (KeepL.upd (by simp)).trans ((KeepL.upd (by simp)).trans ((KeepL.upd (by simp)).trans (KeepL.upd (by simp))))
  generalize upd (upd (upd (upd H d (.dK [])) im (.lst [.int 0, .int 32, .int 0, .int first])) pl (.lst [])) d (.dK (kvT by_ im pl (Tr.start first by_))) = H0 at h0 k0 ⊢
  have sm : ∀ {H' : Hp}, KeepL [d, im, pl] H H' → Same H H' := fun kk => kk.same (Same.refl H) old
  refine ⟨_, rfl, a, rfl, ⟨_, SqL.of (sm k0 _ _ hS)⟩, for_list (K := K) (a := a) (xs := iL cs) (fun i σ H' => ∃ v t, σ = [some (.ref a), some (.int first), some (.int by_), some (.ref d), some (numV t.num), some (.int t.wait), v] ∧ KeepL [d, im, pl] H H' ∧ TrD H' d im pl by_ t ∧ t = (Tr.start first by_).run by_ (cs.take i)) ⟨none, Tr.start first by_, rfl, k0, h0, rfl⟩ (fun i σ H' _ p => by obtain ⟨_, _, _, kk, _⟩ := p; exact SqL.of (sm kk _ _ hS)) ?_ ?_⟩
  · rintro i x σ H' hx ⟨v, t, rfl, kk, h, et⟩
    obtain ⟨c, rfl, hcc⟩ := getV hx
    have c0 := hc c (List.mem_of_getElem? hcc)
    have hi := (List.getElem?_eq_some_iff.mp hcc).1
    have en : t.take by_ c = (Tr.start first by_).run by_ (cs.take (i + 1)) := by rw [run_snoc by_ cs i c _ hcc, ← et]
    have ln := run_len by_ (cs.take i) (Tr.start first by_)
    rw [← et, List.length_take] at ln
    have l1 : t.img.length ≤ 90000 := by
      have : (Tr.start first by_).img.length = 4 := rfl
      omega
    have l2 : t.pile.length ≤ 90000 := by
      have : (Tr.start first by_).pile.length = 0 := rfl
      omega
    rw [← en]
    unfold Tr.take
    refine ⟨_, rfl, _, _, rfl, rfl, _, rfl, iteDF (by omega) ?_⟩
    refine ⟨_, rfl, rfl, _, rfl, ?_⟩
    rw [int_eq_dec]
    by_cases hw : t.wait = 0
    · refine iteNT hw ?_
      rw [if_neg (by simpa using hw)]
      refine ⟨_, rfl, _, _, rfl, rfl, _, rfl, ?_⟩
      by_cases g1 : 48 ≤ c
      · refine iteDT g1 ⟨_, _, rfl, rfl, _, rfl, ?_⟩
        by_cases g2 : c ≤ 57
        · refine iteDT g2 ?_
          rw [if_pos ⟨g1, g2⟩]
          cases e : t.num with
          | none =>
            refine ⟨_, rfl, rfl, _, rfl, iteDT rfl ⟨_, rfl, _, _, rfl, rfl, .inl ⟨by decide, by decide⟩, _, rfl, _, _, rfl, rfl, _, _, rfl, rfl, some (.int c), _, rfl, kk, h.numTo (some (10 * 0 + c - 48)), ?_⟩⟩
            simp [e]
          | some v =>
            refine ⟨_, rfl, rfl, _, rfl, iteDF (by intro z; cases z) ⟨_, rfl, _, _, rfl, rfl, .inl ⟨by decide, by decide⟩, _, rfl, _, _, rfl, rfl, _, _, rfl, rfl, some (.int c), _, rfl, kk, h.numTo (some (10 * v + c - 48)), ?_⟩⟩
            simp [e]
        · refine iteDF g2 (law_tr_rest T h hw l1 l2 fun H2 t' k2 h2 e => ⟨_, t', rfl, kk.trans k2, h2, ?_⟩)
          rw [if_neg (fun z => g2 z.2)]
          exact e
      · refine iteDF g1 ⟨_, rfl, iteF (law_tr_rest T h hw l1 l2 fun H2 t' k2 h2 e => ⟨_, t', rfl, kk.trans k2, h2, ?_⟩)⟩
        rw [if_neg (fun z => g1 z.1)]
        exact e
    · refine iteND hw ?_
      rw [if_pos (by simpa using hw)]
      refine ⟨_, rfl, _, rfl, _, rfl, d, im, pl, by_, t, c, rfl, h, by omega, by omega, fun H2 h2 k2 => ?_⟩
      refine ⟨some (.int c), _, ?_, kk.trans k2, h2, rfl⟩
      have e1 : (t.paired by_ c).wait = 0 := by unfold Tr.paired; split; rfl; split; rfl; rfl
      have e2 : (t.paired by_ c).num = t.num := by unfold Tr.paired Tr.emit; split; rfl; split; rfl; rfl
      rw [e1, e2]
      rfl
  · rintro σ H' ⟨v, t, rfl, kk, h, et⟩
    have ln := run_len by_ cs (Tr.start first by_)
    rw [List.length_map, List.take_length] at et
    rw [← et] at ln
    have l1 : t.img.length ≤ 90000 := by
      have : (Tr.start first by_).img.length = 4 := rfl
      omega
    have fin : ∀ (u : Tr) (H2 : Hp), KeepL [d, im, pl] H H2 → TrD H2 d im pl by_ u → u.img.length ≤ 99000 → u.emit by_ 41 0 = t.fin by_ → tSeq (tDrop (tCall (sp_law_emit K) [] C8.E0 (tCons (tVar 3) (tCons (tC (.int 41)) (tCons (tC (.int 0)) tNil))))) (tRet (tDGet (tVar 3) (tC (.str "image")))) { nx := fun _ H' => Q .non H', rt := Q } [some (.ref a), some (.int first), some (.int by_), some (.ref d), some (numV t.num), some (.int t.wait), v] H2 := fun u H2 k2 h2 lu eu => by
      refine ⟨_, rfl, d, im, pl, by_, u, 41, 0, rfl, h2, by omega, fun H3 h3 k3 => ?_⟩
      refine ⟨_, rfl, d, _, rfl, h3.gI, k im H3 (sm (k2.trans k3)) him0 ?_⟩
      rw [h3.hi, eu, et]
      rfl
    cases e : t.num with
    | none =>
      rw [e] at fin
      refine ⟨_, rfl, rfl, _, rfl, iteNT rfl (fin { t with wait := 0 } H' kk (h.waitTo 0) (by show t.img.length ≤ _; omega) ?_)⟩
      unfold Tr.fin Tr.endNum
      dsimp only
      rw [e]
    | some v' =>
      rw [e] at fin
      refine ⟨_, rfl, rfl, _, rfl, iteND (by intro z; cases z) ⟨_, rfl, _, rfl, d, im, pl, by_, t, 35, v', rfl, h, by omega, fun H2 h2 k2 => ?_⟩⟩
      refine fin { ({ t with wait := 0 } : Tr).emit by_ 35 v' with num := none } H2 (kk.trans k2) ((h2.waitTo 0).numTo none) (by show t.img.length + 4 ≤ _; omega) ?_
      unfold Tr.fin Tr.endNum
      dsimp only
      rw [e]
theorem c_law_translate {P : Program} {w : World} {K : PySem.W.Frag} {mg : Str → Option Value} {base : Heap} (T : Txt w K mg) : C8.Cal P w K mg base 4 "_law_translate" (sp_law_translate K) [] := T.cal 76 rfl T.g__law_translate sc_law_translate (fun _ _ _ _ _ _ us hl => match us, hl with | [_, _, _], _ => rfl) l_law_translate (d_law_translate T) (r_law_translate T)
def sp_law_due (_ : PySem.W.Frag) : Sp := fun vs H Q _ => ∃ kd tx, vs = [.str kd, .str tx] ∧ tx.cps.toList.length ≤ 5000 ∧ NewL H Q (iL (dueOf kd tx))
theorem sc_law_due : FnScope ["_law_kind", "_law_text_here"] ["_law_kind", "_law_text_here"] (defScope s_law_due) := C8.fnScope_by (by decide +kernel)
def t_law_due (K : PySem.W.Frag) : TS := (tSeq (tIfS (tTest (tOp rEq (tVar 0) (tC (.str "turned")))) (tRet (tCall (sp_law_translate K) [] C8.E0 (tCons (tCall (sp_law_codes K) [] C8.E0 (tCons (tVar 1) tNil)) (tCons (tUn rNegI (tC (.int 1))) (tCons (tUn rNegI (tC (.int 1))) tNil))))) tNext) (tRet (tCall (sp_law_translate K) [] C8.E0 (tCons (tCall (sp_law_codes K) [] C8.E0 (tCons (tVar 1) tNil)) (tCons (tC (.int 200)) (tCons (tC (.int 1)) tNil))))))
theorem d_law_due {P : Program} {w : World} {K : PySem.W.Frag} {mg : Str → Option Value} {base : Heap} (T : Txt w K mg) (f : Addr) (cdv : Value) (A : Around) (outer : List Env) (s : Shared) (H : Hp) (E : XK) (hr : Room 4 (A.deeper (envOfC "_law_due" (defScope s_law_due) s.heap.objs.size f cdv))) :
    PSs (Bx P w K mg base ["_law_kind", "_law_text_here"] "_law_due" s_law_due f cdv A outer s H E) (defBody s_law_due) (t_law_due K) :=
  (pss_cons (ps_if (pt_cmpR op_eq (pv 0) pe_str (nomark _)) (pss_one (ps_ret (C8.pe_c (c_law_translate T) hr (by decide) (by rfl) (pa_cons (C8.pe_c (c_law_codes T) hr (by decide) (by rfl) (pa_cons (pv 1) pa_nil)) (pa_cons (pe_un un_neg pe_int) (pa_cons (pe_un un_neg pe_int) pa_nil)))))) pss_nil) (pss_one (ps_ret (C8.pe_c (c_law_translate T) hr (by decide) (by rfl) (pa_cons (C8.pe_c (c_law_codes T) hr (by decide) (by rfl) (pa_cons (pv 1) pa_nil)) (pa_cons pe_int (pa_cons pe_int pa_nil)))))))
theorem l_law_due {K : PySem.W.Frag} : ∀ vs H Q E, sp_law_due K vs H Q E → vs.length = ["_law_kind", "_law_text_here"].length := by
  rintro vs H Q E ⟨_, _, rfl, _⟩
  rfl
theorem r_law_due {w : World} {K : PySem.W.Frag} {mg : Str → Option Value} (T : Txt w K mg) : ∀ vs H Q E, sp_law_due K vs H Q E → t_law_due K { nx := fun _ H' => Q .non H', rt := Q } (start ["_law_kind", "_law_text_here"] vs) H := by
  rintro vs H Q E ⟨kd, tx, rfl, hl, k⟩
  have hcl : (codesS tx).length ≤ 5000 := by unfold codesS; rw [List.length_map]; exact hl
  refine ⟨_, rfl, rfl, _, rfl, ?_⟩
  rw [strD]
  unfold dueOf at k
  by_cases e : kd = "turned"
  · rw [if_pos e] at k
    refine iteDT e ⟨_, rfl, tx, rfl, hl, fun p H1 s1 n1 e1 => ?_⟩
    exact ⟨_, rfl, _, rfl, p, -1, -1, codesS tx, rfl, e1, hcl, codes_nn tx, fun q H2 s2 n2 e2 => k q H2 (s1.trans s2) (s1.free n2) e2⟩
  · rw [if_neg e] at k
    refine iteDF e ⟨_, rfl, tx, rfl, hl, fun p H1 s1 n1 e1 => ?_⟩
    exact ⟨p, 200, 1, codesS tx, rfl, e1, hcl, codes_nn tx, fun q H2 s2 n2 e2 => k q H2 (s1.trans s2) (s1.free n2) e2⟩
theorem c_law_due {P : Program} {w : World} {K : PySem.W.Frag} {mg : Str → Option Value} {base : Heap} (T : Txt w K mg) : C8.Cal P w K mg base 5 "_law_due" (sp_law_due K) [] := T.cal 83 rfl T.g__law_due sc_law_due (fun _ _ _ _ _ _ us hl => match us, hl with | [_, _], _ => rfl) l_law_due (d_law_due T) (r_law_due T)
end Pl

set_option Elab.async false
set_option linter.all false
set_option maxRecDepth 100000
set_option maxHeartbeats 4000000
namespace Pl
open PySem PySem.Spec PyProof.Rows L2
/-! ### _law_trap -/
def sp_law_trap (_ : PySem.W.Frag) : Sp := fun vs H Q _ => ∃ a b l e, vs = [.ref a, .ref b] ∧ H a = some (.lst (iL l)) ∧ H b = some (.lst (iL e)) ∧ l.length ≤ 100 ∧ e.length ≤ 100 ∧ NewL H Q (iL (trapC l e))
theorem sc_law_trap : FnScope ["_law_lure", "_law_extra", "_law_b", "_law_nodes", "_law_p", "_law_r", "_law_end", "_law_code_here", "_law_number_here", "_law_cells", "_law_image", "_law_node"] ["_law_lure", "_law_extra"] (defScope s_law_trap) := C8.fnScope_by (by decide +kernel)
def t_law_trap (K : PySem.W.Frag) : TS := (tSeq (tAsg (tC (.int 1000000)) (gName 2)) (tSeq (tAsg (tLst (tCons (tTup (tCons (tC (.int 0)) (tCons (tC (.int 35)) (tCons (tC (.int 3)) (tCons (tVar 2) tNil))))) (tCons (tTup (tCons (tVar 2) (tCons (tC (.int 38)) (tCons (tC (.int 0)) (tCons (tOp rAddI (tVar 2) (tC (.int 1))) tNil))))) (tCons (tTup (tCons (tOp rAddI (tVar 2) (tC (.int 1))) (tCons (tC (.int 40)) (tCons (tC (.int 0)) (tCons (tOp rAddI (tVar 2) (tC (.int 2))) tNil))))) (tCons (tTup (tCons (tOp rAddI (tVar 2) (tC (.int 2))) (tCons (tC (.int 94)) (tCons (tC (.int 0)) (tCons (tOp rAddI (tVar 2) (tC (.int 3))) tNil))))) tNil))))) (gName 3)) (tSeq (tAsg (tOp rAddI (tVar 2) (tC (.int 3))) (gName 4)) (tSeq (tAsg (tOp rAddI (tOp rAddI (tVar 4) (tOp rMulI (tC (.int 4)) (tCB (rLenSeq K) (tCons (tVar 0) tNil)))) (tOp rMulI (tC (.int 2)) (tCB (rLenSeq K) (tCons (tVar 1) tNil)))) (gName 5)) (tSeq (tAsg (tOp rAddI (tVar 5) (tC (.int 9))) (gName 6)) (tSeq (tFor (iList K (tVar 0)) (gName 7) (tSeq (tDrop (tBM K "list" rExtend (tVar 3) (tCons (tLst (tCons (tTup (tCons (tVar 4) (tCons (tC (.int 44)) (tCons (tC (.int 0)) (tCons (tOp rAddI (tVar 4) (tC (.int 1))) tNil))))) (tCons (tTup (tCons (tOp rAddI (tVar 4) (tC (.int 1))) (tCons (tC (.int 35)) (tCons (tVar 7) (tCons (tOp rAddI (tVar 4) (tC (.int 2))) tNil))))) (tCons (tTup (tCons (tOp rAddI (tVar 4) (tC (.int 2))) (tCons (tC (.int 126)) (tCons (tC (.int 0)) (tCons (tOp rAddI (tVar 4) (tC (.int 3))) tNil))))) (tCons (tTup (tCons (tOp rAddI (tVar 4) (tC (.int 3))) (tCons (tC (.int 63)) (tCons (tVar 6) (tCons (tOp rAddI (tVar 4) (tC (.int 4))) tNil))))) tNil))))) tNil))) (tAsg (tOp rAddI (tVar 4) (tC (.int 4))) (gName 4)))) (tSeq (tFor (iList K (tVar 1)) (gName 8) (tSeq (tDrop (tBM K "list" rExtend (tVar 3) (tCons (tLst (tCons (tTup (tCons (tVar 4) (tCons (tC (.int 35)) (tCons (tVar 8) (tCons (tOp rAddI (tVar 4) (tC (.int 1))) tNil))))) (tCons (tTup (tCons (tOp rAddI (tVar 4) (tC (.int 1))) (tCons (tC (.int 46)) (tCons (tC (.int 0)) (tCons (tOp rAddI (tVar 4) (tC (.int 2))) tNil))))) tNil))) tNil))) (tAsg (tOp rAddI (tVar 4) (tC (.int 2))) (gName 4)))) (tSeq (tAsg (tOp rMulI (tC (.int 4)) (tOp rAddI (tCB (rLenSeq K) (tCons (tVar 3) tNil)) (tC (.int 10)))) (gName 9)) (tSeq (tDrop (tBM K "list" rExtend (tVar 3) (tCons (tLst (tCons (tTup (tCons (tVar 5) (tCons (tC (.int 35)) (tCons (tOp rSubI (tC (.int 0)) (tVar 9)) (tCons (tOp rAddI (tVar 5) (tC (.int 1))) tNil))))) (tCons (tTup (tCons (tOp rAddI (tVar 5) (tC (.int 1))) (tCons (tC (.int 34)) (tCons (tC (.int 0)) (tCons (tOp rAddI (tVar 5) (tC (.int 2))) tNil))))) (tCons (tTup (tCons (tOp rAddI (tVar 5) (tC (.int 2))) (tCons (tC (.int 38)) (tCons (tC (.int 0)) (tCons (tOp rAddI (tVar 5) (tC (.int 3))) tNil))))) (tCons (tTup (tCons (tOp rAddI (tVar 5) (tC (.int 3))) (tCons (tC (.int 46)) (tCons (tC (.int 0)) (tCons (tOp rAddI (tVar 5) (tC (.int 4))) tNil))))) tNil))))) tNil))) (tSeq (tDrop (tBM K "list" rExtend (tVar 3) (tCons (tLst (tCons (tTup (tCons (tOp rAddI (tVar 5) (tC (.int 4))) (tCons (tC (.int 35)) (tCons (tC (.int 1)) (tCons (tOp rAddI (tVar 5) (tC (.int 5))) tNil))))) (tCons (tTup (tCons (tOp rAddI (tVar 5) (tC (.int 5))) (tCons (tC (.int 43)) (tCons (tC (.int 0)) (tCons (tOp rAddI (tVar 5) (tC (.int 6))) tNil))))) (tCons (tTup (tCons (tOp rAddI (tVar 5) (tC (.int 6))) (tCons (tC (.int 34)) (tCons (tC (.int 0)) (tCons (tOp rAddI (tVar 5) (tC (.int 7))) tNil))))) (tCons (tTup (tCons (tOp rAddI (tVar 5) (tC (.int 7))) (tCons (tC (.int 63)) (tCons (tOp rAddI (tVar 5) (tC (.int 8))) (tCons (tOp rAddI (tVar 5) (tC (.int 1))) tNil))))) tNil))))) tNil))) (tSeq (tDrop (tBM K "list" rExtend (tVar 3) (tCons (tLst (tCons (tTup (tCons (tOp rAddI (tVar 5) (tC (.int 8))) (tCons (tC (.int 95)) (tCons (tC (.int 0)) (tCons (tVar 6) tNil))))) (tCons (tTup (tCons (tVar 6) (tCons (tC (.int 41)) (tCons (tC (.int 0)) (tCons (tOp rAddI (tVar 6) (tC (.int 1))) tNil))))) tNil))) tNil))) (tSeq (tAsg (tLst tNil) (gName 10)) (tSeq (tFor (iList K (tVar 3)) (gName 11) (tDrop (tBM K "list" rExtend (tVar 10) (tCons (tLst (tCons (tOp (rIxT K) (tVar 11) (tC (.int 0))) (tCons (tOp (rIxT K) (tVar 11) (tC (.int 1))) (tCons (tOp (rIxT K) (tVar 11) (tC (.int 2))) (tCons (tOp (rIxT K) (tVar 11) (tC (.int 3))) tNil))))) tNil)))) (tRet (tVar 10)))))))))))))))
theorem d_law_trap {P : Program} {w : World} {K : PySem.W.Frag} {mg : Str → Option Value} {base : Heap} (T : Txt w K mg) (f : Addr) (cdv : Value) (A : Around) (outer : List Env) (s : Shared) (H : Hp) (E : XK) (hr : Room 0 (A.deeper (envOfC "_law_trap" (defScope s_law_trap) s.heap.objs.size f cdv))) :
    PSs (Bx P w K mg base ["_law_lure", "_law_extra", "_law_b", "_law_nodes", "_law_p", "_law_r", "_law_end", "_law_code_here", "_law_number_here", "_law_cells", "_law_image", "_law_node"] "_law_trap" s_law_trap f cdv A outer s H E) (defBody s_law_trap) (t_law_trap K) :=
  (pss_cons (ps_set (i := 2) sc_law_trap.nd rfl (by first | exact Or.inl rfl | exact Or.inr rfl) pe_int) (pss_cons (ps_set (i := 3) sc_law_trap.nd rfl (by first | exact Or.inl rfl | exact Or.inr rfl) (pe_lst (pa_cons (pe_tup (pa_cons pe_int (pa_cons pe_int (pa_cons pe_int (pa_cons (pv 2) pa_nil))))) (pa_cons (pe_tup (pa_cons (pv 2) (pa_cons pe_int (pa_cons pe_int (pa_cons (pe_op op_add (pv 2) pe_int) pa_nil))))) (pa_cons (pe_tup (pa_cons (pe_op op_add (pv 2) pe_int) (pa_cons pe_int (pa_cons pe_int (pa_cons (pe_op op_add (pv 2) pe_int) pa_nil))))) (pa_cons (pe_tup (pa_cons (pe_op op_add (pv 2) pe_int) (pa_cons pe_int (pa_cons pe_int (pa_cons (pe_op op_add (pv 2) pe_int) pa_nil))))) pa_nil)))))) (pss_cons (ps_set (i := 4) sc_law_trap.nd rfl (by first | exact Or.inl rfl | exact Or.inr rfl) (pe_op op_add (pv 2) pe_int)) (pss_cons (ps_set (i := 5) sc_law_trap.nd rfl (by first | exact Or.inl rfl | exact Or.inr rfl) (pe_op op_add (pe_op op_add (pv 4) (pe_op op_mul pe_int (pe_callB call_len_seq (by rfl) T.f_len boot_len (pa_cons (pv 0) pa_nil)))) (pe_op op_mul pe_int (pe_callB call_len_seq (by rfl) T.f_len boot_len (pa_cons (pv 1) pa_nil))))) (pss_cons (ps_set (i := 6) sc_law_trap.nd rfl (by first | exact Or.inl rfl | exact Or.inr rfl) (pe_op op_add (pv 5) pe_int)) (pss_cons (ps_for PassesOwn.never rfl (pi_list (pv 0)) (pg_name (i := 7) sc_law_trap.nd rfl (by first | exact Or.inl rfl | exact Or.inr rfl)) (pss_cons (ps_expr (pe_bm PySem.F.plainAttrs_list PySem.F.slot_list_extend PySem.F.type_list_extend mt_extend (pv 3) (pa_cons (pe_lst (pa_cons (pe_tup (pa_cons (pv 4) (pa_cons pe_int (pa_cons pe_int (pa_cons (pe_op op_add (pv 4) pe_int) pa_nil))))) (pa_cons (pe_tup (pa_cons (pe_op op_add (pv 4) pe_int) (pa_cons pe_int (pa_cons (pv 7) (pa_cons (pe_op op_add (pv 4) pe_int) pa_nil))))) (pa_cons (pe_tup (pa_cons (pe_op op_add (pv 4) pe_int) (pa_cons pe_int (pa_cons pe_int (pa_cons (pe_op op_add (pv 4) pe_int) pa_nil))))) (pa_cons (pe_tup (pa_cons (pe_op op_add (pv 4) pe_int) (pa_cons pe_int (pa_cons (pv 6) (pa_cons (pe_op op_add (pv 4) pe_int) pa_nil))))) pa_nil))))) pa_nil))) (pss_one (ps_set (i := 4) sc_law_trap.nd rfl (by first | exact Or.inl rfl | exact Or.inr rfl) (pe_op op_add (pv 4) pe_int))))) (pss_cons (ps_for PassesOwn.never rfl (pi_list (pv 1)) (pg_name (i := 8) sc_law_trap.nd rfl (by first | exact Or.inl rfl | exact Or.inr rfl)) (pss_cons (ps_expr (pe_bm PySem.F.plainAttrs_list PySem.F.slot_list_extend PySem.F.type_list_extend mt_extend (pv 3) (pa_cons (pe_lst (pa_cons (pe_tup (pa_cons (pv 4) (pa_cons pe_int (pa_cons (pv 8) (pa_cons (pe_op op_add (pv 4) pe_int) pa_nil))))) (pa_cons (pe_tup (pa_cons (pe_op op_add (pv 4) pe_int) (pa_cons pe_int (pa_cons pe_int (pa_cons (pe_op op_add (pv 4) pe_int) pa_nil))))) pa_nil))) pa_nil))) (pss_one (ps_set (i := 4) sc_law_trap.nd rfl (by first | exact Or.inl rfl | exact Or.inr rfl) (pe_op op_add (pv 4) pe_int))))) (pss_cons (ps_set (i := 9) sc_law_trap.nd rfl (by first | exact Or.inl rfl | exact Or.inr rfl) (pe_op op_mul pe_int (pe_op op_add (pe_callB call_len_seq (by rfl) T.f_len boot_len (pa_cons (pv 3) pa_nil)) pe_int))) (pss_cons (ps_expr (pe_bm PySem.F.plainAttrs_list PySem.F.slot_list_extend PySem.F.type_list_extend mt_extend (pv 3) (pa_cons (pe_lst (pa_cons (pe_tup (pa_cons (pv 5) (pa_cons pe_int (pa_cons (pe_op op_sub pe_int (pv 9)) (pa_cons (pe_op op_add (pv 5) pe_int) pa_nil))))) (pa_cons (pe_tup (pa_cons (pe_op op_add (pv 5) pe_int) (pa_cons pe_int (pa_cons pe_int (pa_cons (pe_op op_add (pv 5) pe_int) pa_nil))))) (pa_cons (pe_tup (pa_cons (pe_op op_add (pv 5) pe_int) (pa_cons pe_int (pa_cons pe_int (pa_cons (pe_op op_add (pv 5) pe_int) pa_nil))))) (pa_cons (pe_tup (pa_cons (pe_op op_add (pv 5) pe_int) (pa_cons pe_int (pa_cons pe_int (pa_cons (pe_op op_add (pv 5) pe_int) pa_nil))))) pa_nil))))) pa_nil))) (pss_cons (ps_expr (pe_bm PySem.F.plainAttrs_list PySem.F.slot_list_extend PySem.F.type_list_extend mt_extend (pv 3) (pa_cons (pe_lst (pa_cons (pe_tup (pa_cons (pe_op op_add (pv 5) pe_int) (pa_cons pe_int (pa_cons pe_int (pa_cons (pe_op op_add (pv 5) pe_int) pa_nil))))) (pa_cons (pe_tup (pa_cons (pe_op op_add (pv 5) pe_int) (pa_cons pe_int (pa_cons pe_int (pa_cons (pe_op op_add (pv 5) pe_int) pa_nil))))) (pa_cons (pe_tup (pa_cons (pe_op op_add (pv 5) pe_int) (pa_cons pe_int (pa_cons pe_int (pa_cons (pe_op op_add (pv 5) pe_int) pa_nil))))) (pa_cons (pe_tup (pa_cons (pe_op op_add (pv 5) pe_int) (pa_cons pe_int (pa_cons (pe_op op_add (pv 5) pe_int) (pa_cons (pe_op op_add (pv 5) pe_int) pa_nil))))) pa_nil))))) pa_nil))) (pss_cons (ps_expr (pe_bm PySem.F.plainAttrs_list PySem.F.slot_list_extend PySem.F.type_list_extend mt_extend (pv 3) (pa_cons (pe_lst (pa_cons (pe_tup (pa_cons (pe_op op_add (pv 5) pe_int) (pa_cons pe_int (pa_cons pe_int (pa_cons (pv 6) pa_nil))))) (pa_cons (pe_tup (pa_cons (pv 6) (pa_cons pe_int (pa_cons pe_int (pa_cons (pe_op op_add (pv 6) pe_int) pa_nil))))) pa_nil))) pa_nil))) (pss_cons (ps_set (i := 10) sc_law_trap.nd rfl (by first | exact Or.inl rfl | exact Or.inr rfl) (pe_lst pa_nil)) (pss_cons (ps_for PassesOwn.never rfl (pi_list (pv 3)) (pg_name (i := 11) sc_law_trap.nd rfl (by first | exact Or.inl rfl | exact Or.inr rfl)) (pss_one (ps_expr (pe_bm PySem.F.plainAttrs_list PySem.F.slot_list_extend PySem.F.type_list_extend mt_extend (pv 10) (pa_cons (pe_lst (pa_cons (pe_ix ix_tup (pv 11) pe_int (fun _ _ => rfl)) (pa_cons (pe_ix ix_tup (pv 11) pe_int (fun _ _ => rfl)) (pa_cons (pe_ix ix_tup (pv 11) pe_int (fun _ _ => rfl)) (pa_cons (pe_ix ix_tup (pv 11) pe_int (fun _ _ => rfl)) pa_nil))))) pa_nil))))) (pss_one (ps_ret (pv 10))))))))))))))))
theorem l_law_trap {K : PySem.W.Frag} : ∀ vs H Q E, sp_law_trap K vs H Q E → vs.length = ["_law_lure", "_law_extra"].length := by
  rintro vs H Q E ⟨_, _, _, _, rfl, _⟩
  rfl
theorem flat_take4 {ns : List (Int × Node)} {i : Nat} {p : Int × Node} (h : ns[i]? = some p) : flatN (ns.take (i + 1)) = flatN (ns.take i) ++ [p.1, p.2.1, p.2.2.1, p.2.2.2] := by
  rw [take_snoc h, flatN_app]
  rfl
theorem r_law_trap {w : World} {K : PySem.W.Frag} {mg : Str → Option Value} (T : Txt w K mg) : ∀ vs H Q E, sp_law_trap K vs H Q E → t_law_trap K { nx := fun _ H' => Q .non H', rt := Q } (start ["_law_lure", "_law_extra", "_law_b", "_law_nodes", "_law_p", "_law_r", "_law_end", "_law_code_here", "_law_number_here", "_law_cells", "_law_image", "_law_node"] vs) H := by
  rintro vs H Q E ⟨a, b, l, e, rfl, ha, hb, hl, he, k⟩
  have g : NewN H (fun x H1 => tSeq (tAsg (tOp rAddI (tVar 2) (tC (.int 3))) (gName 4)) _ _ ((start ["_law_lure", "_law_extra", "_law_b", "_law_nodes", "_law_p", "_law_r", "_law_end", "_law_code_here", "_law_number_here", "_law_cells", "_law_image", "_law_node"] [V.ref a, V.ref b]).set 2 (some (.int 1000000)) |>.set 3 (some x)) H1) begN → t_law_trap K { nx := fun _ H' => Q .non H', rt := Q } (start ["_law_lure", "_law_extra", "_law_b", "_law_nodes", "_law_p", "_law_r", "_law_end", "_law_code_here", "_law_number_here", "_law_cells", "_law_image", "_law_node"] [V.ref a, V.ref b]) H := fun g0 => by
    have g := g0.g (by decide)
    refine ⟨_, rfl, by show 4 ≤ sizeLine; decide, fun t0 h0 => ?_⟩
    have g := g.cons h0
    refine ⟨_, rfl, _, rfl, _, _, rfl, rfl, by show 4 ≤ sizeLine; decide, fun t1 h1 => ?_⟩
    have g := g.cons h1
    refine ⟨_, rfl, _, _, rfl, rfl, _, rfl, _, _, rfl, rfl, by show 4 ≤ sizeLine; decide, fun t2 h2 => ?_⟩
    have g := g.cons h2
    refine ⟨_, rfl, _, _, rfl, rfl, _, rfl, _, _, rfl, rfl, by show 4 ≤ sizeLine; decide, fun t3 h3 => ?_⟩
    have g := g.cons h3
    exact g [] _ (Same.refl _) trivial
  refine g ?_
  intro q rs H1 s1 nq n1
  have nqa : a ≠ q := ne_of_none ha nq
  have nqb : b ≠ q := ne_of_none hb nq
  have ka : ∀ {H' : Hp}, KeepL [q] H H' → H' a = some (.lst (iL l)) ∧ H' b = some (.lst (iL e)) := fun kk => ⟨kk _ _ ha (by simpa using nqa), kk _ _ hb (by simpa using nqb)⟩
  have k1 : KeepL [q] H H1 := Same.keepL s1
  refine ⟨_, rfl, _, _, rfl, rfl, ?_⟩
  refine ⟨_, rfl, _, rfl, a, _, rfl, .inl (SqL.of (ka k1).1), _, _, rfl, rfl, .inl ⟨by decide, by decide⟩, _, _, rfl, rfl, _, rfl, b, _, rfl, .inl (SqL.of (ka k1).2), _, _, rfl, rfl, .inl ⟨by decide, by decide⟩, _, _, rfl, rfl, ?_⟩
  rw [List.length_map, List.length_map]
  refine ⟨_, rfl, _, _, rfl, rfl, ?_⟩
  refine ⟨_, rfl, a, rfl, ⟨_, SqL.of (ka k1).1⟩, for_list (K := K) (a := a) (xs := iL l) (fun i σ H' => (∃ p v7 v8 v9 v10 v11, σ = [some (.ref a), some (.ref b), some (.int 1000000), some (.ref q), some (.int p), some (.int (1000000 + 3 + 4 * (l.length : Int) + 2 * (e.length : Int))), some (.int (1000000 + 3 + 4 * (l.length : Int) + 2 * (e.length : Int) + 9)), v7, v8, v9, v10, v11] ∧ p = 1000003 + 4 * (i : Int)) ∧ KeepL [q] H H' ∧ ∃ rs, NdAt H' q (begN ++ cmpN (1000003 + 4 * (l.length : Int) + 2 * (e.length : Int) + 9) 1000003 (l.take i)) rs) ⟨⟨_, none, none, none, none, none, rfl, rfl⟩, k1, rs, n1⟩ (fun i σ H' _ p => SqL.of (ka p.2.1).1) ?_ ?_⟩
  · rintro i x σ H' hx ⟨⟨p, v7, v8, v9, v10, v11, rfl, rfl⟩, kk, rs, n⟩
    obtain ⟨c, rfl, hc⟩ := getV hx
    have hi := (List.getElem?_eq_some_iff.mp hc).1
    have lt : (l.take i).length = i := by rw [List.length_take]; omega
    refine extSeq (ns' := [(1000003 + 4 * (i : Int), 44, 0, 1000003 + 4 * (i : Int) + 1), (1000003 + 4 * (i : Int) + 1, 35, c, 1000003 + 4 * (i : Int) + 2), (1000003 + 4 * (i : Int) + 2, 126, 0, 1000003 + 4 * (i : Int) + 3), (1000003 + 4 * (i : Int) + 3, 63, 1000003 + 4 * (l.length : Int) + 2 * (e.length : Int) + 9, 1000003 + 4 * (i : Int) + 4)]) rfl n (by rw [List.length_append, cmpN_len, lt]; show 4 + 4 * i ≤ 100000; omega) (by simp) (fun R g0 => ?_) ?_
    · have g := g0.g (by simp)
      refine ⟨_, rfl, _, rfl, _, _, rfl, rfl, by show 4 ≤ sizeLine; decide, fun t0 h0 => ?_⟩
      have g := g.cons h0
      refine ⟨_, rfl, _, _, rfl, rfl, _, rfl, _, rfl, _, _, rfl, rfl, by show 4 ≤ sizeLine; decide, fun t1 h1 => ?_⟩
      have g := g.cons h1
      refine ⟨_, rfl, _, _, rfl, rfl, _, rfl, _, _, rfl, rfl, by show 4 ≤ sizeLine; decide, fun t2 h2 => ?_⟩
      have g := g.cons h2
      refine ⟨_, rfl, _, _, rfl, rfl, _, rfl, _, rfl, _, _, rfl, rfl, by show 4 ≤ sizeLine; decide, fun t3 h3 => ?_⟩
      have g := g.cons h3
      exact g [] _ (Same.refl _) trivial
    · intro rs2 H2 n2 k2
      refine ⟨_, rfl, _, _, rfl, rfl, ⟨_, _, _, _, _, _, rfl, by show 1000003 + 4 * (i : Int) + 4 = _; omega⟩, kk.trans k2, rs2, ?_⟩
      rw [take_snoc hc, cmpN_snoc, lt, ← List.append_assoc]
      exact n2
  · rintro σ H' ⟨⟨p, v7, v8, v9, v10, v11, rfl, rfl⟩, kk, rs, n⟩
    rw [List.length_map, List.take_length] at n
    refine ⟨_, rfl, b, rfl, ⟨_, SqL.of (ka kk).2⟩, for_list (K := K) (a := b) (xs := iL e) (fun i σ H' => (∃ p v7 v8 v9 v10 v11, σ = [some (.ref a), some (.ref b), some (.int 1000000), some (.ref q), some (.int p), some (.int (1000000 + 3 + 4 * (l.length : Int) + 2 * (e.length : Int))), some (.int (1000000 + 3 + 4 * (l.length : Int) + 2 * (e.length : Int) + 9)), v7, v8, v9, v10, v11] ∧ p = 1000003 + 4 * (l.length : Int) + 2 * (i : Int)) ∧ KeepL [q] H H' ∧ ∃ rs, NdAt H' q (begN ++ cmpN (1000003 + 4 * (l.length : Int) + 2 * (e.length : Int) + 9) 1000003 l ++ wrN (1000003 + 4 * (l.length : Int)) (e.take i)) rs) ⟨⟨_, v7, v8, v9, v10, v11, rfl, by rw [List.length_map]; omega⟩, kk, rs, by simpa [wrN] using n⟩ (fun i σ H' _ p => SqL.of (ka p.2.1).2) ?_ ?_⟩
    · rintro i x σ H' hx ⟨⟨p, v7, v8, v9, v10, v11, rfl, rfl⟩, kk, rs, n⟩
      obtain ⟨c, rfl, hc⟩ := getV hx
      have hi := (List.getElem?_eq_some_iff.mp hc).1
      have lt : (e.take i).length = i := by rw [List.length_take]; omega
      refine extSeq (ns' := [(1000003 + 4 * (l.length : Int) + 2 * (i : Int), 35, c, 1000003 + 4 * (l.length : Int) + 2 * (i : Int) + 1), (1000003 + 4 * (l.length : Int) + 2 * (i : Int) + 1, 46, 0, 1000003 + 4 * (l.length : Int) + 2 * (i : Int) + 2)]) rfl n (by rw [List.length_append, List.length_append, cmpN_len, wrN_len, lt]; show 4 + 4 * l.length + 2 * i ≤ 100000; omega) (by simp) (fun R g0 => ?_) ?_
      · have g := g0.g (by simp)
        refine ⟨_, rfl, _, rfl, _, rfl, _, _, rfl, rfl, by show 4 ≤ sizeLine; decide, fun t0 h0 => ?_⟩
        have g := g.cons h0
        refine ⟨_, rfl, _, _, rfl, rfl, _, rfl, _, _, rfl, rfl, by show 4 ≤ sizeLine; decide, fun t1 h1 => ?_⟩
        have g := g.cons h1
        exact g [] _ (Same.refl _) trivial
      · intro rs2 H2 n2 k2
        refine ⟨_, rfl, _, _, rfl, rfl, ⟨_, _, _, _, _, _, rfl, by show 1000003 + 4 * (l.length : Int) + 2 * (i : Int) + 2 = _; omega⟩, kk.trans k2, rs2, ?_⟩
        rw [take_snoc hc, wrN_snoc, lt, ← List.append_assoc]
        exact n2
    · rintro σ H' ⟨⟨p, v7, v8, v9, v10, v11, rfl, rfl⟩, kk, rs, n⟩
      rw [List.length_map, List.take_length] at n
      have nl : rs.length = 4 + 4 * l.length + 2 * e.length := by
        rw [n.nd.len, List.length_append, List.length_append, cmpN_len, wrN_len]
        rfl
      refine ⟨_, rfl, q, _, rfl, .inl (SqL.of n.hq), _, _, rfl, rfl, _, _, rfl, rfl, .inl ⟨by decide, by decide⟩, ?_⟩
      rw [show (rs.map V.ref).length = 4 + 4 * l.length + 2 * e.length by rw [List.length_map]; exact nl]
      generalize hr : (1000000 + 3 + 4 * (l.length : Int) + 2 * (e.length : Int)) = r
      have n0 : (begN ++ cmpN (1000003 + 4 * (l.length : Int) + 2 * (e.length : Int) + 9) 1000003 l ++ wrN (1000003 + 4 * (l.length : Int)) e).length = 4 + 4 * l.length + 2 * e.length := by
        rw [List.length_append, List.length_append, cmpN_len, wrN_len]
        rfl
      refine extSeq (ns' := [(r, 35, 0 - (4 * (((4 + 4 * l.length + 2 * e.length : Nat) : Int) + 10)), r + 1), (r + 1, 34, 0, r + 2), (r + 2, 38, 0, r + 3), (r + 3, 46, 0, r + 4)]) rfl n (by omega) (by simp) (fun R g0 => ?_) ?_
      · have g := g0.g (by simp)
        refine ⟨_, rfl, _, rfl, _, _, rfl, rfl, _, rfl, _, _, rfl, rfl, by show 4 ≤ sizeLine; decide, fun t0 h0 => ?_⟩
        have g := g.cons h0
        refine ⟨_, rfl, _, _, rfl, rfl, _, rfl, _, _, rfl, rfl, by show 4 ≤ sizeLine; decide, fun t1 h1 => ?_⟩
        have g := g.cons h1
        refine ⟨_, rfl, _, _, rfl, rfl, _, rfl, _, _, rfl, rfl, by show 4 ≤ sizeLine; decide, fun t2 h2 => ?_⟩
        have g := g.cons h2
        refine ⟨_, rfl, _, _, rfl, rfl, _, rfl, _, _, rfl, rfl, by show 4 ≤ sizeLine; decide, fun t3 h3 => ?_⟩
        have g := g.cons h3
        exact g [] _ (Same.refl _) trivial
      intro rs2 H2 n2 k2
      refine extSeq (ns' := [(r + 4, 35, 1, r + 5), (r + 5, 43, 0, r + 6), (r + 6, 34, 0, r + 7), (r + 7, 63, r + 8, r + 1)]) rfl n2 (by rw [List.length_append, n0]; simp; omega) (by simp) (fun R g0 => ?_) ?_
      · have g := g0.g (by simp)
        refine ⟨_, rfl, _, _, rfl, rfl, _, rfl, _, _, rfl, rfl, by show 4 ≤ sizeLine; decide, fun t0 h0 => ?_⟩
        have g := g.cons h0
        refine ⟨_, rfl, _, _, rfl, rfl, _, rfl, _, _, rfl, rfl, by show 4 ≤ sizeLine; decide, fun t1 h1 => ?_⟩
        have g := g.cons h1
        refine ⟨_, rfl, _, _, rfl, rfl, _, rfl, _, _, rfl, rfl, by show 4 ≤ sizeLine; decide, fun t2 h2 => ?_⟩
        have g := g.cons h2
        refine ⟨_, rfl, _, _, rfl, rfl, _, rfl, _, _, rfl, rfl, _, rfl, _, _, rfl, rfl, by show 4 ≤ sizeLine; decide, fun t3 h3 => ?_⟩
        have g := g.cons h3
        exact g [] _ (Same.refl _) trivial
      intro rs3 H3 n3 k3
      refine extSeq (ns' := [(r + 8, 95, 0, r + 9), (r + 9, 41, 0, r + 9 + 1)]) rfl n3 (by rw [List.length_append, List.length_append, n0]; simp; omega) (by simp) (fun R g0 => ?_) ?_
      · have g := g0.g (by simp)
        refine ⟨_, rfl, _, _, rfl, rfl, _, rfl, by show 4 ≤ sizeLine; decide, fun t0 h0 => ?_⟩
        have g := g.cons h0
        refine ⟨_, rfl, _, rfl, _, _, rfl, rfl, by show 4 ≤ sizeLine; decide, fun t1 h1 => ?_⟩
        have g := g.cons h1
        exact g [] _ (Same.refl _) trivial
      intro rs4 H4 n4 k4
      have en : begN ++ cmpN (1000003 + 4 * (l.length : Int) + 2 * (e.length : Int) + 9) 1000003 l ++ wrN (1000003 + 4 * (l.length : Int)) e ++ [(r, 35, 0 - (4 * (((4 + 4 * l.length + 2 * e.length : Nat) : Int) + 10)), r + 1), (r + 1, 34, 0, r + 2), (r + 2, 38, 0, r + 3), (r + 3, 46, 0, r + 4)] ++ [(r + 4, 35, 1, r + 5), (r + 5, 43, 0, r + 6), (r + 6, 34, 0, r + 7), (r + 7, 63, r + 8, r + 1)] ++ [(r + 8, 95, 0, r + 9), (r + 9, 41, 0, r + 9 + 1)] = trapN l e := by
        unfold trapN
        rw [cpN_eq, show (1000003 + 4 * (l.length : Int) + 2 * (e.length : Int)) = r by omega, show (4 * (14 + 4 * (l.length : Int) + 2 * (e.length : Int))) = (4 * (((4 + 4 * l.length + 2 * e.length : Nat) : Int) + 10)) by omega, show 0 - (4 * (((4 + 4 * l.length + 2 * e.length : Nat) : Int) + 10)) = -(4 * (((4 + 4 * l.length + 2 * e.length : Nat) : Int) + 10)) by omega]
        simp only [List.append_assoc, List.cons_append, List.nil_append]
      rw [en] at n4
      have kq := kk.trans (k2.trans (k3.trans k4))
      refine ⟨by show 0 ≤ sizeLine; decide, fun im him => ?_⟩
      have nqi : q ≠ im := ne_of_none n4.hq him
      have him0 : H im = none := kq.none (fun x hx => by
        simp only [List.mem_cons, List.mem_nil_iff, or_false] at hx
        subst hx
        exact ⟨_, n4.hq⟩) him
      have sm : ∀ {H' : Hp}, KeepL [q, im] H H' → Same H H' := fun kk => kk.same (Same.refl H) (by simpa using ⟨nq, him0⟩)
      have tl := trapN_len l e
      refine ⟨_, rfl, q, rfl, ⟨_, SqL.of (upd_old n4.hq him)⟩, for_list (K := K) (a := q) (xs := rs4.map V.ref) (fun i σ H' => (∃ p v5 v6 v7 v8 v9 v11, σ = [some (.ref a), some (.ref b), some (.int 1000000), some (.ref q), p, v5, v6, v7, v8, v9, some (.ref im), v11]) ∧ KeepL [q, im] H H' ∧ NdAt H' q (trapN l e) rs4 ∧ H' im = some (.lst (iL (flatN ((trapN l e).take i))))) ⟨⟨_, _, _, _, _, _, _, rfl⟩, (kq.mono (by simp)).trans (KeepL.upd (by simp)), ⟨upd_old n4.hq him, n4.nd.same (Same.new him)⟩, upd_same⟩ (fun i σ H' _ p => SqL.of p.2.2.1.hq) ?_ ?_⟩
      · rintro i x σ H5 hx ⟨⟨p, v5, v6, v7, v8, v9, v11, rfl⟩, k5, n5, h5⟩
        rw [List.getElem?_map] at hx
        cases er : rs4[i]? with
        | none => rw [er] at hx; cases hx
        | some rr =>
          rw [er] at hx
          have ex : x = .ref rr := (Option.some.inj hx).symm
          subst ex
          obtain ⟨nd, e1, e2⟩ := n5.nd.at_ er
          have hi := (List.getElem?_eq_some_iff.mp e1).1
          refine ⟨_, rfl, .inl ⟨rfl, _, SqL.of h5⟩, _, rfl, rr, _, _, _, rfl, rfl, SqT.of e2, atI_nat (j := 0) rfl, _, rfl, rr, _, _, _, rfl, rfl, SqT.of e2, atI_nat (j := 1) rfl, _, rfl, rr, _, _, _, rfl, rfl, SqT.of e2, atI_nat (j := 2) rfl, _, rfl, rr, _, _, _, rfl, rfl, SqT.of e2, atI_nat (j := 3) rfl, by show 4 ≤ sizeLine; decide, fun t ht => ?_⟩
          refine ⟨im, t, _, _, rfl, rfl, upd_old h5 ht, upd_same, line_of (by rw [List.length_map, flatN_len, List.length_take]; show _ + 4 ≤ 16000000; omega), ⟨_, _, _, _, _, _, _, rfl⟩, k5.trans ((KeepL.new ht).trans (KeepL.upd (by simp))), ⟨?_, ?_⟩, ?_⟩
          · rw [upd_ne nqi]
            exact upd_old n5.hq ht
          · exact NdL.upd (upd_old h5 ht) (n5.nd.same (Same.new ht))
          · rw [upd_same, flat_take4 e1]
            simp
      · rintro σ H5 ⟨⟨p, v5, v6, v7, v8, v9, v11, rfl⟩, k5, n5, h5⟩
        rw [List.length_map, n5.nd.len, List.take_length] at h5
        exact ⟨_, rfl, k im H5 (sm k5) him0 h5⟩
theorem c_law_trap {P : Program} {w : World} {K : PySem.W.Frag} {mg : Str → Option Value} {base : Heap} (T : Txt w K mg) : C8.Cal P w K mg base 1 "_law_trap" (sp_law_trap K) [] := T.cal 77 rfl T.g__law_trap sc_law_trap (fun _ _ _ _ _ _ us hl => match us, hl with | [_, _], _ => rfl) l_law_trap (d_law_trap T) (r_law_trap T)
end Pl

set_option Elab.async false
set_option linter.all false
set_option maxRecDepth 100000
set_option maxHeartbeats 4000000
namespace Pl
open PySem PySem.Spec PyProof.Rows L2
/-! ### the law's model, beside the shelf -/
structure Ad where
  a : Addr
  s : Addr
  dxs : Addr
  d : Addr
  m : Addr
structure Mo where
  nm : Str
  kind : Str
  text : Str
  bin : List Int
  due : List Int
  trap : Option (List Int × List Int)
  r : Addr
  mb : Addr
  md : Addr
  mt : Addr
  ml : Addr
  mx : Addr
def recV (y : Mo) : List V := [.str y.kind, .str y.text, .ref y.mb, .ref y.md, .ref y.mt]
def kvM (ms : List Mo) : List (Key × V) := ms.map fun y => ((Sum.inr y.nm : Key), V.ref y.r)
abbrev Fx := List (Addr × List V)
structure MoOk (fx : Fx) (y : Mo) : Prop where
  b : (y.mb, iL y.bin) ∈ fx
  d : (y.md, iL y.due) ∈ fx
  t : (y.trap = none ∧ (y.mt, []) ∈ fx) ∨ ∃ l e, y.trap = some (l, e) ∧ (y.mt, [.ref y.ml, .ref y.mx]) ∈ fx ∧ (y.ml, iL l) ∈ fx ∧ (y.mx, iL e) ∈ fx
theorem MoOk.mono {fx fx' : Fx} {y : Mo} (h : MoOk fx y) (s : ∀ x ∈ fx, x ∈ fx') : MoOk fx' y :=
  ⟨s _ h.b, s _ h.d, h.t.elim (fun z => .inl ⟨z.1, s _ z.2⟩) fun ⟨l, e, z1, z2, z3, z4⟩ => .inr ⟨l, e, z1, s _ z2, s _ z3, s _ z4⟩⟩
structure St0 (K : PySem.W.Frag) (H : Hp) (A : Ad) (es : List En) (ms : List Mo) (fx : Fx) (ds : List Int) : Prop where
  sh : ShAt K H A.s A.dxs A.d es
  hm : H A.m = some (.dK (kvM ms))
  rc : ∀ y ∈ ms, H y.r = some (.lst (recV y)) ∧ MoOk fx y
  hx : ∀ x ∈ fx, H x.1 = some (.lst x.2)
  ha : H A.a = some (stk ds)
  sx : ∀ x ∈ fx, x.1 ≠ A.a ∧ ∀ e ∈ es, x.1 ≠ e.b
  sr : ∀ y ∈ ms, y.r ≠ A.a ∧ (∀ e ∈ es, y.r ≠ e.b) ∧ ∀ x ∈ fx, y.r ≠ x.1
  sa : ∀ e ∈ es, e.b ≠ A.a
  pm : ms.Pairwise fun x y => x.nm ≠ y.nm ∧ x.r ≠ y.r
  dm : A.d ≠ A.m
theorem pw_eqM {R : Mo → Mo → Prop} {x y : Mo} : ∀ {es : List Mo}, es.Pairwise R → x ∈ es → y ∈ es → (∀ a b, R a b → ¬ (a = x ∧ b = y) ∧ ¬ (a = y ∧ b = x)) → x = y
  | a :: r, h, hx, hy, k => by
    rw [List.pairwise_cons] at h
    rcases List.mem_cons.mp hx with ex | hx'
    · rcases List.mem_cons.mp hy with ey | hy'
      · rw [ex, ey]
      · exact absurd ⟨ex.symm, rfl⟩ (k a y (h.1 y hy')).1
    · rcases List.mem_cons.mp hy with ey | hy'
      · exact absurd ⟨ey.symm, rfl⟩ (k a x (h.1 x hx')).2
      · exact pw_eqM h.2 hx' hy' k
theorem val_kvM {x : Mo} : ∀ {es : List Mo}, (es.Pairwise fun x y => x.nm ≠ y.nm ∧ x.r ≠ y.r) → x ∈ es → valV (kvM es) (Sum.inr x.nm : Key) = some (.ref x.r)
  | a :: r, h, hx => by
    rw [List.pairwise_cons] at h
    unfold valV kvM
    rw [List.map_cons, List.find?_cons]
    rcases List.mem_cons.mp hx with ex | hx'
    · rw [decide_eq_true (show ((Sum.inr a.nm : Key) = Sum.inr x.nm) by rw [ex])]
      rw [ex]
      rfl
    · rw [decide_eq_false (show ¬ ((Sum.inr a.nm : Key) = Sum.inr x.nm) from fun z => (h.1 x hx').1 (Sum.inr.inj z))]
      exact val_kvM h.2 hx'
def putM (es : List Mo) (x : Mo) : List Mo := if (es.any fun y => decide (y.nm = x.nm)) = true then es.map (fun y => if y.nm = x.nm then x else y) else es ++ [x]
theorem putM_mem {es : List Mo} {x z : Mo} (h : z ∈ putM es x) : z = x ∨ (z ∈ es ∧ z.nm ≠ x.nm) := by
  unfold putM at h
  split at h
  · obtain ⟨y, hy, e⟩ := List.mem_map.mp h
    by_cases hn : y.nm = x.nm
    · rw [if_pos hn] at e; exact .inl e.symm
    · rw [if_neg hn] at e; subst e; exact .inr ⟨hy, hn⟩
  · rename_i ha
    rcases List.mem_append.mp h with h | h
    · refine .inr ⟨h, fun e => ha ?_⟩
      exact List.any_eq_true.mpr ⟨z, h, decide_eq_true e⟩
    · exact .inl (List.mem_singleton.mp h)
theorem putM_self {es : List Mo} {x : Mo} : x ∈ putM es x := by
  unfold putM
  split
  · rename_i ha
    obtain ⟨y, hy, e⟩ := List.any_eq_true.mp ha
    exact List.mem_map.mpr ⟨y, hy, if_pos (of_decide_eq_true e)⟩
  · exact List.mem_append_right _ (List.mem_singleton.mpr rfl)
theorem putM_old {es : List Mo} {x z : Mo} (h : z ∈ es) (hn : z.nm ≠ x.nm) : z ∈ putM es x := by
  unfold putM
  split
  · exact List.mem_map.mpr ⟨z, h, if_neg hn⟩
  · exact List.mem_append_left _ h
theorem putM_len (es : List Mo) (x : Mo) : (putM es x).length ≤ es.length + 1 := by
  unfold putM
  split
  · rw [List.length_map]; omega
  · rw [List.length_append]; exact Nat.le_refl _
theorem pw_putM {es : List Mo} {x : Mo} {R : Mo → Mo → Prop} (hn : es.Pairwise fun x y => x.nm ≠ y.nm ∧ x.r ≠ y.r) (h : es.Pairwise R) (h1 : ∀ y ∈ es, y.nm ≠ x.nm → R y x) (h2 : ∀ y ∈ es, y.nm ≠ x.nm → R x y) : (putM es x).Pairwise R := by
  unfold putM
  split
  · rw [List.pairwise_map]
    refine (h.and hn).imp_of_mem fun {p q} hp hq r => ?_
    by_cases e1 : p.nm = x.nm
    · have e2 : q.nm ≠ x.nm := fun z => r.2.1 (e1.trans z.symm)
      rw [if_pos e1, if_neg e2]
      exact h2 q hq e2
    · rw [if_neg e1]
      by_cases e2 : q.nm = x.nm
      · rw [if_pos e2]
        exact h1 p hp e1
      · rw [if_neg e2]
        exact r.1
  · rename_i ha
    refine List.pairwise_append.mpr ⟨h, List.pairwise_singleton .., fun y hy z hz => ?_⟩
    rw [List.mem_singleton.mp hz]
    exact h1 y hy fun e => ha (List.any_eq_true.mpr ⟨y, hy, decide_eq_true e⟩)
theorem kvM_putM (es : List Mo) (x : Mo) : kvM (putM es x) = putK (kvM es) (Sum.inr x.nm : Key) (.ref x.r) := by
  unfold kvM putM putK
  have e : ((es.map fun x => ((Sum.inr x.nm : Key), V.ref x.r)).any fun kv => decide (kv.1 = (Sum.inr x.nm : Key))) = es.any fun y => decide (y.nm = x.nm) := by
    rw [List.any_map]
    congr 1
    funext y
    show decide ((Sum.inr y.nm : Key) = Sum.inr x.nm) = _
    by_cases h : y.nm = x.nm
    · rw [decide_eq_true h, decide_eq_true (by rw [h])]
    · rw [decide_eq_false h, decide_eq_false (fun z => h (Sum.inr.inj z))]
  rw [e]
  split
  · rw [List.map_map, List.map_map]
    refine List.map_congr_left fun y _ => ?_
    show ((Sum.inr (if y.nm = x.nm then x else y : Mo).nm : Key), V.ref (if y.nm = x.nm then x else y : Mo).r) = if (Sum.inr y.nm : Key) = Sum.inr x.nm then ((Sum.inr y.nm : Key), V.ref x.r) else _
    by_cases h : y.nm = x.nm
    · rw [if_pos h, if_pos (by rw [h]), h]
    · rw [if_neg h, if_neg (fun z => h (Sum.inr.inj z))]
  · rw [List.map_append]
    rfl
section
variable {K : PySem.W.Frag} {H H' : Hp} {A : Ad} {es es' : List En} {ms : List Mo} {fx : Fx} {ds : List Int} {y : Mo}
theorem St0.byN (h : St0 K H A es ms fx ds) {x y : Mo} (hx : x ∈ ms) (hy : y ∈ ms) (e : x.nm = y.nm) : x = y := pw_eqM h.pm hx hy fun a b r => ⟨fun z => r.1 (by rw [z.1, z.2, e]), fun z => r.1 (by rw [z.1, z.2, e])⟩
theorem St0.byR (h : St0 K H A es ms fx ds) {x y : Mo} (hx : x ∈ ms) (hy : y ∈ ms) (e : x.r = y.r) : x = y := pw_eqM h.pm hx hy fun a b r => ⟨fun z => r.2 (by rw [z.1, z.2, e]), fun z => r.2 (by rw [z.1, z.2, e])⟩
theorem St0.get (h : St0 K H A es ms fx ds) (hy : y ∈ ms) : DGet H A.m (.str y.nm) (some (.ref y.r)) := by
  rw [← val_kvM h.pm hy]
  exact DGet.k (k := Sum.inr y.nm) h.hm
theorem St0.mono (h : St0 K H A es ms fx ds) {fx' : Fx} (s : ∀ x ∈ fx, x ∈ fx') (h1 : ∀ x ∈ fx', H x.1 = some (.lst x.2)) (h2 : ∀ x ∈ fx', x.1 ≠ A.a ∧ ∀ e ∈ es, x.1 ≠ e.b) (h3 : ∀ y ∈ ms, ∀ x ∈ fx', y.r ≠ x.1) : St0 K H A es ms fx' ds :=
  ⟨h.sh, h.hm, fun y hy => ⟨(h.rc y hy).1, (h.rc y hy).2.mono s⟩, h1, h.ha, h2, fun y hy => ⟨(h.sr y hy).1, (h.sr y hy).2.1, h3 y hy⟩, h.sa, h.pm, h.dm⟩
/-- what changes is not the model's -/
theorem St0.shelf (h : St0 K H A es ms fx ds) (sh : ShAt K H' A.s A.dxs A.d es') {l : List Addr} (k : KeepL l H H') (hl : ∀ q ∈ l, q = A.d ∨ ∃ e ∈ es, q = e.e ∨ q = e.b) (hb : ∀ e ∈ es', (∃ e2 ∈ es, e.b = e2.b) ∨ H e.b = none) : St0 K H' A es' ms fx ds := by
  have nl : ∀ {q : Addr} {xs : List V}, H q = some (.lst xs) → (∀ e ∈ es, q ≠ e.b) → q ∉ l := fun hq hn hm => by
    rcases hl _ hm with z | ⟨e, he, z | z⟩
    · exact ne_of hq h.sh.hd (by intro w; cases w) z
    · exact ne_of hq (h.sh.en e he).1 (by intro w; cases w) z
    · exact hn e he z
  have nb : ∀ {q : Addr} {o : HO}, H q = some o → (∀ e ∈ es, q ≠ e.b) → ∀ e ∈ es', q ≠ e.b := fun hq hn e he => by
    rcases hb e he with ⟨e2, h2, z⟩ | z
    · rw [z]; exact hn e2 h2
    · exact ne_of_none hq z
  refine ⟨sh, k _ _ h.hm fun hm => ?_, fun y hy => ⟨k _ _ (h.rc y hy).1 (nl (h.rc y hy).1 (h.sr y hy).2.1), (h.rc y hy).2⟩, fun x hx => k _ _ (h.hx x hx) (nl (h.hx x hx) (h.sx x hx).2), k _ _ h.ha (nl h.ha fun e he => (h.sa e he).symm), fun x hx => ⟨(h.sx x hx).1, nb (h.hx x hx) (h.sx x hx).2⟩, fun y hy => ⟨(h.sr y hy).1, nb (h.rc y hy).1 (h.sr y hy).2.1, (h.sr y hy).2.2⟩, fun e he => (nb h.ha (fun e he => (h.sa e he).symm) e he).symm, h.pm, h.dm⟩
  rcases hl _ hm with z | ⟨e, he, z | z⟩
  · exact h.dm z.symm
  · exact ne_of h.hm (h.sh.en e he).1 (by intro w; cases w) z
  · exact ne_of h.hm (h.sh.en e he).2 (by intro w; cases w) z
theorem St0.same (h : St0 K H A es ms fx ds) (s : Same H H') : St0 K H' A es ms fx ds :=
  h.shelf (h.sh.same s) (l := []) (fun b o e _ => s b o e) (fun q hq => nomatch hq) fun e he => .inl ⟨e, he, rfl⟩
theorem St0.pop (h : St0 K H A es ms fx ds) (ds' : List Int) : St0 K (upd H A.a (stk ds')) A es ms fx ds' := by
  have na : ∀ {q : Addr} {o : HO}, H q = some o → q ≠ A.a → upd H A.a (stk ds') q = some o := fun hq hn => by rw [upd_ne hn]; exact hq
  have k : KeepL [A.a] H (upd H A.a (stk ds')) := KeepL.upd (by simp)
  have f1 : A.s ≠ A.a := ne_of h.sh.ob h.ha (by intro w; cases w)
  have f2 : A.d ≠ A.a := ne_of h.sh.hd h.ha (by intro w; cases w)
  refine ⟨h.sh.keep k (by simpa using f1) (by simpa using f2) fun x hx => ⟨by simpa using ne_of (h.sh.en x hx).1 h.ha (by intro w; cases w), by simpa using h.sa x hx⟩, na h.hm (ne_of h.hm h.ha (by intro w; cases w)), fun y hy => ⟨na (h.rc y hy).1 (h.sr y hy).1, (h.rc y hy).2⟩, fun x hx => na (h.hx x hx) (h.sx x hx).1, upd_same, h.sx, h.sr, h.sa, h.pm, h.dm⟩
/-- new lists that will not change -/
theorem St0.addFx {H0 : Hp} (h0 : St0 K H0 A es ms fx ds) (s : Same H0 H) (ps : Fx) (hp : ∀ x ∈ ps, H0 x.1 = none ∧ H x.1 = some (.lst x.2)) : St0 K H A es ms (ps ++ fx) ds := by
  have h := h0.same s
  refine h.mono (fun x hx => List.mem_append_right _ hx) (fun x hx => ?_) (fun x hx => ?_) fun y hy x hx => ?_
  · rcases List.mem_append.mp hx with hx | hx
    · exact (hp x hx).2
    · exact h.hx x hx
  · rcases List.mem_append.mp hx with hx | hx
    · exact ⟨(ne_of_none h0.ha (hp x hx).1).symm, fun e he => (ne_of_none (h0.sh.en e he).2 (hp x hx).1).symm⟩
    · exact h.sx x hx
  · rcases List.mem_append.mp hx with hx | hx
    · exact ne_of_none (h0.rc y hy).1 (hp x hx).1
    · exact (h.sr y hy).2.2 x hx
/-- a record is changed -/
theorem St0.setR (h : St0 K H A es ms fx ds) (hy : y ∈ ms) {y' : Mo} (e1 : y'.nm = y.nm) (e2 : y'.r = y.r) (ok : MoOk fx y') : St0 K (upd H y.r (.lst (recV y'))) A es (putM ms y') fx ds := by
  have hr := (h.rc y hy).1
  have na : ∀ {q : Addr} {o : HO}, H q = some o → q ≠ y.r → upd H y.r (.lst (recV y')) q = some o := fun hq hn => by rw [upd_ne hn]; exact hq
  have k : KeepL [y.r] H (upd H y.r (.lst (recV y'))) := KeepL.upd (by simp)
  have ha : (ms.any fun z => decide (z.nm = y'.nm)) = true := List.any_eq_true.mpr ⟨y, hy, decide_eq_true e1.symm⟩
  have kv : kvM (putM ms y') = kvM ms := by
    unfold kvM putM
    rw [if_pos ha, List.map_map]
    refine List.map_congr_left fun z hz => ?_
    show ((Sum.inr (if z.nm = y'.nm then y' else z : Mo).nm : Key), V.ref (if z.nm = y'.nm then y' else z : Mo).r) = _
    by_cases e : z.nm = y'.nm
    · obtain rfl := h.byN hz hy (e.trans e1)
      rw [if_pos e, e1, e2]
    · rw [if_neg e]
  have f1 : A.s ≠ y.r := ne_of h.sh.ob hr (by intro w; cases w)
  have f2 : A.d ≠ y.r := ne_of h.sh.hd hr (by intro w; cases w)
  refine ⟨h.sh.keep k (by simpa using f1) (by simpa using f2) fun x hx => ⟨by simpa using ne_of (h.sh.en x hx).1 hr (by intro w; cases w), by simpa using ((h.sr y hy).2.1 x hx).symm⟩, by rw [kv]; exact na h.hm (ne_of h.hm hr (by intro w; cases w)), fun z hz => ?_, fun x hx => na (h.hx x hx) ((h.sr y hy).2.2 x hx).symm, na h.ha (h.sr y hy).1.symm, h.sx, fun z hz => ?_, h.sa, ?_, h.dm⟩
  · rcases putM_mem hz with rfl | ⟨hz, hn⟩
    · exact ⟨by rw [e2, upd_same], ok⟩
    · exact ⟨na (h.rc z hz).1 (fun w => hn (by rw [h.byR hz hy w, e1])), (h.rc z hz).2⟩
  · rcases putM_mem hz with rfl | ⟨hz, hn⟩
    · rw [e2]; exact h.sr y hy
    · exact h.sr z hz
  · refine pw_putM h.pm h.pm (fun z hz n => ⟨n, fun w => n ?_⟩) (fun z hz n => ⟨n.symm, fun w => n ?_⟩)
    · rw [e2] at w
      rw [h.byR hz hy w, e1]
    · rw [e2] at w
      rw [h.byR hz hy w.symm, e1]
/-- a new record is put -/
theorem St0.putR (h : St0 K H A es ms fx ds) (hr : H y.r = none) (ok : MoOk fx y) : St0 K (upd (upd H y.r (.lst (recV y))) A.m (.dK (putK (kvM ms) (Sum.inr y.nm : Key) (.ref y.r)))) A es (putM ms y) fx ds := by
  have s1 : Same H (upd H y.r (.lst (recV y))) := Same.new hr
  have h1 := h.same s1
  have k : KeepL [A.m] (upd H y.r (.lst (recV y))) (upd (upd H y.r (.lst (recV y))) A.m (.dK (putK (kvM ms) (Sum.inr y.nm : Key) (.ref y.r)))) := KeepL.upd (by simp)
  have nm : ∀ {q : Addr} {o : HO}, upd H y.r (.lst (recV y)) q = some o → (∀ kv, o ≠ .dK kv) → q ∉ [A.m] := fun hq hn => by simpa using ne_of hq h1.hm (hn _)
  have nl : ∀ {q : Addr} {xs : List V}, upd H y.r (.lst (recV y)) q = some (.lst xs) → q ∉ [A.m] := fun hq => nm hq (fun kv w => by cases w)
  refine ⟨h1.sh.keep k (nm h1.sh.ob (fun kv w => by cases w)) (by simpa using h.dm) fun x hx => ⟨nm (h1.sh.en x hx).1 (fun kv w => by cases w), nl (h1.sh.en x hx).2⟩, by rw [upd_same, kvM_putM], fun z hz => ?_, fun x hx => k _ _ (h1.hx x hx) (nl (h1.hx x hx)), k _ _ h1.ha (nl h1.ha), h.sx, fun z hz => ?_, h.sa, ?_, h.dm⟩
  · rcases putM_mem hz with rfl | ⟨hz, hn⟩
    · exact ⟨k _ _ upd_same (nl upd_same), ok⟩
    · exact ⟨k _ _ (h1.rc z hz).1 (nl (h1.rc z hz).1), (h.rc z hz).2⟩
  · rcases putM_mem hz with rfl | ⟨hz, hn⟩
    · exact ⟨(ne_of_none h.ha hr).symm, fun e he => (ne_of_none (h.sh.en e he).2 hr).symm, fun x hx => (ne_of_none (h.hx x hx) hr).symm⟩
    · exact h.sr z hz
  · refine pw_putM h.pm h.pm (fun z hz n => ⟨n, ne_of_none (h.rc z hz).1 hr⟩) (fun z hz n => ⟨n.symm, (ne_of_none (h.rc z hz).1 hr).symm⟩)
end
/-! ### the same names, kinds, texts, binaries -/
abbrev Ky := Str × Str × Str × List Int
def kE (x : En) : Ky := (x.nm, x.kind, x.text, x.bin)
def kM (y : Mo) : Ky := (y.nm, y.kind, y.text, y.bin)
def putKy (ks : List Ky) (k : Ky) : List Ky := if (ks.any fun y => decide (y.1 = k.1)) = true then ks.map (fun y => if y.1 = k.1 then k else y) else ks ++ [k]
theorem ky_putE (es : List En) (x : En) : (putE es x).map kE = putKy (es.map kE) (kE x) := by
  unfold putE putKy
  rw [List.any_map]
  show _ = if (es.any fun y => decide (y.nm = x.nm)) = true then _ else _
  split
  · rw [List.map_map, List.map_map]
    refine List.map_congr_left fun y _ => ?_
    show kE (if y.nm = x.nm then x else y) = if y.nm = x.nm then kE x else kE y
    split <;> rfl
  · rw [List.map_append]
    rfl
theorem ky_putM (es : List Mo) (x : Mo) : (putM es x).map kM = putKy (es.map kM) (kM x) := by
  unfold putM putKy
  rw [List.any_map]
  show _ = if (es.any fun y => decide (y.nm = x.nm)) = true then _ else _
  split
  · rw [List.map_map, List.map_map]
    refine List.map_congr_left fun y _ => ?_
    show kM (if y.nm = x.nm then x else y) = if y.nm = x.nm then kM x else kM y
    split <;> rfl
  · rw [List.map_append]
    rfl
theorem ky_setBin {es : List En} {x : En} (hp : es.Pairwise fun x y => x.nm ≠ y.nm ∧ x.e ≠ y.e) (hx : x ∈ es) (b : Addr) (bin : List Int) : (setBin es x.nm b bin).map kE = putKy (es.map kE) (x.nm, x.kind, x.text, bin) := by
  unfold setBin putKy
  have ha : (es.any fun y => decide (y.nm = x.nm)) = true := List.any_eq_true.mpr ⟨x, hx, decide_eq_true rfl⟩
  rw [List.any_map, show ((fun y : Ky => decide (y.1 = x.nm)) ∘ kE) = fun y : En => decide (y.nm = x.nm) from rfl, if_pos ha, List.map_map, List.map_map]
  refine List.map_congr_left fun y hy => ?_
  show kE (if y.nm = x.nm then { y with b := b, bin := bin } else y) = if y.nm = x.nm then _ else kE y
  by_cases e : y.nm = x.nm
  · have : y = x := pw_eq hp hy hx fun a b r => ⟨fun z => r.1 (by rw [z.1, z.2, e]), fun z => r.1 (by rw [z.1, z.2, e])⟩
    subst this
    rw [if_pos rfl, if_pos rfl]
    rfl
  · rw [if_neg e, if_neg e]
end Pl

set_option Elab.async false
set_option linter.all false
set_option maxRecDepth 100000
set_option maxHeartbeats 4000000
namespace Pl
open PySem PySem.Spec PyProof.Rows L2
/-! ### the traps that the law plants -/
def luresL : List (List Int) := [[50], [50, 48], [50, 48, 48], [91], [91, 46], [91, 46, 97]]
def exE : List Int := [900000, 46, 7, 900001, 900001, 97, -5, 900002]
def exsL : List (List Int) := [[], exE]
theorem cfgs : (luresL.all fun l => exsL.all fun e => cfgB l e) = true := by kernel_rfl
def trapOkB (l e : List Int) : Bool := decide (1 ≤ l.length) && (decide (l.length ≤ 3) && (l.all (fun c => decide (0 ≤ c) && (decide (c ≤ 126) && goodC c.toNat)) && (decide (e.length ≤ 8) && decide (e.length % 4 = 0))))
theorem traps : (luresL.all fun l => exsL.all fun e => trapOkB l e) = true := by kernel_rfl
theorem cfg_of {l e : List Int} (hl : l ∈ luresL) (he : e ∈ exsL) : Cfg l e := Cfg.of (List.all_eq_true.mp (List.all_eq_true.mp cfgs l hl) e he)
theorem trapB_of {l e : List Int} (hl : l ∈ luresL) (he : e ∈ exsL) : 1 ≤ l.length ∧ l.length ≤ 3 ∧ (∀ c ∈ l, 0 ≤ c ∧ c ≤ 126 ∧ goodC c.toNat = true) ∧ e.length ≤ 8 ∧ e.length % 4 = 0 := by
  have h := List.all_eq_true.mp (List.all_eq_true.mp traps l hl) e he
  unfold trapOkB at h
  simp only [Bool.and_eq_true, decide_eq_true_eq, List.all_eq_true] at h
  exact h
theorem trapOk_of {l e : List Int} (hl : l ∈ luresL) (he : e ∈ exsL) : TrapOk l e := by
  obtain ⟨h1, h2, h3, h4, h5⟩ := trapB_of hl he
  exact ⟨⟨h1, by omega⟩, fun c hc => ⟨(h3 c hc).1, (h3 c hc).2.1⟩, ⟨by omega, h5⟩⟩
/-! ### the compilers -/
theorem imP_eq : trans 200 1 (codesS (strE (top 44))) = imP := by kernel_rfl
theorem imT_eq : trans 200 1 (codesS (strE (top 45))) = imT := by kernel_rfl
def plB (img : List Int) : Bool := decide (4 ≤ img.length) && (decide (img.length % 4 = 0) && (decide (img.length ≤ 5000) && (decide (img.take 3 = [0, 32, 0]) && plN (img.drop 4))))
theorem plB_P : plB imP = true := by kernel_rfl
theorem plB_T : plB imT = true := by kernel_rfl
theorem plB_of {img : List Int} (h : plB img = true) : Plantable img ∧ img.length ≤ 5000 := by
  unfold plB at h
  simp only [Bool.and_eq_true, decide_eq_true_eq] at h
  exact ⟨⟨⟨h.1, h.2.1, by omega⟩, h.2.2.2.1, h.2.2.2.2⟩, h.2.2.1⟩
theorem text_P : goodS (strE (top 44)) = true ∧ (strE (top 44)).cps.toList.length = 303 := ⟨by kernel_rfl, by kernel_rfl⟩
theorem text_T : goodS (strE (top 45)) = true ∧ (strE (top 45)).cps.toList.length = 304 := ⟨by kernel_rfl, by kernel_rfl⟩
structure CompOk (im bin : List Int) (trap : Option (List Int × List Int)) : Prop where
  ok : (trap = none ∧ bin = im) ∨ ∃ l e ext, trap = some (l, e) ∧ l ∈ luresL ∧ e ∈ exsL ∧ (ext = [] ∨ ext = e) ∧ bin = im ++ ext ++ trapC l e
/-- what a trapped compiler writes behind -/
def moreOf (trap : Option (List Int × List Int)) (nums : List Int) : List Int := match trap with
  | none => []
  | some (l, e) => if nums.take l.length = l then e ++ trapC l e else []
theorem Ends.mono {im nums out : List Int} {m m' : Nat} (h : Ends im nums m out) (hm : m ≤ m') : Ends im nums m' out := by
  obtain ⟨N, q, h1, h2, h3⟩ := h
  exact ⟨N, q, h1, Nat.le_trans h2 hm, h3⟩
theorem comp_ends {im bin : List Int} {tree : Tree} {fin first by_ : Int} {trap : Option (List Int × List Int)} (C : Cp im tree fin first by_) (ok : CompOk im bin trap) (nums : List Int) (hc : ∀ c ∈ nums, 0 ≤ c ∧ c ≤ 126) (hl : nums.length ≤ 400) : Ends bin nums 100000 (trans first by_ nums ++ moreOf trap nums) := by
  rcases ok.ok with ⟨rfl, rfl⟩ | ⟨l, e, ext, rfl, h1, h2, h3, rfl⟩
  · have h := (C.clean nums hc).mono (m' := 100000) (by omega)
    unfold moreOf
    rw [List.append_nil]
    exact h
  · obtain ⟨g1, g2, g3, g4, g5⟩ := trapB_of h1 h2
    have h := C.trapped (cfg_of h1 h2) h3 nums hc
    exact h.mono (by rw [trapC_len]; omega)
theorem go_end {bin nums out : List Int} (h : Ends bin nums 100000 out) : look bin (goM (look bin) (lowOf (look bin)) bin nums 100000 (m0 nums)).2.at_ = none ∧ (goM (look bin) (lowOf (look bin)) bin nums 100000 (m0 nums)).2.out.reverse = out := by
  obtain ⟨N, m', h1, h2, h3, h4, h5⟩ := h
  rw [goM_end h3 h4 h2]
  exact ⟨h4, h5⟩
theorem go_cut {bin nums out : List Int} {F : Nat} (h : Ends bin nums 100000 out) (hF : F < 8) : ∃ q, look bin (goM (look bin) (lowOf (look bin)) bin nums F (m0 nums)).2.at_ = some q := by
  obtain ⟨N, m', h1, h2, h3, h4, h5⟩ := h
  exact (goM_cut h3 (by omega)).2
theorem codes_small {x : Str} (h : goodS x = true) : ∀ c ∈ codesS x, 0 ≤ c ∧ c ≤ 126 := by
  intro c hc
  obtain ⟨n, hn, e⟩ := List.mem_map.mp hc
  have g := List.all_eq_true.mp h n hn
  unfold goodC at g
  simp only [Bool.or_eq_true, Bool.and_eq_true, decide_eq_true_eq, Bool.not_eq_true', decide_eq_false_iff_not] at g
  subst e
  show 0 ≤ (n : Int) ∧ (n : Int) ≤ 126
  omega
theorem codes_len (x : Str) : (codesS x).length = x.cps.toList.length := by unfold codesS; rw [List.length_map]
theorem trans_len (first by_ : Int) (l : List Int) : (trans first by_ l).length ≤ 8 * l.length + 12 := by
  unfold trans
  rw [List.length_reverse]
  have h := run_len by_ l (Tr.start first by_)
  have h2 : (Tr.start first by_).img.length = 4 := rfl
  generalize (Tr.start first by_).run by_ l = t at h
  have e1 := (endNum_len by_ { t with wait := 0 }).1
  have e2 : (t.fin by_).img.length = (({ t with wait := 0 } : Tr).endNum by_).img.length + 4 := rfl
  have e3 : ({ t with wait := 0 } : Tr).img.length = t.img.length := rfl
  omega
theorem due_len (kd tx : Str) : (dueOf kd tx).length ≤ 8 * tx.cps.toList.length + 12 := by
  unfold dueOf
  rw [← codes_len]
  split
  · exact trans_len ..
  · exact trans_len ..
theorem more_len {im bin : List Int} {trap : Option (List Int × List Int)} (ok : CompOk im bin trap) (nums : List Int) : (moreOf trap nums).length ≤ 300 := by
  rcases ok.ok with ⟨rfl, _⟩ | ⟨l, e, ext, rfl, h1, h2, _, _⟩
  · exact Nat.zero_le _
  · obtain ⟨g1, g2, g3, g4, g5⟩ := trapB_of h1 h2
    unfold moreOf
    dsimp only
    split
    · rw [List.length_append, trapC_len]
      omega
    · exact Nat.zero_le _
theorem comp_bin {im bin : List Int} {trap : Option (List Int × List Int)} (hp : plB im = true) (ok : CompOk im bin trap) : bin.length % 4 = 0 ∧ bin.length ≤ 6000 := by
  obtain ⟨p, p5⟩ := plB_of hp
  have h4 := p.l4
  rcases ok.ok with ⟨rfl, rfl⟩ | ⟨l, e, ext, rfl, h1, h2, h3, rfl⟩
  · exact ⟨h4.2.1, by omega⟩
  · obtain ⟨g1, g2, g3, g4, g5⟩ := trapB_of h1 h2
    have hx : ext.length ≤ 8 ∧ ext.length % 4 = 0 := by
      rcases h3 with rfl | rfl
      · exact ⟨Nat.zero_le _, rfl⟩
      · exact ⟨g4, g5⟩
    rw [List.length_append, List.length_append, trapC_len]
    omega
/-! ### the invariant -/
def namesL : List Str := ["plain", "turned", "x", "y", "z"]
theorem names_ok {x : Str} (h : x ∈ namesL) : goodN x = true ∧ PyData.strOk x = true := by
  have : (namesL.all fun x => goodN x && PyData.strOk x) = true := by decide +kernel
  have := List.all_eq_true.mp this x h
  simpa using this
structure GoodM (k : Nat) (ms : List Mo) : Prop where
  nms : ∀ y ∈ ms, y.nm ∈ namesL
  each : ∀ y ∈ ms, y.due = dueOf y.kind y.text ∧ kindB y.kind = true ∧ goodS y.text = true ∧ y.text.cps.toList.length ≤ 5000 ∧ y.bin.length ≤ 100000 + k
  pl : ∃ y ∈ ms, y.nm = "plain" ∧ CompOk imP y.bin y.trap
  tu : ∃ y ∈ ms, y.nm = "turned" ∧ CompOk imT y.bin y.trap
  len : ms.length ≤ 10 + k
def Wld (K : PySem.W.Frag) (k : Nat) (H : Hp) (A : Ad) (ds : List Int) : Prop := ∃ es ms fx, St0 K H A es ms fx ds ∧ ms.map kM = es.map kE ∧ GoodM k ms
theorem partner {es : List En} {ms : List Mo} (e : ms.map kM = es.map kE) {y : Mo} (hy : y ∈ ms) : ∃ x ∈ es, x.nm = y.nm ∧ x.kind = y.kind ∧ x.text = y.text ∧ x.bin = y.bin := by
  have : kM y ∈ es.map kE := by rw [← e]; exact List.mem_map.mpr ⟨y, hy, rfl⟩
  obtain ⟨x, hx, ex⟩ := List.mem_map.mp this
  unfold kE kM at ex
  injection ex with e1 e2
  injection e2 with e2 e3
  injection e3 with e3 e4
  exact ⟨x, hx, e1, e2, e3, e4⟩
theorem partnerE {es : List En} {ms : List Mo} (e : ms.map kM = es.map kE) {x : En} (hx : x ∈ es) : ∃ y ∈ ms, x.nm = y.nm ∧ x.kind = y.kind ∧ x.text = y.text ∧ x.bin = y.bin := by
  have : kE x ∈ ms.map kM := by rw [e]; exact List.mem_map.mpr ⟨x, hx, rfl⟩
  obtain ⟨y, hy, ex⟩ := List.mem_map.mp this
  unfold kE kM at ex
  injection ex with e1 e2
  injection e2 with e2 e3
  injection e3 with e3 e4
  exact ⟨y, hy, e1.symm, e2.symm, e3.symm, e4.symm⟩
theorem keys_len {es : List En} {ms : List Mo} (e : ms.map kM = es.map kE) : es.length = ms.length := by
  have := congrArg List.length e
  rw [List.length_map, List.length_map] at this
  exact this.symm
/-- one record anew -/
theorem GoodM.put {k : Nat} {ms : List Mo} (g : GoodM k ms) {y : Mo} (hn : y.nm ∈ namesL) (h : y.due = dueOf y.kind y.text ∧ kindB y.kind = true ∧ goodS y.text = true ∧ y.text.cps.toList.length ≤ 5000 ∧ y.bin.length ≤ 100000 + (k + 1)) (hp : y.nm = "plain" → CompOk imP y.bin y.trap) (ht : y.nm = "turned" → CompOk imT y.bin y.trap) : GoodM (k + 1) (putM ms y) := by
  refine ⟨fun z hz => (putM_mem hz).elim (fun e => by rw [e]; exact hn) fun e => g.nms z e.1, fun z hz => ?_, ?_, ?_, Nat.le_trans (putM_len ..) (by have := g.len; omega)⟩
  · rcases putM_mem hz with rfl | ⟨hz, _⟩
    · exact h
    · obtain ⟨h1, h2, h3, h4, h5⟩ := g.each z hz
      exact ⟨h1, h2, h3, h4, by omega⟩
  · obtain ⟨z, hz, hn, c⟩ := g.pl
    by_cases e : z.nm = y.nm
    · exact ⟨y, putM_self, by rw [← e, hn], hp (by rw [← e, hn])⟩
    · exact ⟨z, putM_old hz e, hn, c⟩
  · obtain ⟨z, hz, hn, c⟩ := g.tu
    by_cases e : z.nm = y.nm
    · exact ⟨y, putM_self, by rw [← e, hn], ht (by rw [← e, hn])⟩
    · exact ⟨z, putM_old hz e, hn, c⟩
theorem GoodM.up {k k' : Nat} {ms : List Mo} (g : GoodM k ms) (h : k ≤ k') : GoodM k' ms :=
  ⟨g.nms, fun z hz => by obtain ⟨h1, h2, h3, h4, h5⟩ := g.each z hz; exact ⟨h1, h2, h3, h4, by omega⟩, g.pl, g.tu, by have := g.len; omega⟩
/-! ### _law_written -/
def sp_law_written (K : PySem.W.Frag) : Sp := fun vs H Q _ => ∃ A es ms fx ds y kd tx im, vs = [.ref y.r, .str kd, .str tx] ∧ St0 K H A es ms fx ds ∧ y ∈ ms ∧ CompOk im y.bin y.trap ∧ tx.cps.toList.length ≤ 5000 ∧ NewL H Q (iL (dueOf kd tx ++ moreOf y.trap (codesS tx)))
theorem sc_law_written : FnScope ["_law_compiler", "_law_kind", "_law_text_here", "_law_due_here", "_law_trap_here"] ["_law_compiler", "_law_kind", "_law_text_here"] (defScope s_law_written) := C8.fnScope_by (by decide +kernel)
def t_law_written (K : PySem.W.Frag) : TS := (tSeq (tAsg (tCall (sp_law_due K) [] C8.E0 (tCons (tVar 1) (tCons (tVar 2) tNil))) (gName 3)) (tSeq (tAsg (tOp (rIxL K) (tVar 0) (tC (.int 4))) (gName 4)) (tSeq (tIfS (tAnd (tTru K (tVar 4)) (tTest (tOp (rEqD K) (tSl (rSlL K) (tCall (sp_law_codes K) [] C8.E0 (tCons (tVar 2) tNil)) tNoPart (tPart (tCB (rLenSeq K) (tCons (tOp (rIxL K) (tVar 4) (tC (.int 0))) tNil)))) (tOp (rIxL K) (tVar 4) (tC (.int 0)))))) (tRet (tOp rCat (tOp rCat (tVar 3) (tOp (rIxL K) (tVar 4) (tC (.int 1)))) (tCall (sp_law_trap K) [] C8.E0 (tCons (tOp (rIxL K) (tVar 4) (tC (.int 0))) (tCons (tOp (rIxL K) (tVar 4) (tC (.int 1))) tNil))))) tNext) (tRet (tVar 3)))))
theorem d_law_written {P : Program} {w : World} {K : PySem.W.Frag} {mg : Str → Option Value} {base : Heap} (T : Txt w K mg) (f : Addr) (cdv : Value) (A : Around) (outer : List Env) (s : Shared) (H : Hp) (E : XK) (hr : Room 5 (A.deeper (envOfC "_law_written" (defScope s_law_written) s.heap.objs.size f cdv))) :
    PSs (Bx P w K mg base ["_law_compiler", "_law_kind", "_law_text_here", "_law_due_here", "_law_trap_here"] "_law_written" s_law_written f cdv A outer s H E) (defBody s_law_written) (t_law_written K) :=
  (pss_cons (ps_set (i := 3) sc_law_written.nd rfl (by first | exact Or.inl rfl | exact Or.inr rfl) (C8.pe_c (c_law_due T) hr (by decide) (by rfl) (pa_cons (pv 1) (pa_cons (pv 2) pa_nil)))) (pss_cons (ps_set (i := 4) sc_law_written.nd rfl (by first | exact Or.inl rfl | exact Or.inr rfl) (pe_ix ix_list (pv 0) pe_int (fun _ _ => rfl))) (pss_cons (ps_if (PW.pt (pw_and (pt_truth (pv 4) (by intro _; rfl)) (pw_and1 (pt_cmpR (op_eqD hr.units) (pe_slice sl_list (C8.pe_c (c_law_codes T) hr (by decide) (by rfl) (pa_cons (pv 2) pa_nil)) po_none (po_some (pe_callB call_len_seq (by rfl) T.f_len boot_len (pa_cons (pe_ix ix_list (pv 4) pe_int (fun _ _ => rfl)) pa_nil)))) (pe_ix ix_list (pv 4) pe_int (fun _ _ => rfl)) (nomark _))))) (pss_one (ps_ret (pe_op op_cat (pe_op op_cat (pv 3) (pe_ix ix_list (pv 4) pe_int (fun _ _ => rfl))) (C8.pe_c (c_law_trap T) hr (by decide) (by rfl) (pa_cons (pe_ix ix_list (pv 4) pe_int (fun _ _ => rfl)) (pa_cons (pe_ix ix_list (pv 4) pe_int (fun _ _ => rfl)) pa_nil)))))) pss_nil) (pss_one (ps_ret (pv 3))))))
theorem l_law_written {K : PySem.W.Frag} : ∀ vs H Q E, sp_law_written K vs H Q E → vs.length = ["_law_compiler", "_law_kind", "_law_text_here"].length := by
  rintro vs H Q E ⟨_, _, _, _, _, _, _, _, _, rfl, _⟩
  rfl
theorem rec4 {y : Mo} : atI (recV y) 4 = some (.ref y.mt) := atI_nat (j := 4) rfl
theorem rec2 {y : Mo} : atI (recV y) 2 = some (.ref y.mb) := atI_nat (j := 2) rfl
theorem rec3 {y : Mo} : atI (recV y) 3 = some (.ref y.md) := atI_nat (j := 3) rfl
theorem r_law_written {w : World} {K : PySem.W.Frag} {mg : Str → Option Value} (T : Txt w K mg) : ∀ vs H Q E, sp_law_written K vs H Q E → t_law_written K { nx := fun _ H' => Q .non H', rt := Q } (start ["_law_compiler", "_law_kind", "_law_text_here", "_law_due_here", "_law_trap_here"] vs) H := by
  rintro vs H Q E ⟨A, es, ms, fx, ds, y, kd, tx, im, rfl, h, hy, ok, hl, k⟩
  refine ⟨_, rfl, _, rfl, kd, tx, rfl, hl, fun p H1 s1 n1 e1 => ?_⟩
  have h1 := h.same s1
  have hr := (h1.rc y hy).1
  refine ⟨_, rfl, y.r, _, _, _, rfl, rfl, SqL.of hr, rec4, ?_⟩
  rcases (h.rc y hy).2.t with ⟨t0, f0⟩ | ⟨l, e, t0, f0, fl, fe⟩
  · have g0 := h1.hx _ f0
    refine ⟨_, rfl, false, .inl ⟨_, SqL.of g0, rfl⟩, iteF (iteF ⟨_, rfl, k p H1 s1 n1 ?_⟩)⟩
    rw [e1, t0]
    unfold moreOf
    rw [List.append_nil]
  · have g0 := h1.hx _ f0
    refine ⟨_, rfl, true, .inl ⟨_, SqL.of g0, rfl⟩, iteT ⟨_, rfl, tx, rfl, hl, fun c H2 s2 n2 e2 => ?_⟩⟩
    have s12 := s1.trans s2
    have h2 := h.same s12
    have g2 := h2.hx _ f0
    have gl := h2.hx _ fl
    have ge := h2.hx _ fe
    rcases ok.ok with ⟨z, _⟩ | ⟨l', e', ext, z, hl1, he1, _, _⟩
    · rw [z] at t0; cases t0
    · rw [z] at t0
      injection t0 with t0
      injection t0 with t1 t2
      subst t1 t2
      obtain ⟨b1, b2, b3, b4, b5⟩ := trapB_of hl1 he1
      refine ⟨_, rfl, y.mt, _, _, _, rfl, rfl, SqL.of g2, atI_nat (j := 0) rfl, y.ml, _, rfl, .inl (SqL.of gl), _, rfl, c, _, rfl, SqL.of e2, fun q hq => ?_⟩
      have s3 : Same H2 (upd H2 q (.lst (cutV (iL (codesS tx)) none (some ((iL l').length : Nat))))) := Same.new hq
      have ec : cutV (iL (codesS tx)) none (some ((iL l').length : Nat)) = iL ((codesS tx).take l'.length) := by
        unfold cutV
        rw [HT.sIx_none, HT.sIx_nat, List.length_map, List.length_map, List.drop_zero, ← List.map_take]
        congr 1
        rw [Nat.sub_zero]
        by_cases hle : l'.length ≤ (codesS tx).length
        · rw [Nat.min_eq_left hle]
        · rw [Nat.min_eq_right (by omega), List.take_of_length_le (Nat.le_refl _), List.take_of_length_le (by omega)]
      rw [ec] at s3 ⊢
      refine ⟨_, rfl, y.mt, _, _, _, rfl, rfl, SqL.of (s3 _ _ g2), atI_nat (j := 0) rfl, dI _, dI l', dpL upd_same, dpL (s3 _ _ gl), shI _, shI _, _, rfl, ?_⟩
      rw [eqvD]
      have h3 := h2.same s3
      have p3 := s3 _ _ (s2 _ _ e1)
      by_cases hm : (codesS tx).take l'.length = l'
      · refine iteDT hm ?_
        refine ⟨_, rfl, _, rfl, y.mt, _, _, _, rfl, rfl, SqL.of (s3 _ _ g2), atI_nat (j := 1) rfl, p, y.mx, _, _, rfl, rfl, p3, s3 _ _ ge, line_of ?_, fun u hu => ?_⟩
        · rw [List.length_map, List.length_map]
          have := due_len kd tx
          omega
        · have s4 : Same H (upd (upd H2 q (.lst (iL ((codesS tx).take l'.length)))) u (.lst (iL (dueOf kd tx) ++ iL e'))) := (s12.trans s3).trans (Same.new hu)
          have h4 := h.same s4
          have f4 := h4.hx _ f0
          refine ⟨_, rfl, y.mt, _, _, _, rfl, rfl, SqL.of f4, atI_nat (j := 0) rfl, _, rfl, y.mt, _, _, _, rfl, rfl, SqL.of f4, atI_nat (j := 1) rfl, y.ml, y.mx, l', e', rfl, h4.hx _ fl, h4.hx _ fe, by omega, by omega, fun v H5 s5 n5 e5 => ?_⟩
          refine ⟨u, v, _, _, rfl, rfl, s5 _ _ upd_same, e5, line_of ?_, fun w hw => ?_⟩
          · rw [List.length_append, List.length_map, List.length_map, List.length_map, trapC_len]
            have := due_len kd tx
            omega
          · have s6 := s4.trans s5
            refine k w _ (s6.trans (Same.new hw)) (s6.free hw) ?_
            rw [upd_same, z]
            unfold moreOf
            dsimp only
            rw [if_pos hm]
            simp
      · refine iteDF hm ⟨_, rfl, k p _ (s12.trans s3) n1 ?_⟩
        rw [p3, z]
        unfold moreOf
        dsimp only
        rw [if_neg hm, List.append_nil]
theorem c_law_written {P : Program} {w : World} {K : PySem.W.Frag} {mg : Str → Option Value} {base : Heap} (T : Txt w K mg) : C8.Cal P w K mg base 6 "_law_written" (sp_law_written K) [] := T.cal 86 rfl T.g__law_written sc_law_written (fun _ _ _ _ _ _ us hl => match us, hl with | [_, _, _], _ => rfl) l_law_written (d_law_written T) (r_law_written T)
end Pl

set_option Elab.async false
set_option linter.all false
set_option maxRecDepth 100000
set_option maxHeartbeats 4000000
namespace Pl
open PySem PySem.Spec PyProof.Rows L2
/-! ### _law_audited -/
def prD (p : Str × Nat) : PyData := .tuple [.str p.1, .int (p.2 : Int)]
theorem prD_dp {K : PySem.W.Frag} {H : Hp} {r : Addr} {p : Str × Nat} (h : H r = some (.tup [.str p.1, .int (p.2 : Int)])) : Dp K H (.ref r) (prD p) := .tup (SqT.of h) (.cons (.str _) (.cons (.int _) .nil))
theorem prD_sh {p : Str × Nat} (hp : PyData.strOk p.1 = true) : SeqAt.shaped (prD p) = true := by
  show (PyData.canLay0 (prD p) && decide (PyData.depth (prD p) ≤ 64)) = true
  rw [Bool.and_eq_true]
  exact ⟨by simp [prD, PyData.canLay0, PyData.canLayAll0, hp], decide_eq_true (by simp [prD, PyData.depth, PyData.depthAll])⟩
theorem prD_eq (p : Str × Nat) : PyData.eqv (prD p) (prD p) = true := by simp [prD, PyData.eqv, PyData.eqvAll]
def sp_law_audited (K : PySem.W.Frag) : Sp := fun vs H Q _ => ∃ A k ds, vs = [.ref A.s, .ref A.m] ∧ Wld K k H A ds ∧ k ≤ 100 ∧ ∀ H', Same H H' → Q (.bl true) H'
theorem sc_law_audited : FnScope ["_law_shelf", "_law_model", "_law_due_here", "_law_name", "_law_binary", "_law_place_here", "_law_told", "_law_k"] ["_law_shelf", "_law_model"] (defScope s_law_audited) := C8.fnScope_by (by decide +kernel)
def t_law_audited (K : PySem.W.Frag) : TS := (tSeq (tAsg (tLst tNil) (gName 2)) (tSeq (tLock (tFor (iKeys (tVar 1)) (gName 3) (tSeq (tAsg (tMeth (He.ga K "Shelf") "binary" (sp_Shelf_binary K) [] C8.E0 (tVar 0) (tCons (tVar 3) tNil)) (gName 4)) (tSeq (tIfS (tOr (tNot (tB (tCall (sp_law_is_integers K) [] C8.E0 (tCons (tVar 4) tNil)))) (tTest (tOp (rNeD K) (tVar 4) (tOp (rIxL K) (tDGet (tVar 1) (tVar 3)) (tC (.int 2)))))) (tRet (tC (.bl false))) tNext) (tSeq (tAsg (tCall (sp_law_place K) [] C8.E0 (tCons (tVar 4) (tCons (tOp (rIxL K) (tDGet (tVar 1) (tVar 3)) (tC (.int 3))) tNil))) (gName 5)) (tIfS (tTest (tOp rGeI (tVar 5) (tC (.int 0)))) (tDrop (tBM K "list" rAppend (tVar 2) (tCons (tTup (tCons (tVar 3) (tCons (tVar 5) tNil))) tNil))) tNext)))))) (tSeq (tAsg (tCall (sp_audit K) [] C8.E0 (tCons (tVar 0) tNil)) (gName 6)) (tSeq (tIfS (tOr (tNot (tB (tCB (rIsi K) (tCons (tVar 6) (tCons (tC (.ty "list")) tNil))))) (tTest (tOp rNe (tCB (rLenSeq K) (tCons (tVar 6) tNil)) (tCB (rLenSeq K) (tCons (tVar 2) tNil))))) (tRet (tC (.bl false))) tNext) (tSeq (tFor (iRng1 (tCons (tCB (rLenSeq K) (tCons (tVar 2) tNil)) tNil)) (gName 7) (tIfS (tOr (tNot (tB (tCB (rIsi K) (tCons (tOp (rIxL K) (tVar 6) (tVar 7)) (tCons (tC (.ty "tuple")) tNil))))) (tOr (tTest (tOp (rNeD K) (tOp (rIxL K) (tVar 6) (tVar 7)) (tOp (rIxL K) (tVar 2) (tVar 7)))) (tNot (tB (tCall (sp_law_is_integer K) [] C8.E0 (tCons (tOp (rIxT K) (tOp (rIxL K) (tVar 6) (tVar 7)) (tC (.int 1))) tNil)))))) (tRet (tC (.bl false))) tNext)) (tRet (tC (.bl true))))))))
theorem d_law_audited {P : Program} {w : World} {K : PySem.W.Frag} {mg : Str → Option Value} {base : Heap} (T : Txt w K mg) (f : Addr) (cdv : Value) (A : Around) (outer : List Env) (s : Shared) (H : Hp) (E : XK) (hr : Room 8 (A.deeper (envOfC "_law_audited" (defScope s_law_audited) s.heap.objs.size f cdv))) :
    PSs (Bx P w K mg base ["_law_shelf", "_law_model", "_law_due_here", "_law_name", "_law_binary", "_law_place_here", "_law_told", "_law_k"] "_law_audited" s_law_audited f cdv A outer s H E) (defBody s_law_audited) (t_law_audited K) :=
  (pss_cons (ps_set (i := 2) sc_law_audited.nd rfl (by first | exact Or.inl rfl | exact Or.inr rfl) (pe_lst pa_nil)) (pss_cons (ps_lock (ps_for PassesOwn.never rfl (pi_keys (pv 1)) (pg_name (i := 3) sc_law_audited.nd rfl (by first | exact Or.inl rfl | exact Or.inr rfl)) (pss_cons (ps_set (i := 4) sc_law_audited.nd rfl (by first | exact Or.inl rfl | exact Or.inr rfl) (C8.pe_mt (m_Shelf_binary T) hr (by decide) (pv 0) (pa_cons (pv 3) pa_nil))) (pss_cons (ps_if (PW.pt (pw_or (pt_not (pt_val (C8.pe_c (c_law_is_integers T) hr (by decide) (by rfl) (pa_cons (pv 4) pa_nil)))) (pw_or1 (pt_cmpR (op_neD hr.units) (pv 4) (pe_ix ix_list (pe_dget (hu_of hr) (pv 1) (pv 3) (fun _ _ => rfl)) pe_int (fun _ _ => rfl)) (nomark _))))) (pss_one (ps_ret pe_bl)) pss_nil) (pss_cons (ps_set (i := 5) sc_law_audited.nd rfl (by first | exact Or.inl rfl | exact Or.inr rfl) (C8.pe_c (c_law_place T) hr (by decide) (by rfl) (pa_cons (pv 4) (pa_cons (pe_ix ix_list (pe_dget (hu_of hr) (pv 1) (pv 3) (fun _ _ => rfl)) pe_int (fun _ _ => rfl)) pa_nil)))) (pss_one (ps_if (pt_cmpR op_ge (pv 5) pe_int (nomark _)) (pss_one (ps_expr (pe_bm PySem.F.plainAttrs_list PySem.F.slot_list_append PySem.F.type_list_append mt_append (pv 2) (pa_cons (pe_tup (pa_cons (pv 3) (pa_cons (pv 5) pa_nil))) pa_nil)))) pss_nil))))))) (pss_cons (ps_set (i := 6) sc_law_audited.nd rfl (by first | exact Or.inl rfl | exact Or.inr rfl) (C8.pe_c (c_audit T) hr (by decide) (by rfl) (pa_cons (pv 0) pa_nil))) (pss_cons (ps_if (PW.pt (pw_or (pt_not (pt_val (pe_callB call_isi (by rfl) T.f_isinstance boot_isinstance (pa_cons (pv 6) (pa_cons (pe_bltn rfl T.f_list boot_list rfl) pa_nil))))) (pw_or1 (pt_cmpR op_ne (pe_callB call_len_seq (by rfl) T.f_len boot_len (pa_cons (pv 6) pa_nil)) (pe_callB call_len_seq (by rfl) T.f_len boot_len (pa_cons (pv 2) pa_nil)) (nomark _))))) (pss_one (ps_ret pe_bl)) pss_nil) (pss_cons (ps_for PassesOwn.never rfl (pi_range1 (by rfl) T.f_range (pa_cons (pe_callB call_len_seq (by rfl) T.f_len boot_len (pa_cons (pv 2) pa_nil)) pa_nil)) (pg_name (i := 7) sc_law_audited.nd rfl (by first | exact Or.inl rfl | exact Or.inr rfl)) (pss_one (ps_if (PW.pt (pw_or (pt_not (pt_val (pe_callB call_isi (by rfl) T.f_isinstance boot_isinstance (pa_cons (pe_ix ix_list (pv 6) (pv 7) (fun _ _ => rfl)) (pa_cons (pe_bltn rfl T.f_tuple boot_tuple rfl) pa_nil))))) (pw_or (pt_cmpR (op_neD hr.units) (pe_ix ix_list (pv 6) (pv 7) (fun _ _ => rfl)) (pe_ix ix_list (pv 2) (pv 7) (fun _ _ => rfl)) (nomark _)) (pw_or1 (pt_not (pt_val (C8.pe_c (c_law_is_integer T) hr (by decide) (by rfl) (pa_cons (pe_ix ix_tup (pe_ix ix_list (pv 6) (pv 7) (fun _ _ => rfl)) pe_int (fun _ _ => rfl)) pa_nil)))))))) (pss_one (ps_ret pe_bl)) pss_nil))) (pss_one (ps_ret pe_bl)))))))
theorem l_law_audited {K : PySem.W.Frag} : ∀ vs H Q E, sp_law_audited K vs H Q E → vs.length = ["_law_shelf", "_law_model"].length := by
  rintro vs H Q E ⟨_, _, _, rfl, _⟩
  rfl
theorem DGet.frz {H : Hp} {a : Addr} {o : Obj} {kvs : List (Key × V)} {k : Key} (e : H a = some (.frz o (.dK kvs))) : DGet H a (kV k) (valV kvs k) := .inl ⟨kvs, k, .inr ⟨o, e⟩, rfl, rfl⟩
theorem r_law_audited {w : World} {K : PySem.W.Frag} {mg : Str → Option Value} (T : Txt w K mg) : ∀ vs H Q E, sp_law_audited K vs H Q E → t_law_audited K { nx := fun _ H' => Q .non H', rt := Q } (start ["_law_shelf", "_law_model", "_law_due_here", "_law_name", "_law_binary", "_law_place_here", "_law_told", "_law_k"] vs) H := by
  rintro vs H Q E ⟨A, k0, ds, rfl, ⟨es, ms, fx, h, eq, g⟩, hk0, k⟩
  refine ⟨Nat.zero_le _, fun q hq => ?_⟩
  have s0 : Same H (upd H q (.lst [])) := Same.new hq
  have h0 := h.same s0
  have eq0 : upd H q (.lst []) q = some (.lst []) := upd_same
  generalize upd H q (.lst []) = H0 at s0 h0 eq0 ⊢
  have nqm : q ≠ A.m := ne_of eq0 h0.hm (by intro z; cases z)
  refine ⟨A.m, _, h0.hm, trivial, fun od => ?_⟩
  have kf : KeepL [A.m] H0 (upd H0 A.m (.frz od (.dK (kvM ms)))) := KeepL.upd (by simp)
  have mF : upd H0 A.m (.frz od (.dK (kvM ms))) A.m = some (.frz od (.dK (kvM ms))) := upd_same
  have nm : ∀ {p : Addr} {o : HO}, H0 p = some o → (∀ kv, o ≠ .dK kv) → p ∉ [A.m] := fun hp hn => by simpa using ne_of hp h0.hm (hn _)
  have shF := h0.sh.keep kf (nm h0.sh.ob (fun kv z => by cases z)) (by simpa using h0.dm) fun x hx => ⟨nm (h0.sh.en x hx).1 (fun kv z => by cases z), nm (h0.sh.en x hx).2 (fun kv z => by cases z)⟩
  have rcF : ∀ y ∈ ms, upd H0 A.m (.frz od (.dK (kvM ms))) y.r = some (.lst (recV y)) := fun y hy => kf _ _ (h0.rc y hy).1 (nm (h0.rc y hy).1 (fun kv z => by cases z))
  have xF : ∀ x ∈ fx, upd H0 A.m (.frz od (.dK (kvM ms))) x.1 = some (.lst x.2) := fun x hx => kf _ _ (h0.hx x hx) (nm (h0.hx x hx) (fun kv z => by cases z))
  have qF : upd H0 A.m (.frz od (.dK (kvM ms))) q = some (.lst []) := kf _ _ eq0 (by simpa using nqm)
  have back : ∀ H' : Hp, KeepL [q] (upd H0 A.m (.frz od (.dK (kvM ms)))) H' → Same H (upd H' A.m (.dK (kvM ms))) := fun H' kk b o e => by
    by_cases em : b = A.m
    · subst em
      rw [h.hm] at e
      rw [upd_same, ← e]
    · rw [upd_ne em]
      have e1 := s0 b o e
      refine kk b o ?_ (by simpa using ne_of_none e hq)
      rw [upd_ne em]
      exact e1
  generalize upd H0 A.m (.frz od (.dK (kvM ms))) = HF at mF shF rcF xF qF back ⊢
  have lens := keys_len eq
  have at_ : ∀ {i : Nat} {y : Mo}, ms[i]? = some y → ∃ x, es[i]? = some x ∧ x.nm = y.nm ∧ x.kind = y.kind ∧ x.text = y.text ∧ x.bin = y.bin := fun {i y} hy => by
    have e1 : (ms.map kM)[i]? = some (kM y) := by rw [List.getElem?_map, hy]; rfl
    rw [eq, List.getElem?_map] at e1
    cases ex : es[i]? with
    | none => rw [ex] at e1; cases e1
    | some x =>
      rw [ex] at e1
      have e2 : kE x = kM y := Option.some.inj e1
      unfold kE kM at e2
      injection e2 with e3 e4
      injection e4 with e4 e5
      injection e5 with e5 e6
      exact ⟨x, rfl, e3, e4, e5, e6⟩
  have frF : ∀ {H' : Hp}, KeepL [q] HF H' → ShAt K H' A.s A.dxs A.d es ∧ H' A.m = some (.frz od (.dK (kvM ms))) ∧ (∀ y ∈ ms, H' y.r = some (.lst (recV y))) ∧ ∀ x ∈ fx, H' x.1 = some (.lst x.2) := fun {H'} kk => by
    have nq : ∀ {p : Addr} {o : HO}, H p = some o → p ∉ [q] := fun hp => by simpa using ne_of_none hp hq
    exact ⟨shF.keep kk (nq h.sh.ob) (nq h.sh.hd) fun x hx => ⟨nq (h.sh.en x hx).1, nq (h.sh.en x hx).2⟩, kk _ _ mF (nq h.hm), fun y hy => kk _ _ (rcF y hy) (nq (h.rc y hy).1), fun x hx => kk _ _ (xF x hx) (nq (h.hx x hx))⟩
  refine ⟨_, rfl, A.m, od, rfl, .inl ⟨_, mF, fun i mm σ H' => mm = ms.length - i ∧ i ≤ ms.length ∧ (∃ v3 v4 v5 v6 v7, σ = [some (.ref A.s), some (.ref A.m), some (.ref q), v3, v4, v5, v6, v7]) ∧ KeepL [q] HF H' ∧ ∃ rs, FoundAt H' q (founds (es.take i)) rs, ⟨_, rfl, Nat.zero_le _, ⟨none, none, none, none, none, rfl⟩, KeepL.refl, [], qF, rfl, fun i r p e => by simp at e⟩, ?_⟩⟩
  rintro i mm σ H1 ⟨rfl, hi, ⟨v3, v4, v5, v6, v7, rfl⟩, kk, rs, hf⟩
  obtain ⟨sh1, m1, rc1, x1⟩ := frF kk
  have lk : (kvM ms).length = ms.length := by unfold kvM; rw [List.length_map]
  by_cases hlt : i < ms.length
  · refine .inr ⟨⟨m1, by omega⟩, fun σ H' => (∃ v3 v4 v5 v6 v7, σ = [some (.ref A.s), some (.ref A.m), some (.ref q), v3, v4, v5, v6, v7]) ∧ KeepL [q] HF H' ∧ ∃ rs, FoundAt H' q (founds (es.take (i + 1))) rs, fun σ' H' p => ⟨_, by omega, rfl, hlt, p⟩, ?_⟩
    rintro v H2 ⟨rfl, kx, vx, hkv, rfl⟩
    have hy0 : ms[i]? = some ms[i] := List.getElem?_eq_getElem hlt
    generalize ms[i] = y at hy0
    have hy : y ∈ ms := List.mem_of_getElem? hy0
    have ek : kx = Sum.inr y.nm := by
      unfold kvM at hkv
      rw [List.getElem?_map, hy0] at hkv
      have := Option.some.inj hkv
      injection this with z1 z2
      exact z1.symm
    subst ek
    obtain ⟨x, hx0, n1, n2, n3, n4⟩ := at_ hy0
    have hx : x ∈ es := List.mem_of_getElem? hx0
    obtain ⟨g1, g2, g3, g4, g5⟩ := g.each y hy
    show tSeq _ _ _ [some (.ref A.s), some (.ref A.m), some (.ref q), some (.str y.nm), v4, v5, v6, v7] _
    have gm : ∀ {H' : Hp}, H' A.m = some (.frz od (.dK (kvM ms))) → DGet H' A.m (.str y.nm) (some (.ref y.r)) := fun hm => by
      rw [← val_kvM h.pm hy]
      exact DGet.frz (k := Sum.inr y.nm) hm
    refine ⟨_, rfl, A.s, A.dxs, _, rfl, sh1.ob, shNo_binary, _, rfl, A.s, A.dxs, A.d, es, x, (by rw [n1]; rfl), sh1.toShW, hx, fun p1 H3 s3 np1 e3 => ?_⟩
    have kk3 : KeepL [q] HF H3 := kk.trans (Same.keepL s3)
    obtain ⟨sh3, m3, rc3, x3⟩ := frF kk3
    refine ⟨_, rfl, p1, x.bin, rfl, e3, _, rfl, iteF ?_⟩
    refine ⟨_, rfl, _, rfl, _, rfl, A.m, _, rfl, gm m3, y.r, _, _, _, rfl, rfl, SqL.of (rc3 y hy), rec2, dI x.bin, dI y.bin, dpL e3, dpL (x3 _ (h.rc y hy).2.b), shI _, shI _, _, rfl, ?_⟩
    rw [eqvD, decide_eq_true n4]
    refine iteF ?_
    refine ⟨_, rfl, _, rfl, _, rfl, A.m, _, rfl, gm m3, y.r, _, _, _, rfl, rfl, SqL.of (rc3 y hy), rec3, p1, y.md, x.bin, y.due, rfl, e3, x3 _ (h.rc y hy).2.d, by rw [n4]; omega, ?_⟩
    refine ⟨_, rfl, ?_⟩
    rw [founds_snoc hx0]
    have hf3 : FoundAt H3 q (founds (es.take i)) rs := hf.same s3
    have ef : found1 x = (fd x.bin y.due 0).map fun n => (x.nm, n) := by
      unfold found1
      rw [g1, n2, n3]
    rw [ef]
    cases e : fd x.bin y.due 0 with
    | none =>
      refine ⟨_, _, rfl, rfl, _, rfl, iteDF (by decide) ⟨⟨_, _, _, _, _, rfl⟩, kk3, rs, ?_⟩⟩
      simpa using hf3
    | some n =>
      refine ⟨_, _, rfl, rfl, _, rfl, iteDT (by omega) ⟨_, rfl, .inl ⟨rfl, _, SqL.of hf3.hq⟩, _, rfl, _, rfl, by show 2 ≤ sizeLine; decide, fun t ht => ?_⟩⟩
      refine ⟨q, _, _, rfl, rfl, upd_old hf3.hq ht, line_lt ?_, ⟨_, _, _, _, _, rfl⟩, kk3.trans ((KeepL.new ht).trans (KeepL.upd (by simp))), rs ++ [t], ?_⟩
      · rw [List.length_map, hf3.hl]
        have := founds_len (es.take i)
        rw [List.length_take] at this
        have := g.len
        omega
      · rw [← n1]
        exact hf3.snoc (p := (x.nm, n)) ht
  · have ei : i = ms.length := by omega
    subst ei
    refine .inl ⟨⟨m1, by omega⟩, m1, ?_⟩
    have sE := back H1 kk
    rw [List.take_of_length_le (by omega)] at hf
    have hfE : FoundAt (upd H1 A.m (.dK (kvM ms))) q (founds es) rs := by
      refine ⟨by rw [upd_ne nqm]; exact hf.hq, hf.hl, fun j r p e1 e2 => ?_⟩
      have := hf.at_ j r p e1 e2
      rw [upd_ne (ne_of this m1 (by intro z; cases z))]
      exact this
    generalize upd H1 A.m (.dK (kvM ms)) = HE at sE hfE ⊢
    have hE := h.same sE
    refine ⟨_, rfl, A.s, A.dxs, A.d, es, rfl, hE.sh, fun x hx => ?_, by have := g.len; omega, fun q2 rs2 H5 s5 n5 f2 => ?_⟩
    · obtain ⟨y, hy, n1, n2, n3, n4⟩ := partnerE eq hx
      obtain ⟨g1, g2, g3, g4, g5⟩ := g.each y hy
      unfold goodE
      rw [n2, n3]
      exact ⟨g2, g3, g4⟩
    · have hf5 := hfE.same s5
      have fl := founds_len es
      refine ⟨_, rfl, _, _, _, _, _, rfl, .ty "list", .base (.lst f2.hq), kit_ty (r := true) (by decide), _, rfl, iteF ?_⟩
      refine ⟨_, rfl, q2, _, rfl, .inl (SqL.of f2.hq), _, rfl, q, _, rfl, .inl (SqL.of hf5.hq), rfl, _, rfl, ?_⟩
      rw [List.length_map, List.length_map, f2.hl, hf5.hl]
      rw [int_eq_dec]
      refine iteNT rfl ?_
      refine ⟨_, rfl, q, _, rfl, .inl (SqL.of hf5.hq), ?_⟩
      rw [List.length_map, hf5.hl]
      have gl := g.len
      refine ⟨_, rfl, by omega, by omega, for_range (n := (((founds es).length : Int)).toNat) (fun j σ H' => (∃ v3 v4 v5 v7, σ = [some (.ref A.s), some (.ref A.m), some (.ref q), v3, v4, v5, some (.ref q2), v7]) ∧ Same H5 H') ⟨⟨_, _, _, _, rfl⟩, Same.refl _⟩ ?_ ?_⟩
      · rintro j σ H6 hj ⟨⟨v3, v4, v5, v7, rfl⟩, s6⟩
        have hj' : j < (founds es).length := by omega
        have f6 := f2.same s6
        have g6 := hf5.same s6
        obtain ⟨p, p0⟩ : ∃ p, (founds es)[j]? = some p := ⟨_, List.getElem?_eq_getElem hj'⟩
        obtain ⟨t1, r1⟩ : ∃ t, rs2[j]? = some t := ⟨_, List.getElem?_eq_getElem (by rw [f2.hl]; exact hj')⟩
        obtain ⟨t2, r2⟩ : ∃ t, rs[j]? = some t := ⟨_, List.getElem?_eq_getElem (by rw [hf.hl]; exact hj')⟩
        have po : PyData.strOk p.1 = true := by
          obtain ⟨x, hx, ex⟩ := List.mem_filterMap.mp (List.mem_of_getElem? p0)
          unfold found1 at ex
          cases e9 : fd x.bin (dueOf x.kind x.text) 0 with
          | none => rw [e9] at ex; cases ex
          | some n =>
            rw [e9] at ex
            rw [← Option.some.inj ex]
            obtain ⟨y, hy, n1, _⟩ := partnerE eq hx
            show PyData.strOk x.nm = true
            rw [n1]
            exact (names_ok (g.nms y hy)).2
        have e1 := f6.at_ j t1 p r1 p0
        have e2 := g6.at_ j t2 p r2 p0
        have a1 : atI (rs2.map V.ref) ((0 : Int) + (j : Int)) = some (.ref t1) := by
          rw [show (0 : Int) + (j : Int) = (j : Int) by omega]
          exact atI_nat (by rw [List.getElem?_map, r1]; rfl)
        have a2 : atI (rs.map V.ref) ((0 : Int) + (j : Int)) = some (.ref t2) := by
          rw [show (0 : Int) + (j : Int) = (j : Int) by omega]
          exact atI_nat (by rw [List.getElem?_map, r2]; rfl)
        refine ⟨_, rfl, _, rfl, q2, _, _, _, rfl, rfl, SqL.of f6.hq, a1, _, _, _, _, _, rfl, .ty "tuple", .base (.tup e1), kit_ty (r := true) (by decide), _, rfl, iteF ?_⟩
        refine ⟨_, rfl, _, rfl, q2, _, _, _, rfl, rfl, SqL.of f6.hq, a1, _, rfl, _, rfl, q, _, _, _, rfl, rfl, SqL.of g6.hq, a2, prD p, prD p, prD_dp e1, prD_dp e2, prD_sh po, prD_sh po, _, rfl, ?_⟩
        rw [prD_eq]
        refine iteF ?_
        refine ⟨_, rfl, _, rfl, q2, _, _, _, rfl, rfl, SqL.of f6.hq, a1, t1, _, _, _, rfl, rfl, SqT.of e1, atI_nat (j := 1) rfl, _, rfl, _, rfl, iteF ⟨⟨_, _, _, _, rfl⟩, s6⟩⟩
      · rintro σ H6 ⟨⟨v3, v4, v5, v7, rfl⟩, s6⟩
        exact k H6 (sE.trans (s5.trans s6))
theorem c_law_audited {P : Program} {w : World} {K : PySem.W.Frag} {mg : Str → Option Value} {base : Heap} (T : Txt w K mg) : C8.Cal P w K mg base 9 "_law_audited" (sp_law_audited K) [] := T.cal 85 rfl T.g__law_audited sc_law_audited (fun _ _ _ _ _ _ us hl => match us, hl with | [_, _], _ => rfl) l_law_audited (d_law_audited T) (r_law_audited T)
end Pl

set_option Elab.async false
set_option linter.all false
set_option maxRecDepth 100000
set_option maxHeartbeats 4000000
namespace Pl
open PySem PySem.Spec PyProof.Rows L2
/-! ### draws -/
section
variable {K : PySem.W.Frag} {H : Hp} {A : Ad} {es : List En} {ms : List Mo} {fx : Fx} {ds : List Int} {σ : L2.St} {i : Nat} {Q : VK}
theorem popT (h : St0 K H A es ms fx ds) (hs : σ[i]? = some (some (.ref A.a))) (k : St0 K (upd H A.a (stk ds.tail)) A es ms fx ds.tail → Q (.int (ds.headD 0)) (upd H A.a (stk ds.tail))) :
    tCall (sp_law_next K) [] C8.E0 (tCons (tVar i) tNil) σ H Q := ⟨_, hs, A.a, ds, rfl, h.ha, k (h.pop _)⟩
theorem popMod (h : St0 K H A es ms fx ds) (hs : σ[i]? = some (some (.ref A.a))) (n : Int) (hn : 0 < n) (k : ∀ H' ds' x, 0 ≤ x → x < n → St0 K H' A es ms fx ds' → KeepL [A.a] H H' → Q (.int x) H') :
    tOp rModI (tCB rInt1 (tCons (tCall (sp_law_next K) [] C8.E0 (tCons (tVar i) tNil)) tNil)) (tC (.int n)) σ H Q :=
  popT h hs fun h1 => .inl ⟨_, rfl, _, _, rfl, rfl, hn, k _ _ _ (Int.emod_nonneg _ (by omega)) (Int.emod_lt_of_pos _ hn) h1 (KeepL.upd (by simp))⟩
/-- an item of a display, drawn -/
theorem pick2 (h : St0 K H A es ms fx ds) (hs : σ[i]? = some (some (.ref A.a))) {x y : V} (k : ∀ H' ds' z, (z = x ∨ z = y) → St0 K H' A es ms fx ds' → Q z H') :
    tOp (rIxL K) (tLst (tCons (tC x) (tCons (tC y) tNil))) (tOp rModI (tCB rInt1 (tCons (tCall (sp_law_next K) [] C8.E0 (tCons (tVar i) tNil)) tNil)) (tC (.int 2))) σ H Q := by
  refine ⟨by show 2 ≤ sizeLine; decide, fun q hq => ?_⟩
  refine popMod (h.same (Same.new hq)) hs 2 (by decide) fun H' ds' z z0 z1 h' kk => ?_
  have hq' : H' q = some (.lst [x, y]) := kk _ _ upd_same (by simpa using (ne_of_none h.ha hq).symm)
  rcases (by omega : z = 0 ∨ z = 1) with rfl | rfl
  · exact ⟨q, _, _, x, rfl, rfl, SqL.of hq', atI_nat (j := 0) rfl, k H' ds' x (.inl rfl) h'⟩
  · exact ⟨q, _, _, y, rfl, rfl, SqL.of hq', atI_nat (j := 1) rfl, k H' ds' y (.inr rfl) h'⟩
theorem pick3 (h : St0 K H A es ms fx ds) (hs : σ[i]? = some (some (.ref A.a))) {x y w : V} (k : ∀ H' ds' z, (z = x ∨ z = y ∨ z = w) → St0 K H' A es ms fx ds' → Q z H') :
    tOp (rIxL K) (tLst (tCons (tC x) (tCons (tC y) (tCons (tC w) tNil)))) (tOp rModI (tCB rInt1 (tCons (tCall (sp_law_next K) [] C8.E0 (tCons (tVar i) tNil)) tNil)) (tC (.int 3))) σ H Q := by
  refine ⟨by show 3 ≤ sizeLine; decide, fun q hq => ?_⟩
  refine popMod (h.same (Same.new hq)) hs 3 (by decide) fun H' ds' z z0 z1 h' kk => ?_
  have hq' : H' q = some (.lst [x, y, w]) := kk _ _ upd_same (by simpa using (ne_of_none h.ha hq).symm)
  rcases (by omega : z = 0 ∨ z = 1 ∨ z = 2) with rfl | rfl | rfl
  · exact ⟨q, _, _, x, rfl, rfl, SqL.of hq', atI_nat (j := 0) rfl, k H' ds' x (.inl rfl) h'⟩
  · exact ⟨q, _, _, y, rfl, rfl, SqL.of hq', atI_nat (j := 1) rfl, k H' ds' y (.inr (.inl rfl)) h'⟩
  · exact ⟨q, _, _, w, rfl, rfl, SqL.of hq', atI_nat (j := 2) rfl, k H' ds' w (.inr (.inr rfl)) h'⟩
end
/-! ### the compilers by name -/
structure CD (by_ : Str) (im : List Int) : Prop where
  nm : by_ = "plain" ∨ by_ = "turned"
  cp : ∃ tree fin first b, Cp im tree fin first b ∧ ∀ t, dueOf by_ t = trans first b (codesS t)
  pl : plB im = true
  kd : kindB by_ = true
theorem cdP : CD "plain" imP := ⟨.inl rfl, ⟨_, _, _, _, cpP, fun t => by unfold dueOf; rw [if_neg (by decide +kernel)]⟩, plB_P, by decide +kernel⟩
theorem cdT : CD "turned" imT := ⟨.inr rfl, ⟨_, _, _, _, cpT, fun t => by unfold dueOf; rw [if_pos rfl]⟩, plB_T, by decide +kernel⟩
theorem GoodM.comp {k : Nat} {ms : List Mo} (g : GoodM k ms) {z : V} (h : z = .str "plain" ∨ z = .str "turned") : ∃ y im, y ∈ ms ∧ z = .str y.nm ∧ CD y.nm im ∧ CompOk im y.bin y.trap := by
  rcases h with rfl | rfl
  · obtain ⟨y, hy, hn, c⟩ := g.pl
    exact ⟨y, imP, hy, by rw [hn], by rw [hn]; exact cdP, c⟩
  · obtain ⟨y, hy, hn, c⟩ := g.tu
    exact ⟨y, imT, hy, by rw [hn], by rw [hn]; exact cdT, c⟩
/-! ### _law_build -/
theorem codes_nat {l : List Int} (h : ∀ c ∈ l, 0 ≤ c ∧ c ≤ 126 ∧ goodC c.toNat = true) : ∃ ns : List Nat, l = ns.map (fun n : Nat => (n : Int)) ∧ ns.all goodC = true ∧ ns.length = l.length := by
  refine ⟨l.map Int.toNat, ?_, ?_, by rw [List.length_map]⟩
  · rw [List.map_map]
    have : ∀ c ∈ l, ((fun n : Nat => (n : Int)) ∘ Int.toNat) c = c := fun c hc => Int.toNat_of_nonneg (h c hc).1
    exact ((List.map_congr_left this).trans (List.map_id' l)).symm
  · rw [List.all_map, List.all_eq_true]
    exact fun c hc => (h c hc).2.2
def chL (ns : List Nat) : List Str := ns.map fun n => ⟨#[n]⟩
theorem goodS_join0 : ∀ ns : List Nat, ns.all goodC = true → goodS (Str.join "" (chL ns)) = true ∧ (Str.join "" (chL ns)).cps.toList.length = ns.length
  | [], _ => ⟨rfl, rfl⟩
  | [n], h => by
    have h1 : goodC n = true := by simpa using h
    refine ⟨?_, rfl⟩
    show (goodC n && true) = true
    rw [h1]
    rfl
  | n :: m :: r, h => by
    rw [List.all_cons, Bool.and_eq_true] at h
    obtain ⟨i1, i2⟩ := goodS_join0 (m :: r) h.2
    have e : Str.join "" (chL (n :: m :: r)) = ⟨#[n]⟩ ++ "" ++ Str.join "" (chL (m :: r)) := rfl
    rw [e]
    have g1 : goodS ⟨#[n]⟩ = true := by
      show (goodC n && true) = true
      rw [h.1]
      rfl
    refine ⟨goodS_app (goodS_app g1 rfl) i1, ?_⟩
    rw [len_app, len_app, i2]
    show 1 + 0 + (m :: r).length = _
    simp only [List.length_cons]
    omega
theorem goodS_join (ns : List Nat) (h : ns.all goodC = true) : goodS (Txt.join "" (chL ns)) = true ∧ (Txt.join "" (chL ns)).cps.toList.length = ns.length := by
  rw [TL.join_eq]
  exact goodS_join0 ns h
theorem text_step {w : World} {K : PySem.W.Frag} {mg : Str → Option Value} (T : Txt w K mg) {H : Hp} {A : Ad} {es : List En} {ms : List Mo} {fx : Fx} {ds : List Int} {y : Mo} {im : List Int} {s3 s5 s6 : Option V} {tx : Str} {S : TS} {D : L2.Ends} (h : St0 K H A es ms fx ds) (hy : y ∈ ms) (ok : CompOk im y.bin y.trap) (hg : goodS tx = true) (hl : tx.cps.toList.length ≤ 30)
    (k : ∀ H' ds' tx' v8, St0 K H' A es ms fx ds' → goodS tx' = true → tx'.cps.toList.length ≤ 40 → S D [some (.ref A.s), some (.ref A.m), some (.ref A.a), s3, some (.ref y.r), s5, s6, some (.str tx'), v8] H') :
    tSeq (tIfS (tAnd (tTru K (tOp (rIxL K) (tVar 4) (tC (.int 4)))) (tTest (tOp rEq (tOp rModI (tCB rInt1 (tCons (tCall (sp_law_next K) [] C8.E0 (tCons (tVar 2) tNil)) tNil)) (tC (.int 2))) (tC (.int 1))))) (tAsg (tOp rAddStr (tM1 (rJoin K) (tC (.str "")) (tLc (iList K (tOp (rIxL K) (tOp (rIxL K) (tVar 4) (tC (.int 4))) (tC (.int 0)))) (gName 8) tYes (tCall (sp_law_char_of K) [] C8.E0 (tCons (tVar 8) tNil)) [8])) (tVar 7)) (gName 7)) tNext) S D [some (.ref A.s), some (.ref A.m), some (.ref A.a), s3, some (.ref y.r), s5, s6, some (.str tx), none] H := by
  have hr := (h.rc y hy).1
  refine ⟨_, rfl, y.r, _, _, _, rfl, rfl, SqL.of hr, rec4, ?_⟩
  rcases (h.rc y hy).2.t with ⟨t0, f0⟩ | ⟨l, e, t0, f0, fl, fe⟩
  · exact ⟨false, .inl ⟨_, SqL.of (h.hx _ f0), rfl⟩, iteF (iteF (k H ds tx none h hg (by omega)))⟩
  · refine ⟨true, .inl ⟨_, SqL.of (h.hx _ f0), rfl⟩, iteT ?_⟩
    refine popMod h rfl 2 (by decide) fun H1 ds1 x x0 x1 h1 k1 => ⟨rfl, _, rfl, ?_⟩
    rw [int_eq_dec]
    by_cases hx : x = 1
    · refine iteDT hx ?_
      have hr1 := (h1.rc y hy).1
      have g0 := h1.hx _ f0
      have gl := h1.hx _ fl
      rcases ok.ok with ⟨z, _⟩ | ⟨l', e', ext, z, hl1, he1, _, _⟩
      · rw [z] at t0; cases t0
      · rw [z] at t0
        injection t0 with t0
        injection t0 with t1 t2
        subst t1 t2
        obtain ⟨b1, b2, b3, b4, b5⟩ := trapB_of hl1 he1
        obtain ⟨ns, en, gn, ln⟩ := codes_nat b3
        refine ⟨⟨_, rfl⟩, _, rfl, y.r, _, _, _, rfl, rfl, SqL.of hr1, rec4, y.mt, _, _, _, rfl, rfl, SqL.of g0, atI_nat (j := 0) rfl, y.ml, rfl, ⟨_, SqL.of gl⟩, fun D' hD => ?_⟩
        refine lc_list (K := K) (a := y.ml) (xs := iL l') (fun i H' => Same H1 H' ∧ H' D' = some (.lst ((chL (ns.take i)).map V.str))) ⟨Same.new hD, upd_same⟩ (fun i H' _ p => SqL.of (p.1 _ _ gl)) ?_ ?_
        · intro i v H' hv p
          obtain ⟨c, rfl, hc⟩ := getV hv
          rw [en, List.getElem?_map] at hc
          cases en2 : ns[i]? with
          | none => rw [en2] at hc; cases hc
          | some n =>
            rw [en2] at hc
            have ec : c = (n : Int) := (Option.some.inj hc).symm
            subst ec
            have gc := List.all_eq_true.mp gn n (List.mem_of_getElem? en2)
            refine ⟨rfl, lcYes ?_⟩
            refine ⟨_, rfl, n, rfl, gc, _, p.2, line_lt ?_, ?_, ?_⟩
            · unfold chL
              rw [List.length_map, List.length_map, List.length_take]
              omega
            · exact ((Same.keepL p.1 (l := [D'])).trans (KeepL.upd (by simp))).same (Same.refl H1) (by simpa using hD)
            · rw [upd_same, take_snoc en2]
              unfold chL
              simp
        · rintro H' ⟨s, hd⟩
          have lt : (iL l').length = ns.length := by rw [List.length_map, ln]
          rw [lt, List.take_length] at hd
          obtain ⟨j1, j2⟩ := goodS_join ns gn
          have sm : ((chL ns).map (·.length)).sum ≤ 3 := by
            have : ∀ l : List Nat, ((chL l).map (·.length)).sum = l.length := fun l => by
              induction l with
              | nil => rfl
              | cons a r ih =>
                show 1 + ((chL r).map (·.length)).sum = r.length + 1
                rw [ih]
                omega
            rw [this]
            omega
          refine ⟨"", D', chL ns, rfl, rfl, .inl (SqL.of hd), by show _ + _ * 0 ≤ 16777216; omega, ?_⟩
          refine ⟨_, rfl, _, _, rfl, rfl, line_of (by rw [str_len, str_len, j2]; omega), ?_⟩
          exact k H' ds1 _ none (h1.same s) (goodS_app j1 hg) (by rw [len_app, j2]; omega)
    · exact iteDF hx (k H1 ds1 tx none h1 hg (by omega))
end Pl

set_option Elab.async false
set_option linter.all false
set_option maxRecDepth 100000
set_option maxHeartbeats 4000000
namespace Pl
open PySem PySem.Spec PyProof.Rows L2
theorem put_wld {K : PySem.W.Frag} {H4 H7 : Hp} {A : Ad} {k : Nat} {es : List En} {ms : List Mo} {fx ps : Fx} {ds : List Int} {x' : En} {y' : Mo} (hS : St0 K H4 A (putE es x') ms fx ds) (eq : ms.map kM = es.map kE) (g : GoodM k ms) (s : Same H4 H7) (hps : ∀ x ∈ ps, H4 x.1 = none ∧ H7 x.1 = some (.lst x.2)) (hr : H7 y'.r = none) (ok : MoOk (ps ++ fx) y') (hk : kM y' = kE x')
    (hn : y'.nm ∈ namesL) (h5 : y'.due = dueOf y'.kind y'.text ∧ kindB y'.kind = true ∧ goodS y'.text = true ∧ y'.text.cps.toList.length ≤ 5000 ∧ y'.bin.length ≤ 100000 + (k + 1)) (hp : y'.nm = "plain" → CompOk imP y'.bin y'.trap) (ht : y'.nm = "turned" → CompOk imT y'.bin y'.trap) :
    Wld K (k + 1) (upd (upd H7 y'.r (.lst (recV y'))) A.m (.dK (putK (kvM ms) (Sum.inr y'.nm : Key) (.ref y'.r)))) A ds :=
  ⟨_, _, _, (hS.addFx s ps hps).putR hr ok, by rw [ky_putM, ky_putE, eq, hk], g.put hn h5 hp ht⟩
theorem built {K : PySem.W.Frag} {H H' : Hp} {A : Ad} {es : List En} {ms : List Mo} {fx : Fx} {ds : List Int} {x' : En} (h : St0 K H A es ms fx ds) (sh : ShAt K H' A.s A.dxs A.d (putE es x')) (k : KeepL [A.d] H H') (nb : H x'.b = none) : St0 K H' A (putE es x') ms fx ds :=
  h.shelf sh k (fun q hq => .inl (by simpa using hq)) fun e he => (putE_mem he).elim (fun z => .inr (by rw [z]; exact nb)) fun z => .inl ⟨e, z.1, rfl⟩
theorem pDM {K : PySem.W.Frag} {H : Hp} {A : Ad} {es : List En} {ms : List Mo} {fx : Fx} {ds : List Int} (h : St0 K H A es ms fx ds) (hl : ms.length ≤ 1000) (n : Str) (r : Addr) {o : HO} (hr : H r = none) : DPut (upd H r o) A.m (.str n) (.ref r) (upd (upd H r o) A.m (.dK (putK (kvM ms) (Sum.inr n : Key) (.ref r)))) :=
  DPut.k (k := Sum.inr n) (upd_old h.hm hr) (line_lt (by unfold kvM; rw [List.length_map]; omega))
def sp_law_build (K : PySem.W.Frag) : Sp := fun vs H Q _ => ∃ A k ds, vs = [.ref A.s, .ref A.m, .ref A.a] ∧ Wld K k H A ds ∧ k ≤ 100 ∧ ∀ H' ds', Wld K (k + 1) H' A ds' → Q (.bl true) H'
theorem sc_law_build : FnScope ["_law_shelf", "_law_model", "_law_draws_here", "_law_by", "_law_compiler", "_law_name", "_law_kind", "_law_text_here", "_law_code_here"] ["_law_shelf", "_law_model", "_law_draws_here"] (defScope s_law_build) := C8.fnScope_by (by decide +kernel)
def t_law_build (K : PySem.W.Frag) : TS := (tSeq (tAsg (tOp (rIxL K) (tLst (tCons (tC (.str "plain")) (tCons (tC (.str "turned")) tNil))) (tOp rModI (tCB rInt1 (tCons (tCall (sp_law_next K) [] C8.E0 (tCons (tVar 2) tNil)) tNil)) (tC (.int 2)))) (gName 3)) (tSeq (tAsg (tDGet (tVar 1) (tVar 3)) (gName 4)) (tSeq (tAsg (tOp (rIxL K) (tLst (tCons (tC (.str "x")) (tCons (tC (.str "y")) (tCons (tC (.str "z")) tNil)))) (tOp rModI (tCB rInt1 (tCons (tCall (sp_law_next K) [] C8.E0 (tCons (tVar 2) tNil)) tNil)) (tC (.int 3)))) (gName 5)) (tSeq (tAsg (tVar 3) (gName 6)) (tSeq (tAsg (tCall (sp_law_text K) [] C8.E0 (tCons (tVar 2) tNil)) (gName 7)) (tSeq (tIfS (tAnd (tTru K (tOp (rIxL K) (tVar 4) (tC (.int 4)))) (tTest (tOp rEq (tOp rModI (tCB rInt1 (tCons (tCall (sp_law_next K) [] C8.E0 (tCons (tVar 2) tNil)) tNil)) (tC (.int 2))) (tC (.int 1))))) (tAsg (tOp rAddStr (tM1 (rJoin K) (tC (.str "")) (tLc (iList K (tOp (rIxL K) (tOp (rIxL K) (tVar 4) (tC (.int 4))) (tC (.int 0)))) (gName 8) tYes (tCall (sp_law_char_of K) [] C8.E0 (tCons (tVar 8) tNil)) [8])) (tVar 7)) (gName 7)) tNext) (tSeq (tIfS (tTest (tOp rEq (tOp rModI (tCB rInt1 (tCons (tCall (sp_law_next K) [] C8.E0 (tCons (tVar 2) tNil)) tNil)) (tC (.int 9))) (tC (.int 4)))) (tRet (tOp rIsB (tMethN (He.ga K "Shelf") "build" 3 2 (sp_Shelf_build K) gv_Shelf_build_by_fuel C8.E0 (tVar 0) (tCons (tVar 5) (tCons (tVar 6) (tCons (tVar 7) tNil))) (tCons (tVar 3) (tCons (tOp rModI (tCB rInt1 (tCons (tCall (sp_law_next K) [] C8.E0 (tCons (tVar 2) tNil)) tNil)) (tC (.int 8))) tNil))) (tC (.bl false)))) tNext) (tSeq (tIfS (tTest (tOp rNotB (tMethN (He.ga K "Shelf") "build" 3 1 (sp_Shelf_build K) gv_Shelf_build_by C8.E0 (tVar 0) (tCons (tVar 5) (tCons (tVar 6) (tCons (tVar 7) tNil))) (tCons (tVar 3) tNil)) (tC (.bl true)))) (tRet (tC (.bl false))) tNext) (tSeq (sDPut (tVar 1) (tVar 5) (tLst (tCons (tVar 6) (tCons (tVar 7) (tCons (tCall (sp_law_written K) [] C8.E0 (tCons (tVar 4) (tCons (tVar 6) (tCons (tVar 7) tNil)))) (tCons (tCall (sp_law_due K) [] C8.E0 (tCons (tVar 6) (tCons (tVar 7) tNil))) (tCons (tLst tNil) tNil))))))) (tRet (tC (.bl true))))))))))))
theorem d_law_build {P : Program} {w : World} {K : PySem.W.Frag} {mg : Str → Option Value} {base : Heap} (T : Txt w K mg) (f : Addr) (cdv : Value) (A : Around) (outer : List Env) (s : Shared) (H : Hp) (E : XK) (hr : Room 6 (A.deeper (envOfC "_law_build" (defScope s_law_build) s.heap.objs.size f cdv))) :
    PSs (Bx P w K mg base ["_law_shelf", "_law_model", "_law_draws_here", "_law_by", "_law_compiler", "_law_name", "_law_kind", "_law_text_here", "_law_code_here"] "_law_build" s_law_build f cdv A outer s H E) (defBody s_law_build) (t_law_build K) :=
  (pss_cons (ps_set (i := 3) sc_law_build.nd rfl (by first | exact Or.inl rfl | exact Or.inr rfl) (pe_ix ix_list (pe_lst (pa_cons pe_str (pa_cons pe_str pa_nil))) (pe_op op_mod (pe_callTy call_int1 (by rfl) T.f_int boot_int (pa_cons (C8.pe_c (c_law_next T) hr (by decide) (by rfl) (pa_cons (pv 2) pa_nil)) pa_nil)) pe_int) (fun _ _ => rfl))) (pss_cons (ps_set (i := 4) sc_law_build.nd rfl (by first | exact Or.inl rfl | exact Or.inr rfl) (pe_dget (hu_of hr) (pv 1) (pv 3) (fun _ _ => rfl))) (pss_cons (ps_set (i := 5) sc_law_build.nd rfl (by first | exact Or.inl rfl | exact Or.inr rfl) (pe_ix ix_list (pe_lst (pa_cons pe_str (pa_cons pe_str (pa_cons pe_str pa_nil)))) (pe_op op_mod (pe_callTy call_int1 (by rfl) T.f_int boot_int (pa_cons (C8.pe_c (c_law_next T) hr (by decide) (by rfl) (pa_cons (pv 2) pa_nil)) pa_nil)) pe_int) (fun _ _ => rfl))) (pss_cons (ps_set (i := 6) sc_law_build.nd rfl (by first | exact Or.inl rfl | exact Or.inr rfl) (pv 3)) (pss_cons (ps_set (i := 7) sc_law_build.nd rfl (by first | exact Or.inl rfl | exact Or.inr rfl) (C8.pe_c (c_law_text T) hr (by decide) (by rfl) (pa_cons (pv 2) pa_nil))) (pss_cons (ps_if (PW.pt (pw_and (pt_truth (pe_ix ix_list (pv 4) pe_int (fun _ _ => rfl)) (by intro _; rfl)) (pw_and1 (pt_cmpR op_eq (pe_op op_mod (pe_callTy call_int1 (by rfl) T.f_int boot_int (pa_cons (C8.pe_c (c_law_next T) hr (by decide) (by rfl) (pa_cons (pv 2) pa_nil)) pa_nil)) pe_int) pe_int (nomark _))))) (pss_one (ps_set (i := 7) sc_law_build.nd rfl (by first | exact Or.inl rfl | exact Or.inr rfl) (pe_op op_add_str (pe_join pe_str (pe_lc (own := [("_law_code_here", 8)]) (g := gName 8) (tt := tYes) rfl sc_law_build.nd (pi_list (pe_ix ix_list (pe_ix ix_list (pv 4) pe_int (fun _ _ => rfl)) pe_int (fun _ _ => rfl))) (blkOk_by (own := [("_law_code_here", 8)]) (N := ["_law_shelf", "_law_model", "_law_draws_here", "_law_by", "_law_compiler", "_law_name", "_law_kind", "_law_text_here", "_law_code_here"]) (sc := defScope s_law_build) (by decide +kernel)) (fun _ _ _ _ _ => pg_name (i := 8) sc_law_build.nd rfl (Or.inl rfl)) (fun _ _ _ _ _ => pts_nil) (fun _ _ _ _ _ => (C8.pe_c (c_law_char_of T) hr (by decide) (by rfl) (pa_cons (pv 8) pa_nil))))) (pv 7)))) pss_nil) (pss_cons (ps_if (pt_cmpR op_eq (pe_op op_mod (pe_callTy call_int1 (by rfl) T.f_int boot_int (pa_cons (C8.pe_c (c_law_next T) hr (by decide) (by rfl) (pa_cons (pv 2) pa_nil)) pa_nil)) pe_int) pe_int (nomark _)) (pss_one (ps_ret (pe_cmpR op_isBl (pe_mtN (mn_Shelf_build_by_fuel T) hr (by decide) (pv 0) (pa_cons (pv 5) (pa_cons (pv 6) (pa_cons (pv 7) pa_nil))) (pk_cons (pv 3) (pk_cons (pe_op op_mod (pe_callTy call_int1 (by rfl) T.f_int boot_int (pa_cons (C8.pe_c (c_law_next T) hr (by decide) (by rfl) (pa_cons (pv 2) pa_nil)) pa_nil)) pe_int) pk_nil))) pe_bl (nomark _)))) pss_nil) (pss_cons (ps_if (pt_cmpR op_notBl (pe_mtN (mn_Shelf_build_by T) hr (by decide) (pv 0) (pa_cons (pv 5) (pa_cons (pv 6) (pa_cons (pv 7) pa_nil))) (pk_cons (pv 3) pk_nil)) pe_bl (nomark _)) (pss_one (ps_ret pe_bl)) pss_nil) (pss_cons (ps_dput (hu_of hr) (pv 1) (pv 5) (pe_lst (pa_cons (pv 6) (pa_cons (pv 7) (pa_cons (C8.pe_c (c_law_written T) hr (by decide) (by rfl) (pa_cons (pv 4) (pa_cons (pv 6) (pa_cons (pv 7) pa_nil)))) (pa_cons (C8.pe_c (c_law_due T) hr (by decide) (by rfl) (pa_cons (pv 6) (pa_cons (pv 7) pa_nil))) (pa_cons (pe_lst pa_nil) pa_nil)))))) rfl) (pss_one (ps_ret pe_bl)))))))))))
theorem l_law_build {K : PySem.W.Frag} : ∀ vs H Q E, sp_law_build K vs H Q E → vs.length = ["_law_shelf", "_law_model", "_law_draws_here"].length := by
  rintro vs H Q E ⟨_, _, _, rfl, _⟩
  rfl
theorem xyz {n : Str} (h : n = "x" ∨ n = "y" ∨ n = "z") : n ∈ namesL ∧ n ≠ "plain" ∧ n ≠ "turned" := by
  rcases h with rfl | rfl | rfl
  · exact ⟨by decide +kernel, by decide +kernel, by decide +kernel⟩
  · exact ⟨by decide +kernel, by decide +kernel, by decide +kernel⟩
  · exact ⟨by decide +kernel, by decide +kernel, by decide +kernel⟩
theorem r_law_build {w : World} {K : PySem.W.Frag} {mg : Str → Option Value} (T : Txt w K mg) : ∀ vs H Q E, sp_law_build K vs H Q E → t_law_build K { nx := fun _ H' => Q .non H', rt := Q } (start ["_law_shelf", "_law_model", "_law_draws_here", "_law_by", "_law_compiler", "_law_name", "_law_kind", "_law_text_here", "_law_code_here"] vs) H := by
  rintro vs H Q E ⟨A, k0, ds, rfl, ⟨es, ms, fx, h, eq, g⟩, hk0, k⟩
  refine pick2 h rfl fun H1 ds1 z hz h1 => ?_
  obtain ⟨y, im, hy, rfl, cd, ok⟩ := g.comp hz
  refine ⟨_, rfl, _, rfl, A.m, _, rfl, h1.get hy, ?_⟩
  refine pick3 h1 rfl fun H2 ds2 zn hzn h2 => ?_
  obtain ⟨n, rfl, hn⟩ : ∃ n : Str, zn = .str n ∧ (n = "x" ∨ n = "y" ∨ n = "z") := by
    rcases hzn with rfl | rfl | rfl
    · exact ⟨_, rfl, .inl rfl⟩
    · exact ⟨_, rfl, .inr (.inl rfl)⟩
    · exact ⟨_, rfl, .inr (.inr rfl)⟩
  obtain ⟨nn, np, nt⟩ := xyz hn
  refine ⟨_, rfl, ?_⟩
  refine ⟨_, rfl, A.a, ds2, rfl, h2.ha, fun ds3 tx0 hg0 hl0 => ?_⟩
  refine text_step T (h2.pop ds3) hy ok hg0 hl0 fun H4 ds4 tx v8 h4 hg hl => ?_
  obtain ⟨x, hx, n1, n2, n3, n4⟩ := partner eq hy
  obtain ⟨tree, fin, first, b, cp, du⟩ := cd.cp
  have hcl : (codesS tx).length ≤ 400 := by rw [codes_len]; omega
  have en := comp_ends cp ok (codesS tx) (codes_small hg) hcl
  rw [← du] at en
  obtain ⟨b1, b2⟩ := comp_bin cd.pl ok
  have len := keys_len eq
  have gl := g.len
  rw [← n4] at en b1 b2
  refine popMod h4 rfl 9 (by decide) fun H5 ds5 c c0 c1 h5 k5 => ⟨rfl, _, rfl, ?_⟩
  rw [int_eq_dec]
  by_cases hc : c = 4
  · refine iteDT hc ⟨_, rfl, A.s, A.dxs, _, rfl, h5.sh.ob, shNo_build, _, rfl, _, rfl, _, rfl, _, rfl, popMod h5 rfl 8 (by decide) fun H6 ds6 F F0 F1 h6 k6 => ⟨rfl, rfl, A.s, A.dxs, A.d, es, n, y.nm, tx, x, F.toNat, ?_, h6.sh, (names_ok nn).1, cd.kd, hg, by omega, by omega, hx, b1, by omega, by omega, fun hq => ?_, fun q hq H7 s7 => ?_⟩⟩
    · rw [Int.toNat_of_nonneg F0, n1]
      rfl
    · obtain ⟨q, e⟩ := go_cut (F := F.toNat) en (by omega)
      have hq' : look x.bin (goM (look x.bin) (lowOf (look x.bin)) x.bin (codesS tx) F.toNat (m0 (codesS tx))).2.at_ = none := hq
      rw [e] at hq'
      cases hq'
    · exact ⟨false, false, rfl, rfl, k H7 ds6 ⟨es, ms, fx, h6.same s7, eq, g.up (Nat.le_succ _)⟩⟩
  · obtain ⟨o1, o2⟩ := go_end en
    refine iteDF hc ⟨_, rfl, A.s, A.dxs, _, rfl, h5.sh.ob, shNo_build, _, rfl, _, rfl, _, rfl, _, rfl, rfl, rfl, A.s, A.dxs, A.d, es, n, y.nm, tx, x, 100000, ?_, h5.sh, (names_ok nn).1, cd.kd, hg, by omega, by omega, hx, b1, by omega, by omega, fun _ e dx bb H6 nb sh6 k6 => ?_, fun q hq H7 s7 => ?_⟩
    · rw [n1]
      rfl
    · refine ⟨true, true, rfl, rfl, _, rfl, iteF ?_⟩
      have hS := built h5 sh6 k6 nb
      refine ⟨_, rfl, _, rfl, _, rfl, _, rfl, _, rfl, A, _, ms, fx, ds5, y, y.nm, tx, im, rfl, hS, hy, ok, by omega, fun p1 H7 s7 m7 e7 => ?_⟩
      refine ⟨_, rfl, _, rfl, y.nm, tx, rfl, by omega, fun p2 H8 s8 m8 e8 => ?_⟩
      refine ⟨Nat.zero_le _, fun p3 m9 => ⟨by show 5 ≤ sizeLine; decide, fun r mr => ?_⟩⟩
      have s69 : Same H6 (upd H8 p3 (.lst [])) := s7.trans (s8.trans (Same.new m9))
      refine ⟨_, rfl, _, rfl, A.m, _, rfl, pDM (hS.same s69) (by omega) n r mr, ?_⟩
      refine k _ ds5 ?_
      have dl := due_len y.nm tx
      have ml := more_len ok (codesS tx)
      refine put_wld (y' := ⟨n, y.nm, tx, dueOf y.nm tx ++ moreOf y.trap (codesS tx), dueOf y.nm tx, none, r, p1, p2, p3, p3, p3⟩) (ps := [(p1, iL (dueOf y.nm tx ++ moreOf y.trap (codesS tx))), (p2, iL (dueOf y.nm tx)), (p3, [])]) hS eq g s69 ?_ mr ⟨by simp, by simp, .inl ⟨rfl, by simp⟩⟩ ?_ nn ⟨rfl, cd.kd, hg, by show tx.cps.toList.length ≤ 5000; omega, by rw [List.length_append]; omega⟩ (fun z => absurd z np) (fun z => absurd z nt)
      · simp only [List.forall_mem_cons]
        exact ⟨⟨m7, upd_old (s8 _ _ e7) m9⟩, ⟨s7.free m8, upd_old e8 m9⟩, ⟨(s7.trans s8).free m9, upd_same⟩, fun _ z => nomatch z⟩
      · show (n, y.nm, tx, _) = (n, y.nm, tx, _)
        rw [← o2]
    · have hq' : look x.bin (goM (look x.bin) (lowOf (look x.bin)) x.bin (codesS tx) 100000 (m0 (codesS tx))).2.at_ = some q := hq
      rw [o1] at hq'
      cases hq'
theorem c_law_build {P : Program} {w : World} {K : PySem.W.Frag} {mg : Str → Option Value} {base : Heap} (T : Txt w K mg) : C8.Cal P w K mg base 7 "_law_build" (sp_law_build K) [] := T.cal 87 rfl T.g__law_build sc_law_build (fun _ _ _ _ _ _ us hl => match us, hl with | [_, _, _], _ => rfl) l_law_build (d_law_build T) (r_law_build T)
end Pl

set_option Elab.async false
set_option linter.all false
set_option maxRecDepth 100000
set_option maxHeartbeats 4000000
namespace Pl
open PySem PySem.Spec PyProof.Rows L2
section
variable {K : PySem.W.Frag} {H H' : Hp} {A : Ad} {es : List En} {ms : List Mo} {fx : Fx} {ds : List Int} {y : Mo} {q : Addr} {xs : List V}
theorem St0.newL (h : St0 K H A es ms fx ds) (s : Same H H') (hq : H q = none) (e : H' q = some (.lst xs)) : St0 K H' A es ms ((q, xs) :: fx) ds :=
  h.addFx s [(q, xs)] fun x hx => by rw [List.mem_singleton.mp hx]; exact ⟨hq, e⟩
theorem St0.new1 (h : St0 K H A es ms fx ds) (hq : H q = none) : St0 K (upd H q (.lst xs)) A es ms ((q, xs) :: fx) ds := h.newL (Same.new hq) hq upd_same
end
theorem Wld.up {K : PySem.W.Frag} {H : Hp} {A : Ad} {k k' : Nat} {ds : List Int} (h : Wld K k H A ds) (hk : k ≤ k') : Wld K k' H A ds := by
  obtain ⟨es, ms, fx, h, e, g⟩ := h
  exact ⟨es, ms, fx, h, e, g.up hk⟩
theorem putM_putM {ms : List Mo} {y1 y2 : Mo} (e : y1.nm = y2.nm) : putM (putM ms y1) y2 = putM ms y2 := by
  unfold putM
  rw [e]
  by_cases ha : (ms.any fun z => decide (z.nm = y2.nm)) = true
  · rw [if_pos ha, if_pos ha]
    have hb : ((ms.map fun z => if z.nm = y2.nm then y1 else z).any fun z => decide (z.nm = y2.nm)) = true := by
      obtain ⟨z, hz, hd⟩ := List.any_eq_true.mp ha
      exact List.any_eq_true.mpr ⟨_, List.mem_map.mpr ⟨z, hz, rfl⟩, decide_eq_true (by rw [if_pos (of_decide_eq_true hd), e])⟩
    rw [if_pos hb, List.map_map]
    refine List.map_congr_left fun z _ => ?_
    show (if (if z.nm = y2.nm then y1 else z : Mo).nm = y2.nm then y2 else (if z.nm = y2.nm then y1 else z)) = if z.nm = y2.nm then y2 else z
    by_cases c : z.nm = y2.nm
    · rw [if_pos c, if_pos c, if_pos e]
    · rw [if_neg c, if_neg c]
  · rw [if_neg ha, if_neg ha]
    have hb : ((ms ++ [y1]).any fun z => decide (z.nm = y2.nm)) = true := List.any_eq_true.mpr ⟨y1, by simp, decide_eq_true e⟩
    rw [if_pos hb, List.map_append]
    have hn : ∀ z ∈ ms, (if z.nm = y2.nm then y2 else z) = z := fun z hz => if_neg fun c => ha (List.any_eq_true.mpr ⟨z, hz, decide_eq_true c⟩)
    rw [(List.map_congr_left hn).trans (List.map_id' ms)]
    show ms ++ [if y1.nm = y2.nm then y2 else y1] = _
    rw [if_pos e]
theorem setBin_bs {es : List En} {nm : Str} {b : Addr} {bin : List Int} {e : En} (h : e ∈ setBin es nm b bin) : e.b = b ∨ ∃ e2 ∈ es, e.b = e2.b := by
  obtain ⟨y, hy, rfl⟩ := setBin_mem h
  by_cases c : y.nm = nm
  · rw [if_pos c]; exact .inl rfl
  · rw [if_neg c]; exact .inr ⟨y, hy, rfl⟩
theorem ix2 {y : Mo} : ixN (recV y).length 2 = some 2 := by show ixN 5 2 = some 2; decide
theorem ix4 {y : Mo} : ixN (recV y).length 4 = some 4 := by show ixN 5 4 = some 4; decide
/-! ### _law_plant -/
theorem lure_take {x : Int} (h0 : 0 ≤ x) (h1 : x < 3) : cutV (iL (codesS (strE (top 44)))) none (some (1 + x)) = iL ((codesS (strE (top 44))).take (1 + x.toNat)) ∧ (codesS (strE (top 44))).take (1 + x.toNat) ∈ luresL := by
  have e : (1 : Int) + x = ((1 + x.toNat : Nat) : Int) := by omega
  have hl : (codesS (strE (top 44))).length = 303 := by rw [codes_len]; exact text_P.2
  refine ⟨?_, ?_⟩
  · unfold cutV
    rw [HT.sIx_none, e, HT.sIx_nat, List.length_map, Nat.min_eq_left (by omega), List.drop_zero, Nat.sub_zero, ← List.map_take]
  · rcases (by omega : x = 0 ∨ x = 1 ∨ x = 2) with rfl | rfl | rfl
    · rw [show (codesS (strE (top 44))).take (1 + (0 : Int).toNat) = [50] by kernel_rfl]; decide
    · rw [show (codesS (strE (top 44))).take (1 + (1 : Int).toNat) = [50, 48] by kernel_rfl]; decide
    · rw [show (codesS (strE (top 44))).take (1 + (2 : Int).toNat) = [50, 48, 48] by kernel_rfl]; decide
theorem lure_take2 {x : Int} (h0 : 0 ≤ x) (h1 : x < 3) : cutV (iL [91, 46, 97]) none (some (1 + x)) = iL (([91, 46, 97] : List Int).take (1 + x.toNat)) ∧ ([91, 46, 97] : List Int).take (1 + x.toNat) ∈ luresL := by
  rcases (by omega : x = 0 ∨ x = 1 ∨ x = 2) with rfl | rfl | rfl
  · exact ⟨by decide, by decide⟩
  · exact ⟨by decide, by decide⟩
  · exact ⟨by decide, by decide⟩
theorem tP : (("plain" : Str), V.str (strE (top 44))) ∈ textsV := List.mem_cons_self
theorem tT : (("turned" : Str), V.str (strE (top 45))) ∈ textsV := List.mem_cons_of_mem _ List.mem_cons_self
def sp_law_plant (K : PySem.W.Frag) : Sp := fun vs H Q _ => ∃ A k ds, vs = [.ref A.s, .ref A.m, .ref A.a] ∧ Wld K k H A ds ∧ k ≤ 100 ∧ ∀ H' ds', Wld K (k + 1) H' A ds' → Q (.bl true) H'
theorem sc_law_plant : FnScope ["_law_shelf", "_law_model", "_law_draws_here", "_law_name", "_law_start", "_law_lure", "_law_extra"] ["_law_shelf", "_law_model", "_law_draws_here"] (defScope s_law_plant) := C8.fnScope_by (by decide +kernel)
def t_law_plant (K : PySem.W.Frag) : TS := (tSeq (tAsg (tOp (rIxL K) (tLst (tCons (tC (.str "plain")) (tCons (tC (.str "turned")) tNil))) (tOp rModI (tCB rInt1 (tCons (tCall (sp_law_next K) [] C8.E0 (tCons (tVar 2) tNil)) tNil)) (tC (.int 2)))) (gName 3)) (tSeq (tAsg (tCall (sp_law_codes K) [] C8.E0 (tCons (tCall (sp_rung_text K) [] C8.E0 (tCons (tC (.str "plain")) tNil)) tNil)) (gName 4)) (tSeq (tAsg (tSl (rSlL K) (tVar 4) tNoPart (tPart (tOp rAddI (tC (.int 1)) (tOp rModI (tCB rInt1 (tCons (tCall (sp_law_next K) [] C8.E0 (tCons (tVar 2) tNil)) tNil)) (tC (.int 3)))))) (gName 5)) (tSeq (tIfS (tTest (tOp rEq (tOp rModI (tCB rInt1 (tCons (tCall (sp_law_next K) [] C8.E0 (tCons (tVar 2) tNil)) tNil)) (tC (.int 2))) (tC (.int 1)))) (tAsg (tSl (rSlL K) (tLst (tCons (tC (.int 91)) (tCons (tC (.int 46)) (tCons (tC (.int 97)) tNil)))) tNoPart (tPart (tOp rAddI (tC (.int 1)) (tOp rModI (tCB rInt1 (tCons (tCall (sp_law_next K) [] C8.E0 (tCons (tVar 2) tNil)) tNil)) (tC (.int 3)))))) (gName 5)) tNext) (tSeq (tAsg (tOp rRep (tLst (tCons (tC (.int 900000)) (tCons (tC (.int 46)) (tCons (tC (.int 7)) (tCons (tC (.int 900001)) (tCons (tC (.int 900001)) (tCons (tC (.int 97)) (tCons (tUn rNegI (tC (.int 5))) (tCons (tC (.int 900002)) tNil))))))))) (tOp rModI (tCB rInt1 (tCons (tCall (sp_law_next K) [] C8.E0 (tCons (tVar 2) tNil)) tNil)) (tC (.int 2)))) (gName 6)) (tSeq (tIfS (tNot (tTru K (tOp (rIxL K) (tDGet (tVar 1) (tVar 3)) (tC (.int 4))))) (tSeq (tDrop (tMeth (He.ga K "Shelf") "trap" (sp_Shelf_trap K) [] C8.E0 (tVar 0) (tCons (tVar 3) (tCons (tCB (rListOf K) (tCons (tVar 5) tNil)) (tCons (tCB (rListOf K) (tCons (tVar 6) tNil)) tNil))))) (tSeq (tAsg (tOp rCat (tOp (rIxL K) (tDGet (tVar 1) (tVar 3)) (tC (.int 2))) (tCall (sp_law_trap K) [] C8.E0 (tCons (tVar 5) (tCons (tVar 6) tNil)))) (gSub (tDGet (tVar 1) (tVar 3)) (tC (.int 2)) rSetL)) (tAsg (tLst (tCons (tVar 5) (tCons (tVar 6) tNil))) (gSub (tDGet (tVar 1) (tVar 3)) (tC (.int 4)) rSetL)))) tNext) (tRet (tC (.bl true)))))))))
theorem d_law_plant {P : Program} {w : World} {K : PySem.W.Frag} {mg : Str → Option Value} {base : Heap} (T : Txt w K mg) (f : Addr) (cdv : Value) (A : Around) (outer : List Env) (s : Shared) (H : Hp) (E : XK) (hr : Room 4 (A.deeper (envOfC "_law_plant" (defScope s_law_plant) s.heap.objs.size f cdv))) :
    PSs (Bx P w K mg base ["_law_shelf", "_law_model", "_law_draws_here", "_law_name", "_law_start", "_law_lure", "_law_extra"] "_law_plant" s_law_plant f cdv A outer s H E) (defBody s_law_plant) (t_law_plant K) :=
  (pss_cons (ps_set (i := 3) sc_law_plant.nd rfl (by first | exact Or.inl rfl | exact Or.inr rfl) (pe_ix ix_list (pe_lst (pa_cons pe_str (pa_cons pe_str pa_nil))) (pe_op op_mod (pe_callTy call_int1 (by rfl) T.f_int boot_int (pa_cons (C8.pe_c (c_law_next T) hr (by decide) (by rfl) (pa_cons (pv 2) pa_nil)) pa_nil)) pe_int) (fun _ _ => rfl))) (pss_cons (ps_set (i := 4) sc_law_plant.nd rfl (by first | exact Or.inl rfl | exact Or.inr rfl) (C8.pe_c (c_law_codes T) hr (by decide) (by rfl) (pa_cons (C8.pe_c (c_rung_text T) hr (by decide) (by rfl) (pa_cons pe_str pa_nil)) pa_nil))) (pss_cons (ps_set (i := 5) sc_law_plant.nd rfl (by first | exact Or.inl rfl | exact Or.inr rfl) (pe_slice sl_list (pv 4) po_none (po_some (pe_op op_add pe_int (pe_op op_mod (pe_callTy call_int1 (by rfl) T.f_int boot_int (pa_cons (C8.pe_c (c_law_next T) hr (by decide) (by rfl) (pa_cons (pv 2) pa_nil)) pa_nil)) pe_int))))) (pss_cons (ps_if (pt_cmpR op_eq (pe_op op_mod (pe_callTy call_int1 (by rfl) T.f_int boot_int (pa_cons (C8.pe_c (c_law_next T) hr (by decide) (by rfl) (pa_cons (pv 2) pa_nil)) pa_nil)) pe_int) pe_int (nomark _)) (pss_one (ps_set (i := 5) sc_law_plant.nd rfl (by first | exact Or.inl rfl | exact Or.inr rfl) (pe_slice sl_list (pe_lst (pa_cons pe_int (pa_cons pe_int (pa_cons pe_int pa_nil)))) po_none (po_some (pe_op op_add pe_int (pe_op op_mod (pe_callTy call_int1 (by rfl) T.f_int boot_int (pa_cons (C8.pe_c (c_law_next T) hr (by decide) (by rfl) (pa_cons (pv 2) pa_nil)) pa_nil)) pe_int)))))) pss_nil) (pss_cons (ps_set (i := 6) sc_law_plant.nd rfl (by first | exact Or.inl rfl | exact Or.inr rfl) (pe_op op_rep (pe_lst (pa_cons pe_int (pa_cons pe_int (pa_cons pe_int (pa_cons pe_int (pa_cons pe_int (pa_cons pe_int (pa_cons (pe_un un_neg pe_int) (pa_cons pe_int pa_nil))))))))) (pe_op op_mod (pe_callTy call_int1 (by rfl) T.f_int boot_int (pa_cons (C8.pe_c (c_law_next T) hr (by decide) (by rfl) (pa_cons (pv 2) pa_nil)) pa_nil)) pe_int))) (pss_cons (ps_if (pt_not (pt_truth (pe_ix ix_list (pe_dget (hu_of hr) (pv 1) (pv 3) (fun _ _ => rfl)) pe_int (fun _ _ => rfl)) (by intro _; rfl))) (pss_cons (ps_expr (C8.pe_mt (m_Shelf_trap T) hr (by decide) (pv 0) (pa_cons (pv 3) (pa_cons (pe_callTy call_list_of (by rfl) T.f_list boot_list (pa_cons (pv 5) pa_nil)) (pa_cons (pe_callTy call_list_of (by rfl) T.f_list boot_list (pa_cons (pv 6) pa_nil)) pa_nil))))) (pss_cons (ps_asg (pe_op op_cat (pe_ix ix_list (pe_dget (hu_of hr) (pv 1) (pv 3) (fun _ _ => rfl)) pe_int (fun _ _ => rfl)) (C8.pe_c (c_law_trap T) hr (by decide) (by rfl) (pa_cons (pv 5) (pa_cons (pv 6) pa_nil)))) (pg_sub (pe_dget (hu_of hr) (pv 1) (pv 3) (fun _ _ => rfl)) pe_int set_list)) (pss_one (ps_asg (pe_lst (pa_cons (pv 5) (pa_cons (pv 6) pa_nil))) (pg_sub (pe_dget (hu_of hr) (pv 1) (pv 3) (fun _ _ => rfl)) pe_int set_list))))) pss_nil) (pss_one (ps_ret pe_bl))))))))
theorem l_law_plant {K : PySem.W.Frag} : ∀ vs H Q E, sp_law_plant K vs H Q E → vs.length = ["_law_shelf", "_law_model", "_law_draws_here"].length := by
  rintro vs H Q E ⟨_, _, _, rfl, _⟩
  rfl
/-- the second choice of a lure -/
theorem lure_step {w : World} {K : PySem.W.Frag} {mg : Str → Option Value} (T : Txt w K mg) {H : Hp} {A : Ad} {es : List En} {ms : List Mo} {fx : Fx} {ds : List Int} {s3 s4 s6 : Option V} {q : Addr} {l : List Int} {S : TS} {D : L2.Ends} (h : St0 K H A es ms fx ds) (hq : (q, iL l) ∈ fx) (hl : l ∈ luresL)
    (k : ∀ H' ds' q' l' fx', St0 K H' A es ms fx' ds' → (∀ x ∈ fx, x ∈ fx') → (q', iL l') ∈ fx' → l' ∈ luresL → S D [some (.ref A.s), some (.ref A.m), some (.ref A.a), s3, s4, some (.ref q'), s6] H') :
    tSeq (tIfS (tTest (tOp rEq (tOp rModI (tCB rInt1 (tCons (tCall (sp_law_next K) [] C8.E0 (tCons (tVar 2) tNil)) tNil)) (tC (.int 2))) (tC (.int 1)))) (tAsg (tSl (rSlL K) (tLst (tCons (tC (.int 91)) (tCons (tC (.int 46)) (tCons (tC (.int 97)) tNil)))) tNoPart (tPart (tOp rAddI (tC (.int 1)) (tOp rModI (tCB rInt1 (tCons (tCall (sp_law_next K) [] C8.E0 (tCons (tVar 2) tNil)) tNil)) (tC (.int 3)))))) (gName 5)) tNext) S D [some (.ref A.s), some (.ref A.m), some (.ref A.a), s3, s4, some (.ref q), s6] H := by
  refine popMod h rfl 2 (by decide) fun H1 ds1 x x0 x1 h1 k1 => ⟨rfl, _, rfl, ?_⟩
  rw [int_eq_dec]
  by_cases hx : x = 1
  · refine iteDT hx ⟨by show 3 ≤ sizeLine; decide, fun p hp => ?_⟩
    have h2 := h1.new1 (xs := iL [91, 46, 97]) hp
    refine popMod h2 rfl 3 (by decide) fun H3 ds3 z z0 z1 h3 k3 => ⟨_, _, rfl, rfl, _, rfl, p, iL [91, 46, 97], rfl, SqL.of (h3.hx (p, iL [91, 46, 97]) (by simp)), fun u hu => ?_⟩
    obtain ⟨e1, e2⟩ := lure_take2 z0 z1
    rw [e1]
    exact k _ ds3 u _ _ (h3.new1 hu) (fun x hx => by simp [hx]) (by simp) e2
  · exact iteDF hx (k H1 ds1 q l fx h1 (fun _ z => z) hq hl)
theorem r_law_plant {w : World} {K : PySem.W.Frag} {mg : Str → Option Value} (T : Txt w K mg) : ∀ vs H Q E, sp_law_plant K vs H Q E → t_law_plant K { nx := fun _ H' => Q .non H', rt := Q } (start ["_law_shelf", "_law_model", "_law_draws_here", "_law_name", "_law_start", "_law_lure", "_law_extra"] vs) H := by
  rintro vs H Q E ⟨A, k0, ds, rfl, ⟨es, ms, fx, h, eq, g⟩, hk0, k⟩
  refine pick2 h rfl fun H1 ds1 z hz h1 => ?_
  obtain ⟨y, im, hy, rfl, cd, ok⟩ := g.comp hz
  refine ⟨"plain", _, rfl, tP, strE (top 44), rfl, by rw [text_P.2]; decide, fun p H2 s2 n2 e2 => ?_⟩
  have h2 := h1.newL s2 n2 e2
  refine ⟨_, rfl, popMod h2 rfl 3 (by decide) fun H3 ds3 x x0 x1 h3 k3 => ⟨_, _, rfl, rfl, _, rfl, p, iL (codesS (strE (top 44))), rfl, SqL.of (h3.hx (p, iL (codesS (strE (top 44)))) (by simp)), fun q hq => ?_⟩⟩
  obtain ⟨c1, c2⟩ := lure_take x0 x1
  rw [c1]
  have h4 := h3.new1 (xs := iL ((codesS (strE (top 44))).take (1 + x.toNat))) hq
  refine lure_step T h4 (by simp) c2 fun H5 ds5 q l fx5 h5 f5 hq5 hl5 => ?_
  refine ⟨_, rfl, by show 8 ≤ sizeLine; decide, fun u hu => ?_⟩
  have h6 := h5.new1 (xs := iL exE) hu
  refine popMod h6 rfl 2 (by decide) fun H7 ds7 t t0 t1 h7 k7 => ⟨u, t, iL exE, rfl, rfl, h7.hx (u, iL exE) (by simp), by omega, by omega, line_of (by show 8 * t.toNat ≤ _; omega), fun v hv => ?_⟩
  obtain ⟨e, he, ee⟩ : ∃ e ∈ exsL, (List.replicate t.toNat (iL exE)).flatten = iL e := by
    rcases (by omega : t = 0 ∨ t = 1) with rfl | rfl
    · exact ⟨[], by decide, rfl⟩
    · exact ⟨exE, by decide, by rfl⟩
  rw [ee]
  have h8 := h7.new1 (xs := iL e) hv
  have fq : (q, iL l) ∈ (v, iL e) :: (u, iL exE) :: fx5 := by simp [hq5]
  have fv : (v, iL e) ∈ (v, iL e) :: (u, iL exE) :: fx5 := by simp
  generalize (v, iL e) :: (u, iL exE) :: fx5 = fx8 at h8 fq fv
  generalize upd H7 v (.lst (iL e)) = H8 at h8 ⊢
  have hr := (h8.rc y hy).1
  refine ⟨_, rfl, _, rfl, A.m, _, rfl, h8.get hy, y.r, _, _, _, rfl, rfl, SqL.of hr, rec4, ?_⟩
  rcases (h8.rc y hy).2.t with ⟨t0, f0⟩ | ⟨l', e', t0, f0, fl, fe⟩
  · refine ⟨false, .inl ⟨_, SqL.of (h8.hx _ f0), rfl⟩, iteT ?_⟩
    have hbin : y.bin = im := by
      rcases ok.ok with ⟨_, z⟩ | ⟨_, _, _, z, _⟩
      · exact z
      · rw [z] at t0; cases t0
    obtain ⟨x', hx', n1, n2, n3, n4⟩ := partner eq hy
    have tok := trapOk_of hl5 he
    have pl : Plantable x'.bin := by rw [n4, hbin]; exact (plB_of cd.pl).1
    refine ⟨_, rfl, A.s, A.dxs, _, rfl, h8.sh.ob, shNo_trap, _, rfl, _, rfl, q, _, rfl, .inl (SqL.of (h8.hx _ fq)), fun a1 m1 => ⟨_, rfl, v, _, rfl, .inl (SqL.of (upd_old (h8.hx _ fv) m1)), fun a2 m2 => ?_⟩⟩
    have s10 : Same H8 (upd (upd H8 a1 (.lst (iL l))) a2 (.lst (iL e))) := (Same.new m1).trans (Same.new m2)
    have h10 := h8.same s10
    refine ⟨A.s, A.dxs, A.d, es, x', a1, a2, l, e, by rw [n1]; rfl, h10.sh, hx', upd_old upd_same m2, upd_same, tok, pl, fun b' H11 nb sh11 k11 => ?_⟩
    have h11 : St0 K H11 A (setBin es x'.nm b' (x'.bin ++ trapC l e)) ms fx8 ds7 := h10.shelf sh11 k11 (fun c hc => .inr ⟨x', hx', .inl (by simpa using hc)⟩) fun e0 he0 => (setBin_bs he0).elim (fun z => .inr (by rw [z]; exact nb)) .inl
    have hr11 := (h11.rc y hy).1
    obtain ⟨b1, b2⟩ := comp_bin cd.pl ok
    obtain ⟨g1, g2, g3, g4, g5⟩ := trapB_of hl5 he
    refine ⟨_, rfl, _, rfl, A.m, _, rfl, h11.get hy, y.r, _, _, _, rfl, rfl, SqL.of hr11, rec2, _, rfl, _, rfl, q, v, l, e, rfl, h11.hx _ fq, h11.hx _ fv, by omega, by omega, fun c H12 s12 nc ec => ?_⟩
    have h12 := h11.same s12
    refine ⟨y.mb, c, _, _, rfl, rfl, h12.hx _ (h12.rc y hy).2.b, ec, line_of (by rw [List.length_map, List.length_map, trapC_len]; omega), fun r2 hr2 => ?_⟩
    rw [← List.map_append]
    have h13 := h12.new1 (xs := iL (y.bin ++ trapC l e)) hr2
    refine ⟨_, rfl, _, rfl, A.m, _, rfl, h13.get hy, y.r, _, _, _, rfl, rfl, (h13.rc y hy).1, ix2, ?_⟩
    have ok13 := (h13.rc y hy).2
    have h14 := h13.setR hy (y' := { y with mb := r2, bin := y.bin ++ trapC l e }) rfl rfl ⟨by simp, ok13.d, ok13.t⟩
    refine ⟨_, rfl, _, rfl, by show 2 ≤ sizeLine; decide, fun tt htt => ?_⟩
    have h15 := h14.new1 (xs := [.ref q, .ref v]) htt
    have hy1 : { y with mb := r2, bin := y.bin ++ trapC l e } ∈ putM ms { y with mb := r2, bin := y.bin ++ trapC l e } := putM_self
    have g15 : DGet _ A.m (.str y.nm) (some (.ref y.r)) := h15.get (y := { y with mb := r2, bin := y.bin ++ trapC l e }) hy1
    refine ⟨_, rfl, _, rfl, A.m, _, rfl, g15, y.r, _, _, _, rfl, rfl, (h15.rc _ hy1).1, ix4, ?_⟩
    have h16 := h15.setR hy1 (y' := { y with mb := r2, bin := y.bin ++ trapC l e, mt := tt, trap := some (l, e), ml := q, mx := v }) rfl rfl ⟨by simp, by have := ok13.d; simp [this]; exact .inr (by simpa using this), .inr ⟨l, e, rfl, by simp, by simp [fq], by simp [fv]⟩⟩
    have ep : putM (putM ms { y with mb := r2, bin := y.bin ++ trapC l e }) { y with mb := r2, bin := y.bin ++ trapC l e, mt := tt, trap := some (l, e), ml := q, mx := v } = putM ms { y with mb := r2, bin := y.bin ++ trapC l e, mt := tt, trap := some (l, e), ml := q, mx := v } := putM_putM rfl
    rw [ep] at h16
    refine k _ ds7 ⟨_, _, _, h16, ?_, ?_⟩
    · rw [ky_putM, ky_setBin h8.sh.pw hx', eq, n1, n2, n3, n4]
      rfl
    · have gy := g.each y hy
      have ext : CompOk im (y.bin ++ trapC l e) (some (l, e)) := ⟨.inr ⟨l, e, [], rfl, hl5, he, .inl rfl, by rw [hbin, List.append_nil]⟩⟩
      refine g.put (g.nms y hy) ⟨gy.1, gy.2.1, gy.2.2.1, gy.2.2.2.1, ?_⟩ (fun z => ?_) fun z => ?_
      · show (y.bin ++ trapC l e).length ≤ _
        rw [List.length_append, trapC_len]
        omega
      · obtain ⟨yp, hyp, np, okp⟩ := g.pl
        have : y = yp := h8.byN hy hyp (z.trans np.symm)
        subst this
        exact ⟨.inr ⟨l, e, [], rfl, hl5, he, .inl rfl, by
          rcases okp.ok with ⟨_, w⟩ | ⟨_, _, _, w, _⟩
          · show y.bin ++ trapC l e = _
            rw [w, List.append_nil]
          · rw [w] at t0; cases t0⟩⟩
      · obtain ⟨yp, hyp, np, okp⟩ := g.tu
        have : y = yp := h8.byN hy hyp (z.trans np.symm)
        subst this
        exact ⟨.inr ⟨l, e, [], rfl, hl5, he, .inl rfl, by
          rcases okp.ok with ⟨_, w⟩ | ⟨_, _, _, w, _⟩
          · show y.bin ++ trapC l e = _
            rw [w, List.append_nil]
          · rw [w] at t0; cases t0⟩⟩
  · exact ⟨true, .inl ⟨_, SqL.of (h8.hx _ f0), rfl⟩, iteF (k _ ds7 ⟨es, ms, _, h8, eq, g.up (Nat.le_succ _)⟩)⟩
theorem c_law_plant {P : Program} {w : World} {K : PySem.W.Frag} {mg : Str → Option Value} {base : Heap} (T : Txt w K mg) : C8.Cal P w K mg base 5 "_law_plant" (sp_law_plant K) [] := T.cal 89 rfl T.g__law_plant sc_law_plant (fun _ _ _ _ _ _ us hl => match us, hl with | [_, _, _], _ => rfl) l_law_plant (d_law_plant T) (r_law_plant T)
end Pl

set_option Elab.async false
set_option linter.all false
set_option maxRecDepth 100000
set_option maxHeartbeats 4000000
namespace Pl
open PySem PySem.Spec PyProof.Rows L2
/-! ### _law_again -/
def sp_law_again (K : PySem.W.Frag) : Sp := fun vs H Q _ => ∃ A k ds, vs = [.ref A.s, .ref A.m, .ref A.a] ∧ Wld K k H A ds ∧ k ≤ 100 ∧ ∀ H' ds', Wld K (k + 1) H' A ds' → Q (.bl true) H'
theorem sc_law_again : FnScope ["_law_shelf", "_law_model", "_law_draws_here", "_law_name", "_law_text_here", "_law_compiler", "_law_written_here", "_law_due_here", "_law_trap_here"] ["_law_shelf", "_law_model", "_law_draws_here"] (defScope s_law_again) := C8.fnScope_by (by decide +kernel)
def t_law_again (K : PySem.W.Frag) : TS := (tSeq (tAsg (tOp (rIxL K) (tLst (tCons (tC (.str "plain")) (tCons (tC (.str "turned")) tNil))) (tOp rModI (tCB rInt1 (tCons (tCall (sp_law_next K) [] C8.E0 (tCons (tVar 2) tNil)) tNil)) (tC (.int 2)))) (gName 3)) (tSeq (tAsg (tCall (sp_rung_text K) [] C8.E0 (tCons (tVar 3) tNil)) (gName 4)) (tSeq (tAsg (tDGet (tVar 1) (tC (.str "plain"))) (gName 5)) (tSeq (tIfS (tTest (tOp rNotB (tMethN (He.ga K "Shelf") "build" 3 1 (sp_Shelf_build K) gv_Shelf_build_by C8.E0 (tVar 0) (tCons (tVar 3) (tCons (tC (.str "plain")) (tCons (tVar 4) tNil))) (tCons (tC (.str "plain")) tNil)) (tC (.bl true)))) (tRet (tC (.bl false))) tNext) (tSeq (tAsg (tCall (sp_law_written K) [] C8.E0 (tCons (tVar 5) (tCons (tC (.str "plain")) (tCons (tVar 4) tNil)))) (gName 6)) (tSeq (tAsg (tCall (sp_law_due K) [] C8.E0 (tCons (tC (.str "plain")) (tCons (tVar 4) tNil))) (gName 7)) (tSeq (tAsg (tLst tNil) (gName 8)) (tSeq (tIfS (tTest (tOp (rNeD K) (tVar 6) (tVar 7))) (tAsg (tOp (rIxL K) (tVar 5) (tC (.int 4))) (gName 8)) tNext) (tSeq (sDPut (tVar 1) (tVar 3) (tLst (tCons (tC (.str "plain")) (tCons (tVar 4) (tCons (tVar 6) (tCons (tVar 7) (tCons (tVar 8) tNil))))))) (tRet (tC (.bl true))))))))))))
theorem d_law_again {P : Program} {w : World} {K : PySem.W.Frag} {mg : Str → Option Value} {base : Heap} (T : Txt w K mg) (f : Addr) (cdv : Value) (A : Around) (outer : List Env) (s : Shared) (H : Hp) (E : XK) (hr : Room 6 (A.deeper (envOfC "_law_again" (defScope s_law_again) s.heap.objs.size f cdv))) :
    PSs (Bx P w K mg base ["_law_shelf", "_law_model", "_law_draws_here", "_law_name", "_law_text_here", "_law_compiler", "_law_written_here", "_law_due_here", "_law_trap_here"] "_law_again" s_law_again f cdv A outer s H E) (defBody s_law_again) (t_law_again K) :=
  (pss_cons (ps_set (i := 3) sc_law_again.nd rfl (by first | exact Or.inl rfl | exact Or.inr rfl) (pe_ix ix_list (pe_lst (pa_cons pe_str (pa_cons pe_str pa_nil))) (pe_op op_mod (pe_callTy call_int1 (by rfl) T.f_int boot_int (pa_cons (C8.pe_c (c_law_next T) hr (by decide) (by rfl) (pa_cons (pv 2) pa_nil)) pa_nil)) pe_int) (fun _ _ => rfl))) (pss_cons (ps_set (i := 4) sc_law_again.nd rfl (by first | exact Or.inl rfl | exact Or.inr rfl) (C8.pe_c (c_rung_text T) hr (by decide) (by rfl) (pa_cons (pv 3) pa_nil))) (pss_cons (ps_set (i := 5) sc_law_again.nd rfl (by first | exact Or.inl rfl | exact Or.inr rfl) (pe_dget (hu_of hr) (pv 1) pe_str (fun _ _ => rfl))) (pss_cons (ps_if (pt_cmpR op_notBl (pe_mtN (mn_Shelf_build_by T) hr (by decide) (pv 0) (pa_cons (pv 3) (pa_cons pe_str (pa_cons (pv 4) pa_nil))) (pk_cons pe_str pk_nil)) pe_bl (nomark _)) (pss_one (ps_ret pe_bl)) pss_nil) (pss_cons (ps_set (i := 6) sc_law_again.nd rfl (by first | exact Or.inl rfl | exact Or.inr rfl) (C8.pe_c (c_law_written T) hr (by decide) (by rfl) (pa_cons (pv 5) (pa_cons pe_str (pa_cons (pv 4) pa_nil))))) (pss_cons (ps_set (i := 7) sc_law_again.nd rfl (by first | exact Or.inl rfl | exact Or.inr rfl) (C8.pe_c (c_law_due T) hr (by decide) (by rfl) (pa_cons pe_str (pa_cons (pv 4) pa_nil)))) (pss_cons (ps_set (i := 8) sc_law_again.nd rfl (by first | exact Or.inl rfl | exact Or.inr rfl) (pe_lst pa_nil)) (pss_cons (ps_if (pt_cmpR (op_neD hr.units) (pv 6) (pv 7) (nomark _)) (pss_one (ps_set (i := 8) sc_law_again.nd rfl (by first | exact Or.inl rfl | exact Or.inr rfl) (pe_ix ix_list (pv 5) pe_int (fun _ _ => rfl)))) pss_nil) (pss_cons (ps_dput (hu_of hr) (pv 1) (pv 3) (pe_lst (pa_cons pe_str (pa_cons (pv 4) (pa_cons (pv 6) (pa_cons (pv 7) (pa_cons (pv 8) pa_nil)))))) rfl) (pss_one (ps_ret pe_bl)))))))))))
theorem l_law_again {K : PySem.W.Frag} : ∀ vs H Q E, sp_law_again K vs H Q E → vs.length = ["_law_shelf", "_law_model", "_law_draws_here"].length := by
  rintro vs H Q E ⟨_, _, _, rfl, _⟩
  rfl
theorem kdP : kindB "plain" = true := by decide +kernel
theorem due_plain (t : Str) : dueOf "plain" t = trans 200 1 (codesS t) := by
  unfold dueOf
  rw [if_neg (by decide +kernel)]
/-- the text of a compiler, built anew -/
theorem again_text {z : V} (h : z = .str "plain" ∨ z = .str "turned") : ∃ n t im, z = .str n ∧ (n, V.str t) ∈ textsV ∧ n ∈ namesL ∧ goodS t = true ∧ t.cps.toList.length ≤ 304 ∧ dueOf "plain" t = im ∧ ((n = "plain" ∧ im = imP) ∨ (n = "turned" ∧ im = imT)) := by
  rcases h with rfl | rfl
  · exact ⟨"plain", strE (top 44), imP, rfl, tP, by decide +kernel, text_P.1, by rw [text_P.2]; decide, by rw [due_plain]; exact imP_eq, .inl ⟨rfl, rfl⟩⟩
  · exact ⟨"turned", strE (top 45), imT, rfl, tT, by decide +kernel, text_T.1, by rw [text_T.2]; decide, by rw [due_plain]; exact imT_eq, .inr ⟨rfl, rfl⟩⟩
theorem more_cases {im bin : List Int} {trap : Option (List Int × List Int)} (ok : CompOk im bin trap) (nums : List Int) : moreOf trap nums = [] ∨ ∃ l e, trap = some (l, e) ∧ l ∈ luresL ∧ e ∈ exsL ∧ moreOf trap nums = e ++ trapC l e ∧ moreOf trap nums ≠ [] := by
  rcases ok.ok with ⟨rfl, _⟩ | ⟨l, e, ext, rfl, h1, h2, _, _⟩
  · exact .inl rfl
  · unfold moreOf
    dsimp only
    by_cases c : nums.take l.length = l
    · rw [if_pos c]
      refine .inr ⟨l, e, rfl, h1, h2, rfl, fun z => ?_⟩
      have := congrArg List.length z
      rw [List.length_append, trapC_len, List.length_nil] at this
      omega
    · rw [if_neg c]
      exact .inl rfl
theorem r_law_again {w : World} {K : PySem.W.Frag} {mg : Str → Option Value} (T : Txt w K mg) : ∀ vs H Q E, sp_law_again K vs H Q E → t_law_again K { nx := fun _ H' => Q .non H', rt := Q } (start ["_law_shelf", "_law_model", "_law_draws_here", "_law_name", "_law_text_here", "_law_compiler", "_law_written_here", "_law_due_here", "_law_trap_here"] vs) H := by
  rintro vs H Q E ⟨A, k0, ds, rfl, ⟨es, ms, fx, h, eq, g⟩, hk0, k⟩
  refine pick2 h rfl fun H1 ds1 z hz h1 => ?_
  obtain ⟨n, t, im, rfl, htx, nn, hg, hl, hd, hni⟩ := again_text hz
  refine ⟨_, rfl, n, _, rfl, htx, ?_⟩
  obtain ⟨y, hy, hyn, ok⟩ := g.pl
  obtain ⟨x, hx, n1, n2, n3, n4⟩ := partner eq hy
  have gm := h1.get hy
  rw [hyn] at gm n1
  refine ⟨_, rfl, A.m, _, rfl, gm, ?_⟩
  have hcl : (codesS t).length ≤ 400 := by rw [codes_len]; omega
  have en := comp_ends cpP ok (codesS t) (codes_small hg) hcl
  rw [← due_plain] at en
  obtain ⟨b1, b2⟩ := comp_bin plB_P ok
  have len := keys_len eq
  have gl := g.len
  rw [← n4] at en b1 b2
  obtain ⟨o1, o2⟩ := go_end en
  refine ⟨_, rfl, A.s, A.dxs, _, rfl, h1.sh.ob, shNo_build, _, rfl, _, rfl, rfl, rfl, A.s, A.dxs, A.d, es, n, "plain", t, x, 100000, ?_, h1.sh, (names_ok nn).1, by decide +kernel, hg, by omega, by omega, hx, b1, by omega, by omega, fun _ e dx bb H6 nb sh6 k6 => ?_, fun q hq H7 s7 => ?_⟩
  · rw [n1]
    rfl
  · refine ⟨true, true, rfl, rfl, _, rfl, iteF ?_⟩
    have hS := built h1 sh6 k6 nb
    refine ⟨_, rfl, _, rfl, A, _, ms, fx, ds1, y, "plain", t, imP, rfl, hS, hy, ok, by omega, fun p1 H7 s7 m7 e7 => ?_⟩
    refine ⟨_, rfl, "plain", t, rfl, by omega, fun p2 H8 s8 m8 e8 => ?_⟩
    refine ⟨Nat.zero_le _, fun p3 m9 => ?_⟩
    have s69 : Same H6 (upd H8 p3 (.lst [])) := s7.trans (s8.trans (Same.new m9))
    have e7' : upd H8 p3 (.lst []) p1 = _ := upd_old (s8 _ _ e7) m9
    have e8' : upd H8 p3 (.lst []) p2 = _ := upd_old e8 m9
    have e9' : upd H8 p3 (.lst []) p3 = some (.lst []) := upd_same
    have f9 : H6 p3 = none := (s7.trans s8).free m9
    have f8 : H6 p2 = none := s7.free m8
    generalize upd H8 p3 (.lst []) = H9 at s69 e7' e8' e9' ⊢
    have h9 := hS.same s69
    refine ⟨_, rfl, _, rfl, dI _, dI _, dpL e7', dpL e8', shI _, shI _, _, rfl, ?_⟩
    rw [eqvD]
    have dl := due_len "plain" t
    have ml := more_len ok (codesS t)
    have hps : ∀ x ∈ [(p1, iL (dueOf "plain" t ++ moreOf y.trap (codesS t))), (p2, iL (dueOf "plain" t)), (p3, [])], H6 x.1 = none ∧ H9 x.1 = some (.lst x.2) := by
      simp only [List.forall_mem_cons]
      exact ⟨⟨m7, e7'⟩, ⟨f8, e8'⟩, ⟨f9, e9'⟩, fun _ z => nomatch z⟩
    have lens : (dueOf "plain" t ++ moreOf y.trap (codesS t)).length ≤ 100000 + (k0 + 1) := by rw [List.length_append]; omega
    have ky : ∀ (tr : Option (List Int × List Int)) (r mt ml mx : Addr), kM ⟨n, "plain", t, dueOf "plain" t ++ moreOf y.trap (codesS t), dueOf "plain" t, tr, r, p1, p2, mt, ml, mx⟩ = kE ⟨n, "plain", t, (goS x.bin t 100000).2.out.reverse, e, dx, bb⟩ := fun tr r mt ml mx => by
      show (n, ("plain" : Str), t, _) = (n, ("plain" : Str), t, _)
      rw [← o2]
    rcases more_cases ok (codesS t) with hm | ⟨l, ee, tr, hl1, he1, hm, hm0⟩
    · rw [decide_eq_true (show dueOf "plain" t ++ moreOf y.trap (codesS t) = dueOf "plain" t by rw [hm, List.append_nil])]
      refine iteF ?_
      refine ⟨_, rfl, _, rfl, _, rfl, _, rfl, by show 5 ≤ sizeLine; decide, fun r mr => ?_⟩
      refine ⟨_, rfl, _, rfl, A.m, _, rfl, pDM h9 (by omega) n r mr, ?_⟩
      refine k _ ds1 ?_
      refine put_wld (y' := ⟨n, "plain", t, dueOf "plain" t ++ moreOf y.trap (codesS t), dueOf "plain" t, none, r, p1, p2, p3, p3, p3⟩) (ps := [(p1, iL (dueOf "plain" t ++ moreOf y.trap (codesS t))), (p2, iL (dueOf "plain" t)), (p3, [])]) hS eq g s69 hps mr ⟨by simp, by simp, .inl ⟨rfl, by simp⟩⟩ (ky ..) nn ⟨rfl, kdP, hg, by show t.cps.toList.length ≤ 5000; omega, lens⟩ (fun z => ⟨.inl ⟨rfl, ?_⟩⟩) (fun z => ⟨.inl ⟨rfl, ?_⟩⟩)
      · show dueOf "plain" t ++ moreOf y.trap (codesS t) = _
        rw [hm, List.append_nil, hd]
        rcases hni with ⟨_, e⟩ | ⟨e1, _⟩
        · exact e
        · have z' : n = "plain" := z
          rw [e1] at z'
          exact absurd z' (by decide +kernel)
      · show dueOf "plain" t ++ moreOf y.trap (codesS t) = _
        rw [hm, List.append_nil, hd]
        rcases hni with ⟨e1, _⟩ | ⟨_, e⟩
        · have z' : n = "turned" := z
          rw [e1] at z'
          exact absurd z' (by decide +kernel)
        · exact e
    · rw [decide_eq_false (show ¬ dueOf "plain" t ++ moreOf y.trap (codesS t) = dueOf "plain" t from fun z => hm0 (by simpa using z))]
      refine iteT ⟨_, rfl, y.r, _, _, _, rfl, rfl, SqL.of (h9.rc y hy).1, rec4, ?_⟩
      refine ⟨_, rfl, _, rfl, _, rfl, _, rfl, by show 5 ≤ sizeLine; decide, fun r mr => ?_⟩
      refine ⟨_, rfl, _, rfl, A.m, _, rfl, pDM h9 (by omega) n r mr, ?_⟩
      refine k _ ds1 ?_
      have tk : ∃ l e, some (l, ee) = some (l, e) := ⟨l, ee, rfl⟩
      have co : CompOk im (dueOf "plain" t ++ moreOf y.trap (codesS t)) (some (l, ee)) := ⟨.inr ⟨l, ee, ee, rfl, hl1, he1, .inr rfl, by rw [hm, hd, List.append_assoc]⟩⟩
      refine put_wld (y' := ⟨n, "plain", t, dueOf "plain" t ++ moreOf y.trap (codesS t), dueOf "plain" t, some (l, ee), r, p1, p2, y.mt, y.ml, y.mx⟩) (ps := [(p1, iL (dueOf "plain" t ++ moreOf y.trap (codesS t))), (p2, iL (dueOf "plain" t)), (p3, [])]) hS eq g s69 hps mr ⟨by simp, by simp, ?_⟩ (ky ..) nn ⟨rfl, kdP, hg, by show t.cps.toList.length ≤ 5000; omega, lens⟩ (fun z => ?_) (fun z => ?_)
      · rcases (h.rc y hy).2.t with ⟨t0, _⟩ | ⟨l', e', t0, f0, fl, fe⟩
        · rw [tr] at t0; cases t0
        · rw [tr] at t0
          injection t0 with t0
          injection t0 with t1 t2
          subst t1 t2
          exact .inr ⟨l, ee, rfl, by simp [f0], by simp [fl], by simp [fe]⟩
      · rcases hni with ⟨_, e⟩ | ⟨e1, _⟩
        · rw [e] at co
          exact co
        · have z' : n = "plain" := z
          rw [e1] at z'
          exact absurd z' (by decide +kernel)
      · rcases hni with ⟨e1, _⟩ | ⟨_, e⟩
        · have z' : n = "turned" := z
          rw [e1] at z'
          exact absurd z' (by decide +kernel)
        · rw [e] at co
          exact co
  · have hq' : look x.bin (goM (look x.bin) (lowOf (look x.bin)) x.bin (codesS t) 100000 (m0 (codesS t))).2.at_ = some q := hq
    rw [o1] at hq'
    cases hq'
theorem c_law_again {P : Program} {w : World} {K : PySem.W.Frag} {mg : Str → Option Value} {base : Heap} (T : Txt w K mg) : C8.Cal P w K mg base 7 "_law_again" (sp_law_again K) [] := T.cal 90 rfl T.g__law_again sc_law_again (fun _ _ _ _ _ _ us hl => match us, hl with | [_, _, _], _ => rfl) l_law_again (d_law_again T) (r_law_again T)
end Pl

set_option Elab.async false
set_option linter.all false
set_option maxRecDepth 100000
set_option maxHeartbeats 4000000
namespace Pl
open PySem PySem.Spec PyProof.Rows L2
/-! ### _law_move -/
def sp_law_move (K : PySem.W.Frag) : Sp := fun vs H Q _ => ∃ A k ds, vs = [.ref A.s, .ref A.m, .ref A.a] ∧ Wld K k H A ds ∧ k ≤ 100 ∧ ∀ H' ds', Wld K (k + 2) H' A ds' → Q (.bl true) H'
theorem sc_law_move : FnScope ["_law_shelf", "_law_model", "_law_draws_here", "_law_built", "_law_name", "_law_one", "_law_other", "_law_kind", "_law_kept", "_law_binary", "_law_place_here", "_law_number_here"] ["_law_shelf", "_law_model", "_law_draws_here"] (defScope s_law_move) := C8.fnScope_by (by decide +kernel)
def t_law_move (K : PySem.W.Frag) : TS := (tSeq (tAsg (tLc (iList K (tLst (tCons (tC (.str "x")) (tCons (tC (.str "y")) (tCons (tC (.str "z")) tNil))))) (gName 4) (tB (tDIn (tVar 4) (tVar 1))) (tVar 4) [4]) (gName 3)) (tSeq (tIfS (tNot (tTru K (tVar 3))) (tRet (tC (.bl true))) tNext) (tSeq (tAsg (tOp (rIxL K) (tVar 3) (tOp rModI (tCB rInt1 (tCons (tCall (sp_law_next K) [] C8.E0 (tCons (tVar 2) tNil)) tNil)) (tCB (rLenSeq K) (tCons (tVar 3) tNil)))) (gName 5)) (tSeq (tAsg (tOp (rIxL K) (tVar 3) (tOp rModI (tCB rInt1 (tCons (tCall (sp_law_next K) [] C8.E0 (tCons (tVar 2) tNil)) tNil)) (tCB (rLenSeq K) (tCons (tVar 3) tNil)))) (gName 6)) (tSeq (tAsg (tOp rModI (tCB rInt1 (tCons (tCall (sp_law_next K) [] C8.E0 (tCons (tVar 2) tNil)) tNil)) (tC (.int 3))) (gName 7)) (tSeq (tIfS (tTest (tOp rEq (tVar 7) (tC (.int 0)))) (tSeq (tDrop (tMeth (He.ga K "Shelf") "swap" (sp_Shelf_swap K) [] C8.E0 (tVar 0) (tCons (tVar 5) (tCons (tVar 6) tNil)))) (tSeq (tAsg (tOp (rIxL K) (tDGet (tVar 1) (tVar 5)) (tC (.int 2))) (gName 8)) (tSeq (tAsg (tOp (rIxL K) (tDGet (tVar 1) (tVar 6)) (tC (.int 2))) (gSub (tDGet (tVar 1) (tVar 5)) (tC (.int 2)) rSetL)) (tAsg (tVar 8) (gSub (tDGet (tVar 1) (tVar 6)) (tC (.int 2)) rSetL))))) (tIfS (tTest (tOp rEq (tVar 7) (tC (.int 1)))) (tSeq (tDrop (tMeth (He.ga K "Shelf") "clone" (sp_Shelf_clone K) [] C8.E0 (tVar 0) (tCons (tVar 5) (tCons (tVar 6) tNil)))) (tAsg (tOp (rIxL K) (tDGet (tVar 1) (tVar 5)) (tC (.int 2))) (gSub (tDGet (tVar 1) (tVar 6)) (tC (.int 2)) rSetL))) (tSeq (tAsg (tOp (rIxL K) (tDGet (tVar 1) (tVar 5)) (tC (.int 2))) (gName 9)) (tSeq (tAsg (tOp rModI (tCB rInt1 (tCons (tOp rAddI (tOp rMulI (tC (.int 1000)) (tCall (sp_law_next K) [] C8.E0 (tCons (tVar 2) tNil))) (tCall (sp_law_next K) [] C8.E0 (tCons (tVar 2) tNil))) tNil)) (tOp rAddI (tCB (rLenSeq K) (tCons (tVar 9) tNil)) (tC (.int 1)))) (gName 10)) (tSeq (tAsg (tOp rSubI (tOp rModI (tCB rInt1 (tCons (tCall (sp_law_next K) [] C8.E0 (tCons (tVar 2) tNil)) tNil)) (tC (.int 220))) (tC (.int 9))) (gName 11)) (tSeq (tDrop (tMeth (He.ga K "Shelf") "damage" (sp_Shelf_damage K) [] C8.E0 (tVar 0) (tCons (tVar 5) (tCons (tVar 10) (tCons (tVar 11) tNil))))) (tAsg (tOp rCat (tOp rCat (tSl (rSlL K) (tVar 9) tNoPart (tPart (tVar 10))) (tLst (tCons (tVar 11) tNil))) (tSl (rSlL K) (tVar 9) (tPart (tOp rAddI (tVar 10) (tC (.int 1)))) tNoPart)) (gSub (tDGet (tVar 1) (tVar 5)) (tC (.int 2)) rSetL)))))))) (tRet (tC (.bl true)))))))))
theorem d_law_move {P : Program} {w : World} {K : PySem.W.Frag} {mg : Str → Option Value} {base : Heap} (T : Txt w K mg) (f : Addr) (cdv : Value) (A : Around) (outer : List Env) (s : Shared) (H : Hp) (E : XK) (hr : Room 2 (A.deeper (envOfC "_law_move" (defScope s_law_move) s.heap.objs.size f cdv))) :
    PSs (Bx P w K mg base ["_law_shelf", "_law_model", "_law_draws_here", "_law_built", "_law_name", "_law_one", "_law_other", "_law_kind", "_law_kept", "_law_binary", "_law_place_here", "_law_number_here"] "_law_move" s_law_move f cdv A outer s H E) (defBody s_law_move) (t_law_move K) :=
  (pss_cons (ps_setLc (i := 3) (own := [("_law_name", 4)]) (g := gName 4) (tt := (tB (tDIn (tVar 4) (tVar 1)))) rfl sc_law_move.nd rfl rfl (sw_true rfl rfl rfl (by decide +kernel)) (pi_list (pe_lst (pa_cons pe_str (pa_cons pe_str (pa_cons pe_str pa_nil))))) (blkOk_by (own := [("_law_name", 4)]) (N := ["_law_shelf", "_law_model", "_law_draws_here", "_law_built", "_law_name", "_law_one", "_law_other", "_law_kind", "_law_kept", "_law_binary", "_law_place_here", "_law_number_here"]) (sc := defScope s_law_move) (by decide +kernel)) (fun _ _ _ _ _ => pg_name (i := 4) sc_law_move.nd rfl (Or.inl rfl)) (fun _ _ _ _ _ => (pts_one (pt_cmp (pc_din (hu_of hr) (pv 4) (pv 1))))) (fun _ _ _ _ _ => (pv 4))) (pss_cons (ps_if (pt_not (pt_truth (pv 3) (by intro _; rfl))) (pss_one (ps_ret pe_bl)) pss_nil) (pss_cons (ps_set (i := 5) sc_law_move.nd rfl (by first | exact Or.inl rfl | exact Or.inr rfl) (pe_ix ix_list (pv 3) (pe_op op_mod (pe_callTy call_int1 (by rfl) T.f_int boot_int (pa_cons (C8.pe_c (c_law_next T) hr (by decide) (by rfl) (pa_cons (pv 2) pa_nil)) pa_nil)) (pe_callB call_len_seq (by rfl) T.f_len boot_len (pa_cons (pv 3) pa_nil))) (fun _ _ => rfl))) (pss_cons (ps_set (i := 6) sc_law_move.nd rfl (by first | exact Or.inl rfl | exact Or.inr rfl) (pe_ix ix_list (pv 3) (pe_op op_mod (pe_callTy call_int1 (by rfl) T.f_int boot_int (pa_cons (C8.pe_c (c_law_next T) hr (by decide) (by rfl) (pa_cons (pv 2) pa_nil)) pa_nil)) (pe_callB call_len_seq (by rfl) T.f_len boot_len (pa_cons (pv 3) pa_nil))) (fun _ _ => rfl))) (pss_cons (ps_set (i := 7) sc_law_move.nd rfl (by first | exact Or.inl rfl | exact Or.inr rfl) (pe_op op_mod (pe_callTy call_int1 (by rfl) T.f_int boot_int (pa_cons (C8.pe_c (c_law_next T) hr (by decide) (by rfl) (pa_cons (pv 2) pa_nil)) pa_nil)) pe_int)) (pss_cons (ps_if (pt_cmpR op_eq (pv 7) pe_int (nomark _)) (pss_cons (ps_expr (C8.pe_mt (m_Shelf_swap T) hr (by decide) (pv 0) (pa_cons (pv 5) (pa_cons (pv 6) pa_nil)))) (pss_cons (ps_set (i := 8) sc_law_move.nd rfl (by first | exact Or.inl rfl | exact Or.inr rfl) (pe_ix ix_list (pe_dget (hu_of hr) (pv 1) (pv 5) (fun _ _ => rfl)) pe_int (fun _ _ => rfl))) (pss_cons (ps_asg (pe_ix ix_list (pe_dget (hu_of hr) (pv 1) (pv 6) (fun _ _ => rfl)) pe_int (fun _ _ => rfl)) (pg_sub (pe_dget (hu_of hr) (pv 1) (pv 5) (fun _ _ => rfl)) pe_int set_list)) (pss_one (ps_asg (pv 8) (pg_sub (pe_dget (hu_of hr) (pv 1) (pv 6) (fun _ _ => rfl)) pe_int set_list)))))) (pss_one (ps_if (pt_cmpR op_eq (pv 7) pe_int (nomark _)) (pss_cons (ps_expr (C8.pe_mt (m_Shelf_clone T) hr (by decide) (pv 0) (pa_cons (pv 5) (pa_cons (pv 6) pa_nil)))) (pss_one (ps_asg (pe_ix ix_list (pe_dget (hu_of hr) (pv 1) (pv 5) (fun _ _ => rfl)) pe_int (fun _ _ => rfl)) (pg_sub (pe_dget (hu_of hr) (pv 1) (pv 6) (fun _ _ => rfl)) pe_int set_list)))) (pss_cons (ps_set (i := 9) sc_law_move.nd rfl (by first | exact Or.inl rfl | exact Or.inr rfl) (pe_ix ix_list (pe_dget (hu_of hr) (pv 1) (pv 5) (fun _ _ => rfl)) pe_int (fun _ _ => rfl))) (pss_cons (ps_set (i := 10) sc_law_move.nd rfl (by first | exact Or.inl rfl | exact Or.inr rfl) (pe_op op_mod (pe_callTy call_int1 (by rfl) T.f_int boot_int (pa_cons (pe_op op_add (pe_op op_mul pe_int (C8.pe_c (c_law_next T) hr (by decide) (by rfl) (pa_cons (pv 2) pa_nil))) (C8.pe_c (c_law_next T) hr (by decide) (by rfl) (pa_cons (pv 2) pa_nil))) pa_nil)) (pe_op op_add (pe_callB call_len_seq (by rfl) T.f_len boot_len (pa_cons (pv 9) pa_nil)) pe_int))) (pss_cons (ps_set (i := 11) sc_law_move.nd rfl (by first | exact Or.inl rfl | exact Or.inr rfl) (pe_op op_sub (pe_op op_mod (pe_callTy call_int1 (by rfl) T.f_int boot_int (pa_cons (C8.pe_c (c_law_next T) hr (by decide) (by rfl) (pa_cons (pv 2) pa_nil)) pa_nil)) pe_int) pe_int)) (pss_cons (ps_expr (C8.pe_mt (m_Shelf_damage T) hr (by decide) (pv 0) (pa_cons (pv 5) (pa_cons (pv 10) (pa_cons (pv 11) pa_nil))))) (pss_one (ps_asg (pe_op op_cat (pe_op op_cat (pe_slice sl_list (pv 9) po_none (po_some (pv 10))) (pe_lst (pa_cons (pv 11) pa_nil))) (pe_slice sl_list (pv 9) (po_some (pe_op op_add (pv 10) pe_int)) po_none)) (pg_sub (pe_dget (hu_of hr) (pv 1) (pv 5) (fun _ _ => rfl)) pe_int set_list)))))))))) (pss_one (ps_ret pe_bl))))))))
theorem l_law_move {K : PySem.W.Frag} : ∀ vs H Q E, sp_law_move K vs H Q E → vs.length = ["_law_shelf", "_law_model", "_law_draws_here"].length := by
  rintro vs H Q E ⟨_, _, _, rfl, _⟩
  rfl
theorem val_some {n : Str} {v : V} : ∀ {ms : List Mo}, valV (kvM ms) (Sum.inr n : Key) = some v → ∃ y ∈ ms, y.nm = n
  | [], h => by cases h
  | a :: r, h => by
    unfold valV kvM at h
    rw [List.map_cons, List.find?_cons] at h
    by_cases e : a.nm = n
    · exact ⟨a, List.mem_cons_self, e⟩
    · rw [decide_eq_false (show ¬ ((Sum.inr a.nm : Key) = Sum.inr n) from fun z => e (Sum.inr.inj z))] at h
      obtain ⟨y, hy, e2⟩ := val_some (ms := r) h
      exact ⟨y, List.mem_cons_of_mem _ hy, e2⟩
theorem hurt_eq : ∀ (l : List Int) (i : Nat) (n : Int), i ≤ l.length → hurt l i n = l.take i ++ [n] ++ l.drop (i + 1)
  | [], 0, n, _ => rfl
  | x :: l, 0, n, _ => by
    unfold hurt
    rw [if_neg (by simp)]
    rfl
  | x :: l, i + 1, n, h => by
    have ih := hurt_eq l i n (by simpa using h)
    unfold hurt at ih ⊢
    by_cases e : i = l.length
    · rw [if_pos e] at ih
      rw [if_pos (by simp [e])]
      show x :: (l ++ [n]) = x :: (l.take i ++ [n] ++ l.drop (i + 1))
      rw [ih]
    · rw [if_neg e] at ih
      rw [if_neg (by simpa using e)]
      show x :: l.set i n = x :: (l.take i ++ [n] ++ l.drop (i + 1))
      rw [ih]
def isXyz (n : Str) : Prop := n = "x" ∨ n = "y" ∨ n = "z"
/-- a name of the list, drawn -/
theorem pickL {K : PySem.W.Frag} {H : Hp} {A : Ad} {es : List En} {ms : List Mo} {fx : Fx} {ds : List Int} {σ : L2.St} {Q : VK} {D : Addr} {ns : List Str} (h : St0 K H A es ms fx ds) (hs : σ[2]? = some (some (.ref A.a))) (h3 : σ[3]? = some (some (.ref D))) (hD : (D, ns.map V.str) ∈ fx) (hp : 0 < ns.length) (k : ∀ H' ds' n, n ∈ ns → St0 K H' A es ms fx ds' → Q (.str n) H') :
    tOp (rIxL K) (tVar 3) (tOp rModI (tCB rInt1 (tCons (tCall (sp_law_next K) [] C8.E0 (tCons (tVar 2) tNil)) tNil)) (tCB (rLenSeq K) (tCons (tVar 3) tNil))) σ H Q := by
  refine ⟨_, h3, popT h hs fun h1 => .inl ⟨_, rfl, _, h3, D, _, rfl, .inl (SqL.of (h1.hx _ hD)), ?_⟩⟩
  have e : (ns.map V.str).length = ns.length := by rw [List.length_map]
  have c0 : 0 ≤ ds.headD 0 % ((ns.map V.str).length : Int) := Int.emod_nonneg _ (by rw [e]; omega)
  have c1 : ds.headD 0 % ((ns.map V.str).length : Int) < ((ns.map V.str).length : Int) := Int.emod_lt_of_pos _ (by rw [e]; omega)
  generalize hx : ds.headD 0 % ((ns.map V.str).length : Int) = x at c0 c1
  rw [e] at c1
  obtain ⟨n, hn⟩ : ∃ n, ns[x.toNat]? = some n := ⟨_, List.getElem?_eq_getElem (by omega)⟩
  refine ⟨_, _, rfl, rfl, by show (0 : Int) < ((ns.map V.str).length : Int); rw [e]; omega, D, _, x, .str n, rfl, by show V.int _ = V.int x; rw [hx], SqL.of (h1.hx _ hD), ?_, k _ _ n (List.mem_of_getElem? hn) h1⟩
  have := atI_nat (xs := ns.map V.str) (j := x.toNat) (v := .str n) (by rw [List.getElem?_map, hn]; rfl)
  rw [Int.toNat_of_nonneg c0] at this
  exact this
/-- a record whose binary is another -/
theorem setMb {K : PySem.W.Frag} {H : Hp} {A : Ad} {es : List En} {ms : List Mo} {fx : Fx} {ds : List Int} {y : Mo} {mb : Addr} {bin : List Int} (h : St0 K H A es ms fx ds) (hy : y ∈ ms) (hb : (mb, iL bin) ∈ fx) : St0 K (upd H y.r (.lst ((recV y).set 2 (.ref mb)))) A es (putM ms { y with mb := mb, bin := bin }) fx ds :=
  h.setR hy (y' := { y with mb := mb, bin := bin }) rfl rfl ⟨hb, (h.rc y hy).2.d, (h.rc y hy).2.t⟩
theorem putG {k : Nat} {ms : List Mo} (g : GoodM k ms) {y : Mo} {mb : Addr} {bin : List Int} (hy : y ∈ ms) (hx : isXyz y.nm) (hb : bin.length ≤ 100000 + (k + 1)) : GoodM (k + 1) (putM ms { y with mb := mb, bin := bin }) := by
  obtain ⟨nn, np, nt⟩ := xyz hx
  have e := g.each y hy
  exact g.put (y := { y with mb := mb, bin := bin }) nn ⟨e.1, e.2.1, e.2.2.1, e.2.2.2.1, hb⟩ (fun z => absurd z np) (fun z => absurd z nt)
theorem r_law_move {w : World} {K : PySem.W.Frag} {mg : Str → Option Value} (T : Txt w K mg) : ∀ vs H Q E, sp_law_move K vs H Q E → t_law_move K { nx := fun _ H' => Q .non H', rt := Q } (start ["_law_shelf", "_law_model", "_law_draws_here", "_law_built", "_law_name", "_law_one", "_law_other", "_law_kind", "_law_kept", "_law_binary", "_law_place_here", "_law_number_here"] vs) H := by
  rintro vs H Q E ⟨A, k0, ds, rfl, ⟨es, ms, fx, h, eq, g⟩, hk0, k⟩
  refine ⟨by show 3 ≤ sizeLine; decide, fun u hu => ⟨u, rfl, ⟨_, SqL.of upd_same⟩, fun D hD => ?_⟩⟩
  have h1 := h.same (Same.new (o := .lst [.str "x", .str "y", .str "z"]) hu)
  have u1 : upd H u (.lst [.str "x", .str "y", .str "z"]) u = some (.lst [.str "x", .str "y", .str "z"]) := upd_same
  generalize upd H u (.lst [.str "x", .str "y", .str "z"]) = H1 at h1 u1 hD ⊢
  refine lc_list (K := K) (a := u) (xs := [.str "x", .str "y", .str "z"]) (fun i H' => Same H1 H' ∧ ∃ ns : List Str, H' D = some (.lst (ns.map V.str)) ∧ ns.length ≤ i ∧ ∀ n ∈ ns, isXyz n ∧ ∃ y ∈ ms, y.nm = n) ⟨Same.new hD, [], upd_same, Nat.zero_le _, fun n z => nomatch z⟩ (fun i H' _ p => SqL.of (p.1 _ _ u1)) ?_ ?_
  · rintro i v H' hv ⟨s, ns, hn, hl, hf⟩
    have h2 := h1.same s
    obtain ⟨n, rfl, hxy⟩ : ∃ n : Str, v = .str n ∧ isXyz n := by
      match i, hv with
      | 0, hv => exact ⟨"x", (Option.some.inj hv).symm, .inl rfl⟩
      | 1, hv => exact ⟨"y", (Option.some.inj hv).symm, .inr (.inl rfl)⟩
      | 2, hv => exact ⟨"z", (Option.some.inj hv).symm, .inr (.inr rfl)⟩
      | i + 3, hv => simp at hv
    have hi : i < 3 := (List.getElem?_eq_some_iff.mp hv).1
    refine ⟨rfl, _, rfl, _, rfl, A.m, _, rfl, DGet.k (k := Sum.inr n) h2.hm, _, rfl, ?_⟩
    cases ev : valV (kvM ms) (Sum.inr n : Key) with
    | none => exact iteF ⟨s, ns, hn, by omega, hf⟩
    | some vv =>
      refine iteT ⟨_, rfl, _, hn, line_lt (by rw [List.length_map]; omega), ?_, ns ++ [n], ?_, by simp; omega, ?_⟩
      · exact ((Same.keepL s (l := [D])).trans (KeepL.upd (by simp))).same (Same.refl H1) (by simpa using hD)
      · rw [upd_same, List.map_append]
        rfl
      · intro n' hn'
        rcases List.mem_append.mp hn' with z | z
        · exact hf n' z
        · rw [List.mem_singleton.mp z]
          exact ⟨hxy, val_some ev⟩
  · rintro H2 ⟨s, ns, hn, hl, hf⟩
    have h2 := h1.newL s hD hn
    have fD : (D, ns.map V.str) ∈ (D, ns.map V.str) :: fx := by simp
    have fin : ∀ H' ds', Wld K (k0 + 2) H' A ds' → Q (.bl true) H' := k
    cases hns : ns with
    | nil =>
      rw [hns] at hn
      refine ⟨_, rfl, false, .inl ⟨_, SqL.of hn, rfl⟩, iteT ?_⟩
      exact k _ ds ⟨es, ms, _, h2, eq, g.up (by omega)⟩
    | cons n0 nr =>
      refine ⟨_, rfl, true, .inl ⟨_, SqL.of hn, by rw [hns]; rfl⟩, iteF ?_⟩
      have hp : 0 < ns.length := by rw [hns]; simp
      refine pickL h2 rfl rfl fD hp fun H3 ds3 one hone h3 => ?_
      refine pickL h3 rfl rfl fD hp fun H4 ds4 other hoth h4 => ?_
      obtain ⟨xo, y1, hy1, rfl⟩ := hf one hone
      obtain ⟨xt, y2, hy2, rfl⟩ := hf other hoth
      obtain ⟨x1, hx1, a1, a2, a3, a4⟩ := partner eq hy1
      obtain ⟨x2, hx2, c1, c2, c3, c4⟩ := partner eq hy2
      have gl := g.len
      have g1 := (g.each y1 hy1).2.2.2.2
      have g2 := (g.each y2 hy2).2.2.2.2
      refine popMod h4 rfl 3 (by decide) fun H5 ds5 q q0 q1 h5 k5 => ?_
      refine ⟨_, rfl, rfl, _, rfl, ?_⟩
      rw [int_eq_dec]
      by_cases e0 : q = 0
      · refine iteDT e0 ?_
        refine ⟨_, rfl, A.s, A.dxs, _, rfl, h5.sh.ob, shNo_swap, _, rfl, _, rfl, A.s, A.dxs, A.d, es, x1, x2, by rw [a1, c1]; rfl, h5.sh, hx1, hx2, fun H6 sh6 k6 => ?_⟩
        have h6 : St0 K H6 A _ ms ((D, ns.map V.str) :: fx) ds5 := h5.shelf sh6 k6 (fun c hc => by
          simp only [List.mem_cons, List.mem_nil_iff, or_false] at hc
          rcases hc with rfl | rfl
          · exact .inr ⟨x1, hx1, .inl rfl⟩
          · exact .inr ⟨x2, hx2, .inl rfl⟩) fun e0 he0 => .inl <| (setBin_bs he0).elim (fun z => ⟨x1, hx1, z⟩) fun ⟨e2, he2, z⟩ => (setBin_bs he2).elim (fun z2 => ⟨x2, hx2, z.trans z2⟩) fun ⟨e3, he3, z3⟩ => ⟨e3, he3, z.trans z3⟩
        refine ⟨_, rfl, _, rfl, A.m, _, rfl, h6.get hy1, y1.r, _, _, _, rfl, rfl, SqL.of (h6.rc y1 hy1).1, rec2, ?_⟩
        refine ⟨_, rfl, _, rfl, A.m, _, rfl, h6.get hy2, y2.r, _, _, _, rfl, rfl, SqL.of (h6.rc y2 hy2).1, rec2, ?_⟩
        refine ⟨_, rfl, _, rfl, A.m, _, rfl, h6.get hy1, y1.r, _, _, _, rfl, rfl, (h6.rc y1 hy1).1, ix2, ?_⟩
        have h7 := setMb h6 hy1 (h6.rc y2 hy2).2.b
        have hyc : ∃ yc ∈ putM ms { y1 with mb := y2.mb, bin := y2.bin }, yc.nm = y2.nm ∧ yc.kind = y2.kind ∧ yc.text = y2.text := by
          by_cases c : y2.nm = y1.nm
          · have : y2 = y1 := h6.byN hy2 hy1 c
            subst this
            exact ⟨_, putM_self, rfl, rfl, rfl⟩
          · exact ⟨y2, putM_old hy2 c, rfl, rfl, rfl⟩
        obtain ⟨yc, hyc, d1, d2, d3⟩ := hyc
        have gc := h7.get hyc
        rw [d1] at gc
        refine ⟨_, rfl, _, rfl, _, rfl, A.m, _, rfl, gc, yc.r, _, _, _, rfl, rfl, (h7.rc yc hyc).1, ix2, ?_⟩
        have h8 := setMb h7 hyc (h6.rc y1 hy1).2.b
        refine k _ ds5 ⟨_, _, _, h8, ?_, putG (putG g hy1 xo (by omega)) hyc (by rw [d1]; exact xt) (by omega)⟩
        have hx2' := setBin_in (nm := x1.nm) (b := x2.b) (bin := x2.bin) hx2
        have p1 := pw_setBin h5.sh.pw x1.nm x2.b x2.bin
        have ks := ky_setBin p1 hx2' x1.b x1.bin
        rw [setBin_nm] at ks
        rw [ky_putM, ky_putM, eq, ks, ky_setBin h5.sh.pw hx1]
        have t1 : (if x2.nm = x1.nm then { x2 with b := x2.b, bin := x2.bin } else x2 : En).kind = x2.kind := by split <;> rfl
        have t2 : (if x2.nm = x1.nm then { x2 with b := x2.b, bin := x2.bin } else x2 : En).text = x2.text := by split <;> rfl
        rw [t1, t2]
        show putKy (putKy _ (y1.nm, y1.kind, y1.text, y2.bin)) (yc.nm, yc.kind, yc.text, y1.bin) = _
        rw [d1, d2, d3, a1, a2, a3, a4, c1, c2, c3, c4]
      · refine iteDF e0 ⟨_, rfl, rfl, _, rfl, ?_⟩
        rw [int_eq_dec]
        by_cases e1 : q = 1
        · refine iteDT e1 ?_
          refine ⟨_, rfl, A.s, A.dxs, _, rfl, h5.sh.ob, shNo_clone, _, rfl, _, rfl, A.s, A.dxs, A.d, es, x1, x2, by rw [a1, c1]; rfl, h5.sh, hx1, hx2, fun b' H6 nb sh6 k6 => ?_⟩
          have h6 : St0 K H6 A _ ms ((D, ns.map V.str) :: fx) ds5 := h5.shelf sh6 k6 (fun c hc => .inr ⟨x2, hx2, .inl (by simpa using hc)⟩) fun e0 he0 => (setBin_bs he0).elim (fun z => .inr (by rw [z]; exact nb)) .inl
          refine ⟨_, rfl, _, rfl, A.m, _, rfl, h6.get hy1, y1.r, _, _, _, rfl, rfl, SqL.of (h6.rc y1 hy1).1, rec2, ?_⟩
          refine ⟨_, rfl, _, rfl, A.m, _, rfl, h6.get hy2, y2.r, _, _, _, rfl, rfl, (h6.rc y2 hy2).1, ix2, ?_⟩
          have h7 := setMb h6 hy2 (h6.rc y1 hy1).2.b
          refine k _ ds5 ⟨_, _, _, h7, ?_, (putG g hy2 xt (by omega)).up (by omega)⟩
          rw [ky_putM, eq, ky_setBin h5.sh.pw hx2]
          show putKy _ (y2.nm, y2.kind, y2.text, y1.bin) = _
          rw [a4, c1, c2, c3]
        · refine iteDF e1 ?_
          refine ⟨_, rfl, _, rfl, A.m, _, rfl, h5.get hy1, y1.r, _, _, _, rfl, rfl, SqL.of (h5.rc y1 hy1).1, rec2, ?_⟩
          have fb := (h5.rc y1 hy1).2.b
          refine popT h5 rfl fun h6 => ⟨_, _, rfl, rfl, .inl ⟨by decide, by decide⟩, popT h6 rfl fun h7 => ⟨_, _, rfl, rfl, .inl ⟨_, rfl, _, rfl, y1.mb, _, rfl, .inl (SqL.of (h7.hx _ fb)), _, _, rfl, rfl, ?_⟩⟩⟩
          rw [List.length_map]
          refine ⟨_, _, rfl, rfl, by show (0 : Int) < (y1.bin.length : Int) + 1; omega, ?_⟩
          have m0 : 0 ≤ (1000 * ds5.headD 0 + ds5.tail.headD 0) % ((y1.bin.length : Int) + 1) := Int.emod_nonneg _ (by omega)
          have m1 : (1000 * ds5.headD 0 + ds5.tail.headD 0) % ((y1.bin.length : Int) + 1) < (y1.bin.length : Int) + 1 := Int.emod_lt_of_pos _ (by omega)
          generalize hpl : (1000 * ds5.headD 0 + ds5.tail.headD 0) % ((y1.bin.length : Int) + 1) = pl at m0 m1
          obtain ⟨pn, rfl⟩ : ∃ pn : Nat, pl = (pn : Int) := ⟨pl.toNat, by omega⟩
          show gName 10 (V.int ((1000 * ds5.headD 0 + ds5.tail.headD 0) % ((y1.bin.length : Int) + 1))) _ _ _
          rw [hpl]
          refine popMod h7 rfl 220 (by decide) fun H8 ds8 nv nv0 nv1 h8 k8 => ⟨_, _, rfl, rfl, ?_⟩
          refine ⟨_, rfl, A.s, A.dxs, _, rfl, h8.sh.ob, shNo_damage, _, rfl, _, rfl, _, rfl, A.s, A.dxs, A.d, es, x1, pn, nv - 9, by rw [a1]; rfl, h8.sh, hx1, by rw [a4]; omega, by rw [a4]; omega, fun H9 sh9 k9 => ?_⟩
          have h9 : St0 K H9 A _ ms ((D, ns.map V.str) :: fx) ds8 := h8.shelf sh9 k9 (fun c hc => .inr ⟨x1, hx1, .inr (by simpa using hc)⟩) fun e0 he0 => .inl ((setBin_bs he0).elim (fun z => ⟨x1, hx1, z⟩) id)
          have b9 := h9.hx _ fb
          refine ⟨_, rfl, _, rfl, _, rfl, y1.mb, _, rfl, SqL.of b9, fun v1 hv1 => ?_⟩
          refine ⟨_, rfl, by show 1 ≤ sizeLine; decide, fun v2 hv2 => ?_⟩
          have ec1 : cutV (iL y1.bin) none (some (pn : Int)) = iL (y1.bin.take pn) := by
            unfold cutV
            rw [HT.sIx_none, HT.sIx_nat, List.length_map, Nat.min_eq_left (by omega), List.drop_zero, Nat.sub_zero, ← List.map_take]
          rw [ec1] at hv2 ⊢
          have h10 := h9.new1 (xs := iL (y1.bin.take pn)) hv1
          have h11 := h10.new1 (xs := [.int (nv - 9)]) hv2
          refine ⟨v1, v2, _, _, rfl, rfl, h11.hx (v1, iL (y1.bin.take pn)) (by simp), upd_same, line_of (by rw [List.length_map, List.length_take]; show _ + 1 ≤ _; omega), fun v3 hv3 => ?_⟩
          have h12 := h11.new1 (xs := iL (y1.bin.take pn) ++ [.int (nv - 9)]) hv3
          refine ⟨_, rfl, _, rfl, _, _, rfl, rfl, _, rfl, y1.mb, _, rfl, SqL.of (h12.hx (y1.mb, iL y1.bin) (by simp [fb])), fun v4 hv4 => ?_⟩
          have ec2 : cutV (iL y1.bin) (some ((pn : Int) + 1)) none = iL (y1.bin.drop (pn + 1)) := by
            unfold cutV
            rw [HT.sIx_none, show (pn : Int) + 1 = ((pn + 1 : Nat) : Int) by omega, HT.sIx_nat, List.length_map, ← List.map_drop]
            by_cases hle : pn + 1 ≤ y1.bin.length
            · rw [Nat.min_eq_left hle, List.take_of_length_le (by simp)]
            · rw [Nat.min_eq_right (by omega), List.drop_eq_nil_of_le (Nat.le_refl _), List.drop_eq_nil_of_le (by omega)]
              simp
          rw [ec2]
          have h13 := h12.new1 (xs := iL (y1.bin.drop (pn + 1))) hv4
          refine ⟨v3, v4, _, _, rfl, rfl, h13.hx (v3, iL (y1.bin.take pn) ++ [.int (nv - 9)]) (by simp), upd_same, line_of (by rw [List.length_append, List.length_map, List.length_map, List.length_take, List.length_drop]; show _ + 1 + _ ≤ _; omega), fun v5 hv5 => ?_⟩
          have eh : iL (y1.bin.take pn) ++ [V.int (nv - 9)] ++ iL (y1.bin.drop (pn + 1)) = iL (hurt y1.bin pn (nv - 9)) := by
            rw [hurt_eq _ _ _ (by omega)]
            simp
          rw [eh]
          have h14 := h13.new1 (xs := iL (hurt y1.bin pn (nv - 9))) hv5
          refine ⟨_, rfl, _, rfl, A.m, _, rfl, h14.get hy1, y1.r, _, _, _, rfl, rfl, (h14.rc y1 hy1).1, ix2, ?_⟩
          have h15 := setMb (mb := v5) (bin := hurt y1.bin pn (nv - 9)) h14 hy1 (by simp)
          have hln : (hurt y1.bin pn (nv - 9)).length ≤ y1.bin.length + 1 := by
            unfold hurt
            split
            · simp
            · simp
          refine k _ ds8 ⟨_, _, _, h15, ?_, (putG g hy1 xo (by omega)).up (by omega)⟩
          rw [ky_putM, eq, ky_setBin h8.sh.pw hx1]
          show putKy _ (y1.nm, y1.kind, y1.text, hurt y1.bin pn (nv - 9)) = _
          rw [a1, a2, a3, a4]
theorem c_law_move {P : Program} {w : World} {K : PySem.W.Frag} {mg : Str → Option Value} {base : Heap} (T : Txt w K mg) : C8.Cal P w K mg base 3 "_law_move" (sp_law_move K) [] := T.cal 91 rfl T.g__law_move sc_law_move (fun _ _ _ _ _ _ us hl => match us, hl with | [_, _, _], _ => rfl) l_law_move (d_law_move T) (r_law_move T)
end Pl

set_option Elab.async false
set_option linter.all false
set_option maxRecDepth 100000
set_option maxHeartbeats 4000000
namespace Pl
open PySem PySem.Spec PyProof.Rows L2
/-! ### law -/
theorem Wld.same {K : PySem.W.Frag} {H H' : Hp} {A : Ad} {k : Nat} {ds : List Int} (h : Wld K k H A ds) (s : Same H H') : Wld K k H' A ds := by
  obtain ⟨es, ms, fx, h, e, g⟩ := h
  exact ⟨es, ms, fx, h.same s, e, g⟩
theorem aud_step {w : World} {K : PySem.W.Frag} {mg : Str → Option Value} (T : Txt w K mg) {H : Hp} {A : Ad} {k : Nat} {ds : List Int} {σ : L2.St} {D : L2.Ends} (h3 : σ[3]? = some (some (.ref A.s))) (h4 : σ[4]? = some (some (.ref A.m))) (h10 : σ[10]? = some (some (.bl true))) (W : Wld K k H A ds) (hk : k ≤ 100) (kk : ∀ H', Wld K k H' A ds → D.nx σ H') :
    tIfS (tOr (tNot (tB (tVar 10))) (tNot (tB (tCall (sp_law_audited K) [] C8.E0 (tCons (tVar 3) (tCons (tVar 4) tNil)))))) (tRet (tC (.bl false))) tNext D σ H :=
  ⟨_, h10, _, rfl, iteF ⟨_, h3, _, h4, A, k, ds, rfl, W, hk, fun H' s => ⟨_, rfl, iteF (kk H' (W.same s))⟩⟩⟩
/-- the shelf and the model while they are filled -/
structure PG (i : Nat) (ms : List Mo) : Prop where
  nms : ∀ y ∈ ms, y.nm ∈ namesL
  each : ∀ y ∈ ms, y.due = dueOf y.kind y.text ∧ kindB y.kind = true ∧ goodS y.text = true ∧ y.text.cps.toList.length ≤ 5000 ∧ y.bin.length ≤ 100000
  pl : 1 ≤ i → ∃ y ∈ ms, y.nm = "plain" ∧ CompOk imP y.bin y.trap
  tu : 2 ≤ i → ∃ y ∈ ms, y.nm = "turned" ∧ CompOk imT y.bin y.trap
  len : ms.length ≤ i
def sp_law (K : PySem.W.Frag) : Sp := fun vs H Q _ => ∃ a ns, vs = [.ref a] ∧ SqL K H a (iL ns) ∧ ns.length ≤ 63 ∧ ∀ H', Q (.bl true) H'
theorem sc_law : FnScope ["_law_script", "_law_draws_here", "_law_choice", "_law_shelf", "_law_model", "_law_name", "_law_due_here", "_law_heavy", "_law_k", "_law_deed", "_law_good"] ["_law_script"] (defScope s_law) := C8.fnScope_by (by decide +kernel)
def t_law (K : PySem.W.Frag) : TS := (tSeq (tAsg (tCall (sp_law_draws K) [] C8.E0 (tCons (tVar 0) tNil)) (gName 1)) (tSeq (tDrop (tBM0 K "list" rReverse (tVar 1))) (tSeq (tAsg (tCall (sp_law_next K) [] C8.E0 (tCons (tVar 1) tNil)) (gName 2)) (tSeq (tAsg (tMake (He.ga K "Shelf") (sp_Shelf_init K) [] C8.E0 tNil) (gName 3)) (tSeq (tAsg tDNewK (gName 4)) (tSeq (tFor (iList K (tLst (tCons (tC (.str "plain")) (tCons (tC (.str "turned")) tNil)))) (gName 5) (tSeq (tAsg (tCall (sp_law_due K) [] C8.E0 (tCons (tC (.str "plain")) (tCons (tCall (sp_rung_text K) [] C8.E0 (tCons (tVar 5) tNil)) tNil))) (gName 6)) (tSeq (tDrop (tMeth (He.ga K "Shelf") "put" (sp_Shelf_put K) [] C8.E0 (tVar 3) (tCons (tVar 5) (tCons (tC (.str "plain")) (tCons (tCall (sp_rung_text K) [] C8.E0 (tCons (tVar 5) tNil)) (tCons (tCB (rListOf K) (tCons (tVar 6) tNil)) tNil)))))) (sDPut (tVar 4) (tVar 5) (tLst (tCons (tC (.str "plain")) (tCons (tCall (sp_rung_text K) [] C8.E0 (tCons (tVar 5) tNil)) (tCons (tVar 6) (tCons (tVar 6) (tCons (tLst tNil) tNil)))))))))) (tSeq (tAsg (tOp rEq (tOp rModI (tCB rInt1 (tCons (tVar 2) tNil)) (tC (.int 6))) (tC (.int 1))) (gName 7)) (tSeq (tFor (iRng1 (tCons (tC (.int 6)) tNil)) (gName 8) (tSeq (tIfS (tNot (tTru K (tVar 1))) tBreak tNext) (tSeq (tAsg (tOp rModI (tCB rInt1 (tCons (tCall (sp_law_next K) [] C8.E0 (tCons (tVar 1) tNil)) tNil)) (tC (.int 8))) (gName 9)) (tSeq (tIfS (tTest (tOp rLtI (tVar 9) (tC (.int 3)))) (tAsg (tCall (sp_law_build K) [] C8.E0 (tCons (tVar 3) (tCons (tVar 4) (tCons (tVar 1) tNil)))) (gName 10)) (tIfS (tTest (tOp rLtI (tVar 9) (tC (.int 5)))) (tAsg (tCall (sp_law_plant K) [] C8.E0 (tCons (tVar 3) (tCons (tVar 4) (tCons (tVar 1) tNil)))) (gName 10)) (tIfS (tAnd (tTest (tOp rEq (tVar 9) (tC (.int 5)))) (tB (tVar 7))) (tSeq (tAsg (tC (.bl false)) (gName 7)) (tAsg (tCall (sp_law_again K) [] C8.E0 (tCons (tVar 3) (tCons (tVar 4) (tCons (tVar 1) tNil)))) (gName 10))) (tAsg (tCall (sp_law_move K) [] C8.E0 (tCons (tVar 3) (tCons (tVar 4) (tCons (tVar 1) tNil)))) (gName 10))))) (tIfS (tOr (tNot (tB (tVar 10))) (tNot (tB (tCall (sp_law_audited K) [] C8.E0 (tCons (tVar 3) (tCons (tVar 4) tNil)))))) (tRet (tC (.bl false))) tNext))))) (tRet (tC (.bl true)))))))))))
theorem d_law {P : Program} {w : World} {K : PySem.W.Frag} {mg : Str → Option Value} {base : Heap} (T : Txt w K mg) (f : Addr) (cdv : Value) (A : Around) (outer : List Env) (s : Shared) (H : Hp) (E : XK) (hr : Room 9 (A.deeper (envOfC "law" (defScope s_law) s.heap.objs.size f cdv))) :
    PSs (Bx P w K mg base ["_law_script", "_law_draws_here", "_law_choice", "_law_shelf", "_law_model", "_law_name", "_law_due_here", "_law_heavy", "_law_k", "_law_deed", "_law_good"] "law" s_law f cdv A outer s H E) (defBody s_law) (t_law K) :=
  (pss_cons (ps_set (i := 1) sc_law.nd rfl (by first | exact Or.inl rfl | exact Or.inr rfl) (C8.pe_c (c_law_draws T) hr (by decide) (by rfl) (pa_cons (pv 0) pa_nil))) (pss_cons (ps_expr (pe_bm0 PySem.F.plainAttrs_list PySem.F.slot_list_reverse PySem.F.type_list_reverse mt_reverse (pv 1))) (pss_cons (ps_set (i := 2) sc_law.nd rfl (by first | exact Or.inl rfl | exact Or.inr rfl) (C8.pe_c (c_law_next T) hr (by decide) (by rfl) (pa_cons (pv 1) pa_nil))) (pss_cons (ps_set (i := 3) sc_law.nd rfl (by first | exact Or.inl rfl | exact Or.inr rfl) (pe_mk0 (mk_Shelf T) hr (by decide) (by rfl))) (pss_cons (ps_set (i := 4) sc_law.nd rfl (by first | exact Or.inl rfl | exact Or.inr rfl) pe_dnewK) (pss_cons (ps_for PassesOwn.never rfl (pi_list (pe_lst (pa_cons pe_str (pa_cons pe_str pa_nil)))) (pg_name (i := 5) sc_law.nd rfl (by first | exact Or.inl rfl | exact Or.inr rfl)) (pss_cons (ps_set (i := 6) sc_law.nd rfl (by first | exact Or.inl rfl | exact Or.inr rfl) (C8.pe_c (c_law_due T) hr (by decide) (by rfl) (pa_cons pe_str (pa_cons (C8.pe_c (c_rung_text T) hr (by decide) (by rfl) (pa_cons (pv 5) pa_nil)) pa_nil)))) (pss_cons (ps_expr (C8.pe_mt (m_Shelf_put T) hr (by decide) (pv 3) (pa_cons (pv 5) (pa_cons pe_str (pa_cons (C8.pe_c (c_rung_text T) hr (by decide) (by rfl) (pa_cons (pv 5) pa_nil)) (pa_cons (pe_callTy call_list_of (by rfl) T.f_list boot_list (pa_cons (pv 6) pa_nil)) pa_nil)))))) (pss_one (ps_dput (hu_of hr) (pv 4) (pv 5) (pe_lst (pa_cons pe_str (pa_cons (C8.pe_c (c_rung_text T) hr (by decide) (by rfl) (pa_cons (pv 5) pa_nil)) (pa_cons (pv 6) (pa_cons (pv 6) (pa_cons (pe_lst pa_nil) pa_nil)))))) rfl))))) (pss_cons (ps_set (i := 7) sc_law.nd rfl (by first | exact Or.inl rfl | exact Or.inr rfl) (pe_cmpR op_eq (pe_op op_mod (pe_callTy call_int1 (by rfl) T.f_int boot_int (pa_cons (pv 2) pa_nil)) pe_int) pe_int (nomark _))) (pss_cons (ps_for PassesOwn.never rfl (pi_range1 (by rfl) T.f_range (pa_cons pe_int pa_nil)) (pg_name (i := 8) sc_law.nd rfl (by first | exact Or.inl rfl | exact Or.inr rfl)) (pss_cons (ps_if (pt_not (pt_truth (pv 1) (by intro _; rfl))) (pss_one ps_break) pss_nil) (pss_cons (ps_set (i := 9) sc_law.nd rfl (by first | exact Or.inl rfl | exact Or.inr rfl) (pe_op op_mod (pe_callTy call_int1 (by rfl) T.f_int boot_int (pa_cons (C8.pe_c (c_law_next T) hr (by decide) (by rfl) (pa_cons (pv 1) pa_nil)) pa_nil)) pe_int)) (pss_cons (ps_if (pt_cmpR op_lt (pv 9) pe_int (nomark _)) (pss_one (ps_set (i := 10) sc_law.nd rfl (by first | exact Or.inl rfl | exact Or.inr rfl) (C8.pe_c (c_law_build T) hr (by decide) (by rfl) (pa_cons (pv 3) (pa_cons (pv 4) (pa_cons (pv 1) pa_nil)))))) (pss_one (ps_if (pt_cmpR op_lt (pv 9) pe_int (nomark _)) (pss_one (ps_set (i := 10) sc_law.nd rfl (by first | exact Or.inl rfl | exact Or.inr rfl) (C8.pe_c (c_law_plant T) hr (by decide) (by rfl) (pa_cons (pv 3) (pa_cons (pv 4) (pa_cons (pv 1) pa_nil)))))) (pss_one (ps_if (PW.pt (pw_and (pt_cmpR op_eq (pv 9) pe_int (nomark _)) (pw_and1 (pt_val (pv 7))))) (pss_cons (ps_set (i := 7) sc_law.nd rfl (by first | exact Or.inl rfl | exact Or.inr rfl) pe_bl) (pss_one (ps_set (i := 10) sc_law.nd rfl (by first | exact Or.inl rfl | exact Or.inr rfl) (C8.pe_c (c_law_again T) hr (by decide) (by rfl) (pa_cons (pv 3) (pa_cons (pv 4) (pa_cons (pv 1) pa_nil))))))) (pss_one (ps_set (i := 10) sc_law.nd rfl (by first | exact Or.inl rfl | exact Or.inr rfl) (C8.pe_c (c_law_move T) hr (by decide) (by rfl) (pa_cons (pv 3) (pa_cons (pv 4) (pa_cons (pv 1) pa_nil))))))))))) (pss_one (ps_if (PW.pt (pw_or (pt_not (pt_val (pv 10))) (pw_or1 (pt_not (pt_val (C8.pe_c (c_law_audited T) hr (by decide) (by rfl) (pa_cons (pv 3) (pa_cons (pv 4) pa_nil)))))))) (pss_one (ps_ret pe_bl)) pss_nil)))))) (pss_one (ps_ret pe_bl))))))))))
theorem l_law {K : PySem.W.Frag} : ∀ vs H Q E, sp_law K vs H Q E → vs.length = ["_law_script"].length := by
  rintro vs H Q E ⟨_, _, rfl, _⟩
  rfl
theorem r_law {w : World} {K : PySem.W.Frag} {mg : Str → Option Value} (T : Txt w K mg) : ∀ vs H Q E, sp_law K vs H Q E → t_law K { nx := fun _ H' => Q .non H', rt := Q } (start ["_law_script", "_law_draws_here", "_law_choice", "_law_shelf", "_law_model", "_law_name", "_law_due_here", "_law_heavy", "_law_k", "_law_deed", "_law_good"] vs) H := by
  rintro vs H Q E ⟨a0, ns, rfl, hS, hl, k⟩
  refine ⟨_, rfl, a0, ns, rfl, hS, by omega, fun dr q H1 s1 nq e1 => ?_⟩
  refine ⟨_, rfl, .inl ⟨rfl, _, SqL.of e1⟩, q, _, rfl, rfl, e1, ?_⟩
  rw [show (iL dr).reverse = dr.reverse.map V.int by rw [List.map_reverse]]
  refine ⟨_, rfl, q, dr, rfl, upd_same, ?_⟩
  rw [upd_upd]
  generalize dr.headD 0 = ch
  have q2 : upd H1 q (stk dr.tail) q = some (stk dr.tail) := upd_same
  generalize upd H1 q (stk dr.tail) = H2 at q2 ⊢
  intro p dx np nd ne
  have s3 : Same H2 (upd (upd H2 dx (.own p)) p (.ins (CH K) dx [])) := (Same.new nd).trans (Same.new (by rw [upd_ne ne.symm]; exact np))
  refine ⟨p, dx, rfl, upd_same, fun d H4 sh k4 nd4 => ⟨rfl, ?_⟩⟩
  have s4 : Same H2 H4 := k4.same s3 (by simpa using np)
  have q4 := s4 _ _ q2
  intro m hm
  have s5 : Same H4 (upd H4 m (.dK [])) := Same.new hm
  have h0 : St0 K (upd H4 m (.dK [])) ⟨q, p, dx, d, m⟩ [] [] [] dr.tail :=
    ⟨sh.same s5, upd_same, (fun y hy => nomatch hy), (fun y hy => nomatch hy), s5 _ _ q4, (fun y hy => nomatch hy), (fun y hy => nomatch hy), (fun y hy => nomatch hy), List.Pairwise.nil, ne_of_none sh.hd hm⟩
  generalize hA : (⟨q, p, dx, d, m⟩ : Ad) = A at h0
  have eA : q = A.a ∧ p = A.s ∧ m = A.m := by rw [← hA]; exact ⟨rfl, rfl, rfl⟩
  obtain ⟨rfl, rfl, rfl⟩ := eA
  clear hA
  generalize upd H4 A.m (.dK []) = H5 at h0 ⊢
  refine ⟨by show 2 ≤ sizeLine; decide, fun u hu => ⟨u, rfl, ⟨_, SqL.of upd_same⟩, ?_⟩⟩
  have h1 := h0.new1 (xs := [.str "plain", .str "turned"]) hu
  have u1 : (u, [V.str "plain", V.str "turned"]) ∈ [(u, [V.str "plain", V.str "turned"])] := by simp
  refine for_list (K := K) (a := u) (xs := [.str "plain", .str "turned"]) (fun i σ H' => (∃ v5 v6 v7 v8 v9 v10, σ = [some (.ref a0), some (.ref A.a), some (.int ch), some (.ref A.s), some (.ref A.m), v5, v6, v7, v8, v9, v10]) ∧ ∃ es ms fx, St0 K H' A es ms fx dr.tail ∧ (u, [V.str "plain", V.str "turned"]) ∈ fx ∧ ms.map kM = es.map kE ∧ PG i ms)
    ⟨⟨none, none, none, none, none, none, rfl⟩, [], [], _, h1, u1, rfl, ⟨(fun y hy => nomatch hy), (fun y hy => nomatch hy), fun z => absurd z (by decide), fun z => absurd z (by decide), Nat.le_refl _⟩⟩ (fun i σ H' _ p => by obtain ⟨_, es, ms, fx, h, f, _⟩ := p; exact SqL.of (h.hx _ f)) ?_ ?_
  · rintro i v σ H' hv ⟨⟨v5, v6, v7, v8, v9, v10, rfl⟩, es, ms, fx, h, fu, eq, g⟩
    obtain ⟨n, t, im, hvn, htx, nn, hg, htl, hd, hni, hi⟩ : ∃ n t im, v = .str n ∧ (n, V.str t) ∈ textsV ∧ n ∈ namesL ∧ goodS t = true ∧ t.cps.toList.length ≤ 304 ∧ dueOf "plain" t = im ∧ ((n = "plain" ∧ im = imP ∧ i = 0) ∨ (n = "turned" ∧ im = imT ∧ i = 1)) ∧ i < 2 := by
      match i, hv with
      | 0, hv =>
        obtain ⟨n, t, im, e, h1, h2, h3, h4, h5, h6⟩ := again_text (z := .str "plain") (.inl rfl)
        have en : n = "plain" := (V.str.inj e).symm
        refine ⟨n, t, im, by rw [← e]; exact (Option.some.inj hv).symm, h1, h2, h3, h4, h5, ?_, by decide⟩
        rcases h6 with ⟨_, z⟩ | ⟨z, _⟩
        · exact .inl ⟨en, z, rfl⟩
        · rw [en] at z; exact absurd z (by decide +kernel)
      | 1, hv =>
        obtain ⟨n, t, im, e, h1, h2, h3, h4, h5, h6⟩ := again_text (z := .str "turned") (.inr rfl)
        have en : n = "turned" := (V.str.inj e).symm
        refine ⟨n, t, im, by rw [← e]; exact (Option.some.inj hv).symm, h1, h2, h3, h4, h5, ?_, by decide⟩
        rcases h6 with ⟨z, _⟩ | ⟨_, z⟩
        · rw [en] at z; exact absurd z (by decide +kernel)
        · exact .inr ⟨en, z, rfl⟩
      | i + 2, hv => simp at hv
    subst hvn
    have len := keys_len eq
    have gl := g.len
    refine ⟨_, rfl, n, _, rfl, htx, "plain", t, rfl, by omega, fun c H6 s6 nc ec => ?_⟩
    have h6 := h.newL s6 nc ec
    refine ⟨_, rfl, A.s, A.dxs, _, rfl, h6.sh.ob, shNo_put, _, rfl, _, rfl, n, _, rfl, htx, _, rfl, c, _, rfl, .inl (SqL.of ec), fun c2 hc2 => ?_⟩
    have h7 := h6.new1 (xs := iL (dueOf "plain" t)) hc2
    refine ⟨A.s, A.dxs, A.d, es, n, "plain", t, c2, dueOf "plain" t, rfl, h7.sh, (names_ok nn).1, kdP, hg, by omega, by omega, upd_same, fun e dx b H8 nb sh8 k8 => ?_⟩
    have hS := built h7 sh8 k8 nb
    refine ⟨_, rfl, n, _, rfl, htx, _, rfl, _, rfl, Nat.zero_le _, fun p3 m3 => ⟨by show 5 ≤ sizeLine; decide, fun r mr => ?_⟩⟩
    have h9 := hS.new1 (xs := []) m3
    refine ⟨_, rfl, _, rfl, A.m, _, rfl, pDM h9 (by omega) n r mr, ⟨_, _, _, _, _, _, rfl⟩, ?_⟩
    have dl := due_len "plain" t
    have h10 := h9.putR (y := ⟨n, "plain", t, dueOf "plain" t, dueOf "plain" t, none, r, c, c, p3, p3, p3⟩) mr ⟨by simp, by simp, .inl ⟨rfl, by simp⟩⟩
    refine ⟨_, _, _, h10, by simp [fu], by rw [ky_putM, ky_putE, eq]; rfl, ⟨fun z hz => (putM_mem hz).elim (fun e => by rw [e]; exact nn) fun e => g.nms z e.1, fun z hz => (putM_mem hz).elim (fun e => by rw [e]; exact ⟨rfl, kdP, hg, by show t.cps.toList.length ≤ 5000; omega, by show (dueOf "plain" t).length ≤ 100000; omega⟩) fun e => g.each z e.1, fun _ => ?_, fun h2 => ?_, Nat.le_trans (putM_len ..) (by omega)⟩⟩
    · rcases hni with ⟨e1, e2, e3⟩ | ⟨e1, e2, e3⟩
      · exact ⟨_, putM_self, e1, ⟨.inl ⟨rfl, by rw [← e2]; exact hd⟩⟩⟩
      · obtain ⟨z, hz, zn, zo⟩ := g.pl (by omega)
        exact ⟨z, putM_old hz (by show z.nm ≠ n; rw [zn, e1]; decide +kernel), zn, zo⟩
    · rcases hni with ⟨e1, e2, e3⟩ | ⟨e1, e2, e3⟩
      · omega
      · exact ⟨_, putM_self, e1, ⟨.inl ⟨rfl, by rw [← e2]; exact hd⟩⟩⟩
  · rintro σ H' ⟨⟨v5, v6, v7, v8, v9, v10, rfl⟩, es, ms, fx, h, fu, eq, g⟩
    have W0 : Wld K 0 H' A dr.tail := ⟨es, ms, fx, h, eq, ⟨g.nms, g.each, g.pl (by decide), g.tu (by decide), by have := g.len; have e2 : ([V.str "plain", V.str "turned"] : List V).length = 2 := rfl; omega⟩⟩
    refine ⟨_, rfl, .inl ⟨_, rfl, _, _, rfl, rfl, by show (0 : Int) < 6; decide, rfl, ?_⟩⟩
    refine ⟨6, rfl, by decide, by decide, for_range (n := (6 : Int).toNat) (fun i σ H' => (∃ v5 v6 hv v8 v9 v10, σ = [some (.ref a0), some (.ref A.a), some (.int ch), some (.ref A.s), some (.ref A.m), v5, v6, some (.bl hv), v8, v9, v10]) ∧ ∃ ds, Wld K (2 * i) H' A ds) ⟨⟨_, _, _, _, _, _, rfl⟩, _, W0⟩ ?_ ?_⟩
    · rintro i σ H6 hi ⟨⟨v5, v6, hv, v8, v9, v10, rfl⟩, ds, W⟩
      have hi' : i < 6 := hi
      obtain ⟨es, ms, fx, h6, eq, g6⟩ := W
      have ha := h6.ha
      by_cases hds : ds = []
      · subst hds
        exact ⟨_, rfl, false, .inl ⟨_, SqL.of ha, rfl⟩, iteT (k _)⟩
      · have tr : (!(ds.reverse.map V.int).isEmpty) = true := by
          cases ds with
          | nil => exact absurd rfl hds
          | cons x r => simp
        refine ⟨_, rfl, true, .inl ⟨_, SqL.of ha, tr.symm⟩, iteF ?_⟩
        refine popMod h6 rfl 8 (by decide) fun H7 ds7 x x0 x1 h7 k7 => ?_
        have W7 : Wld K (2 * i) H7 A ds7 := ⟨es, ms, fx, h7, eq, g6⟩
        have hk : 2 * i ≤ 100 := by omega
        refine ⟨_, rfl, _, _, rfl, rfl, _, rfl, ?_⟩
        by_cases c3 : x < 3
        · refine iteDT c3 ⟨_, rfl, _, rfl, _, rfl, A, 2 * i, ds7, rfl, W7, hk, fun H8 ds8 W8 => ?_⟩
          exact aud_step T rfl rfl rfl (W8.up (by omega : 2 * i + 1 ≤ 2 * (i + 1))) (by omega) fun H9 W9 => ⟨⟨_, _, _, _, _, _, rfl⟩, ds8, W9⟩
        · refine iteDF c3 ⟨_, rfl, _, _, rfl, rfl, _, rfl, ?_⟩
          by_cases c5 : x < 5
          · refine iteDT c5 ⟨_, rfl, _, rfl, _, rfl, A, 2 * i, ds7, rfl, W7, hk, fun H8 ds8 W8 => ?_⟩
            exact aud_step T rfl rfl rfl (W8.up (by omega : 2 * i + 1 ≤ 2 * (i + 1))) (by omega) fun H9 W9 => ⟨⟨_, _, _, _, _, _, rfl⟩, ds8, W9⟩
          · refine iteDF c5 ⟨_, rfl, rfl, _, rfl, ?_⟩
            rw [int_eq_dec]
            by_cases c6 : x = 5
            · refine iteDT c6 ⟨_, rfl, _, rfl, ?_⟩
              cases hv with
              | false => exact iteF ⟨_, rfl, _, rfl, _, rfl, A, 2 * i, ds7, rfl, W7, hk, fun H8 ds8 W8 => aud_step T rfl rfl rfl (W8.up (by omega : 2 * i + 2 ≤ 2 * (i + 1))) (by omega) fun H9 W9 => ⟨⟨_, _, _, _, _, _, rfl⟩, ds8, W9⟩⟩
              | true =>
                refine iteT ⟨_, rfl, _, rfl, _, rfl, A, 2 * i, ds7, rfl, W7, hk, fun H8 ds8 W8 => ?_⟩
                exact aud_step T rfl rfl rfl (W8.up (by omega : 2 * i + 1 ≤ 2 * (i + 1))) (by omega) fun H9 W9 => ⟨⟨_, _, _, _, _, _, rfl⟩, ds8, W9⟩
            · exact iteDF c6 (iteF ⟨_, rfl, _, rfl, _, rfl, A, 2 * i, ds7, rfl, W7, hk, fun H8 ds8 W8 => aud_step T rfl rfl rfl (W8.up (by omega : 2 * i + 2 ≤ 2 * (i + 1))) (by omega) fun H9 W9 => ⟨⟨_, _, _, _, _, _, rfl⟩, ds8, W9⟩⟩)
    · rintro σ H6 ⟨⟨v5, v6, hv, v8, v9, v10, rfl⟩, ds, W⟩
      exact k _
theorem c_law {P : Program} {w : World} {K : PySem.W.Frag} {mg : Str → Option Value} {base : Heap} (T : Txt w K mg) : C8.Cal P w K mg base 10 "law" (sp_law K) [] := T.cal 92 rfl T.g_law sc_law (fun _ _ _ _ _ _ us hl => match us, hl with | [_], _ => rfl) l_law (d_law T) (r_law T)
end Pl

set_option Elab.async false
set_option linter.all false
set_option maxRecDepth 100000
set_option maxHeartbeats 4000000
namespace Pl
open PySem PySem.Spec PyProof.Rows L2
theorem facts {P : Program} {w : World} {K : PySem.W.Frag} {h : Heap} {mg : Str → Option Value} {f : Addr} (X : K.In h) (G : h.Ns mainGlobals mg) (hfa : mg ("law" : Str) = some (.ref f)) (c : He.SaysT faL fnL tabL w K) (ex : exB K = true) :
    ∃ fd : FuncData, (∀ (s : Shared) (v : Value), BindsTo s fd ⟨[v], []⟩ [("_law_script", v)]) ∧ ∀ base : Heap, K.In base → base.Ns mainGlobals mg → FnOk P w K mg base C8.CX0 10 f fd ["_law_script"] (sp_law K) := by
  have T : Txt w K mg := ⟨c, ex, ⟨h, X, G⟩⟩
  obtain ⟨fd, F⟩ := c.d.def_ 92 (d := D_law) rfl
  have e := hfa.symm.trans T.g_law
  injection e with e
  injection e with e
  subst e
  have b := FunD.bindsA (ps := ["_law_script"]) F fun _ _ _ _ _ _ us hl => match us, hl with | [_], _ => rfl
  exact ⟨fd, fun s v => b s [v] rfl, fun base _ _ => fok F sc_law l_law (d_law T) (r_law T)⟩
end Pl
open PySem PySem.W PySem.Calls PyProof.Rows
theorem PySem.Challenge.cw_plinth_k98_whole_the_audit_after_all_dee_holds : PySem.Challenge.rw_plinth_k98_whole_the_audit_after_all_dee.Holds := by
  w_on; o_law
  refine HandSHeadRun.head_any (r := OpenLaw.row PySem.Challenge.rw_plinth_k98_whole_the_audit_after_all_dee) (q := view (OpenLaw.row PySem.Challenge.rw_plinth_k98_whole_the_audit_after_all_dee).prog [136]) (H := Pl.hk) (ob := Pl.ob) (M := 12000) (loose := Pl.looseL) (d := HandSHeadRun.topDef (OpenLaw.row PySem.Challenge.rw_plinth_k98_whole_the_audit_after_all_dee).prog 136) (kwd := []) Pl.ob_eq
    (by kernel_rfl) (fun s => by kernel_rfl) Pl.runs (by kernel_rfl) (by kernel_rfl) (by kernel_rfl) (by rfl) (by first | assumption | decide +kernel) (by decide +kernel) ⟨rfl, rfl, rfl, rfl, rfl, by decide +kernel⟩ ?hw ?hc
  case hw => w_witness2
  case hc =>
    refine L2.walk_ofE (l := PySem.Challenge.rw_plinth_k98_whole_the_audit_after_all_dee) (n := 63) (k := 10) (x := "_law_script") (CX := C8.CX0) rfl (by decide) (by kernel_rfl) ⟨rfl, by decide, by decide⟩ ?F (fun _ _ _ _ z => z)
    intro w mg fa h Y G hmg0
    obtain ⟨K, KX, c, ex⟩ := Y
    have hmg : mg ("law" : PySem.Str) = some (.ref fa) := by
      have e : (HandSHeadRun.topDef (OpenLaw.row PySem.Challenge.rw_plinth_k98_whole_the_audit_after_all_dee).prog 136).name = ("law" : PySem.Str) := by kernel_rfl
      rw [← e]
      exact hmg0
    obtain ⟨fd, hb, hF⟩ := Pl.facts (P := (PySem.Challenge.rw_plinth_k98_whole_the_audit_after_all_dee).prog) (w := w) KX G hmg c ex
    exact ⟨K, fd, Pl.sp_law K, KX, hb, fun H a ns hl _ hS => ⟨a, ns, rfl, hS, hl, fun _ => rfl⟩, hF⟩


import PyProof.Rows.All
import Wide.All
import OpenK.AllK
import Wide.FinOn
import KE.KStateDown
import HandS.Base
import HandS.Call
import HandS.Ends
import HandS.More
import HandS.Exc
import HandS.Words
import HandS.WordsExc
import HandS.Defaults
import HandS.Head0
import HandS.Head1
import HandS.Head2
import HandS.HeadEnd
import HandS.HeadHook1
import HandS.HeadHook2
import KE.KDictKeyed
import KE.KeyNested
import HandS.List
import HandS.Comp
import HandS.Dict
import HandS.Iter
import HandS.Text
import HandS.TupAny
import HandS.Deep
import KE.SortData
import HandS.Replace
import HandS.NoneIn
import PyProof.Rows.SetObj
import HandS.Set
import HandS.SetTxt0
import HandS.SetFor
import HandS.TupSets
import HandS.ExcOwn
import HandS.TryOnly
import HandS.TupLe
import PySem.Challenge.RW_rulewright_k46_whole_any_right_table
set_option Elab.async false
set_option linter.all false
set_option maxRecDepth 100000
set_option maxHeartbeats 0
namespace KHead
open PySem PySem.Spec PyProof.Rows L2
def top (i : Nat) : Stmt := PySem.Challenge.pw_rulewright_k46_whole_any_right_table.main.body.getD i (.Pass ⟨0, 0, 0, 0⟩)
abbrev s_is_letter : Stmt := top 15
abbrev s_is_name : Stmt := top 16
abbrev s_is_rule : Stmt := top 17
abbrev s_is_grammar : Stmt := top 18
abbrev s_must_be_grammar : Stmt := top 19
abbrev s_is_text : Stmt := top 20
abbrev s_must_be_text : Stmt := top 21
abbrev s_names_by : Stmt := top 22
abbrev s_makes_by : Stmt := top 25
abbrev s_empties_by : Stmt := top 26
abbrev s_useful_rules : Stmt := top 27
abbrev s_firsts_by : Stmt := top 28
abbrev s_begins_with : Stmt := top 29
abbrev s_counting : Stmt := top 32
abbrev s_lore_of : Stmt := top 33
abbrev s_parts_of : Stmt := top 34
abbrev s_next_part : Stmt := top 35
abbrev s_signs_behind : Stmt := top 36
abbrev s_calls : Stmt := top 37
abbrev s_closed : Stmt := top 38
abbrev s_starting_by : Stmt := top 39
abbrev s_advanced : Stmt := top 40
abbrev s_moved_by : Stmt := top 41
abbrev s_deed_of : Stmt := top 42
abbrev s_named_by : Stmt := top 43
abbrev s_is_item : Stmt := top 44
abbrev s_is_deed : Stmt := top 48
abbrev s_is_table_by : Stmt := top 49
abbrev s_must_be_table : Stmt := top 50
abbrev s_Pile_init : Stmt := inClass (top 51) 0
abbrev s_Pile_sign : Stmt := inClass (top 51) 1
abbrev s_Pile_row : Stmt := inClass (top 51) 2
abbrev s_Pile_go : Stmt := inClass (top 51) 3
abbrev s_Pile_fold : Stmt := inClass (top 51) 4
abbrev s_Pile_do : Stmt := inClass (top 51) 5
abbrev s_signs_of : Stmt := top 52
abbrev s_read_to_end : Stmt := top 53
abbrev s_pile_of : Stmt := top 54
abbrev s_read_by : Stmt := top 55
abbrev s_folding : Stmt := top 56
abbrev s_parts_next : Stmt := top 59
abbrev s_clash_of : Stmt := top 60
abbrev s_row_of : Stmt := top 61
abbrev s_Web_init : Stmt := inClass (top 62) 0
abbrev s_Web_state_of : Stmt := inClass (top 62) 1
abbrev s_Web_look : Stmt := inClass (top 62) 2
abbrev s_made : Stmt := top 63
abbrev s_is_paper_by : Stmt := top 66
abbrev s_is_begun : Stmt := top 67
abbrev s_is_called : Stmt := top 68
abbrev s_is_led : Stmt := top 69
abbrev s_is_done : Stmt := top 70
abbrev s_is_right : Stmt := top 71
abbrev s_law_cell_at : Stmt := top 73
abbrev s_law_next : Stmt := top 74
abbrev s_law_rule_by : Stmt := top 75
abbrev s_law_known : Stmt := top 76
abbrev s_law_closed : Stmt := top 77
abbrev s_law_small_grammar : Stmt := top 78
abbrev s_law_word : Stmt := top 79
abbrev s_law_mix : Stmt := top 80
abbrev s_law_made_of : Stmt := top 81
abbrev s_law_order : Stmt := top 82
abbrev s_law_led : Stmt := top 83
abbrev s_law_other : Stmt := top 84
abbrev s_law : Stmt := top 85
def d_is_letter : He.DefD := ⟨("is_letter", none), "is_letter", "is_letter", defArgs s_is_letter, defBody s_is_letter, defScope s_is_letter, [], []⟩
def d_is_name : He.DefD := ⟨("is_name", none), "is_name", "is_name", defArgs s_is_name, defBody s_is_name, defScope s_is_name, [], []⟩
def d_is_rule : He.DefD := ⟨("is_rule", none), "is_rule", "is_rule", defArgs s_is_rule, defBody s_is_rule, defScope s_is_rule, [], []⟩
def d_is_grammar : He.DefD := ⟨("is_grammar", none), "is_grammar", "is_grammar", defArgs s_is_grammar, defBody s_is_grammar, defScope s_is_grammar, [], []⟩
def d_must_be_grammar : He.DefD := ⟨("must_be_grammar", none), "must_be_grammar", "must_be_grammar", defArgs s_must_be_grammar, defBody s_must_be_grammar, defScope s_must_be_grammar, [], []⟩
def d_is_text : He.DefD := ⟨("is_text", none), "is_text", "is_text", defArgs s_is_text, defBody s_is_text, defScope s_is_text, [], []⟩
def d_must_be_text : He.DefD := ⟨("must_be_text", none), "must_be_text", "must_be_text", defArgs s_must_be_text, defBody s_must_be_text, defScope s_must_be_text, [], []⟩
def d_names_by : He.DefD := ⟨("names_by", none), "names_by", "names_by", defArgs s_names_by, defBody s_names_by, defScope s_names_by, [], []⟩
def d_makes_by : He.DefD := ⟨("makes_by", none), "makes_by", "makes_by", defArgs s_makes_by, defBody s_makes_by, defScope s_makes_by, [], []⟩
def d_empties_by : He.DefD := ⟨("empties_by", none), "empties_by", "empties_by", defArgs s_empties_by, defBody s_empties_by, defScope s_empties_by, [], []⟩
def d_useful_rules : He.DefD := ⟨("useful_rules", none), "useful_rules", "useful_rules", defArgs s_useful_rules, defBody s_useful_rules, defScope s_useful_rules, [], []⟩
def d_firsts_by : He.DefD := ⟨("firsts_by", none), "firsts_by", "firsts_by", defArgs s_firsts_by, defBody s_firsts_by, defScope s_firsts_by, [], []⟩
def d_begins_with : He.DefD := ⟨("begins_with", none), "begins_with", "begins_with", defArgs s_begins_with, defBody s_begins_with, defScope s_begins_with, [], []⟩
def d_counting : He.DefD := ⟨("counting", none), "counting", "counting", defArgs s_counting, defBody s_counting, defScope s_counting, [], []⟩
def d_lore_of : He.DefD := ⟨("lore_of", none), "lore_of", "lore_of", defArgs s_lore_of, defBody s_lore_of, defScope s_lore_of, [], []⟩
def d_parts_of : He.DefD := ⟨("parts_of", none), "parts_of", "parts_of", defArgs s_parts_of, defBody s_parts_of, defScope s_parts_of, [], []⟩
def d_next_part : He.DefD := ⟨("next_part", none), "next_part", "next_part", defArgs s_next_part, defBody s_next_part, defScope s_next_part, [], []⟩
def d_signs_behind : He.DefD := ⟨("signs_behind", none), "signs_behind", "signs_behind", defArgs s_signs_behind, defBody s_signs_behind, defScope s_signs_behind, [], []⟩
def d_calls : He.DefD := ⟨("calls", none), "calls", "calls", defArgs s_calls, defBody s_calls, defScope s_calls, [], []⟩
def d_closed : He.DefD := ⟨("closed", none), "closed", "closed", defArgs s_closed, defBody s_closed, defScope s_closed, [], []⟩
def d_starting_by : He.DefD := ⟨("starting_by", none), "starting_by", "starting_by", defArgs s_starting_by, defBody s_starting_by, defScope s_starting_by, [], []⟩
def d_advanced : He.DefD := ⟨("advanced", none), "advanced", "advanced", defArgs s_advanced, defBody s_advanced, defScope s_advanced, [], []⟩
def d_moved_by : He.DefD := ⟨("moved_by", none), "moved_by", "moved_by", defArgs s_moved_by, defBody s_moved_by, defScope s_moved_by, [], []⟩
def d_deed_of : He.DefD := ⟨("deed_of", none), "deed_of", "deed_of", defArgs s_deed_of, defBody s_deed_of, defScope s_deed_of, [], []⟩
def d_named_by : He.DefD := ⟨("named_by", none), "named_by", "named_by", defArgs s_named_by, defBody s_named_by, defScope s_named_by, [], []⟩
def d_is_item : He.DefD := ⟨("is_item", none), "is_item", "is_item", defArgs s_is_item, defBody s_is_item, defScope s_is_item, [], []⟩
def d_is_deed : He.DefD := ⟨("is_deed", none), "is_deed", "is_deed", defArgs s_is_deed, defBody s_is_deed, defScope s_is_deed, [], []⟩
def d_is_table_by : He.DefD := ⟨("is_table_by", none), "is_table_by", "is_table_by", defArgs s_is_table_by, defBody s_is_table_by, defScope s_is_table_by, [], []⟩
def d_must_be_table : He.DefD := ⟨("must_be_table", none), "must_be_table", "must_be_table", defArgs s_must_be_table, defBody s_must_be_table, defScope s_must_be_table, [], []⟩
def d_Pile_init : He.DefD := ⟨("Pile", some "__init__"), "__init__", "Pile.__init__", defArgs s_Pile_init, defBody s_Pile_init, defScope s_Pile_init, [], []⟩
def d_Pile_sign : He.DefD := ⟨("Pile", some "sign"), "sign", "Pile.sign", defArgs s_Pile_sign, defBody s_Pile_sign, defScope s_Pile_sign, [], []⟩
def d_Pile_row : He.DefD := ⟨("Pile", some "row"), "row", "Pile.row", defArgs s_Pile_row, defBody s_Pile_row, defScope s_Pile_row, [], []⟩
def d_Pile_go : He.DefD := ⟨("Pile", some "go"), "go", "Pile.go", defArgs s_Pile_go, defBody s_Pile_go, defScope s_Pile_go, [], []⟩
def d_Pile_fold : He.DefD := ⟨("Pile", some "fold"), "fold", "Pile.fold", defArgs s_Pile_fold, defBody s_Pile_fold, defScope s_Pile_fold, [], []⟩
def d_Pile_do : He.DefD := ⟨("Pile", some "do"), "do", "Pile.do", defArgs s_Pile_do, defBody s_Pile_do, defScope s_Pile_do, [], []⟩
def d_signs_of : He.DefD := ⟨("signs_of", none), "signs_of", "signs_of", defArgs s_signs_of, defBody s_signs_of, defScope s_signs_of, [], []⟩
def d_read_to_end : He.DefD := ⟨("read_to_end", none), "read_to_end", "read_to_end", defArgs s_read_to_end, defBody s_read_to_end, defScope s_read_to_end, [], []⟩
def d_pile_of : He.DefD := ⟨("pile_of", none), "pile_of", "pile_of", defArgs s_pile_of, defBody s_pile_of, defScope s_pile_of, [], []⟩
def d_read_by : He.DefD := ⟨("read_by", none), "read_by", "read_by", defArgs s_read_by, defBody s_read_by, defScope s_read_by, [], []⟩
def d_folding : He.DefD := ⟨("folding", none), "folding", "folding", defArgs s_folding, defBody s_folding, defScope s_folding, [], []⟩
def d_parts_next : He.DefD := ⟨("parts_next", none), "parts_next", "parts_next", defArgs s_parts_next, defBody s_parts_next, defScope s_parts_next, [], []⟩
def d_clash_of : He.DefD := ⟨("clash_of", none), "clash_of", "clash_of", defArgs s_clash_of, defBody s_clash_of, defScope s_clash_of, [], []⟩
def d_row_of : He.DefD := ⟨("row_of", none), "row_of", "row_of", defArgs s_row_of, defBody s_row_of, defScope s_row_of, [], []⟩
def d_Web_init : He.DefD := ⟨("Web", some "__init__"), "__init__", "Web.__init__", defArgs s_Web_init, defBody s_Web_init, defScope s_Web_init, [], []⟩
def d_Web_state_of : He.DefD := ⟨("Web", some "state_of"), "state_of", "Web.state_of", defArgs s_Web_state_of, defBody s_Web_state_of, defScope s_Web_state_of, [], []⟩
def d_Web_look : He.DefD := ⟨("Web", some "look"), "look", "Web.look", defArgs s_Web_look, defBody s_Web_look, defScope s_Web_look, [], []⟩
def d_made : He.DefD := ⟨("made", none), "made", "made", defArgs s_made, defBody s_made, defScope s_made, [], []⟩
def d_is_paper_by : He.DefD := ⟨("is_paper_by", none), "is_paper_by", "is_paper_by", defArgs s_is_paper_by, defBody s_is_paper_by, defScope s_is_paper_by, [], []⟩
def d_is_begun : He.DefD := ⟨("is_begun", none), "is_begun", "is_begun", defArgs s_is_begun, defBody s_is_begun, defScope s_is_begun, [], []⟩
def d_is_called : He.DefD := ⟨("is_called", none), "is_called", "is_called", defArgs s_is_called, defBody s_is_called, defScope s_is_called, [], []⟩
def d_is_led : He.DefD := ⟨("is_led", none), "is_led", "is_led", defArgs s_is_led, defBody s_is_led, defScope s_is_led, [], []⟩
def d_is_done : He.DefD := ⟨("is_done", none), "is_done", "is_done", defArgs s_is_done, defBody s_is_done, defScope s_is_done, [], []⟩
def d_is_right : He.DefD := ⟨("is_right", none), "is_right", "is_right", defArgs s_is_right, defBody s_is_right, defScope s_is_right, [], []⟩
def d_law_cell_at : He.DefD := ⟨("_law_cell_at", none), "_law_cell_at", "_law_cell_at", defArgs s_law_cell_at, defBody s_law_cell_at, defScope s_law_cell_at, [], []⟩
def d_law_next : He.DefD := ⟨("_law_next", none), "_law_next", "_law_next", defArgs s_law_next, defBody s_law_next, defScope s_law_next, [], []⟩
def d_law_rule_by : He.DefD := ⟨("_law_rule_by", none), "_law_rule_by", "_law_rule_by", defArgs s_law_rule_by, defBody s_law_rule_by, defScope s_law_rule_by, [], []⟩
def d_law_known : He.DefD := ⟨("_law_known", none), "_law_known", "_law_known", defArgs s_law_known, defBody s_law_known, defScope s_law_known, [], []⟩
def d_law_closed : He.DefD := ⟨("_law_closed", none), "_law_closed", "_law_closed", defArgs s_law_closed, defBody s_law_closed, defScope s_law_closed, [], []⟩
def d_law_small_grammar : He.DefD := ⟨("_law_small_grammar", none), "_law_small_grammar", "_law_small_grammar", defArgs s_law_small_grammar, defBody s_law_small_grammar, defScope s_law_small_grammar, [], []⟩
def d_law_word : He.DefD := ⟨("_law_word", none), "_law_word", "_law_word", defArgs s_law_word, defBody s_law_word, defScope s_law_word, [], []⟩
def d_law_mix : He.DefD := ⟨("_law_mix", none), "_law_mix", "_law_mix", defArgs s_law_mix, defBody s_law_mix, defScope s_law_mix, [], []⟩
def d_law_made_of : He.DefD := ⟨("_law_made_of", none), "_law_made_of", "_law_made_of", defArgs s_law_made_of, defBody s_law_made_of, defScope s_law_made_of, [], []⟩
def d_law_order : He.DefD := ⟨("_law_order", none), "_law_order", "_law_order", defArgs s_law_order, defBody s_law_order, defScope s_law_order, [], []⟩
def d_law_led : He.DefD := ⟨("_law_led", none), "_law_led", "_law_led", defArgs s_law_led, defBody s_law_led, defScope s_law_led, [], []⟩
def d_law_other : He.DefD := ⟨("_law_other", none), "_law_other", "_law_other", defArgs s_law_other, defBody s_law_other, defScope s_law_other, [], []⟩
def d_law : He.DefD := ⟨("law", none), "law", "law", defArgs s_law, defBody s_law, defScope s_law, [], []⟩
def fn : List He.DefD := [d_is_letter, d_is_name, d_is_rule, d_is_grammar, d_must_be_grammar, d_is_text, d_must_be_text, d_names_by, d_makes_by, d_empties_by, d_useful_rules, d_firsts_by, d_begins_with, d_counting, d_lore_of, d_parts_of, d_next_part, d_signs_behind, d_calls, d_closed, d_starting_by, d_advanced, d_moved_by, d_deed_of, d_named_by, d_is_item, d_is_deed, d_is_table_by, d_must_be_table, d_Pile_init, d_Pile_sign, d_Pile_row, d_Pile_go, d_Pile_fold, d_Pile_do, d_signs_of, d_read_to_end, d_pile_of, d_read_by, d_folding, d_parts_next, d_clash_of, d_row_of, d_Web_init, d_Web_state_of, d_Web_look, d_made, d_is_paper_by, d_is_begun, d_is_called, d_is_led, d_is_done, d_is_right, d_law_cell_at, d_law_next, d_law_rule_by, d_law_known, d_law_closed, d_law_small_grammar, d_law_word, d_law_mix, d_law_made_of, d_law_order, d_law_led, d_law_other, d_law]
def fa : List He.Fa := [.glo "is_letter",
  .glo "is_name",
  .glo "is_rule",
  .glo "is_grammar",
  .glo "must_be_grammar",
  .glo "is_text",
  .glo "must_be_text",
  .glo "names_by",
  .glo "makes_by",
  .glo "empties_by",
  .glo "useful_rules",
  .glo "firsts_by",
  .glo "begins_with",
  .glo "counting",
  .glo "lore_of",
  .glo "parts_of",
  .glo "next_part",
  .glo "signs_behind",
  .glo "calls",
  .glo "closed",
  .glo "starting_by",
  .glo "advanced",
  .glo "moved_by",
  .glo "deed_of",
  .glo "named_by",
  .glo "is_item",
  .glo "is_deed",
  .glo "is_table_by",
  .glo "must_be_table",
  .glo "signs_of",
  .glo "read_to_end",
  .glo "pile_of",
  .glo "read_by",
  .glo "folding",
  .glo "parts_next",
  .glo "clash_of",
  .glo "row_of",
  .glo "made",
  .glo "is_paper_by",
  .glo "is_begun",
  .glo "is_called",
  .glo "is_led",
  .glo "is_done",
  .glo "is_right",
  .glo "_law_cell_at",
  .glo "_law_next",
  .glo "_law_rule_by",
  .glo "_law_known",
  .glo "_law_closed",
  .glo "_law_small_grammar",
  .glo "_law_word",
  .glo "_law_mix",
  .glo "_law_made_of",
  .glo "_law_order",
  .glo "_law_led",
  .glo "_law_other",
  .glo "law",
  .meth "Pile" "sign",
  .meth "Pile" "row",
  .meth "Pile" "go",
  .meth "Pile" "fold",
  .meth "Pile" "do",
  .meth "Web" "state_of",
  .meth "Web" "look",
  .glo "Pile",
  .cls "Pile",
  .mkr "Pile",
  .glo "Web",
  .cls "Web",
  .mkr "Web",
  .noat "Pile" "grammar",
  .noat "Pile" "table",
  .noat "Pile" "text",
  .noat "Pile" "states",
  .noat "Pile" "heads",
  .noat "Pile" "trees",
  .noat "Pile" "place",
  .noat "Pile" "forms",
  .noat "Web" "grammar",
  .noat "Web" "lore",
  .noat "Web" "stands",
  .noat "Web" "forms",
  .noat "Web" "numbers",
  .noat "Web" "goings",
  .glo "TooMany",
  .exc "TooMany",
  .exm "TooMany" "TooMany" true,
  .int "MOST_RULES" (40),
  .int "MOST_PARTS" (6),
  .int "MOST_NAME" (8),
  .int "MOST_TEXT" (30),
  .str "LETTERS" "abcdefghijklmnopqrstuvwxyz",
  .str "CAPITALS" "ABCDEFGHIJKLMNOPQRSTUVWXYZ",
  .str "FIGURES" "0123456789",
  .str "END" ".",
  .int "WHOLE" (-1),
  .int "MOST_ROWS" (200),
  .int "MOST_DEEDS" (299),
  .int "MOST_STATES" (200),
  .int "MOST_STANDS" (200),
  .free "len",
  .free "all",
  .free "sorted",
  .free "set",
  .free "dict",
  .free "list",
  .free "tuple",
  .free "range",
  .free "enumerate",
  .free "zip"]
/- facts: 0 g_is_letter, 1 g_is_name, 2 g_is_rule, 3 g_is_grammar, 4 g_must_be_grammar, 5 g_is_text, 6 g_must_be_text, 7 g_names_by, 8 g_makes_by, 9 g_empties_by, 10 g_useful_rules, 11 g_firsts_by, 12 g_begins_with, 13 g_counting, 14 g_lore_of, 15 g_parts_of, 16 g_next_part, 17 g_signs_behind, 18 g_calls, 19 g_closed, 20 g_starting_by, 21 g_advanced, 22 g_moved_by, 23 g_deed_of, 24 g_named_by, 25 g_is_item, 26 g_is_deed, 27 g_is_table_by, 28 g_must_be_table, 29 g_signs_of, 30 g_read_to_end, 31 g_pile_of, 32 g_read_by, 33 g_folding, 34 g_parts_next, 35 g_clash_of, 36 g_row_of, 37 g_made, 38 g_is_paper_by, 39 g_is_begun, 40 g_is_called, 41 g_is_led, 42 g_is_done, 43 g_is_right, 44 g_law_cell_at, 45 g_law_next, 46 g_law_rule_by, 47 g_law_known, 48 g_law_closed, 49 g_law_small_grammar, 50 g_law_word, 51 g_law_mix, 52 g_law_made_of, 53 g_law_order, 54 g_law_led, 55 g_law_other, 56 g_law, 57 m_Pile_sign, 58 m_Pile_row, 59 m_Pile_go, 60 m_Pile_fold, 61 m_Pile_do, 62 m_Web_state_of, 63 m_Web_look, 64 gC_Pile, 65 c_Pile, 66 k_Pile, 67 gC_Web, 68 c_Web, 69 k_Web, 70 n_Pile_grammar, 71 n_Pile_table, 72 n_Pile_text, 73 n_Pile_states, 74 n_Pile_heads, 75 n_Pile_trees, 76 n_Pile_place, 77 n_Pile_forms, 78 n_Web_grammar, 79 n_Web_lore, 80 n_Web_stands, 81 n_Web_forms, 82 n_Web_numbers, 83 n_Web_goings, 84 gC_TooMany, 85 x_TooMany, 86 em_TooMany, 87 v_MOST_RULES, 88 v_MOST_PARTS, 89 v_MOST_NAME, 90 v_MOST_TEXT, 91 v_LETTERS, 92 v_CAPITALS, 93 v_FIGURES, 94 v_END, 95 v_WHOLE, 96 v_MOST_ROWS, 97 v_MOST_DEEDS, 98 v_MOST_STATES, 99 v_MOST_STANDS, 100 b_len, 101 b_all, 102 b_sorted, 103 b_set, 104 b_dict, 105 b_list, 106 b_tuple, 107 b_range, 108 b_enumerate, 109 b_zip -/
def names : List PySem.Str := (["MakerError", "NoGrammar", "NoText", "TooMany", "NoTable", "NoPaper", "MOST_RULES", "MOST_PARTS", "MOST_NAME", "MOST_TEXT", "LETTERS", "CAPITALS", "FIGURES", "is_letter", "is_name", "is_rule", "is_grammar", "must_be_grammar", "is_text", "must_be_text", "names_by", "END", "makes_by", "empties_by", "useful_rules", "firsts_by", "begins_with", "WHOLE", "counting", "lore_of"] : List PySem.Str) ++ (["parts_of", "next_part", "signs_behind", "calls", "closed", "starting_by", "advanced", "moved_by", "deed_of", "named_by", "is_item", "MOST_ROWS", "MOST_DEEDS", "is_deed", "is_table_by", "must_be_table", "Pile", "signs_of", "read_to_end", "pile_of", "read_by", "folding", "MOST_STATES", "parts_next", "clash_of", "row_of", "Web", "made", "MOST_STANDS", "is_paper_by"] : List PySem.Str) ++ (["is_begun", "is_called", "is_led", "is_done", "is_right", "_law_cell_at", "_law_next", "_law_rule_by", "_law_known", "_law_closed", "_law_small_grammar", "_law_word", "_law_mix", "_law_made_of", "_law_order", "_law_led", "_law_other"] : List PySem.Str)
end KHead


set_option Elab.async false
set_option linter.all false
set_option maxRecDepth 100000
set_option maxHeartbeats 4000000
/-! DL1: data that a value stands for (Dv), things that a def owns (Bs, Sl), the state (Ok, Rs, Step). -/
namespace DL
open PySem PySem.Spec PyProof.Rows L2

def kD : Key → PyData
  | .inl i => .int i
  | .inr x => .str x

mutual
/-- the value v stands for the data d, read off objects of H that stay -/
inductive Dv (K : PySem.W.Frag) (H : Hp) : V → PyData → Prop
  | non : Dv K H .non .none
  | bl (b : Bool) : Dv K H (.bl b) (.bool b)
  | int (i : Int) : Dv K H (.int i) (.int i)
  | str (x : Str) : Dv K H (.str x) (.str x)
  | lst {a : Addr} {xs : List V} {ds : List PyData} : SqL K H a xs → DvAll K H xs ds → Dv K H (.ref a) (.list ds)
  | tup {a : Addr} {xs : List V} {ds : List PyData} : H a = some (.tup xs) → DvAll K H xs ds → Dv K H (.ref a) (.tuple ds)
  | dct {a : Addr} {o : Obj} {kvs : List (Key × V)} {ds : List (PyData × PyData)} : H a = some (.frz o (.dK kvs)) → DvKV K H kvs ds → Dv K H (.ref a) (.dict ds)
inductive DvAll (K : PySem.W.Frag) (H : Hp) : List V → List PyData → Prop
  | nil : DvAll K H [] []
  | cons {v : V} {vs : List V} {d : PyData} {ds : List PyData} : Dv K H v d → DvAll K H vs ds → DvAll K H (v :: vs) (d :: ds)
inductive DvKV (K : PySem.W.Frag) (H : Hp) : List (Key × V) → List (PyData × PyData) → Prop
  | nil : DvKV K H [] []
  | cons {k : Key} {v : V} {kvs : List (Key × V)} {d : PyData} {ds : List (PyData × PyData)} : Dv K H v d → DvKV K H kvs ds → DvKV K H ((k, v) :: kvs) ((kD k, d) :: ds)
end

theorem seqT_up {K : PySem.W.Frag} {H H' : Hp} {a : Addr} {xs : List V} (e : Same H H') (h : SqT K H a xs) : SqT K H' a xs := by
  rcases h with (h | ⟨o, h⟩) | h
  · exact .inl (.inl (e _ _ h))
  · exact .inl (.inr ⟨o, e _ _ h⟩)
  · exact .inr h

section
variable {K : PySem.W.Frag} {H H' : Hp}
mutual
theorem Dv.up (S : Same H H') : ∀ (d : PyData) {v : V}, Dv K H v d → Dv K H' v d
  | .none, _, h => by cases h; exact .non
  | .bool _, _, h => by cases h; exact .bl _
  | .int _, _, h => by cases h; exact .int _
  | .str _, _, h => by cases h; exact .str _
  | .list ds, _, h => by
    cases h with
    | lst h1 h2 => exact .lst (S.seq h1) (DvAll.up S ds h2)
  | .tuple ds, _, h => by
    cases h with
    | tup h1 h2 => exact .tup (S _ _ h1) (DvAll.up S ds h2)
  | .dict ds, _, h => by
    cases h with
    | dct h1 h2 => exact .dct (S _ _ h1) (DvKV.up S ds h2)
theorem DvAll.up (S : Same H H') : ∀ (ds : List PyData) {vs : List V}, DvAll K H vs ds → DvAll K H' vs ds
  | [], _, h => by cases h; exact .nil
  | d :: ds, _, h => by
    cases h with
    | cons h1 h2 => exact .cons (Dv.up S d h1) (DvAll.up S ds h2)
theorem DvKV.up (S : Same H H') : ∀ (ds : List (PyData × PyData)) {kvs : List (Key × V)}, DvKV K H kvs ds → DvKV K H' kvs ds
  | [], _, h => by cases h; exact .nil
  | (_, d) :: ds, _, h => by
    cases h with
    | cons h1 h2 => exact .cons (Dv.up S d h1) (DvKV.up S ds h2)
end
mutual
/-- as HandS reads data, where no dict is within -/
theorem Dv.dp : ∀ (d : PyData) {v : V}, d.canLay0 = true → Dv K H v d → Dp K H v d
  | .none, _, _, h => by cases h; exact .non
  | .bool _, _, _, h => by cases h; exact .bl _
  | .int _, _, _, h => by cases h; exact .int _
  | .str _, _, _, h => by cases h; exact .str _
  | .list ds, _, c, h => by
    cases h with
    | lst h1 h2 => exact .lst h1 (DvAll.dp ds (by simpa [PyData.canLay0] using c) h2)
  | .tuple ds, _, c, h => by
    cases h with
    | tup h1 h2 => exact .tup (SqT.of h1) (DvAll.dp ds (by simpa [PyData.canLay0] using c) h2)
  | .dict ds, _, c, h => by simp [PyData.canLay0] at c
theorem DvAll.dp : ∀ (ds : List PyData) {vs : List V}, PyData.canLayAll0 ds = true → DvAll K H vs ds → DpAll K H vs ds
  | [], _, _, h => by cases h; exact .nil
  | d :: ds, _, c, h => by
    have c' : d.canLay0 = true ∧ PyData.canLayAll0 ds = true := by simpa [PyData.canLayAll0] using c
    cases h with
    | cons h1 h2 => exact .cons (Dv.dp d c'.1 h1) (DvAll.dp ds c'.2 h2)
end
theorem DvAll.len : ∀ {vs : List V} {ds : List PyData}, DvAll K H vs ds → vs.length = ds.length
  | _, _, .nil => rfl
  | _, _, .cons _ t => congrArg Nat.succ (DvAll.len t)
theorem DvAll.at : ∀ {vs : List V} {ds : List PyData} {i : Nat} {d : PyData}, DvAll K H vs ds → ds[i]? = some d → ∃ v, vs[i]? = some v ∧ Dv K H v d
  | _, _, _, _, .nil, e => by simp at e
  | _, _, 0, _, .cons h _, e => by
    have e' := Option.some.inj (show some _ = some _ from e)
    subst e'
    exact ⟨_, rfl, h⟩
  | _, _, i + 1, d, .cons _ t, e => by
    obtain ⟨v, h1, h2⟩ := DvAll.at (i := i) (d := d) t (by simpa using e)
    exact ⟨v, by simpa using h1, h2⟩
theorem DvAll.atV : ∀ {vs : List V} {ds : List PyData} {i : Nat} {v : V}, DvAll K H vs ds → vs[i]? = some v → ∃ d, ds[i]? = some d ∧ Dv K H v d
  | _, _, _, _, .nil, e => by simp at e
  | _, _, 0, _, .cons h _, e => by
    have e' := Option.some.inj (show some _ = some _ from e)
    subst e'
    exact ⟨_, rfl, h⟩
  | _, _, i + 1, d, .cons _ t, e => by
    obtain ⟨v, h1, h2⟩ := DvAll.atV (i := i) t (by simpa using e)
    exact ⟨v, by simpa using h1, h2⟩
theorem DvAll.app : ∀ {vs ws : List V} {ds es : List PyData}, DvAll K H vs ds → DvAll K H ws es → DvAll K H (vs ++ ws) (ds ++ es)
  | _, _, _, _, .nil, s => s
  | _, _, _, _, .cons r t, s => .cons r (DvAll.app t s)
theorem DvAll.drop : ∀ (n : Nat) {vs : List V} {ds : List PyData}, DvAll K H vs ds → DvAll K H (vs.drop n) (ds.drop n)
  | 0, _, _, h => h
  | n + 1, _, _, .nil => .nil
  | n + 1, _, _, .cons _ t => DvAll.drop n t
theorem DvAll.take : ∀ (n : Nat) {vs : List V} {ds : List PyData}, DvAll K H vs ds → DvAll K H (vs.take n) (ds.take n)
  | 0, _, _, _ => .nil
  | n + 1, _, _, .nil => .nil
  | n + 1, _, _, .cons h t => .cons h (DvAll.take n t)
theorem DvAll.set {v : V} {d : PyData} (hv : Dv K H v d) : ∀ {vs : List V} {ds : List PyData} (i : Nat), DvAll K H vs ds → DvAll K H (vs.set i v) (ds.set i d)
  | _, _, _, .nil => .nil
  | _, _, 0, .cons _ t => .cons hv t
  | _, _, i + 1, .cons h t => .cons h (DvAll.set hv i t)
theorem DvAll.mem {vs : List V} {ds : List PyData} {d : PyData} (h : DvAll K H vs ds) (hd : d ∈ ds) : ∃ v, v ∈ vs ∧ Dv K H v d := by
  obtain ⟨i, e⟩ := List.getElem?_of_mem hd
  obtain ⟨v, e1, e2⟩ := h.at e
  exact ⟨v, List.mem_of_getElem? e1, e2⟩
theorem DvAll.one {v : V} {d : PyData} (h : Dv K H v d) : DvAll K H [v] [d] := .cons h .nil
end

/-! ### what a def may own -/
/-- things: data that stays; a list, a dict of its own .. -/
inductive Bs where
  | dat (d : PyData)
  | ol (ds : List PyData)
  | okd (kvs : List (Key × PyData))
  | otd (kvs : List (List Key × PyData))
  | ond (kvs : List (NestedKey × V))
  | okk (kvs : List (Str × List Str))
  | ftd (kvs : List (List Key × PyData))
inductive Sl where
  | b (x : Bs)
  | o (C : Addr) (fs : List (Str × Bs))

mutual
def nkD : NestedKey → PyData
  | .none => .none
  | .num i => .int i
  | .text x => .str x
  | .tup ks => .tuple (nkDs ks)
def nkDs : List NestedKey → List PyData
  | [] => []
  | k :: ks => nkD k :: nkDs ks
end

section
variable (P : Program) (w : World) (K : PySem.W.Frag)
abbrev KvD (Hf : Hp) : List (Key × V) → List (Key × PyData) → Prop := Paired fun p q => p.1 = q.1 ∧ Dv K Hf p.2 q.2
abbrev KtD (Hf : Hp) : List (List Key × V) → List (List Key × PyData) → Prop := Paired fun p q => p.1 = q.1 ∧ Dv K Hf p.2 q.2
/-- an object's content: a dict with nested keys -/
def NdObj (Hf : Hp) (a : Addr) (o : Obj) (kvs : List (NestedKey × V)) : Prop :=
  o.ExactDict ∧ (a == sysModules) = false ∧ kvs.length ≤ sizeLine ∧ ∃ es ep, ∃ xs : List (NestedKey × Addr × Value), o.data = .dict es ep ∧ es.toList = xs.map (entryOfKey (nestedKind P w)) ∧ (xs.map (·.1)).Nodup ∧
    Paired (fun (p : NestedKey × V) (q : NestedKey × Addr × Value) => p.1 = q.1 ∧ Dv K Hf (.ref q.2.1) (nkD p.1) ∧ p.1.depth ≤ 8 ∧ RelV p.2 q.2.2) kvs xs
def trues (xs : List Str) : List (Key × V) := xs.map fun x => (Sum.inr x, V.bl true)
def BsOk (Hf H : Hp) : Bs → V → List Addr → Prop
  | .dat d, v, fp => fp = [] ∧ Dv K Hf v d
  | .ol ds, v, fp => ∃ a xs, v = .ref a ∧ fp = [a] ∧ H a = some (.lst xs) ∧ DvAll K Hf xs ds
  | .okd kvs, v, fp => ∃ a ws, v = .ref a ∧ fp = [a] ∧ H a = some (.dK ws) ∧ KvD K Hf ws kvs
  | .otd kvs, v, fp => ∃ a ws, v = .ref a ∧ fp = [a] ∧ H a = some (.dT ws) ∧ KtD K Hf ws kvs
  | .ond kvs, v, fp => ∃ a o, v = .ref a ∧ fp = [a] ∧ H a = some (.ext fun h => h.get? a = some o) ∧ NdObj P w K Hf a o kvs
  | .okk kvs, v, fp => ∃ (a : Addr) (bs : List Addr), v = .ref a ∧ fp = a :: bs ∧ H a = some (.dK ((kvs.zip bs).map fun q => (Sum.inr q.1.1, V.ref q.2))) ∧ Paired (fun b (q : Str × List Str) => H b = some (.dK (trues q.2))) bs kvs
  | .ftd kvs, v, fp => fp = [] ∧ ∃ a o ws, v = .ref a ∧ Hf a = some (.frz o (.dT ws)) ∧ KtD K Hf ws kvs
inductive FsOk (Hf H : Hp) : List (Str × V) → List (Str × Bs) → List (List Addr) → Prop
  | nil : FsOk Hf H [] [] []
  | cons {f : Str} {v : V} {x : Bs} {fp : List Addr} {vs : List (Str × V)} {fs : List (Str × Bs)} {fps : List (List Addr)} : BsOk P w K Hf H x v fp → FsOk Hf H vs fs fps → FsOk Hf H ((f, v) :: vs) ((f, x) :: fs) (fp :: fps)
def SlOk (Hf H : Hp) : Sl → V → List Addr → Prop
  | .b x, v, fp => BsOk P w K Hf H x v fp
  | .o C fs, v, fp => ∃ a dx fvs fps, v = .ref a ∧ fp = a :: fps.flatten ∧ H a = some (.ins C dx fvs) ∧ FsOk P w K Hf H fvs fs fps
end

section
variable {P : Program} {w : World} {K : PySem.W.Frag} {Hf Hf' H H' : Hp}
theorem KvD.up (S : Same Hf Hf') {ws : List (Key × V)} {kvs : List (Key × PyData)} (h : KvD K Hf ws kvs) : KvD K Hf' ws kvs := Paired.mapP h fun _ _ z => ⟨z.1, Dv.up S _ z.2⟩
theorem KtD.up (S : Same Hf Hf') {ws : List (List Key × V)} {kvs : List (List Key × PyData)} (h : KtD K Hf ws kvs) : KtD K Hf' ws kvs := Paired.mapP h fun _ _ z => ⟨z.1, Dv.up S _ z.2⟩
theorem NdObj.up (S : Same Hf Hf') {a : Addr} {o : Obj} {kvs : List (NestedKey × V)} (h : NdObj P w K Hf a o kvs) : NdObj P w K Hf' a o kvs := by
  obtain ⟨h1, h2, h3, es, ep, xs, h4, h5, h6, h7⟩ := h
  exact ⟨h1, h2, h3, es, ep, xs, h4, h5, h6, Paired.mapP h7 fun _ _ z => ⟨z.1, Dv.up S _ z.2.1, z.2.2⟩⟩
theorem pairedMem {α β : Type} {F G : α → β → Prop} : ∀ {l : List α} {m : List β}, Paired F l m → (∀ a b, a ∈ l → F a b → G a b) → Paired G l m
  | _, _, .nil, _ => .nil
  | _, _, .cons r t, f => .cons (f _ _ List.mem_cons_self r) (pairedMem t fun a b ha => f a b (List.mem_cons_of_mem _ ha))
theorem BsOk.frame (S : Same Hf Hf') : ∀ {x : Bs} {v : V} {fp : List Addr}, (∀ a ∈ fp, H' a = H a) → BsOk P w K Hf H x v fp → BsOk P w K Hf' H' x v fp
  | .dat d, _, _, _, ⟨h1, h2⟩ => ⟨h1, Dv.up S d h2⟩
  | .ol ds, _, _, k, ⟨a, xs, e1, e2, e3, e4⟩ => ⟨a, xs, e1, e2, by rw [k a (by rw [e2]; simp)]; exact e3, DvAll.up S ds e4⟩
  | .okd kvs, _, _, k, ⟨a, xs, e1, e2, e3, e4⟩ => ⟨a, xs, e1, e2, by rw [k a (by rw [e2]; simp)]; exact e3, KvD.up S e4⟩
  | .otd kvs, _, _, k, ⟨a, xs, e1, e2, e3, e4⟩ => ⟨a, xs, e1, e2, by rw [k a (by rw [e2]; simp)]; exact e3, KtD.up S e4⟩
  | .ond kvs, _, _, k, ⟨a, xs, e1, e2, e3, e4⟩ => ⟨a, xs, e1, e2, by rw [k a (by rw [e2]; simp)]; exact e3, NdObj.up S e4⟩
  | .okk kvs, _, _, k, ⟨a, bs, e1, e2, e3, e4⟩ => ⟨a, bs, e1, e2, by rw [k a (by rw [e2]; simp)]; exact e3, pairedMem e4 fun b q hb e => by rw [k b (by rw [e2]; exact List.mem_cons_of_mem _ hb)]; exact e⟩
  | .ftd kvs, _, _, _, ⟨h1, a, o, ws, e1, e2, e3⟩ => ⟨h1, a, o, ws, e1, S _ _ e2, KtD.up S e3⟩
theorem FsOk.frame (S : Same Hf Hf') : ∀ {vs : List (Str × V)} {fs : List (Str × Bs)} {fps : List (List Addr)}, (∀ a ∈ fps.flatten, H' a = H a) → FsOk P w K Hf H vs fs fps → FsOk P w K Hf' H' vs fs fps
  | _, _, _, _, .nil => .nil
  | _, _, _, k, .cons h t => .cons (BsOk.frame S (fun a ha => k a (by simp [ha])) h) (FsOk.frame S (fun a ha => k a (by
    rw [List.flatten_cons]
    exact List.mem_append_right _ ha)) t)
theorem SlOk.frame (S : Same Hf Hf') : ∀ {x : Sl} {v : V} {fp : List Addr}, (∀ a ∈ fp, H' a = H a) → SlOk P w K Hf H x v fp → SlOk P w K Hf' H' x v fp
  | .b x, _, _, k, h => BsOk.frame S k h
  | .o C fs, _, _, k, ⟨a, dx, fvs, fps, e1, e2, e3, e4⟩ => ⟨a, dx, fvs, fps, e1, e2, by rw [k a (by rw [e2]; simp)]; exact e3, FsOk.frame S (fun b hb => k b (by rw [e2]; exact List.mem_cons_of_mem _ hb)) e4⟩
theorem paired_mem_r {α β : Type} {F : α → β → Prop} : ∀ {l : List α} {m : List β}, Paired F l m → ∀ a ∈ l, ∃ b ∈ m, F a b
  | _, _, .nil, a, h => by cases h
  | _, _, .cons r t, a, h => by
    rcases List.mem_cons.mp h with e | h
    · subst e
      exact ⟨_, List.mem_cons_self, r⟩
    · obtain ⟨b, hb, q⟩ := paired_mem_r t a h
      exact ⟨b, List.mem_cons_of_mem _ hb, q⟩
theorem BsOk.there : ∀ {x : Bs} {v : V} {fp : List Addr}, BsOk P w K Hf H x v fp → ∀ a ∈ fp, ∃ o, H a = some o ∧ Mut (some o)
  | .dat d, _, _, ⟨h1, _⟩, a, ha => by rw [h1] at ha; cases ha
  | .ol ds, _, _, ⟨b, xs, e1, e2, e3, e4⟩, a, ha => by
    rw [e2] at ha
    have e : a = b := by simpa using ha
    rw [e]
    exact ⟨_, e3, True.intro⟩
  | .okd ds, _, _, ⟨b, xs, e1, e2, e3, e4⟩, a, ha => by
    rw [e2] at ha
    have e : a = b := by simpa using ha
    rw [e]
    exact ⟨_, e3, True.intro⟩
  | .otd ds, _, _, ⟨b, xs, e1, e2, e3, e4⟩, a, ha => by
    rw [e2] at ha
    have e : a = b := by simpa using ha
    rw [e]
    exact ⟨_, e3, True.intro⟩
  | .ond ds, _, _, ⟨b, xs, e1, e2, e3, e4⟩, a, ha => by
    rw [e2] at ha
    have e : a = b := by simpa using ha
    rw [e]
    exact ⟨_, e3, True.intro⟩
  | .okk kvs, _, _, ⟨b, bs, e1, e2, e3, e4⟩, a, ha => by
    rw [e2] at ha
    rcases List.mem_cons.mp ha with e | ha
    · rw [e]
      exact ⟨_, e3, True.intro⟩
    · obtain ⟨q, _, e⟩ := paired_mem_r e4 a ha
      exact ⟨_, e, True.intro⟩
  | .ftd kvs, _, _, ⟨h1, _⟩, a, ha => by rw [h1] at ha; cases ha
theorem FsOk.there : ∀ {vs : List (Str × V)} {fs : List (Str × Bs)} {fps : List (List Addr)}, FsOk P w K Hf H vs fs fps → ∀ a ∈ fps.flatten, ∃ o, H a = some o ∧ Mut (some o)
  | _, _, _, .nil, a, ha => by simp at ha
  | _, _, _, .cons h t, a, ha => by
    rw [List.flatten_cons] at ha
    rcases List.mem_append.mp ha with ha | ha
    · exact h.there a ha
    · exact t.there a ha
theorem SlOk.there : ∀ {x : Sl} {v : V} {fp : List Addr}, SlOk P w K Hf H x v fp → ∀ a ∈ fp, ∃ o, H a = some o ∧ Mut (some o)
  | .b x, _, _, h => BsOk.there h
  | .o C fs, _, _, ⟨b, dx, fvs, fps, e1, e2, e3, e4⟩ => fun a ha => by
    rw [e2] at ha
    rcases List.mem_cons.mp ha with e | ha
    · rw [e]
      exact ⟨_, e3, True.intro⟩
    · exact e4.there a ha
end

/-! ### the state -/
abbrev Ctx := List (Option Sl)
abbrev Fps := Nat → List Addr
structure Ok (P : Program) (w : World) (K : PySem.W.Frag) (Hf H : Hp) (σ : L2.St) (Γ : Ctx) (fps : Fps) : Prop where
  sub : Same Hf H
  len : Γ.length ≤ σ.length
  sl : ∀ i s, Γ[i]? = some (some s) → ∃ v, σ[i]? = some (some v) ∧ SlOk P w K Hf H s v (fps i)
  em : ∀ i, (∀ s, Γ[i]? ≠ some (some s)) → fps i = []
  nd : ∀ i, (fps i).Nodup
  dj : ∀ i j a, a ∈ fps i → a ∈ fps j → i = j
  nf : ∀ i a, a ∈ fps i → Hf a = none
/-- a thing at hand, apart from the slots -/
structure Rs (P : Program) (w : World) (K : PySem.W.Frag) (Hf H : Hp) (s : Sl) (v : V) (f : List Addr) (fps : Fps) : Prop where
  ok : SlOk P w K Hf H s v f
  nd : f.Nodup
  nf : ∀ a ∈ f, Hf a = none
  dj : ∀ a ∈ f, ∀ i, a ∉ fps i
def own (fps : Fps) : Addr → Prop := fun a => ∃ i, a ∈ fps i
def ownR (fps : Fps) (f : List Addr) : Addr → Prop := fun a => (∃ i, a ∈ fps i) ∨ a ∈ f
/-- from (Hf, H), where W may be written, to (Hf', H'), where W' is owned -/
structure Step (W : Addr → Prop) (Hf H : Hp) (W' : Addr → Prop) (Hf' H' : Hp) : Prop where
  keep : ∀ b o, ¬ W b → H b = some o → H' b = some o
  mono : Same Hf Hf'
  own : ∀ a, ¬ W a → Hf a = none → Mut (H a) → Hf' a = none
  there : ∀ a, H a ≠ none → H' a ≠ none
  new : ∀ a, W' a → W a ∨ H a = none

section
variable {P : Program} {w : World} {K : PySem.W.Frag} {Hf Hf' H H' Hf1 Hf2 H1 H2 : Hp} {σ σ' : L2.St} {Γ Γ' : Ctx} {fps fps' fps1 fps2 : Fps} {f f1 f2 : List Addr} {s : Sl} {v : V} {W W' W1 W2 : Addr → Prop}
theorem Ok.there (o : Ok P w K Hf H σ Γ fps) {i : Nat} {a : Addr} (h : a ∈ fps i) : H a ≠ none := by
  have no : (∀ s, Γ[i]? ≠ some (some s)) → False := fun z => by
    rw [o.em i z] at h
    cases h
  cases e : Γ[i]? with
  | none => exact (no fun s z => by rw [e] at z; cases z).elim
  | some x =>
    cases x with
    | none => exact (no fun s z => by rw [e] at z; cases z).elim
    | some s =>
      obtain ⟨v, _, r⟩ := o.sl i s e
      obtain ⟨u, hu, _⟩ := r.there a h
      rw [hu]
      simp
theorem Ok.mut (o : Ok P w K Hf H σ Γ fps) {i : Nat} {a : Addr} (h : a ∈ fps i) : Mut (H a) := by
  have no : (∀ s, Γ[i]? ≠ some (some s)) → False := fun z => by
    rw [o.em i z] at h
    cases h
  cases e : Γ[i]? with
  | none => exact (no fun s z => by rw [e] at z; cases z).elim
  | some x =>
    cases x with
    | none => exact (no fun s z => by rw [e] at z; cases z).elim
    | some s =>
      obtain ⟨v, _, r⟩ := o.sl i s e
      obtain ⟨u, hu, m⟩ := r.there a h
      rw [hu]
      exact m
theorem mut_some {a : Addr} (h : Mut (H a)) : ∃ u, H a = some u := by
  cases e : H a with
  | none => rw [e] at h; exact h.elim
  | some u => exact ⟨u, rfl⟩
theorem mut_ne {a : Addr} (h : Mut (H a)) : H a ≠ none := by
  obtain ⟨u, e⟩ := mut_some h
  rw [e]
  simp
theorem Step.refl : Step W Hf H W Hf H := ⟨fun _ _ _ h => h, Same.refl _, fun _ _ h _ => h, fun _ h => h, fun _ h => .inl h⟩
theorem Step.trans (a : Step W Hf H W1 Hf1 H1) (b : Step W1 Hf1 H1 W2 Hf2 H2) : Step W Hf H W2 Hf2 H2 where
  keep := fun c o n h => by
    refine b.keep c o (fun hc => ?_) (a.keep c o n h)
    rcases a.new c hc with z | e
    · exact n z
    · rw [h] at e; cases e
  mono := a.mono.trans b.mono
  own := fun c n h1 h2 => b.own c (fun hc => (a.new c hc).elim n fun e => mut_ne h2 e) (a.own c n h1 h2) (by
    obtain ⟨u, e⟩ := mut_some h2
    rw [a.keep c u n e, ← e]
    exact h2)
  there := fun c h => b.there c (a.there c h)
  new := fun c h => by
    rcases b.new c h with z | e
    · exact a.new c z
    · refine .inr (Classical.byContradiction fun n => a.there c n e)
theorem Step.imp (a : Step W Hf H W' Hf1 H1) (h : ∀ x, W2 x → W' x) : Step W Hf H W2 Hf1 H1 := ⟨a.keep, a.mono, a.own, a.there, fun x hx => a.new x (h x hx)⟩
theorem own_sub {x : Addr} (h : own fps x) : ownR fps f x := .inl h
/-- the slots stand while others step -/
theorem SlOk.step (a : Step W Hf H W' Hf1 H1) (h : SlOk P w K Hf H s v f) (n : ∀ x ∈ f, ¬ W x) : SlOk P w K Hf1 H1 s v f :=
  SlOk.frame a.mono (fun x hx => by
    obtain ⟨o, e, _⟩ := h.there x hx
    rw [e, a.keep x o (n x hx) e]) h
/-- a value at hand stays at hand while the slots step -/
theorem Rs.step (r : Rs P w K Hf H s v f fps) (a : Step (own fps) Hf H (ownR fps' f1) Hf1 H1) : Rs P w K Hf1 H1 s v f fps' ∧ ∀ x ∈ f, x ∉ f1 := by
  have thm : ∀ x ∈ f, Mut (H x) := fun x hx => by
    obtain ⟨o, e, m⟩ := r.ok.there x hx
    rw [e]
    exact m
  have th : ∀ x ∈ f, H x ≠ none := fun x hx => mut_ne (thm x hx)
  refine ⟨⟨r.ok.step a fun x hx ⟨i, hi⟩ => r.dj x hx i hi, r.nd, fun x hx => a.own x (fun ⟨i, hi⟩ => r.dj x hx i hi) (r.nf x hx) (thm x hx), fun x hx i hi => ?_⟩, fun x hx hx1 => ?_⟩
  · rcases a.new x (.inl ⟨i, hi⟩) with ⟨j, hj⟩ | e
    · exact r.dj x hx j hj
    · exact th x hx e
  · rcases a.new x (.inr hx1) with ⟨j, hj⟩ | e
    · exact r.dj x hx j hj
    · exact th x hx e
theorem Rs.dat {d : PyData} (h : Dv K Hf v d) : Rs P w K Hf H (.b (.dat d)) v [] fps := ⟨⟨rfl, h⟩, List.nodup_nil, fun _ h => (List.not_mem_nil h).elim, fun _ h => (List.not_mem_nil h).elim⟩
theorem Rs.dv {d : PyData} (h : Rs P w K Hf H (.b (.dat d)) v f fps) : f = [] ∧ Dv K Hf v d := h.ok
/-- a slot is stored -/
theorem Ok.set (o : Ok P w K Hf H σ Γ fps) (r : Rs P w K Hf H s v f fps) (i : Nat) : Ok P w K Hf H (σ.set i (some v)) (Γ.set i (some s)) (fun j => if j = i ∧ i < Γ.length then f else fps j) := by
  by_cases hi : i < Γ.length
  · refine ⟨o.sub, by simpa using o.len, fun j t e => ?_, fun j e => ?_, fun j => ?_, fun j k a h1 h2 => ?_, fun j a h => ?_⟩
    · by_cases hj : j = i
      · subst hj
        rw [List.getElem?_set_self hi] at e
        cases e
        refine ⟨v, by rw [List.getElem?_set_self (Nat.lt_of_lt_of_le hi o.len)], ?_⟩
        rw [if_pos ⟨rfl, hi⟩]
        exact r.ok
      · rw [List.getElem?_set_ne (Ne.symm hj)] at e ⊢
        rw [if_neg (fun z => hj z.1)]
        exact o.sl j t e
    · by_cases hj : j = i
      · subst hj
        exact absurd (List.getElem?_set_self hi) (e s)
      · rw [if_neg (fun z => hj z.1)]
        refine o.em j fun t z => e t ?_
        rw [List.getElem?_set_ne (Ne.symm hj)]
        exact z
    · by_cases hj : j = i
      · rw [if_pos ⟨hj, hi⟩]; exact r.nd
      · rw [if_neg (fun z => hj z.1)]; exact o.nd j
    · by_cases hj : j = i <;> by_cases hk : k = i
      · rw [hj, hk]
      · rw [if_pos ⟨hj, hi⟩] at h1
        rw [if_neg (fun z => hk z.1)] at h2
        exact (r.dj a h1 k h2).elim
      · rw [if_neg (fun z => hj z.1)] at h1
        rw [if_pos ⟨hk, hi⟩] at h2
        exact (r.dj a h2 j h1).elim
      · rw [if_neg (fun z => hj z.1)] at h1
        rw [if_neg (fun z => hk z.1)] at h2
        exact o.dj j k a h1 h2
    · by_cases hj : j = i
      · rw [if_pos ⟨hj, hi⟩] at h; exact r.nf a h
      · rw [if_neg (fun z => hj z.1)] at h; exact o.nf j a h
  · have e1 : Γ.set i (some s) = Γ := List.set_eq_of_length_le (Nat.le_of_not_lt hi)
    have e2 : (fun j => if j = i ∧ i < Γ.length then f else fps j) = fps := by
      funext j
      rw [if_neg (fun z => hi z.2)]
    rw [e1, e2]
    refine ⟨o.sub, by simpa using o.len, fun j t e => ?_, o.em, o.nd, o.dj, o.nf⟩
    obtain ⟨x, h1, h2⟩ := o.sl j t e
    refine ⟨x, ?_, h2⟩
    have hj : j < Γ.length := (List.getElem?_eq_some_iff.mp e).1
    rw [List.getElem?_set_ne (fun z => hi (by rw [z]; exact hj))]
    exact h1
theorem own_set {i : Nat} {x : Addr} (h : own (fun j => if j = i ∧ i < Γ.length then f else fps j) x) : ownR fps f x := by
  obtain ⟨j, hj⟩ := h
  have hj : x ∈ (if j = i ∧ i < Γ.length then f else fps j) := hj
  by_cases c : j = i ∧ i < Γ.length
  · rw [if_pos c] at hj; exact .inr hj
  · rw [if_neg c] at hj; exact .inl ⟨j, hj⟩
/-- a slot is forgotten: its thing comes to hand -/
theorem Ok.take (o : Ok P w K Hf H σ Γ fps) {i : Nat} (e : Γ[i]? = some (some s)) (hv : σ[i]? = some (some v)) : Ok P w K Hf H σ (Γ.set i none) (fun j => if j = i then [] else fps j) ∧ Rs P w K Hf H s v (fps i) (fun j => if j = i then [] else fps j) := by
  have hi : i < Γ.length := (List.getElem?_eq_some_iff.mp e).1
  refine ⟨⟨o.sub, by simpa using o.len, fun j t q => ?_, fun j q => ?_, fun j => ?_, fun j k a h1 h2 => ?_, fun j a h => ?_⟩, ⟨?_, o.nd i, fun a h => o.nf i a h, fun a h j hj => ?_⟩⟩
  · by_cases hj : j = i
    · subst hj
      rw [List.getElem?_set_self hi] at q
      cases q
    · rw [List.getElem?_set_ne (Ne.symm hj)] at q
      rw [if_neg hj]
      exact o.sl j t q
  · by_cases hj : j = i
    · rw [if_pos hj]
    · rw [if_neg hj]
      refine o.em j fun t z => q t ?_
      rw [List.getElem?_set_ne (Ne.symm hj)]
      exact z
  · by_cases hj : j = i
    · rw [if_pos hj]; exact List.nodup_nil
    · rw [if_neg hj]; exact o.nd j
  · by_cases hj : j = i
    · rw [if_pos hj] at h1; cases h1
    · by_cases hk : k = i
      · rw [if_pos hk] at h2; cases h2
      · rw [if_neg hj] at h1
        rw [if_neg hk] at h2
        exact o.dj j k a h1 h2
  · by_cases hj : j = i
    · rw [if_pos hj] at h; cases h
    · rw [if_neg hj] at h; exact o.nf j a h
  · obtain ⟨v', h1, h2⟩ := o.sl i s e
    rw [hv] at h1
    cases h1
    exact h2
  · by_cases hk : j = i
    · rw [if_pos hk] at hj; cases hj
    · rw [if_neg hk] at hj
      exact hk (o.dj j i a hj h)
theorem Ok.dat (o : Ok P w K Hf H σ Γ fps) {i : Nat} {d : PyData} (e : Γ[i]? = some (some (.b (.dat d)))) : ∃ v, σ[i]? = some (some v) ∧ Dv K Hf v d ∧ fps i = [] := by
  obtain ⟨v, h1, h2⟩ := o.sl i _ e
  exact ⟨v, h1, h2.2, h2.1⟩
/-- the heap grows, the slots stay: new objects -/
theorem Ok.grow (o : Ok P w K Hf H σ Γ fps) (mono : Same Hf Hf1) (sub : Same Hf1 H1) (k : ∀ a, own fps a → H1 a = H a) (kf : ∀ a, own fps a → Hf1 a = none) : Ok P w K Hf1 H1 σ Γ fps where
  sub := sub
  len := o.len
  sl := fun i s e => by
    obtain ⟨v, h1, h2⟩ := o.sl i s e
    exact ⟨v, h1, SlOk.frame mono (fun a ha => k a ⟨i, ha⟩) h2⟩
  em := o.em
  nd := o.nd
  dj := o.dj
  nf := fun i a h => kf a ⟨i, h⟩
/-- a new object p of the thing o, owned by what is at hand -/
theorem step_new {p : Addr} {u : HO} (hp : H p = none) : Step W Hf H (fun x => W x ∨ x = p) Hf (upd H p u) := ⟨fun b o _ h => by rw [upd_ne (ne_of_none h hp)]; exact h, Same.refl _, fun _ _ h _ => h, fun a h => by
  by_cases e : a = p
  · rw [e, upd_same]; simp
  · rw [upd_ne e]; exact h, fun a h => h.imp id fun z => by rw [z]; exact hp⟩
/-- .. that stays -/
theorem step_newD {p : Addr} {u : HO} (hp : H p = none) (hf : Hf p = none) : Step W Hf H W (upd Hf p u) (upd H p u) := ⟨fun b o _ h => by rw [upd_ne (ne_of_none h hp)]; exact h, fun b o h => by rw [upd_ne (ne_of_none h hf)]; exact h, fun a _ h n => by
  by_cases e : a = p
  · rw [e, hp] at n; exact n.elim
  · rw [upd_ne e]; exact h, fun a h => by
  by_cases e : a = p
  · rw [e, upd_same]; simp
  · rw [upd_ne e]; exact h, fun a h => .inl h⟩
theorem same_newD {p : Addr} {u : HO} (sub : Same Hf H) : Same (upd Hf p u) (upd H p u) := fun b o h => by
  by_cases e : b = p
  · rw [e, upd_same] at h ⊢; exact h
  · rw [upd_ne e] at h ⊢; exact sub b o h
theorem Same.freeF (sub : Same Hf H) {p : Addr} (hp : H p = none) : Hf p = none := by
  cases e : Hf p with
  | none => rfl
  | some u => rw [sub p u e] at hp; cases hp
theorem Ok.newD (o : Ok P w K Hf H σ Γ fps) {p : Addr} {u : HO} (hp : H p = none) : Ok P w K (upd Hf p u) (upd H p u) σ Γ fps ∧ Step (own fps) Hf H (own fps) (upd Hf p u) (upd H p u) := by
  have st : Step (own fps) Hf H (own fps) (upd Hf p u) (upd H p u) := step_newD hp (Same.freeF o.sub hp)
  have ne : ∀ a, own fps a → a ≠ p := fun a ⟨i, ha⟩ z => by
    have := o.there ha
    rw [z] at this
    exact this hp
  refine ⟨o.grow st.mono (same_newD o.sub) (fun a h => upd_ne (ne a h)) fun a h => ?_, st⟩
  rw [upd_ne (ne a h)]
  obtain ⟨i, ha⟩ := h
  exact o.nf i a ha
theorem Ok.new (o : Ok P w K Hf H σ Γ fps) {p : Addr} {u : HO} (hp : H p = none) : Ok P w K Hf (upd H p u) σ Γ fps ∧ Step (own fps) Hf H (ownR fps [p]) Hf (upd H p u) := by
  have st : Step (own fps) Hf H (fun x => own fps x ∨ x = p) Hf (upd H p u) := step_new hp
  refine ⟨o.grow st.mono (fun b q h => by
    have h' := o.sub b q h
    rw [upd_ne (ne_of_none h' hp)]
    exact h') (fun a ⟨i, ha⟩ => ?_) (fun a ⟨i, ha⟩ => o.nf i a ha), st.imp fun x hx => hx.elim .inl fun z => .inr (by simpa using z)⟩
  rw [upd_ne (fun z => by
    have := o.there ha
    rw [z] at this
    exact this hp)]
theorem Ok.ndj (o : Ok P w K Hf H σ Γ fps) {p : Addr} (hp : H p = none) : ∀ i, p ∉ fps i := fun i h => o.there h hp
end
end DL


set_option Elab.async false
set_option linter.all false
set_option maxRecDepth 100000
set_option maxHeartbeats 4000000
/-! DL2: expressions over data. -/
namespace DL
open PySem PySem.Spec PyProof.Rows L2

abbrev dat (d : PyData) : Sl := .b (.dat d)
/-- the frozen heap and the heap grow, what is owned is as it was -/
structure Grow (Hf H Hf' H' : Hp) : Prop where
  all : Same H H'
  mono : Same Hf Hf'
  sub : Same Hf H → Same Hf' H'
  own : ∀ a, Hf a = none → Mut (H a) → Hf' a = none
theorem Grow.refl {Hf H : Hp} : Grow Hf H Hf H := ⟨Same.refl _, Same.refl _, id, fun _ h _ => h⟩
theorem Grow.new {Hf H : Hp} {p : Addr} {u : HO} (hp : H p = none) (sub : Same Hf H) : Grow Hf H (upd Hf p u) (upd H p u) := by
  have hf := Same.freeF sub hp
  refine ⟨fun b o h => by rw [upd_ne (ne_of_none h hp)]; exact h, fun b o h => by rw [upd_ne (ne_of_none h hf)]; exact h, fun s => same_newD s, fun a h n => ?_⟩
  rw [upd_ne (fun z => by rw [z, hp] at n; exact n)]
  exact h
theorem Grow.trans {Hf H Hf1 H1 Hf2 H2 : Hp} (a : Grow Hf H Hf1 H1) (b : Grow Hf1 H1 Hf2 H2) : Grow Hf H Hf2 H2 := ⟨a.all.trans b.all, a.mono.trans b.mono, fun s => b.sub (a.sub s), fun x h n => b.own x (a.own x h n) (by
  obtain ⟨o, e⟩ := mut_some n
  rw [a.all x o e, ← e]
  exact n)⟩
section
variable {P : Program} {w : World} {K : PySem.W.Frag} {Hf H Hf' H' : Hp} {σ : L2.St} {Γ : Ctx} {fps : Fps} {W : Addr → Prop}
theorem Grow.there (g : Grow Hf H Hf' H') {a : Addr} (n : H a ≠ none) : H' a ≠ none := fun z => by
  cases e : H a with
  | none => exact n e
  | some o => rw [g.all a o e] at z; cases z
theorem Grow.step (g : Grow Hf H Hf' H') : Step W Hf H W Hf' H' := ⟨fun b o _ h => g.all b o h, g.mono, fun a _ => g.own a, fun a n => g.there n, fun _ h => .inl h⟩
theorem Ok.growG (o : Ok P w K Hf H σ Γ fps) (g : Grow Hf H Hf' H') : Ok P w K Hf' H' σ Γ fps := o.grow g.mono (g.sub o.sub) (fun a ⟨i, ha⟩ => by
  have n := o.there ha
  cases e : H a with
  | none => exact absurd e n
  | some u => rw [g.all a u e]) fun a ⟨i, ha⟩ => g.own a (o.nf i a ha) (o.mut ha)
theorem Grow.same (g : Grow Hf H Hf' H') {a : Addr} {o : HO} (h : H a = some o) : H' a = some o := g.all a o h
end

section
variable (P : Program) (w : World) (K : PySem.W.Frag)
/-- an expression from Γ to Γ', its value the thing s -/
def tE (Γ Γ' : Ctx) (s : Sl) : TE := fun σ H Q => ∃ Hf fps, Ok P w K Hf H σ Γ fps ∧ ∀ v Hf' H' fps' f, Ok P w K Hf' H' σ Γ' fps' → Rs P w K Hf' H' s v f fps' → Step (own fps) Hf H (ownR fps' f) Hf' H' → Q v H'
/-- pure: what is owned stays as it is -/
def tD (Γ : Ctx) (d : PyData) : TE := fun σ H Q => ∃ Hf fps, Ok P w K Hf H σ Γ fps ∧ ∀ v Hf' H', Grow Hf H Hf' H' → Dv K Hf' v d → Q v H'
def tT (Γ : Ctx) (b : Bool) : TT := fun σ H Q => ∃ Hf fps, Ok P w K Hf H σ Γ fps ∧ ∀ Hf' H', Grow Hf H Hf' H' → Q b H'
/-- arguments, all of them data -/
def tAd (Γ : Ctx) (ds : List PyData) : TA := fun σ H Q => ∃ Hf fps, Ok P w K Hf H σ Γ fps ∧ ∀ vs Hf' H', Grow Hf H Hf' H' → DvAll K Hf' vs ds → Q vs H'
/-- a list that is read: data, or owned -/
def tL (Γ : Ctx) (ds : List PyData) : TE := fun σ H Q => ∃ Hf fps, Ok P w K Hf H σ Γ fps ∧ ∀ a xs Hf' H', Grow Hf H Hf' H' → SqL K H' a xs → DvAll K Hf' xs ds → Q (.ref a) H'
/-- a dict that is read -/
def tK (Γ : Ctx) (kvs : List (Key × PyData)) : TE := fun σ H Q => ∃ Hf fps, Ok P w K Hf H σ Γ fps ∧ ∀ a ws Hf' H', Grow Hf H Hf' H' → Rd H' a (.dK ws) → KvD K Hf' ws kvs → Q (.ref a) H'
end
abbrev DE (X : Cx) (e : Expr) (Γ Γ' : Ctx) (s : Sl) : Prop := PE X e (tE X.prog X.w X.K Γ Γ' s)
abbrev DP (X : Cx) (e : Expr) (Γ : Ctx) (d : PyData) : Prop := PE X e (tD X.prog X.w X.K Γ d)
abbrev DT (X : Cx) (e : Expr) (Γ : Ctx) (b : Bool) : Prop := PT X e (tT X.prog X.w X.K Γ b)
abbrev DA (X : Cx) (es : List Expr) (Γ : Ctx) (ds : List PyData) : Prop := PA X es (tAd X.prog X.w X.K Γ ds)
abbrev DLs (X : Cx) (e : Expr) (Γ : Ctx) (ds : List PyData) : Prop := PE X e (tL X.prog X.w X.K Γ ds)
abbrev DK (X : Cx) (e : Expr) (Γ : Ctx) (kvs : List (Key × PyData)) : Prop := PE X e (tK X.prog X.w X.K Γ kvs)
section
variable {X : Cx} {e a b c : Expr} {es : List Expr} {Γ Γ' Γ1 : Ctx} {s s' : Sl} {d da db dc : PyData} {ds es' : List PyData} {te ta tb : TE} {pos : Pos} {i : Nat} {x : Str}
theorem de_of (h : PE X e te) (k : ∀ σ H Hf fps, Ok X.prog X.w X.K Hf H σ Γ fps → ∀ Q : VK, (∀ v Hf' H' fps' f, Ok X.prog X.w X.K Hf' H' σ Γ' fps' → Rs X.prog X.w X.K Hf' H' s v f fps' → Step (own fps) Hf H (ownR fps' f) Hf' H' → Q v H') → te σ H Q) : DE X e Γ Γ' s :=
  ⟨fun pins st σ H Q I ⟨Hf, fps, ok, q⟩ => h.run pins st σ H Q I (k σ H Hf fps ok Q q)⟩
/-- a pure rule -/
theorem dp_grow (h : PE X e te) (k : ∀ σ H Hf fps, Ok X.prog X.w X.K Hf H σ Γ fps → ∀ Q : VK, (∀ v Hf' H', Grow Hf H Hf' H' → Dv X.K Hf' v d → Q v H') → te σ H Q) : DP X e Γ d :=
  ⟨fun pins st σ H Q I ⟨Hf, fps, ok, q⟩ => h.run pins st σ H Q I (k σ H Hf fps ok Q q)⟩
theorem tD_run {P : Program} {w : World} {K : PySem.W.Frag} {σ : L2.St} {Hf H : Hp} {fps : Fps} {Q : VK} (ok : Ok P w K Hf H σ Γ fps) (k : ∀ v Hf' H', Grow Hf H Hf' H' → Dv K Hf' v d → Q v H') : tD P w K Γ d σ H Q := ⟨Hf, fps, ok, k⟩
theorem tT_run {P : Program} {w : World} {K : PySem.W.Frag} {σ : L2.St} {Hf H : Hp} {fps : Fps} {t : Bool} {Q : Bool → Hp → Prop} (ok : Ok P w K Hf H σ Γ fps) (k : ∀ Hf' H', Grow Hf H Hf' H' → Q t H') : tT P w K Γ t σ H Q := ⟨Hf, fps, ok, k⟩
theorem tA_run {P : Program} {w : World} {K : PySem.W.Frag} {σ : L2.St} {Hf H : Hp} {fps : Fps} {Q : List V → Hp → Prop} (ok : Ok P w K Hf H σ Γ fps) (k : ∀ vs Hf' H', Grow Hf H Hf' H' → DvAll K Hf' vs ds → Q vs H') : tAd P w K Γ ds σ H Q := ⟨Hf, fps, ok, k⟩
theorem tL_run {P : Program} {w : World} {K : PySem.W.Frag} {σ : L2.St} {Hf H : Hp} {fps : Fps} {Q : VK} (ok : Ok P w K Hf H σ Γ fps) (k : ∀ a xs Hf' H', Grow Hf H Hf' H' → SqL K H' a xs → DvAll K Hf' xs ds → Q (.ref a) H') : tL P w K Γ ds σ H Q := ⟨Hf, fps, ok, k⟩
theorem tK_run {P : Program} {w : World} {K : PySem.W.Frag} {σ : L2.St} {Hf H : Hp} {fps : Fps} {Q : VK} {kvs : List (Key × PyData)} (ok : Ok P w K Hf H σ Γ fps) (k : ∀ a ws Hf' H', Grow Hf H Hf' H' → Rd H' a (.dK ws) → KvD K Hf' ws kvs → Q (.ref a) H') : tK P w K Γ kvs σ H Q := ⟨Hf, fps, ok, k⟩
theorem de_pure (h : DP X e Γ d) : DE X e Γ Γ (dat d) := de_of h fun σ H Hf fps ok Q q => tD_run ok fun v Hf' H' g hv => q v Hf' H' fps [] (ok.growG g) (Rs.dat hv) (g.step.imp fun x hx => hx.elim id fun z => (List.not_mem_nil z).elim)

/-! ### names, constants -/
theorem dp_var (hN : X.N[i]? = some x) (hv : Vis X.env.scope x) (hg : Γ[i]? = some (some (dat d))) (hd : (x == ("__debug__" : Str)) = false := by decide) (hcd : (x == ("__classdict__" : Str)) = false := by decide) : DP X (.Name x pos) Γ d :=
  dp_grow (pe_var hN hv hd hcd) fun σ H Hf fps ok Q q => by
    obtain ⟨v, h1, h2, _⟩ := ok.dat hg
    exact ⟨v, h1, q v Hf H .refl h2⟩
/-- the slot's thing is moved out -/
theorem de_move (hN : X.N[i]? = some x) (hv : Vis X.env.scope x) (hg : Γ[i]? = some (some s)) (hd : (x == ("__debug__" : Str)) = false := by decide) (hcd : (x == ("__classdict__" : Str)) = false := by decide) : DE X (.Name x pos) Γ (Γ.set i none) s :=
  de_of (pe_var hN hv hd hcd) fun σ H Hf fps ok Q q => by
    obtain ⟨v, h1, _⟩ := ok.sl i s hg
    obtain ⟨o, r⟩ := ok.take hg h1
    refine ⟨v, h1, q v Hf H _ _ o r (Step.imp .refl fun y hy => ?_)⟩
    rcases hy with ⟨j, hj⟩ | hy
    · by_cases e : j = i
      · have hj : y ∈ (if j = i then [] else fps j) := hj
        rw [if_pos e] at hj; cases hj
      · have hj : y ∈ (if j = i then [] else fps j) := hj
        rw [if_neg e] at hj; exact ⟨j, hj⟩
    · exact ⟨i, hy⟩
theorem dp_C {v : V} (h : PE X e (tC v)) (hd : Dv X.K (fun _ => none) v d) : DP X e Γ d := dp_grow h fun σ H Hf fps ok Q q => q v Hf H .refl (Dv.up (fun _ _ z => by cases z) d hd)
theorem dp_int {n : Int} {j : Nat} : DP X (.Constant (.int n) j pos) Γ (.int n) := dp_C pe_int (.int n)
theorem dp_str {y : Str} {j : Nat} : DP X (.Constant (.str y) j pos) Γ (.str y) := dp_C pe_str (.str y)
theorem dp_bl {y : Bool} {j : Nat} : DP X (.Constant (.bool y) j pos) Γ (.bool y) := dp_C pe_bl (.bl y)
theorem dp_non {j : Nat} : DP X (.Constant .none j pos) Γ .none := dp_C pe_non .non
theorem dp_gint {n : Int} (hg : Gl X x) (hm : ∃ t, X.mg x = some (.int n t)) (hd : (x == ("__debug__" : Str)) = false := by decide) : DP X (.Name x pos) Γ (.int n) := by
  obtain ⟨t, hm⟩ := hm
  exact dp_C (v := .int n) (pe_glob hg hm ⟨t, rfl⟩ hd) (.int n)
theorem dp_gstr {y : Str} (hg : Gl X x) (hm : ∃ t, X.mg x = some (.str y t)) (hd : (x == ("__debug__" : Str)) = false := by decide) : DP X (.Name x pos) Γ (.str y) := by
  obtain ⟨t, hm⟩ := hm
  exact dp_C (v := .str y) (pe_glob hg hm ⟨t, rfl⟩ hd) (.str y)

/-! ### operators -/
/-- what an operation of two data gives -/
def R2D (K : PySem.W.Frag) (r : R2) (da db d : PyData) : Prop := ∀ x y Hf H, Same Hf H → Dv K Hf x da → Dv K Hf y db → ∀ Q : VK, (∀ v Hf' H', Grow Hf H Hf' H' → Dv K Hf' v d → Q v H') → r x y H Q
theorem tOp_run {P : Program} {w : World} {K : PySem.W.Frag} {r : R2} {σ : L2.St} {Hf H : Hp} {fps : Fps} {Q : VK} (ok : Ok P w K Hf H σ Γ fps) (hr : R2D K r da db d) (k : ∀ v Hf' H', Grow Hf H Hf' H' → Dv K Hf' v d → Q v H') :
    tOp r (tD P w K Γ da) (tD P w K Γ db) σ H Q :=
  tD_run ok fun x Hf1 H1 g1 hx => tD_run (ok.growG g1) fun y Hf2 H2 g2 hy => hr x y Hf2 H2 ((ok.growG g1).growG g2).sub (Dv.up g2.mono _ hx) hy Q fun v Hf3 H3 g hv => k v Hf3 H3 ((g1.trans g2).trans g) hv
theorem dp_bin {op : Operator} {r : R2} (ho : OpR X (binaryOp op) r) (hr : R2D X.K r da db d) (ha : DP X a Γ da) (hb : DP X b Γ db) : DP X (.BinOp a op b pos) Γ d :=
  dp_grow (pe_op ho ha hb) fun σ H Hf fps ok Q q => tOp_run ok hr q
theorem pc_op {op : CmpOp} {r : R2} (ho : OpR X (compareOp op) r) (ha : PE X a ta) (hb : PE X b tb) : PC X op a b (tOp r ta tb) := ⟨fun pins s σ H Q I h => binT ha hb I h fun v u s2 x y H2 I2 rx ry q => ho pins s2 σ H2 x y v u Q I2 rx ry q⟩
/-- a comparison -/
abbrev CM (X : Cx) (op : CmpOp) (a b : Expr) (Γ : Ctx) (t : Bool) : Prop := PC X op a b (tD X.prog X.w X.K Γ (.bool t)) ∧ behindInMarks op b = false
theorem cm_grow {op : CmpOp} {t : Bool} (h : PC X op a b te) (hm : behindInMarks op b = false) (k : ∀ σ H Hf fps, Ok X.prog X.w X.K Hf H σ Γ fps → ∀ Q : VK, (∀ v Hf' H', Grow Hf H Hf' H' → Dv X.K Hf' v (.bool t) → Q v H') → te σ H Q) : CM X op a b Γ t :=
  ⟨⟨fun pins st σ H Q I ⟨Hf, fps, ok, q⟩ => h.run pins st σ H Q I (k σ H Hf fps ok Q q)⟩, hm⟩
theorem dcm {op : CmpOp} {t : Bool} (h : CM X op a b Γ t) : DP X (.Compare a [op] [b] pos) Γ (.bool t) := pe_cmp h.1 h.2
theorem tcm {op : CmpOp} {t : Bool} (h : CM X op a b Γ t) : DT X (.Compare a [op] [b] pos) Γ t := ⟨fun pins st σ H Q I ⟨Hf, fps, ok, q⟩ => (pt_cmp h.1 h.2).run pins st σ H Q I (⟨Hf, fps, ok, fun v Hf' H' g hv => by
  cases hv
  exact ⟨t, rfl, q Hf' H' g⟩⟩ : tD X.prog X.w X.K Γ (.bool t) σ H fun x H1 => ∃ c, x = .bl c ∧ Q c H1)⟩
theorem cm_cmp {op : CmpOp} {r : R2} {tb : Bool} (ho : OpR X (compareOp op) r) (hr : R2D X.K r da db (.bool tb)) (ha : DP X a Γ da) (hb : DP X b Γ db) (hm : behindInMarks op b = false) : CM X op a b Γ tb :=
  cm_grow (pc_op ho ha hb) hm fun σ H Hf fps ok Q q => tOp_run ok hr q
theorem dp_ix {r : R2} (ho : IxR X r) (hr : R2D X.K r da db d) (ha : DP X a Γ da) (hb : DP X b Γ db) (hs : PlainIx b) : DP X (.Subscript a b pos) Γ d :=
  dp_grow (pe_ix ho ha hb hs) fun σ H Hf fps ok Q q => tOp_run ok hr q
variable {K : PySem.W.Frag}
theorem r2_I0 {g : Int → Int → V} {m n : Int} (hd : ∀ H, Dv K H (g m n) d) : R2D K (rI0 g) (.int m) (.int n) d := fun x y Hf H _ hx hy Q q => by
  cases hx; cases hy
  exact ⟨m, n, rfl, rfl, q _ Hf H .refl (hd Hf)⟩
theorem r2_I {C : Int → Int → Prop} {g : Int → Int → V} {m n : Int} (hc : C m n) (hd : ∀ H, Dv K H (g m n) d) : R2D K (rI C g) (.int m) (.int n) d := fun x y Hf H _ hx hy Q q => by
  cases hx; cases hy
  exact ⟨m, n, rfl, rfl, hc, q _ Hf H .refl (hd Hf)⟩
theorem dp_add {m n : Int} (ha : DP X a Γ (.int m)) (hb : DP X b Γ (.int n)) : DP X (.BinOp a .Add b pos) Γ (.int (m + n)) := dp_bin op_add (r2_I0 fun _ => .int _) ha hb
theorem dp_sub {m n : Int} (ha : DP X a Γ (.int m)) (hb : DP X b Γ (.int n)) : DP X (.BinOp a .Sub b pos) Γ (.int (m - n)) := dp_bin op_sub (r2_I0 fun _ => .int _) ha hb
theorem dp_mul {m n : Int} (hc : CMul m n) (ha : DP X a Γ (.int m)) (hb : DP X b Γ (.int n)) : DP X (.BinOp a .Mult b pos) Γ (.int (m * n)) := dp_bin op_mul (r2_I hc fun _ => .int _) ha hb
theorem dp_fdiv {m n : Int} (hc : CDiv m n) (ha : DP X a Γ (.int m)) (hb : DP X b Γ (.int n)) : DP X (.BinOp a .FloorDiv b pos) Γ (.int (m / n)) := dp_bin op_fdiv (r2_I hc fun _ => .int _) ha hb
theorem dp_mod {m n : Int} (hc : 0 < n) (ha : DP X a Γ (.int m)) (hb : DP X b Γ (.int n)) : DP X (.BinOp a .Mod b pos) Γ (.int (m % n)) := dp_bin op_mod (r2_I (C := fun _ j => 0 < j) hc fun _ => .int _) ha hb
theorem cm_lt {m n : Int} (ha : DP X a Γ (.int m)) (hb : DP X b Γ (.int n)) : CM X .Lt a b Γ (decide (m < n)) := cm_cmp op_lt (r2_I0 fun _ => .bl _) ha hb (nomark _)
theorem cm_le {m n : Int} (ha : DP X a Γ (.int m)) (hb : DP X b Γ (.int n)) : CM X .LtE a b Γ (decide (m ≤ n)) := cm_cmp op_le (r2_I0 fun _ => .bl _) ha hb (nomark _)
theorem cm_gt {m n : Int} (ha : DP X a Γ (.int m)) (hb : DP X b Γ (.int n)) : CM X .Gt a b Γ (decide (n < m)) := cm_cmp op_gt (r2_I0 fun _ => .bl _) ha hb (nomark _)
/-- two texts -/
theorem dp_addS {y z : Str} (hl : y.length + z.length ≤ sizeLine) (ha : DP X a Γ (.str y)) (hb : DP X b Γ (.str z)) : DP X (.BinOp a .Add b pos) Γ (.str (y ++ z)) := dp_bin op_add_str (fun x y Hf H _ hx hy Q q => by
  cases hx; cases hy
  exact ⟨_, _, rfl, rfl, hl, q _ Hf H .refl (.str _)⟩) ha hb
/-- scalars of one kind, or None -/
def scD : PyData → PyData → Bool
  | .int _, .int _ => true | .str _, .str _ => true | .bool _, .bool _ => true
  | .none, .none => true | .none, .str _ => true | .str _, .none => true | .none, .int _ => true | .int _, .none => true | .none, .bool _ => true | .bool _, .none => true
  | _, _ => false
def eqD : PyData → PyData → Bool
  | .int i, .int j => decide (i = j) | .str i, .str j => decide (i = j) | .bool i, .bool j => decide (i = j)
  | .none, .none => true
  | _, _ => false
theorem scD_V {H : Hp} {u v : V} (hs : scD da db = true) (hx : Dv K H u da) (hy : Dv K H v db) : scal u v = true ∧ decide (u = v) = eqD da db := by
  cases hx <;> cases hy <;> first | exact ⟨rfl, by simp [eqD]⟩ | (exact absurd hs (by simp [scD]))
theorem cm_eqS (hs : scD da db = true) (ha : DP X a Γ da) (hb : DP X b Γ db) : CM X .Eq a b Γ (eqD da db) := cm_cmp op_eq (fun x y Hf H _ hx hy Q q => by
  obtain ⟨h1, h2⟩ := scD_V hs hx hy
  exact ⟨h1, by rw [h2]; exact q _ Hf H .refl (.bl _)⟩) ha hb (nomark _)
theorem cm_neS (hs : scD da db = true) (ha : DP X a Γ da) (hb : DP X b Γ db) : CM X .NotEq a b Γ (!eqD da db) := cm_cmp op_ne (fun x y Hf H _ hx hy Q q => by
  obtain ⟨h1, h2⟩ := scD_V hs hx hy
  exact ⟨h1, by rw [h2]; exact q _ Hf H .refl (.bl _)⟩) ha hb (nomark _)
/-- == of data at any depth -/
def rEqG (X : Cx) : R2 := fun x y H Q => ∃ d e, Dp X.K H x d ∧ Dp X.K H y e ∧ d.canLay0 = true ∧ e.canLay0 = true ∧ X.A.units + min d.depth e.depth < cLine ∧ Q (.bl (PyData.eqv d e)) H
def rNeG (X : Cx) : R2 := fun x y H Q => ∃ d e, Dp X.K H x d ∧ Dp X.K H y e ∧ d.canLay0 = true ∧ e.canLay0 = true ∧ X.A.units + min d.depth e.depth < cLine ∧ Q (.bl (!PyData.eqv d e)) H
theorem op_eqG : OpR X (compareOp .Eq) (rEqG X) := by
  intro pins s σ H x y v u Q I rx ry h
  obtain ⟨d, e, hd, he, c1, c2, hu, q⟩ := h
  obtain ⟨as, r1⟩ := Dp.reads I d x v hd rx
  obtain ⟨bs, r2⟩ := Dp.reads I e y u he ry
  exact SeqAt.compareEq_reads r1 r2 c1 c2 hu ⟨.bl _, H, I, rfl, q⟩
theorem op_neG : OpR X (compareOp .NotEq) (rNeG X) := by
  intro pins s σ H x y v u Q I rx ry h
  obtain ⟨d, e, hd, he, c1, c2, hu, q⟩ := h
  obtain ⟨as, r1⟩ := Dp.reads I d x v hd rx
  obtain ⟨bs, r2⟩ := Dp.reads I e y u he ry
  exact SeqAt.compareNe_reads r1 r2 c1 c2 hu ⟨.bl _, H, I, rfl, q⟩
theorem dp_up {Hf H : Hp} {v : V} (c : d.canLay0 = true) (sub : Same Hf H) (h : Dv K Hf v d) : Dp K H v d := Dv.dp d c (Dv.up sub d h)
theorem cm_eqG (c1 : da.canLay0 = true) (c2 : db.canLay0 = true) (hu : X.A.units + min da.depth db.depth < cLine) (ha : DP X a Γ da) (hb : DP X b Γ db) : CM X .Eq a b Γ (PyData.eqv da db) :=
  cm_cmp op_eqG (fun x y Hf H sub hx hy Q q => ⟨da, db, dp_up c1 sub hx, dp_up c2 sub hy, c1, c2, hu, q _ Hf H .refl (.bl _)⟩) ha hb (nomark _)
theorem cm_neG (c1 : da.canLay0 = true) (c2 : db.canLay0 = true) (hu : X.A.units + min da.depth db.depth < cLine) (ha : DP X a Γ da) (hb : DP X b Γ db) : CM X .NotEq a b Γ (!PyData.eqv da db) :=
  cm_cmp op_neG (fun x y Hf H sub hx hy Q q => ⟨da, db, dp_up c1 sub hx, dp_up c2 sub hy, c1, c2, hu, q _ Hf H .refl (.bl _)⟩) ha hb (nomark _)
/-- is None -/
def isNon : PyData → Bool
  | .none => true
  | _ => false
theorem isNon_V {H : Hp} {v : V} (h : Dv K H v d) : decide (v = .non) = isNon d := by cases h <;> rfl
theorem cm_isN {j : Nat} {pos' : Pos} (ha : DP X a Γ d) : CM X .Is a (.Constant .none j pos') Γ (isNon d) :=
  cm_grow (pc_isN ha) rfl fun σ H Hf fps ok Q q => tD_run ok fun v Hf' H' g hv => by
    rw [isNon_V hv]
    exact q _ _ _ g (.bl _)
theorem cm_notN {j : Nat} {pos' : Pos} (ha : DP X a Γ d) : CM X .IsNot a (.Constant .none j pos') Γ (!isNon d) :=
  cm_grow (pc_notN ha) rfl fun σ H Hf fps ok Q q => tD_run ok fun v Hf' H' g hv => by
    rw [isNon_V hv]
    exact q _ _ _ g (.bl _)

/-! ### tests; and, or, not -/
theorem dt_of {t : Bool} {tc : TT} (h : PT X e tc) (k : ∀ σ H Hf fps, Ok X.prog X.w X.K Hf H σ Γ fps → ∀ Q : Bool → Hp → Prop, (∀ Hf' H', Grow Hf H Hf' H' → Q t H') → tc σ H Q) : DT X e Γ t :=
  ⟨fun pins st σ H Q I ⟨Hf, fps, ok, q⟩ => h.run pins st σ H Q I (k σ H Hf fps ok Q q)⟩
theorem dt_val {t : Bool} (h : DP X e Γ (.bool t)) (he : ∀ whole, isTrue e X.env whole = (do let v ← whole; standAt e.pos; holding [v] (truthy v)) := by intro _; rfl) : DT X e Γ t :=
  dt_of (pt_val h he) fun σ H Hf fps ok Q q => tD_run ok fun v Hf' H' g hv => by
    cases hv
    exact ⟨t, rfl, q Hf' H' g⟩
theorem dt_to {t t' : Bool} (h : DT X e Γ t) (q : t = t') : DT X e Γ t' := q ▸ h
theorem dp_to (h : DP X e Γ d) (q : d = da) : DP X e Γ da := q ▸ h
theorem dt_not {t : Bool} (h : DT X e Γ t) : DT X (.UnaryOp .Not e pos) Γ (!t) := dt_of (pt_not h) fun σ H Hf fps ok Q q => ⟨Hf, fps, ok, q⟩
/-- within and, or -/
abbrev DW (X : Cx) (e : Expr) (Γ : Ctx) (t : Bool) : Prop := PW X e (tT X.prog X.w X.K Γ t)
theorem dw_of {t : Bool} {tc : TT} (h : PW X e tc) (k : ∀ σ H Hf fps, Ok X.prog X.w X.K Hf H σ Γ fps → ∀ Q : Bool → Hp → Prop, (∀ Hf' H', Grow Hf H Hf' H' → Q t H') → tc σ H Q) : DW X e Γ t :=
  ⟨fun wh pins st σ H Q I ⟨Hf, fps, ok, q⟩ => h.run wh pins st σ H Q I (k σ H Hf fps ok Q q)⟩
def tFalse : TT := fun _ _ _ => False
theorem dw_and1 {t : Bool} (h : DT X a Γ t) : DW X (.BoolOp .And [a] pos) Γ t := pw_and1 h
theorem dw_or1 {t : Bool} (h : DT X a Γ t) : DW X (.BoolOp .Or [a] pos) Γ t := pw_or1 h
variable {rest : List Expr}
theorem pw_any {tc : TT} (h : ∀ σ H Q, tc σ H Q → False) : PW X e tc := ⟨fun _ _ _ σ H Q _ z => (h σ H Q z).elim⟩
/-- and: the second is asked where the first holds -/
theorem dw_and {t u : Bool} (h : DT X a Γ t) (k : t = true → DW X (.BoolOp .And (b :: rest) pos) Γ u) : DW X (.BoolOp .And (a :: b :: rest) pos) Γ (t && u) := by
  cases t with
  | true =>
    exact dw_of (pw_and h (k rfl)) fun σ H Hf fps ok Q q => tT_run ok fun Hf1 H1 g1 => by
      rw [if_pos rfl]
      exact tT_run (ok.growG g1) fun Hf2 H2 g2 => q Hf2 H2 (g1.trans g2)
  | false =>
    exact dw_of (pw_and h (pw_any (tc := tFalse) fun _ _ _ z => z)) fun σ H Hf fps ok Q q => tT_run ok fun Hf1 H1 g1 => by
      rw [if_neg Bool.false_ne_true]
      exact q Hf1 H1 g1
theorem dw_or {t u : Bool} (h : DT X a Γ t) (k : t = false → DW X (.BoolOp .Or (b :: rest) pos) Γ u) : DW X (.BoolOp .Or (a :: b :: rest) pos) Γ (t || u) := by
  cases t with
  | false =>
    exact dw_of (pw_or h (k rfl)) fun σ H Hf fps ok Q q => tT_run ok fun Hf1 H1 g1 => by
      rw [if_neg Bool.false_ne_true]
      exact tT_run (ok.growG g1) fun Hf2 H2 g2 => q Hf2 H2 (g1.trans g2)
  | true =>
    exact dw_of (pw_or h (pw_any (tc := tFalse) fun _ _ _ z => z)) fun σ H Hf fps ok Q q => tT_run ok fun Hf1 H1 g1 => by
      rw [if_pos rfl]
      exact q Hf1 H1 g1
/-- as values: True or False -/
theorem pe_any {tc : TE} (h : ∀ σ H Q, tc σ H Q → False) : PE X e tc := ⟨fun _ _ σ H Q _ z => (h σ H Q z).elim⟩
def tNo : TE := fun _ _ _ => False
theorem dv_one {op : BoolOp} (h : DP X a Γ d) : DP X (.BoolOp op [a] pos) Γ d := pe_one h
theorem dv_and {t u : Bool} (h : DP X a Γ (.bool t)) (k : t = true → DP X (.BoolOp .And (b :: rest) pos) Γ (.bool u)) : DP X (.BoolOp .And (a :: b :: rest) pos) Γ (.bool (t && u)) := by
  cases t with
  | true =>
    exact dp_grow (pe_and h (k rfl)) fun σ H Hf fps ok Q q => tD_run ok fun v Hf1 H1 g1 hv => by
      cases hv
      refine ⟨true, rfl, ?_⟩
      rw [if_pos rfl]
      exact tD_run (ok.growG g1) fun v2 Hf2 H2 g2 hv2 => q v2 Hf2 H2 (g1.trans g2) hv2
  | false =>
    exact dp_grow (pe_and h (pe_any (tc := tNo) fun _ _ _ z => z)) fun σ H Hf fps ok Q q => tD_run ok fun v Hf1 H1 g1 hv => by
      cases hv
      refine ⟨false, rfl, ?_⟩
      rw [if_neg Bool.false_ne_true]
      exact q _ Hf1 H1 g1 (.bl _)
theorem dv_or {t u : Bool} (h : DP X a Γ (.bool t)) (k : t = false → DP X (.BoolOp .Or (b :: rest) pos) Γ (.bool u)) : DP X (.BoolOp .Or (a :: b :: rest) pos) Γ (.bool (t || u)) := by
  cases t with
  | false =>
    exact dp_grow (pe_or h (k rfl)) fun σ H Hf fps ok Q q => tD_run ok fun v Hf1 H1 g1 hv => by
      cases hv
      refine ⟨false, rfl, ?_⟩
      rw [if_neg Bool.false_ne_true]
      exact tD_run (ok.growG g1) fun v2 Hf2 H2 g2 hv2 => q v2 Hf2 H2 (g1.trans g2) hv2
  | true =>
    exact dp_grow (pe_or h (pe_any (tc := tNo) fun _ _ _ z => z)) fun σ H Hf fps ok Q q => tD_run ok fun v Hf1 H1 g1 hv => by
      cases hv
      refine ⟨true, rfl, ?_⟩
      rw [if_pos rfl]
      exact q _ Hf1 H1 g1 (.bl _)
theorem dv_not {t : Bool} (h : DP X a Γ (.bool t)) : DP X (.UnaryOp .Not a pos) Γ (.bool (!t)) := dp_grow (pe_not h) fun σ H Hf fps ok Q q => tD_run ok fun v Hf1 H1 g1 hv => by
  cases hv
  exact ⟨t, rfl, q _ Hf1 H1 g1 (.bl _)⟩
/-- a <= b <= c -/
theorem dp_chainI {op op' : CmpOp} {p p' : Int → Int → Bool} {l m n : Int} (ho : OpR X (compareOp op) (rI0 fun i j => .bl (p i j))) (ho' : OpR X (compareOp op') (rI0 fun i j => .bl (p' i j))) (ha : DP X a Γ (.int l)) (hb : DP X b Γ (.int m)) (hc : DP X c Γ (.int n))
    (hm : lastMarks [op, op'] [b, c] = false) : DP X (.Compare a [op, op'] [b, c] pos) Γ (.bool (p l m && p' m n)) :=
  dp_grow (pe_chain ho ho' ha hb hc hm) fun σ H Hf fps ok Q q => tD_run ok fun x Hf1 H1 g1 hx => tD_run (ok.growG g1) fun y Hf2 H2 g2 hy => by
    cases hx; cases hy
    refine ⟨l, m, rfl, rfl, p l m, rfl, ?_⟩
    cases e : p l m with
    | true =>
      rw [if_pos rfl]
      exact tD_run ((ok.growG g1).growG g2) fun z Hf3 H3 g3 hz => by
        cases hz
        exact ⟨m, n, rfl, rfl, q _ Hf3 H3 ((g1.trans g2).trans g3) (by rw [e]; exact .bl _)⟩
    | false =>
      rw [if_neg Bool.false_ne_true]
      exact q _ Hf2 H2 (g1.trans g2) (by rw [e]; exact .bl _)
theorem dt_chainI {op op' : CmpOp} {p p' : Int → Int → Bool} {l m n : Int} (ho : OpR X (compareOp op) (rI0 fun i j => .bl (p i j))) (ho' : OpR X (compareOp op') (rI0 fun i j => .bl (p' i j))) (ha : DP X a Γ (.int l)) (hb : DP X b Γ (.int m)) (hc : DP X c Γ (.int n))
    (hm : lastMarks [op, op'] [b, c] = false) : DT X (.Compare a [op, op'] [b, c] pos) Γ (p l m && p' m n) :=
  dt_of (pt_chain ho ho' ha hb hc hm) fun σ H Hf fps ok Q q => show tD _ _ _ Γ (.int l) σ H _ from tD_run ok fun x Hf1 H1 g1 hx => tD_run (ok.growG g1) fun y Hf2 H2 g2 hy => by
    cases hx; cases hy
    refine ⟨l, m, rfl, rfl, p l m, rfl, ?_⟩
    cases e : p l m with
    | true =>
      rw [if_pos rfl]
      exact tD_run ((ok.growG g1).growG g2) fun z Hf3 H3 g3 hz => by
        cases hz
        refine ⟨m, n, rfl, rfl, _, rfl, ?_⟩
        rw [e, Bool.true_and] at q
        exact q Hf3 H3 ((g1.trans g2).trans g3)
    | false =>
      rw [if_neg Bool.false_ne_true]
      refine ⟨_, rfl, ?_⟩
      rw [e, Bool.false_and] at q
      exact q Hf2 H2 (g1.trans g2)
end
end DL


set_option Elab.async false
set_option linter.all false
set_option maxRecDepth 100000
set_option maxHeartbeats 4000000
/-! DL3: lists, tuples, texts, dicts, calls of built-ins. -/
namespace DL
open PySem PySem.Spec PyProof.Rows L2

section
variable {X : Cx} {e a b c : Expr} {es : List Expr} {Γ Γ' Γ1 : Ctx} {s s' : Sl} {d da db dc : PyData} {ds ds' : List PyData} {te ta tb : TE} {pos : Pos} {i : Nat} {x : Str}
/-! ### lists and dicts that are read -/
theorem dl_grow (h : PE X e te) (k : ∀ σ H Hf fps, Ok X.prog X.w X.K Hf H σ Γ fps → ∀ Q : VK, (∀ a xs Hf' H', Grow Hf H Hf' H' → SqL X.K H' a xs → DvAll X.K Hf' xs ds → Q (.ref a) H') → te σ H Q) : DLs X e Γ ds :=
  ⟨fun pins st σ H Q I ⟨Hf, fps, ok, q⟩ => h.run pins st σ H Q I (k σ H Hf fps ok Q q)⟩
theorem dk_grow {kvs : List (Key × PyData)} (h : PE X e te) (k : ∀ σ H Hf fps, Ok X.prog X.w X.K Hf H σ Γ fps → ∀ Q : VK, (∀ a ws Hf' H', Grow Hf H Hf' H' → Rd H' a (.dK ws) → KvD X.K Hf' ws kvs → Q (.ref a) H') → te σ H Q) : DK X e Γ kvs :=
  ⟨fun pins st σ H Q I ⟨Hf, fps, ok, q⟩ => h.run pins st σ H Q I (k σ H Hf fps ok Q q)⟩
theorem dl_dat (h : DP X e Γ (.list ds)) : DLs X e Γ ds := dl_grow h fun σ H Hf fps ok Q q => tD_run ok fun v Hf' H' g hv => by
  cases hv with
  | lst h1 h2 => exact q _ _ Hf' H' g (Same.seq (ok.growG g).sub h1) h2
theorem dl_own (hN : X.N[i]? = some x) (hv : Vis X.env.scope x) (hg : Γ[i]? = some (some (.b (.ol ds)))) (hd : (x == ("__debug__" : Str)) = false := by decide) (hcd : (x == ("__classdict__" : Str)) = false := by decide) : DLs X (.Name x pos) Γ ds :=
  dl_grow (pe_var hN hv hd hcd) fun σ H Hf fps ok Q q => by
    obtain ⟨v, h1, a, xs, e1, e2, e3, e4⟩ := ok.sl i _ hg
    subst e1
    exact ⟨_, h1, q a xs Hf H .refl (SqL.of e3) e4⟩
theorem fs_look {P : Program} {w : World} {K : PySem.W.Frag} {Hf H : Hp} {f : Str} {y : Bs} : ∀ {vs : List (Str × V)} {fs : List (Str × Bs)} {fps : List (List Addr)}, FsOk P w K Hf H vs fs fps → fs.lookup f = some y → ∃ v fp, vs.lookup f = some v ∧ BsOk P w K Hf H y v fp ∧ ∀ a ∈ fp, a ∈ fps.flatten
  | _, _, _, .nil, h => by cases h
  | _, _, _, .cons (f := g) (v := v) (x := z) (fp := fp) (vs := vs) (fs := fs) h1 t, h => by
    have h' : (match f == g with | true => some z | false => fs.lookup f) = some y := h
    cases q : f == g with
    | true =>
      rw [q] at h'
      cases h'
      refine ⟨v, fp, ?_, h1, fun a ha => by rw [List.flatten_cons]; exact List.mem_append_left _ ha⟩
      show (match f == g with | true => some v | false => vs.lookup f) = some v
      rw [q]
    | false =>
      rw [q] at h'
      obtain ⟨v', fp', e1, e2, e3⟩ := fs_look t h'
      refine ⟨v', fp', ?_, e2, fun a ha => by rw [List.flatten_cons]; exact List.mem_append_right _ (e3 a ha)⟩
      show (match f == g with | true => some v | false => vs.lookup f) = some v'
      rw [q]
      exact e1
/-- o.f, o an object of one's own at slot i -/
theorem dp_fld {C : Addr} {fs : List (Str × Bs)} {f : Str} (cl : Cls X.K C) (na : NoAttr X.K C f) (hN : X.N[i]? = some x) (hv : Vis X.env.scope x) (hg : Γ[i]? = some (some (.o C fs))) (hl : fs.lookup f = some (.dat d)) {p2 : Pos}
    (hb : attributeBase (.Name x p2) f X.env (eval (.Name x p2) X.env) = eval (.Name x p2) X.env := by rfl) (hd : (x == ("__debug__" : Str)) = false := by decide) (hcd : (x == ("__classdict__" : Str)) = false := by decide) : DP X (.Attribute (.Name x p2) f pos) Γ d :=
  dp_grow (pe_fld (pe_var hN hv hd hcd) hb) fun σ H Hf fps ok Q q => by
    obtain ⟨v, h1, a, dx, fvs, fpl, e1, e2, e3, e4⟩ := ok.sl i _ hg
    subst e1
    obtain ⟨u, fp, l1, ⟨_, l2⟩, _⟩ := fs_look e4 hl
    exact ⟨_, h1, a, C, dx, fvs, u, rfl, e3, cl, na, l1, q u Hf H .refl l2⟩
theorem dl_fld {C : Addr} {fs : List (Str × Bs)} {f : Str} (cl : Cls X.K C) (na : NoAttr X.K C f) (hN : X.N[i]? = some x) (hv : Vis X.env.scope x) (hg : Γ[i]? = some (some (.o C fs))) (hl : fs.lookup f = some (.ol ds)) {p2 : Pos}
    (hb : attributeBase (.Name x p2) f X.env (eval (.Name x p2) X.env) = eval (.Name x p2) X.env := by rfl) (hd : (x == ("__debug__" : Str)) = false := by decide) (hcd : (x == ("__classdict__" : Str)) = false := by decide) : DLs X (.Attribute (.Name x p2) f pos) Γ ds :=
  dl_grow (pe_fld (pe_var hN hv hd hcd) hb) fun σ H Hf fps ok Q q => by
    obtain ⟨v, h1, a, dx, fvs, fpl, e1, e2, e3, e4⟩ := ok.sl i _ hg
    subst e1
    obtain ⟨u, fp, l1, ⟨b, xs, m1, m2, m3, m4⟩, _⟩ := fs_look e4 hl
    subst m1
    exact ⟨_, h1, a, C, dx, fvs, _, rfl, e3, cl, na, l1, q b xs Hf H .refl (SqL.of m3) m4⟩
theorem dk_own {kvs : List (Key × PyData)} (hN : X.N[i]? = some x) (hv : Vis X.env.scope x) (hg : Γ[i]? = some (some (.b (.okd kvs)))) (hd : (x == ("__debug__" : Str)) = false := by decide) (hcd : (x == ("__classdict__" : Str)) = false := by decide) : DK X (.Name x pos) Γ kvs :=
  dk_grow (pe_var hN hv hd hcd) fun σ H Hf fps ok Q q => by
    obtain ⟨v, h1, a, ws, e1, e2, e3, e4⟩ := ok.sl i _ hg
    subst e1
    exact ⟨_, h1, q a ws Hf H .refl (.inl e3) e4⟩
/-- a dict as data -/
def dictD (kvs : List (Key × PyData)) : PyData := .dict (kvs.map fun p => (kD p.1, p.2))
theorem kD_inj {j k : Key} (h : kD j = kD k) : j = k := by
  cases j <;> cases k <;> simp [kD] at h <;> rw [h]
theorem dvKV_of {K : PySem.W.Frag} {H : Hp} : ∀ {ws : List (Key × V)} {kvs : List (Key × PyData)}, KvD K H ws kvs → DvKV K H ws (kvs.map fun p => (kD p.1, p.2))
  | _, _, .nil => .nil
  | (k, v) :: _, (k', d) :: _, .cons ⟨h1, h2⟩ t => by
    have h1 : k = k' := h1
    subst h1
    exact .cons h2 (dvKV_of t)
theorem kvD_of {K : PySem.W.Frag} {H : Hp} : ∀ {ws : List (Key × V)} {kvs : List (Key × PyData)}, DvKV K H ws (kvs.map fun p => (kD p.1, p.2)) → KvD K H ws kvs
  | [], [], _ => .nil
  | [], _ :: _, h => by cases h
  | _ :: _, [], h => by cases h
  | (k, v) :: ws, (k', d) :: kvs, h => by
    rw [List.map_cons] at h
    generalize hk : kD k' = kk at h
    cases h with
    | cons h1 h2 => exact .cons ⟨(kD_inj hk).symm, h1⟩ (kvD_of h2)
theorem dk_dat {kvs : List (Key × PyData)} (h : DP X e Γ (dictD kvs)) : DK X e Γ kvs := dk_grow h fun σ H Hf fps ok Q q => tD_run ok fun v Hf' H' g hv => by
  unfold dictD at hv
  generalize hm : kvs.map (fun p => (kD p.1, p.2)) = m at hv
  cases hv with
  | dct h1 h2 => exact q _ _ Hf' H' g (.inr ⟨_, (ok.growG g).sub _ _ h1⟩) (kvD_of (by rw [hm]; exact h2))

/-! ### argument lists, displays -/
theorem da_nil : DA X [] Γ [] := ⟨fun pos pins st σ H Q I ⟨Hf, fps, ok, q⟩ => pa_nil.run pos pins st σ H Q I (q [] Hf H .refl .nil)⟩
theorem da_cons (ha : DP X e Γ d) (hr : DA X es Γ ds) (hs : starEach (e :: es) X.env = (false, eval e X.env) :: starEach es X.env := by rfl) : DA X (e :: es) Γ (d :: ds) :=
  ⟨fun pos pins st σ H Q I ⟨Hf, fps, ok, q⟩ => (pa_cons ha hr hs).run pos pins st σ H Q I (tD_run ok fun v Hf1 H1 g1 hv => tA_run (ok.growG g1) fun vs Hf2 H2 g2 hvs => q _ Hf2 H2 (g1.trans g2) (.cons (Dv.up g2.mono _ hv) hvs))⟩
theorem dp_tup {n : Nat} (h : DA X es Γ ds) (hl : ds.length ≤ sizeLine) : DP X (.Tuple es n pos) Γ (.tuple ds) := dp_grow (pe_tup h) fun σ H Hf fps ok Q q => tA_run ok fun vs Hf1 H1 g1 hvs =>
  ⟨by rw [hvs.len]; exact hl, fun p hp => by
    have g := Grow.new (u := .tup vs) hp (ok.growG g1).sub
    exact q _ _ _ (g1.trans g) (.tup upd_same (DvAll.up g.mono _ hvs))⟩
theorem dp_lst (h : DA X es Γ ds) (hl : ds.length ≤ sizeLine) : DP X (.List es pos) Γ (.list ds) := dp_grow (pe_lst h) fun σ H Hf fps ok Q q => tA_run ok fun vs Hf1 H1 g1 hvs =>
  ⟨by rw [hvs.len]; exact hl, fun p hp => by
    have g := Grow.new (u := .lst vs) hp (ok.growG g1).sub
    exact q _ _ _ (g1.trans g) (.lst (SqL.of upd_same) (DvAll.up g.mono _ hvs))⟩
/-- a new thing p owned by what is at hand -/
theorem Ok.hand {P : Program} {w : World} {K : PySem.W.Frag} {Hf H : Hp} {σ : L2.St} {fps : Fps} (ok : Ok P w K Hf H σ Γ fps) {p : Addr} {u : HO} {y : Bs} (hp : H p = none) (hb : BsOk P w K Hf (upd H p u) y (.ref p) [p]) :
    Ok P w K Hf (upd H p u) σ Γ fps ∧ Rs P w K Hf (upd H p u) (.b y) (.ref p) [p] fps ∧ Step (own fps) Hf H (ownR fps [p]) Hf (upd H p u) := by
  obtain ⟨o, st⟩ := ok.new (u := u) hp
  refine ⟨o, ⟨hb, by simp, fun a ha => ?_, fun a ha j => ?_⟩, st⟩
  · have e : a = p := by simpa using ha
    rw [e]
    exact Same.freeF ok.sub hp
  · have e : a = p := by simpa using ha
    rw [e]
    exact ok.ndj hp j
theorem de_lst (h : DA X es Γ ds) (hl : ds.length ≤ sizeLine) : DE X (.List es pos) Γ Γ (.b (.ol ds)) := de_of (pe_lst h) fun σ H Hf fps ok Q q => tA_run ok fun vs Hf1 H1 g1 hvs =>
  ⟨by rw [hvs.len]; exact hl, fun p hp => by
    obtain ⟨o, r, st⟩ := (ok.growG g1).hand (u := .lst vs) (y := .ol ds) hp ⟨p, vs, rfl, rfl, upd_same, hvs⟩
    exact q _ _ _ _ _ o r (g1.step.trans st)⟩
theorem de_dictK : DE X (.Dict [] [] pos) Γ Γ (.b (.okd [])) := de_of pe_dnewK fun σ H Hf fps ok Q q p hp => by
  obtain ⟨o, r, st⟩ := ok.hand (u := .dK []) (y := .okd []) hp ⟨p, [], rfl, rfl, upd_same, .nil⟩
  exact q _ _ _ _ _ o r st
theorem de_dictT : DE X (.Dict [] [] pos) Γ Γ (.b (.otd [])) := de_of pe_dnewT fun σ H Hf fps ok Q q p hp => by
  obtain ⟨o, r, st⟩ := ok.hand (u := .dT []) (y := .otd []) hp ⟨p, [], rfl, rfl, upd_same, .nil⟩
  exact q _ _ _ _ _ o r st

/-! ### items -/
theorem atI_dv {K : PySem.W.Frag} {H : Hp} {vs : List V} {n : Int} (h : DvAll K H vs ds) (e : atI ds n = some d) : ∃ v, atI vs n = some v ∧ Dv K H v d := by
  unfold atI at e ⊢
  rw [h.len]
  cases q : ixN ds.length n with
  | none => rw [q] at e; cases e
  | some j =>
    rw [q] at e
    obtain ⟨v, h1, h2⟩ := h.at (i := j) e
    exact ⟨v, h1, h2⟩
theorem dp_ixT {n : Int} (he : atI ds n = some d) (ha : DP X a Γ (.tuple ds)) (hb : DP X b Γ (.int n)) (hs : PlainIx b := by exact fun _ _ => rfl) : DP X (.Subscript a b pos) Γ d :=
  dp_ix ix_tup (fun x y Hf H sub hx hy Q q => by
    cases hx with
    | tup h1 h2 =>
      cases hy
      obtain ⟨v, e1, e2⟩ := atI_dv h2 he
      exact ⟨_, _, n, v, rfl, rfl, SqT.of (sub _ _ h1), e1, q v Hf H .refl e2⟩) ha hb hs
theorem dp_ixL {n : Int} (he : atI ds n = some d) (ha : DLs X a Γ ds) (hb : DP X b Γ (.int n)) (hs : PlainIx b := by exact fun _ _ => rfl) : DP X (.Subscript a b pos) Γ d :=
  dp_grow (pe_ix ix_list ha hb hs) fun σ H Hf fps ok Q q => tL_run ok fun p xs Hf1 H1 g1 h1 h2 => tD_run (ok.growG g1) fun v Hf2 H2 g2 hv => by
    cases hv
    obtain ⟨v, e1, e2⟩ := atI_dv (DvAll.up g2.mono _ h2) he
    exact ⟨p, xs, n, v, rfl, rfl, Same.seq g2.all h1, e1, q v Hf2 H2 (g1.trans g2) e2⟩
theorem dp_ixS {y : Str} {n : Int} {ch : Nat} (hl : y.length ≤ sizeLine) (he : atI y.cps.toList n = some ch) (ha : DP X a Γ (.str y)) (hb : DP X b Γ (.int n)) (hs : PlainIx b := by exact fun _ _ => rfl) : DP X (.Subscript a b pos) Γ (.str ⟨#[ch]⟩) :=
  dp_ix ix_str (fun x y Hf H sub hx hy Q q => by
    cases hx; cases hy
    exact ⟨_, n, ch, rfl, rfl, hl, he, q _ Hf H .refl (.str _)⟩) ha hb hs

/-! ### slices -/
def cutD (xs : List PyData) (lo hi : Option Int) : List PyData := (xs.drop (HT.sIx xs.length 0 lo)).take (HT.sIx xs.length xs.length hi - HT.sIx xs.length 0 lo)
theorem cut_dv {K : PySem.W.Frag} {H : Hp} {vs : List V} {lo hi : Option Int} (h : DvAll K H vs ds) : DvAll K H (cutV vs lo hi) (cutD ds lo hi) := by
  unfold cutV cutD
  rw [h.len]
  exact DvAll.take _ (DvAll.drop _ h)
/-- a part of a slice -/
inductive DO (X : Cx) (Γ : Ctx) : Option Expr → Option Int → Prop
  | non : DO X Γ none none
  | som {e : Expr} {n : Int} : DP X e Γ (.int n) → DO X Γ (some e) (some n)
def tDO (P : Program) (w : World) (K : PySem.W.Frag) (Γ : Ctx) (n : Option Int) : TO := fun σ H Q => ∃ Hf fps, Ok P w K Hf H σ Γ fps ∧ ∀ Hf' H', Grow Hf H Hf' H' → Q n H'
theorem do_po {o : Option Expr} {n : Option Int} (h : DO X Γ o n) : PO X o (tDO X.prog X.w X.K Γ n) := by
  cases h with
  | non => exact ⟨fun pins s σ H Q I ⟨Hf, fps, ok, q⟩ => po_none.run pins s σ H Q I (q Hf H .refl)⟩
  | som h => exact ⟨fun pins s σ H Q I ⟨Hf, fps, ok, q⟩ => (po_some h).run pins s σ H Q I (tD_run ok fun v Hf1 H1 g1 hv => by
      cases hv
      exact ⟨_, rfl, q Hf1 H1 g1⟩)⟩
theorem dp_sliceT {lo hi : Option Expr} {m n : Option Int} {p2 : Pos} (ha : DP X a Γ (.tuple ds)) (hl : DO X Γ lo m) (hh : DO X Γ hi n) : DP X (.Subscript a (.Slice lo hi none p2) pos) Γ (.tuple (cutD ds m n)) :=
  dp_grow (pe_slice sl_tupA ha (do_po hl) (do_po hh)) fun σ H Hf fps ok Q q => tD_run ok fun v Hf1 H1 g1 hv => ⟨Hf1, fps, ok.growG g1, fun Hf2 H2 g2 => ⟨Hf2, fps, (ok.growG g1).growG g2, fun Hf3 H3 g3 => by
    have ok3 := ((ok.growG g1).growG g2).growG g3
    cases hv with
    | @tup p xs _ h1 h2 =>
      have h1' := (g2.mono.trans g3.mono) _ _ h1
      have h2' := DvAll.up (g2.mono.trans g3.mono) _ h2
      refine ⟨p, xs, rfl, SqT.of (ok3.sub _ _ h1'), fun hw => ?_, fun _ l hl => ?_⟩
      · have e : cutD ds m n = ds := by
          unfold cutD
          rw [h2'.len] at hw
          rw [hw.1, hw.2]
          simp
        rw [e] at q
        exact q _ Hf3 H3 ((g1.trans g2).trans g3) (.tup h1' h2')
      · have g := Grow.new (u := .tup (cutV xs m n)) hl ok3.sub
        exact q _ _ _ (((g1.trans g2).trans g3).trans g) (.tup upd_same (DvAll.up g.mono _ (cut_dv h2')))⟩⟩
theorem dp_sliceL {lo hi : Option Expr} {m n : Option Int} {p2 : Pos} (ha : DLs X a Γ ds) (hl : DO X Γ lo m) (hh : DO X Γ hi n) : DP X (.Subscript a (.Slice lo hi none p2) pos) Γ (.list (cutD ds m n)) :=
  dp_grow (pe_slice sl_list ha (do_po hl) (do_po hh)) fun σ H Hf fps ok Q q => tL_run ok fun p xs Hf1 H1 g1 h1 h2 => ⟨Hf1, fps, ok.growG g1, fun Hf2 H2 g2 => ⟨Hf2, fps, (ok.growG g1).growG g2, fun Hf3 H3 g3 => by
    have ok3 := ((ok.growG g1).growG g2).growG g3
    refine ⟨p, xs, rfl, Same.seq (g2.all.trans g3.all) h1, fun l hl => ?_⟩
    have g := Grow.new (u := .lst (cutV xs m n)) hl ok3.sub
    exact q _ _ _ (((g1.trans g2).trans g3).trans g) (.lst (SqL.of upd_same) (DvAll.up g.mono _ (cut_dv (DvAll.up (g2.mono.trans g3.mono) _ h2))))⟩⟩
theorem dp_sliceS {y : Str} {lo hi : Option Expr} {m n : Option Int} {p2 : Pos} (hz : y.length ≤ sizeLine) (ha : DP X a Γ (.str y)) (hl : DO X Γ lo m) (hh : DO X Γ hi n) : DP X (.Subscript a (.Slice lo hi none p2) pos) Γ (.str (cutS y m n)) :=
  dp_grow (pe_slice sl_str ha (do_po hl) (do_po hh)) fun σ H Hf fps ok Q q => tD_run ok fun v Hf1 H1 g1 hv => ⟨Hf1, fps, ok.growG g1, fun Hf2 H2 g2 => ⟨Hf2, fps, (ok.growG g1).growG g2, fun Hf3 H3 g3 => by
    cases hv
    exact ⟨y, rfl, hz, q _ Hf3 H3 ((g1.trans g2).trans g3) (.str _)⟩⟩⟩
end

/-! ### calls of built-ins -/
abbrev NoStar (X : Cx) (e : Expr) (es : List Expr) : Prop := starEach (e :: es) X.env = (false, eval e X.env) :: starEach es X.env
section
variable {X : Cx} {e a b c : Expr} {es : List Expr} {Γ Γ' Γ1 : Ctx} {s s' : Sl} {d da db dc : PyData} {ds ds' : List PyData} {te ta tb : TE} {pos p : Pos} {i : Nat} {x : Str} {id T : String} {r : List V → Hp → VK → Prop}
def RCD (K : PySem.W.Frag) (r : List V → Hp → VK → Prop) (ds : List PyData) (d : PyData) : Prop := ∀ vs Hf H, Same Hf H → DvAll K Hf vs ds → ∀ Q : VK, (∀ v Hf' H', Grow Hf H Hf' H' → Dv K Hf' v d → Q v H') → r vs H Q
theorem dp_callB (hc : CallR X (.builtin id) r) (hr : RCD X.K r ds d) (hg : Gl X x) (hm : X.mg x = none) (hv : bootBuiltins x = some (.builtin id)) (ha : DA X (e :: es) Γ ds) (hn : x ≠ "__name__" := by decide) (hdb : (x == ("__debug__" : Str)) = false := by decide)
    (he : starEach (e :: es) X.env = (false, eval e X.env) :: starEach es X.env := by rfl) (hpl : (backTo pos (starEach es X.env)).any (·.1) = false := by rfl) : DP X (.Call (.Name x p) (e :: es) [] pos) Γ d :=
  dp_grow (pe_callB hc hg hm hv ha hn hdb he hpl) fun σ H Hf fps ok Q q => tA_run ok fun vs Hf1 H1 g1 hvs => hr vs Hf1 H1 (ok.growG g1).sub hvs Q fun v Hf2 H2 g2 hv => q v Hf2 H2 (g1.trans g2) hv
theorem dp_callTy (hc : CallR X (.type T) r) (hr : RCD X.K r ds d) (hg : Gl X x) (hm : X.mg x = none) (hv : bootBuiltins x = some (.type T)) (ha : DA X (e :: es) Γ ds) (hn : x ≠ "__name__" := by decide) (hdb : (x == ("__debug__" : Str)) = false := by decide)
    (he : starEach (e :: es) X.env = (false, eval e X.env) :: starEach es X.env := by rfl) (hpl : (backTo pos (starEach es X.env)).any (·.1) = false := by rfl) : DP X (.Call (.Name x p) (e :: es) [] pos) Γ d :=
  dp_grow (pe_callTy hc hg hm hv ha hn hdb he hpl) fun σ H Hf fps ok Q q => tA_run ok fun vs Hf1 H1 g1 hvs => hr vs Hf1 H1 (ok.growG g1).sub hvs Q fun v Hf2 H2 g2 hv => q v Hf2 H2 (g1.trans g2) hv
/-- one argument, a list that is read -/
def RLD (K : PySem.W.Frag) (r : List V → Hp → VK → Prop) (ds : List PyData) (d : PyData) : Prop := ∀ p xs Hf H, Same Hf H → SqL K H p xs → DvAll K Hf xs ds → ∀ Q : VK, (∀ v Hf' H', Grow Hf H Hf' H' → Dv K Hf' v d → Q v H') → r [.ref p] H Q
theorem dp_callBL (hc : CallR X (.builtin id) r) (hr : RLD X.K r ds d) (hg : Gl X x) (hm : X.mg x = none) (hv : bootBuiltins x = some (.builtin id)) (ha : DLs X e Γ ds) (hn : x ≠ "__name__" := by decide) (hdb : (x == ("__debug__" : Str)) = false := by decide)
    (hs : starEach [e] X.env = (false, eval e X.env) :: starEach [] X.env := by rfl) (hpl : (backTo pos (starEach [] X.env)).any (·.1) = false := by rfl) : DP X (.Call (.Name x p) [e] [] pos) Γ d :=
  dp_grow (pe_callB hc hg hm hv (pa_cons ha pa_nil hs) hn hdb hs hpl) fun σ H Hf fps ok Q q => show tL X.prog X.w X.K Γ ds σ H (fun x H1 => r [x] H1 Q) from tL_run ok fun p xs Hf1 H1 g1 h1 h2 => hr p xs Hf1 H1 (ok.growG g1).sub h1 h2 Q fun v Hf2 H2 g2 hv => q v Hf2 H2 (g1.trans g2) hv
theorem dp_callTyL (hc : CallR X (.type T) r) (hr : RLD X.K r ds d) (hg : Gl X x) (hm : X.mg x = none) (hv : bootBuiltins x = some (.type T)) (ha : DLs X e Γ ds) (hn : x ≠ "__name__" := by decide) (hdb : (x == ("__debug__" : Str)) = false := by decide)
    (hs : starEach [e] X.env = (false, eval e X.env) :: starEach [] X.env := by rfl) (hpl : (backTo pos (starEach [] X.env)).any (·.1) = false := by rfl) : DP X (.Call (.Name x p) [e] [] pos) Γ d :=
  dp_grow (pe_callTy hc hg hm hv (pa_cons ha pa_nil hs) hn hdb hs hpl) fun σ H Hf fps ok Q q => show tL X.prog X.w X.K Γ ds σ H (fun x H1 => r [x] H1 Q) from tL_run ok fun p xs Hf1 H1 g1 h1 h2 => hr p xs Hf1 H1 (ok.growG g1).sub h1 h2 Q fun v Hf2 H2 g2 hv => q v Hf2 H2 (g1.trans g2) hv
/-- len -/
theorem dp_lenL (hg : Gl X "len") (hm : X.mg "len" = none) (ha : DLs X e Γ ds) (n1 : NoStar X e [] := by rfl) : DP X (.Call (.Name "len" p) [e] [] pos) Γ (.int ds.length) :=
  dp_callBL call_len_seq (fun p xs Hf H sub h1 h2 Q q => ⟨p, xs, rfl, .inl h1, by rw [h2.len]; exact q _ Hf H .refl (.int _)⟩) hg hm PySem.boot_len ha (hs := n1)
theorem dp_lenT (hg : Gl X "len") (hm : X.mg "len" = none) (ha : DP X e Γ (.tuple ds)) (n1 : NoStar X e [] := by rfl) : DP X (.Call (.Name "len" p) [e] [] pos) Γ (.int ds.length) :=
  dp_callB call_len_seq (ds := [.tuple ds]) (fun vs Hf H sub h Q q => by
    cases h with
    | cons h1 h2 =>
      cases h2
      cases h1 with
      | tup h1 h2 => exact ⟨_, _, rfl, .inr (SqT.of (sub _ _ h1)), by rw [h2.len]; exact q _ Hf H .refl (.int _)⟩) hg hm PySem.boot_len (da_cons ha da_nil n1) (he := n1)
theorem dp_lenS {y : Str} (hz : y.length ≤ sizeLine) (hg : Gl X "len") (hm : X.mg "len" = none) (ha : DP X e Γ (.str y)) (n1 : NoStar X e [] := by rfl) : DP X (.Call (.Name "len" p) [e] [] pos) Γ (.int y.length) :=
  dp_callB call_len_str (ds := [.str y]) (fun vs Hf H sub h Q q => by
    cases h with
    | cons h1 h2 =>
      cases h2
      cases h1
      exact ⟨_, rfl, hz, q _ Hf H .refl (.int _)⟩) hg hm PySem.boot_len (da_cons ha da_nil n1) (he := n1)
/-- list(xs), list(t), tuple(xs) -/
theorem dp_listL (hg : Gl X "list") (hm : X.mg "list" = none) (ha : DLs X e Γ ds) (n1 : NoStar X e [] := by rfl) : DP X (.Call (.Name "list" p) [e] [] pos) Γ (.list ds) :=
  dp_callTyL call_list_of (fun p xs Hf H sub h1 h2 Q q => ⟨p, xs, rfl, .inl h1, fun l hl => by
    have g := Grow.new (u := .lst xs) hl sub
    exact q _ _ _ g (.lst (SqL.of upd_same) (DvAll.up g.mono _ h2))⟩) hg hm (by decide +kernel) ha (hs := n1)
theorem dp_tupleL (hg : Gl X "tuple") (hm : X.mg "tuple" = none) (ha : DLs X e Γ ds) (n1 : NoStar X e [] := by rfl) : DP X (.Call (.Name "tuple" p) [e] [] pos) Γ (.tuple ds) :=
  dp_callTyL call_tuple_of (fun p xs Hf H sub h1 h2 Q q => ⟨p, xs, rfl, .inl ⟨h1, fun l hl => by
    have g := Grow.new (u := .tup xs) hl sub
    exact q _ _ _ g (.tup upd_same (DvAll.up g.mono _ h2))⟩⟩) hg hm (by decide +kernel) ha (hs := n1)
/-- list(xs) as a list of one's own -/
theorem de_listL (hg : Gl X "list") (hm : X.mg "list" = none) (ha : DLs X e Γ ds) (hs : starEach [e] X.env = (false, eval e X.env) :: starEach [] X.env := by rfl) (hpl : (backTo pos (starEach [] X.env)).any (·.1) = false := by rfl) : DE X (.Call (.Name "list" p) [e] [] pos) Γ Γ (.b (.ol ds)) :=
  de_of (pe_callTy call_list_of hg hm (by decide +kernel) (pa_cons ha pa_nil hs) (he := hs) (hpl := hpl)) fun σ H Hf fps ok Q q => by
    refine tL_run (ds := ds) (Q := fun x H1 => ∃ p ys, [x] = [V.ref p] ∧ (SqL X.K H1 p ys ∨ SqT X.K H1 p ys) ∧ ∀ l, H1 l = none → Q (.ref l) (upd H1 l (.lst ys))) ok fun p xs Hf1 H1 g1 h1 h2 => ⟨p, xs, rfl, .inl h1, fun l hl => ?_⟩
    obtain ⟨o, r, st⟩ := (ok.growG g1).hand (u := .lst xs) (y := .ol ds) hl ⟨l, xs, rfl, rfl, upd_same, h2⟩
    exact q _ _ _ _ _ o r (g1.step.trans st)
/-- all([..]) -/
theorem dv_bools {K : PySem.W.Frag} {H : Hp} : ∀ {bs : List Bool} {vs : List V}, DvAll K H vs (bs.map .bool) → vs = bs.map V.bl
  | [], _, h => by cases h; rfl
  | b :: bs, _, h => by
    rw [List.map_cons] at h
    cases h with
    | cons h1 h2 =>
      cases h1
      rw [dv_bools h2]
      rfl
theorem dp_all {bs : List Bool} (hc : X.calm = true) (hg : Gl X "all") (hm : X.mg "all" = none) (ha : DLs X e Γ (bs.map .bool)) (n1 : NoStar X e [] := by rfl) : DP X (.Call (.Name "all" p) [e] [] pos) Γ (.bool (bs.all fun b => b)) :=
  dp_callBL (cr_all hc) (fun p xs Hf H sub h1 h2 Q q => ⟨p, bs, rfl, (by rw [← dv_bools h2]; exact h1), q _ Hf H .refl (.bl _)⟩) hg hm (by decide +kernel) ha (hs := n1)

/-! ### in, + -/
def rInG (X : Cx) (neg : Bool) : R2 := fun x y H Q => ∃ d ds p xs, Dp X.K H x d ∧ y = .ref p ∧ SqL X.K H p xs ∧ DpAll X.K H xs ds ∧ d.canLay0 = true ∧ PyData.canLayAll0 ds = true ∧ X.A.units + 1 + min (PyData.depthAll ds) d.depth < cLine ∧ Q (.bl (if neg then !ds.any fun z => PyData.eqv z d else ds.any fun z => PyData.eqv z d)) H
theorem op_inG : OpR X (compareOp .In) (rInG X false) := by
  intro pins s σ H x y v u Q I rx ry h
  obtain ⟨d, ds, p, xs, hd, rfl, hq, he, c1, c2, hu, q⟩ := h
  obtain ⟨as, r1⟩ := Dp.reads I d x v hd rx
  obtain ⟨bs, r2⟩ := Dp.reads I (.list ds) (.ref p) u (.lst hq he) ry
  exact SeqAt.in_list_reads r2 r1 c2 c1 hu ⟨.bl _, H, I, rfl, q⟩
theorem op_notInG : OpR X (compareOp .NotIn) (rInG X true) := by
  intro pins s σ H x y v u Q I rx ry h
  obtain ⟨d, ds, p, xs, hd, rfl, hq, he, c1, c2, hu, q⟩ := h
  obtain ⟨as, r1⟩ := Dp.reads I d x v hd rx
  obtain ⟨bs, r2⟩ := Dp.reads I (.list ds) (.ref p) u (.lst hq he) ry
  exact SeqAt.notIn_list_reads r2 r1 c2 c1 hu ⟨.bl _, H, I, rfl, q⟩
theorem dpAll_up {K : PySem.W.Frag} {Hf H : Hp} {vs : List V} (c : PyData.canLayAll0 ds = true) (sub : Same Hf H) (h : DvAll K Hf vs ds) : DpAll K H vs ds := DvAll.dp ds c (DvAll.up sub ds h)
theorem cm_inG (c1 : da.canLay0 = true) (c2 : PyData.canLayAll0 ds = true) (hu : X.A.units + 1 + min (PyData.depthAll ds) da.depth < cLine) (ha : DP X a Γ da) (hb : DLs X b Γ ds) (hm : behindInMarks .In b = false := by rfl) : CM X .In a b Γ (ds.any fun z => PyData.eqv z da) :=
  cm_grow (pc_op op_inG ha hb) hm fun σ H Hf fps ok Q q => tD_run ok fun v Hf1 H1 g1 hv => tL_run (ok.growG g1) fun p xs Hf2 H2 g2 h1 h2 =>
    ⟨da, ds, p, xs, dp_up c1 ((ok.growG g1).growG g2).sub (Dv.up g2.mono _ hv), rfl, h1, dpAll_up c2 ((ok.growG g1).growG g2).sub h2, c1, c2, hu, q _ Hf2 H2 (g1.trans g2) (.bl _)⟩
theorem cm_notInG (c1 : da.canLay0 = true) (c2 : PyData.canLayAll0 ds = true) (hu : X.A.units + 1 + min (PyData.depthAll ds) da.depth < cLine) (ha : DP X a Γ da) (hb : DLs X b Γ ds) (hm : behindInMarks .NotIn b = false := by rfl) : CM X .NotIn a b Γ (!ds.any fun z => PyData.eqv z da) :=
  cm_grow (pc_op op_notInG ha hb) hm fun σ H Hf fps ok Q q => tD_run ok fun v Hf1 H1 g1 hv => tL_run (ok.growG g1) fun p xs Hf2 H2 g2 h1 h2 =>
    ⟨da, ds, p, xs, dp_up c1 ((ok.growG g1).growG g2).sub (Dv.up g2.mono _ hv), rfl, h1, dpAll_up c2 ((ok.growG g1).growG g2).sub h2, c1, c2, hu, q _ Hf2 H2 (g1.trans g2) (.bl _)⟩
theorem dv_strs {K : PySem.W.Frag} {H : Hp} : ∀ {bs : List Str} {vs : List V}, DvAll K H vs (bs.map .str) → vs = bs.map V.str
  | [], _, h => by cases h; rfl
  | b :: bs, _, h => by
    rw [List.map_cons] at h
    cases h with
    | cons h1 h2 =>
      cases h1
      rw [dv_strs h2]
      rfl
theorem dv_ints {K : PySem.W.Frag} {H : Hp} : ∀ {bs : List Int} {vs : List V}, DvAll K H vs (bs.map .int) → vs = bs.map V.int
  | [], _, h => by cases h; rfl
  | b :: bs, _, h => by
    rw [List.map_cons] at h
    cases h with
    | cons h1 h2 =>
      cases h1
      rw [dv_ints h2]
      rfl
theorem strs_dv {K : PySem.W.Frag} {H : Hp} : ∀ (bs : List Str), DvAll K H (bs.map V.str) (bs.map .str)
  | [] => .nil
  | b :: bs => .cons (.str b) (strs_dv bs)
theorem inV_str (y : Str) : ∀ ys : List Str, inV (.str y) (ys.map V.str) = decide (y ∈ ys)
  | [] => by simp [inV]
  | z :: ys => by
    have ih := inV_str y ys
    unfold inV at ih ⊢
    rw [List.map_cons, List.any_cons, ih]
    by_cases h : y = z
    · subst h; simp [eqV]
    · have e : eqV (.str z) (.str y) = false := by
        show (z == y) = false
        exact beq_eq_false_iff_ne.mpr (Ne.symm h)
      rw [e]
      simp [h]
theorem inV_int (y : Int) : ∀ ys : List Int, inV (.int y) (ys.map V.int) = decide (y ∈ ys)
  | [] => by simp [inV]
  | z :: ys => by
    have ih := inV_int y ys
    unfold inV at ih ⊢
    rw [List.map_cons, List.any_cons, ih]
    by_cases h : y = z
    · subst h; simp [eqV]
    · have e : eqV (.int z) (.int y) = false := by
        show (z == y) = false
        exact beq_eq_false_iff_ne.mpr (Ne.symm h)
      rw [e]
      simp [h]
theorem flat_strs (ys : List Str) : (ys.map V.str).all flatV = true := by simp [List.all_map, flatV]
theorem flat_ints (ys : List Int) : (ys.map V.int).all flatV = true := by simp [List.all_map, flatV]
theorem cm_inS {y : Str} {ys : List Str} (ha : DP X a Γ (.str y)) (hb : DLs X b Γ (ys.map .str)) (hm : behindInMarks .In b = false := by rfl) : CM X .In a b Γ (decide (y ∈ ys)) :=
  cm_grow (pc_op op_in_seq ha hb) hm fun σ H Hf fps ok Q q => tD_run ok fun v Hf1 H1 g1 hv => tL_run (ok.growG g1) fun p xs Hf2 H2 g2 h1 h2 => by
    cases hv
    have e := dv_strs h2
    subst e
    refine ⟨p, _, rfl, .inl h1, rfl, flat_strs ys, ?_⟩
    have e : (if false = true then !inV (.str y) (ys.map V.str) else inV (.str y) (ys.map V.str)) = decide (y ∈ ys) := by rw [if_neg Bool.false_ne_true, inV_str]
    rw [e]
    exact q _ Hf2 H2 (g1.trans g2) (.bl _)
theorem cm_notInS {y : Str} {ys : List Str} (ha : DP X a Γ (.str y)) (hb : DLs X b Γ (ys.map .str)) (hm : behindInMarks .NotIn b = false := by rfl) : CM X .NotIn a b Γ (!decide (y ∈ ys)) :=
  cm_grow (pc_op op_notIn_seq ha hb) hm fun σ H Hf fps ok Q q => tD_run ok fun v Hf1 H1 g1 hv => tL_run (ok.growG g1) fun p xs Hf2 H2 g2 h1 h2 => by
    cases hv
    have e := dv_strs h2
    subst e
    refine ⟨p, _, rfl, .inl h1, rfl, flat_strs ys, ?_⟩
    have e : (if true = true then !inV (.str y) (ys.map V.str) else inV (.str y) (ys.map V.str)) = !decide (y ∈ ys) := by rw [if_pos rfl, inV_str]
    rw [e]
    exact q _ Hf2 H2 (g1.trans g2) (.bl _)
theorem cm_inI {y : Int} {ys : List Int} (ha : DP X a Γ (.int y)) (hb : DLs X b Γ (ys.map .int)) (hm : behindInMarks .In b = false := by rfl) : CM X .In a b Γ (decide (y ∈ ys)) :=
  cm_grow (pc_op op_in_seq ha hb) hm fun σ H Hf fps ok Q q => tD_run ok fun v Hf1 H1 g1 hv => tL_run (ok.growG g1) fun p xs Hf2 H2 g2 h1 h2 => by
    cases hv
    have e := dv_ints h2
    subst e
    refine ⟨p, _, rfl, .inl h1, rfl, flat_ints ys, ?_⟩
    have e : (if false = true then !inV (.int y) (ys.map V.int) else inV (.int y) (ys.map V.int)) = decide (y ∈ ys) := by rw [if_neg Bool.false_ne_true, inV_int]
    rw [e]
    exact q _ Hf2 H2 (g1.trans g2) (.bl _)
theorem cm_notInI {y : Int} {ys : List Int} (ha : DP X a Γ (.int y)) (hb : DLs X b Γ (ys.map .int)) (hm : behindInMarks .NotIn b = false := by rfl) : CM X .NotIn a b Γ (!decide (y ∈ ys)) :=
  cm_grow (pc_op op_notIn_seq ha hb) hm fun σ H Hf fps ok Q q => tD_run ok fun v Hf1 H1 g1 hv => tL_run (ok.growG g1) fun p xs Hf2 H2 g2 h1 h2 => by
    cases hv
    have e := dv_ints h2
    subst e
    refine ⟨p, _, rfl, .inl h1, rfl, flat_ints ys, ?_⟩
    have e : (if true = true then !inV (.int y) (ys.map V.int) else inV (.int y) (ys.map V.int)) = !decide (y ∈ ys) := by rw [if_pos rfl, inV_int]
    rw [e]
    exact q _ Hf2 H2 (g1.trans g2) (.bl _)
/-- a text in a tuple of texts -/
theorem cm_inST {y : Str} {ys : List Str} (ha : DP X a Γ (.str y)) (hb : DP X b Γ (.tuple (ys.map .str))) (hm : behindInMarks .In b = false := by rfl) : CM X .In a b Γ (decide (y ∈ ys)) :=
  cm_cmp op_in_seq (fun u v Hf H sub hu hv Q q => by
    cases hu
    cases hv with
    | tup h1 h2 =>
      have e := dv_strs h2
      subst e
      refine ⟨_, _, rfl, .inr (SqT.of (sub _ _ h1)), rfl, flat_strs ys, ?_⟩
      have e : (if false = true then !inV (.str y) (ys.map V.str) else inV (.str y) (ys.map V.str)) = decide (y ∈ ys) := by rw [if_neg Bool.false_ne_true, inV_str]
      rw [e]
      exact q _ Hf H .refl (.bl _)) ha hb hm
/-- a text in a text -/
def inStr (y z : Str) : Bool := !(Builtin.Str.occurrences z y 0 z.length 1).isEmpty
theorem cm_inStr {y z : Str} (ha : DP X a Γ (.str y)) (hb : DP X b Γ (.str z)) (hm : behindInMarks .In b = false := by rfl) : CM X .In a b Γ (inStr y z) :=
  cm_cmp op_in_str (fun u v Hf H sub hu hv Q q => by
    cases hu; cases hv
    exact ⟨_, _, rfl, rfl, q _ Hf H .refl (.bl _)⟩) ha hb hm
theorem cm_notInStr {y z : Str} (ha : DP X a Γ (.str y)) (hb : DP X b Γ (.str z)) (hm : behindInMarks .NotIn b = false := by rfl) : CM X .NotIn a b Γ (!inStr y z) :=
  cm_cmp op_notIn_str (fun u v Hf H sub hu hv Q q => by
    cases hu; cases hv
    exact ⟨_, _, rfl, rfl, q _ Hf H .refl (.bl _)⟩) ha hb hm
def rCatQ (K : PySem.W.Frag) : R2 := fun x y H Q => ∃ l b xs zs, x = .ref l ∧ y = .ref b ∧ SqL K H l xs ∧ SqL K H b zs ∧ xs.length + zs.length ≤ sizeLine ∧ ∀ p, H p = none → Q (.ref p) (upd H p (.lst (xs ++ zs)))
theorem op_catQ : OpR X (binaryOp .Add) (rCatQ X.K) := by
  intro pins s σ H x y v u Q I rx ry h
  obtain ⟨l, b, xs, zs, rfl, rfl, hH, hB, hz, q⟩ := h
  cases rx
  cases ry
  obtain ⟨vs, r, ⟨⟨cls, dd, data, sl⟩, n, ho, hc, hdn, hd⟩, _⟩ := I.list hH
  obtain ⟨ws, r2, ⟨⟨cls2, dd2, data2, sl2⟩, n2, ho2, hc2, hdn2, hd2⟩, _⟩ := I.list hB
  simp only at hc hd hc2 hd2 hdn hdn2
  subst hc hd hc2 hd2 hdn hdn2
  have l1 := r.length
  have l2 := r2.length
  have e : vs.toArray ++ ws.toArray = (vs ++ ws).toArray := by simp
  refine concat_meets ⟨_, ho, rfl⟩ ⟨_, ho2, rfl⟩ noFill_list_add seq_list_add PySem.F.slot_list_add PySem.F.entry_list_add (PySem.F.args_list_add_2 _ _) (list_addW l b vs.toArray ws.toArray n n2 none none sl sl2 (by rw [List.size_toArray, List.size_toArray]; omega)) ⟨ho, ho2, ?_⟩
  rw [e]
  exact ⟨.ref _, _, I.lnew (t' := s.toks) (r.append r2) (by rw [List.length_append]; omega), rfl, q _ I.fresh⟩
/-- list + list -/
theorem dp_catL (hz : ds.length + ds'.length ≤ sizeLine) (ha : DLs X a Γ ds) (hb : DLs X b Γ ds') : DP X (.BinOp a .Add b pos) Γ (.list (ds ++ ds')) :=
  dp_grow (pe_op op_catQ ha hb) fun σ H Hf fps ok Q q => tL_run ok fun p xs Hf1 H1 g1 h1 h2 => tL_run (ok.growG g1) fun p' xs' Hf2 H2 g2 h1' h2' => by
    refine ⟨p, p', xs, xs', rfl, rfl, Same.seq g2.all h1, h1', by rw [h2.len, h2'.len]; exact hz, fun l hl => ?_⟩
    have g := Grow.new (u := .lst (xs ++ xs')) hl ((ok.growG g1).growG g2).sub
    exact q _ _ _ ((g1.trans g2).trans g) (.lst (SqL.of upd_same) (DvAll.up g.mono _ ((DvAll.up g2.mono _ h2).app h2')))
theorem dp_catT (hz : ds.length + ds'.length ≤ sizeLine) (ha : DP X a Γ (.tuple ds)) (hb : DP X b Γ (.tuple ds')) : DP X (.BinOp a .Add b pos) Γ (.tuple (ds ++ ds')) :=
  dp_bin op_catA (fun u v Hf H sub hu hv Q q => by
    cases hu with
    | @tup p1 xs1 _ h1 h2 =>
      cases hv with
      | @tup p2 xs2 _ h1' h2' =>
        refine ⟨_, _, _, _, rfl, rfl, SqT.of (sub _ _ h1), SqT.of (sub _ _ h1'), by rw [h2.len, h2'.len]; exact hz, fun e => ?_, fun _ e => ?_, fun _ _ l hl => ?_⟩
        · subst e
          cases h2
          exact q _ Hf H .refl (.tup h1' h2')
        · subst e
          cases h2'
          rw [List.append_nil] at q
          exact q _ Hf H .refl (.tup h1 h2)
        · have g := Grow.new (u := .tup (xs1 ++ xs2)) hl sub
          exact q _ _ _ g (.tup upd_same (DvAll.up g.mono _ (h2.app h2')))) ha hb

/-! ### dicts with keys that are texts or ints -/
def valD (kvs : List (Key × PyData)) (k : Key) : Option PyData := (kvs.find? fun kv => decide (kv.1 = k)).map (·.2)
theorem val_dv {K : PySem.W.Frag} {H : Hp} (k : Key) : ∀ {ws : List (Key × V)} {kvs : List (Key × PyData)}, KvD K H ws kvs → (valV ws k = none ∧ valD kvs k = none) ∨ ∃ v d, valV ws k = some v ∧ valD kvs k = some d ∧ Dv K H v d
  | _, _, .nil => .inl ⟨rfl, rfl⟩
  | (j, v) :: ws, (j', d) :: kvs, .cons ⟨h1, h2⟩ t => by
    have h1 : j = j' := h1
    subst h1
    by_cases e : j = k
    · refine .inr ⟨v, d, valV_pos (p := (j, v)) e, ?_, h2⟩
      simp [valD, List.find?_cons, e]
    · have e2 : valD ((j, d) :: kvs) k = valD kvs k := by simp [valD, List.find?_cons, e]
      rw [valV_neg (p := (j, v)) e, e2]
      exact val_dv k t
/-- a key as data -/
theorem key_dv {K : PySem.W.Frag} {H : Hp} {v : V} {k : Key} (h : Dv K H v (kD k)) : v = kV k := by
  cases k with
  | inl n => cases (show Dv K H v (.int n) from h); rfl
  | inr y => cases (show Dv K H v (.str y) from h); rfl
theorem dp_dget {kvs : List (Key × PyData)} {k : Key} (hu : X.A.units + 1 < cLine) (hk : valD kvs k = some d) (ha : DK X a Γ kvs) (hb : DP X b Γ (kD k)) (hs : NoSl b := by exact fun _ _ => rfl) : DP X (.Subscript a b pos) Γ d :=
  dp_grow (pe_dget hu ha hb hs) fun σ H Hf fps ok Q q => tK_run ok fun p ws Hf1 H1 g1 h1 h2 => tD_run (ok.growG g1) fun v Hf2 H2 g2 hv => by
    have e := key_dv hv
    subst e
    rcases val_dv k (KvD.up g2.mono h2) with ⟨_, z⟩ | ⟨u, d', e1, e2, e3⟩
    · rw [hk] at z; cases z
    · rw [hk] at e2
      cases e2
      refine ⟨p, u, rfl, .inl ⟨ws, k, ?_, rfl, e1.symm⟩, q u Hf2 H2 (g1.trans g2) e3⟩
      rcases h1 with h1 | ⟨o, h1⟩
      · exact .inl (g2.all _ _ h1)
      · exact .inr ⟨o, g2.all _ _ h1⟩
theorem rd_up {H H' : Hp} {a : Addr} {u : HO} (S : Same H H') (h : Rd H a u) : Rd H' a u := by
  rcases h with h1 | ⟨o, h1⟩
  · exact .inl (S _ _ h1)
  · exact .inr ⟨o, S _ _ h1⟩
theorem val_iff {K : PySem.W.Frag} {H : Hp} {ws : List (Key × V)} {kvs : List (Key × PyData)} (h : KvD K H ws kvs) (k : Key) : (valV ws k).isSome = (valD kvs k).isSome := by
  rcases val_dv k h with ⟨e1, e2⟩ | ⟨v, d, e1, e2, _⟩ <;> rw [e1, e2] <;> rfl
theorem cm_inK {kvs : List (Key × PyData)} {k : Key} (hu : X.A.units + 1 < cLine) (ha : DP X a Γ (kD k)) (hb : DK X b Γ kvs) (hm : behindInMarks .In b = false := by rfl) : CM X .In a b Γ (valD kvs k).isSome :=
  cm_grow (pc_din hu ha hb) hm fun σ H Hf fps ok Q q => tD_run ok fun v Hf1 H1 g1 hv => tK_run (ok.growG g1) fun p ws Hf2 H2 g2 h1 h2 => by
    have e := key_dv hv
    subst e
    refine ⟨p, valV ws k, rfl, .inl ⟨ws, k, h1, rfl, rfl⟩, ?_⟩
    rw [val_iff h2]
    exact q _ Hf2 H2 (g1.trans g2) (.bl _)
theorem cm_notInK {kvs : List (Key × PyData)} {k : Key} (hu : X.A.units + 1 < cLine) (ha : DP X a Γ (kD k)) (hb : DK X b Γ kvs) (hm : behindInMarks .NotIn b = false := by rfl) : CM X .NotIn a b Γ (!(valD kvs k).isSome) :=
  cm_grow (pc_dnotin hu ha hb) hm fun σ H Hf fps ok Q q => tD_run ok fun v Hf1 H1 g1 hv => tK_run (ok.growG g1) fun p ws Hf2 H2 g2 h1 h2 => by
    have e := key_dv hv
    subst e
    refine ⟨p, valV ws k, rfl, .inl ⟨ws, k, h1, rfl, rfl⟩, ?_⟩
    rw [val_iff h2]
    exact q _ Hf2 H2 (g1.trans g2) (.bl _)
theorem dp_get1 {kvs : List (Key × PyData)} {k : Key} {apos cpos : Pos} (hu : X.A.units + 1 < cLine) (ha : DK X a Γ kvs) (hb : DP X b Γ (kD k)) (m : M1 X a "get" apos b cpos) : DP X (.Call (.Attribute a "get" apos) [b] [] cpos) Γ ((valD kvs k).getD .none) :=
  dp_grow (pe_dget1 hu ha hb m) fun σ H Hf fps ok Q q => tK_run ok fun p ws Hf1 H1 g1 h1 h2 => ⟨p, rfl, .inl ⟨ws, h1⟩, tD_run (ok.growG g1) fun v Hf2 H2 g2 hv => by
    have e := key_dv hv
    subst e
    refine ⟨valV ws k, .inl ⟨ws, k, rd_up g2.all h1, rfl, rfl⟩, ?_⟩
    rcases val_dv k (KvD.up g2.mono h2) with ⟨e1, e2⟩ | ⟨u, d', e1, e2, e3⟩
    · rw [e2] at q
      rw [e1]
      exact q .non Hf2 H2 (g1.trans g2) .non
    · rw [e2] at q
      rw [e1]
      exact q u Hf2 H2 (g1.trans g2) e3⟩
theorem dp_get2 {kvs : List (Key × PyData)} {k : Key} {apos cpos : Pos} (hu : X.A.units + 1 < cLine) (ha : DK X a Γ kvs) (hb : DP X b Γ (kD k)) (hc : DP X c Γ d) (m : M2 X a "get" apos b c cpos) : DP X (.Call (.Attribute a "get" apos) [b, c] [] cpos) Γ ((valD kvs k).getD d) :=
  dp_grow (pe_dget2 hu ha hb hc m) fun σ H Hf fps ok Q q => tK_run ok fun p ws Hf1 H1 g1 h1 h2 => ⟨p, rfl, .inl ⟨ws, h1⟩, tD_run (ok.growG g1) fun v Hf2 H2 g2 hv => tD_run ((ok.growG g1).growG g2) fun v3 Hf3 H3 g3 hv3 => by
    have e := key_dv hv
    subst e
    refine ⟨valV ws k, .inl ⟨ws, k, rd_up g3.all (rd_up g2.all h1), rfl, rfl⟩, ?_⟩
    rcases val_dv k (KvD.up g3.mono (KvD.up g2.mono h2)) with ⟨e1, e2⟩ | ⟨u, d', e1, e2, e3⟩
    · rw [e2] at q
      rw [e1]
      exact q v3 Hf3 H3 ((g1.trans g2).trans g3) hv3
    · rw [e2] at q
      rw [e1]
      exact q u Hf3 H3 ((g1.trans g2).trans g3) e3⟩
/-- list(d): the keys -/
theorem keys_dv {K : PySem.W.Frag} {H : Hp} : ∀ {ws : List (Key × V)} {kvs : List (Key × PyData)}, KvD K H ws kvs → DvAll K H (ws.map fun kv => kV kv.1) (kvs.map fun kv => kD kv.1)
  | _, _, .nil => .nil
  | (j, v) :: ws, (j', d) :: kvs, .cons ⟨h1, _⟩ t => by
    have h1 : j = j' := h1
    subst h1
    refine .cons ?_ (keys_dv t)
    cases j with
    | inl n => exact .int n
    | inr y => exact .str y
theorem dp_listK {kvs : List (Key × PyData)} (hc : X.calm = true) (hg : Gl X "list") (hm : X.mg "list" = none) (ha : DK X e Γ kvs) (hs : starEach [e] X.env = (false, eval e X.env) :: starEach [] X.env := by rfl) (hpl : (backTo pos (starEach [] X.env)).any (·.1) = false := by rfl) :
    DP X (.Call (.Name "list" p) [e] [] pos) Γ (.list (kvs.map fun kv => kD kv.1)) :=
  dp_grow (pe_callTy (call_listD hc) hg hm (by decide +kernel) (pa_cons ha pa_nil hs) (he := hs) (hpl := hpl)) fun σ H Hf fps ok Q q => by
    refine tK_run (kvs := kvs) (Q := fun x H1 => ∃ (a : Addr) (ws : List (Key × V)), [x] = [V.ref a] ∧ Rd H1 a (.dK ws) ∧ ∀ l, H1 l = none → Q (.ref l) (upd H1 l (.lst (ws.map fun kv => kV kv.1)))) ok fun p ws Hf1 H1 g1 h1 h2 => ⟨p, ws, rfl, h1, fun l hl => ?_⟩
    have g := Grow.new (u := .lst (ws.map fun kv => kV kv.1)) hl (ok.growG g1).sub
    exact q _ _ _ (g1.trans g) (.lst (SqL.of upd_same) (DvAll.up g.mono _ (keys_dv h2)))
end
end DL


set_option Elab.async false
set_option linter.all false
set_option maxRecDepth 100000
set_option maxHeartbeats 4000000
/-! DL4: calls of defs, what is walked, comprehensions, sorted. -/
namespace DL
open PySem PySem.Spec PyProof.Rows L2

/-! ### promises over data -/
/-- from data to data -/
def spD (K : PySem.W.Frag) (R : List PyData → PyData → Prop) : Sp := fun vs H Q _ => ∃ Hf ds d, Same Hf H ∧ DvAll K Hf vs ds ∧ R ds d ∧ ∀ v Hf' H', Grow Hf H Hf' H' → Dv K Hf' v d → Q v H'
/-- a def of the top that keeps a promise by at most level k -/
structure DFn (P : Program) (w : World) (K : PySem.W.Frag) (mg : Str → Option Value) (base : Heap) (k : Nat) (x : Str) (ps : List Str) (sp : Sp) : Prop where
  ex : ∃ f fd, FnOk P w K mg base CX0 k f fd ps sp ∧ mg x = some (.ref f) ∧ PySem.W.keepIn K (.ref f) = true ∧ Binds K fd ps []
theorem DFn.mono {P : Program} {w : World} {K : PySem.W.Frag} {mg : Str → Option Value} {base : Heap} {j k : Nat} {x : Str} {ps : List Str} {sp : Sp} (F : DFn P w K mg base j x ps sp) (h : j ≤ k) : DFn P w K mg base k x ps sp := by
  obtain ⟨f, fd, h1, h2, h3, h4⟩ := F.ex
  exact ⟨f, fd, h1.mono h, h2, h3, h4⟩
abbrev XFn (X : Cx) (k : Nat) (x : Str) (ps : List Str) (sp : Sp) : Prop := DFn X.prog X.w X.K X.mg X.base k x ps sp

section
variable {X : Cx} {e a b c : Expr} {es : List Expr} {Γ Γ' Γ1 : Ctx} {s s' : Sl} {d da db dc : PyData} {ds ds' : List PyData} {te ta tb : TE} {pos p : Pos} {i k : Nat} {x : Str} {ps : List Str} {R : List PyData → PyData → Prop}
theorem dp_call (F : XFn X k x ps (spD X.K R)) (hr : Room k X.A) (hR : R ds d) (ha : DA X (e :: es) Γ ds) (hg : Gl X x := by rfl) (hdb : (x == ("__debug__" : Str)) = false := by decide) (he : NoStar X e es := by rfl) (hpl : (backTo pos (starEach es X.env)).any (·.1) = false := by rfl) :
    DP X (.Call (.Name x p) (e :: es) [] pos) Γ d := by
  obtain ⟨f, fd, F, hm, hk, hb⟩ := F.ex
  refine dp_grow (pe_call F hr hg hm hk hb .nil pass0 ha hdb he hpl) fun σ H Hf fps ok Q q => ?_
  refine tA_run (ds := ds) (Q := fun vs H1 => spD X.K R (vs ++ []) H1 Q E0) ok fun vs Hf1 H1 g1 hvs => ?_
  rw [List.append_nil]
  exact ⟨Hf1, ds, d, (ok.growG g1).sub, hvs, hR, fun v Hf2 H2 g2 hv => q v Hf2 H2 (g1.trans g2) hv⟩

/-! ### what is walked -/
/-- a walk over data, while B stays -/
structure ItD (K : PySem.W.Frag) (J : It) (Hf B : Hp) (ds : List PyData) : Prop where
  go : ∀ i d Hf' H', ds[i]? = some d → Same B H' → Same Hf Hf' → Same Hf' H' → J.go i H' ∧ ∀ x H'', J.yld i H' x H'' → ∃ Hf'', Grow Hf' H' Hf'' H'' ∧ Dv K Hf'' x d
  stop : ∀ i Hf' H', ds.length ≤ i → Same B H' → Same Hf Hf' → Same Hf' H' → J.stop i H'
theorem ItD.up {K : PySem.W.Frag} {J : It} {Hf B Hf2 B2 : Hp} (h : ItD K J Hf B ds) (m : Same Hf Hf2) (n : Same B B2) : ItD K J Hf2 B2 ds :=
  ⟨fun i d Hf' H' e h1 h2 h3 => h.go i d Hf' H' e (n.trans h1) (m.trans h2) h3, fun i Hf' H' e h1 h2 h3 => h.stop i Hf' H' e (n.trans h1) (m.trans h2) h3⟩
/-- a walk while what is frozen stays (for), while all stays (within a comprehension) -/
def tI (P : Program) (w : World) (K : PySem.W.Frag) (o : Bool) (Γ : Ctx) (ds : List PyData) : TI := fun σ H R => ∃ Hf fps, Ok P w K Hf H σ Γ fps ∧ ∀ J Hf' H', Grow Hf H Hf' H' → ItD K J Hf' (if o then H' else Hf') ds → R J H'
abbrev DI (X : Cx) (o : Bool) (tg e : Expr) (Γ : Ctx) (ds : List PyData) : Prop := PI X tg e (tI X.prog X.w X.K o Γ ds)
variable {tg : Expr} {o : Bool}
theorem di_of {wi : TI} (h : PI X tg e wi) (k : ∀ σ H Hf fps, Ok X.prog X.w X.K Hf H σ Γ fps → ∀ R : It → Hp → Prop, (∀ J Hf' H', Grow Hf H Hf' H' → ItD X.K J Hf' (if o then H' else Hf') ds → R J H') → wi σ H R) : DI X o tg e Γ ds :=
  ⟨fun pins st σ H R I ⟨Hf, fps, ok, q⟩ => h.run pins st σ H R I (k σ H Hf fps ok R q)⟩
theorem di_weak (h : DI X false tg e Γ ds) : DI X true tg e Γ ds := di_of h fun σ H Hf fps ok R q => ⟨Hf, fps, ok, fun J Hf' H' g it => q J Hf' H' g (it.up (Same.refl _) (ok.growG g).sub)⟩
theorem itl_of {K : PySem.W.Frag} {a : Addr} {xs : List V} {Hf B : Hp} (hq : SqL K B a xs) (hv : DvAll K Hf xs ds) : ItD K (Itl K a) Hf B ds where
  go := fun i d Hf' H' e h1 h2 h3 => by
    obtain ⟨x, e1, e2⟩ := hv.at e
    refine ⟨⟨xs, x, Same.seq h1 hq, e1⟩, fun y H'' ⟨e3, e4⟩ => ?_⟩
    subst e3
    have e5 := e4 xs (Same.seq h1 hq)
    rw [e1] at e5
    cases e5
    exact ⟨Hf', .refl, Dv.up h2 _ e2⟩
  stop := fun i Hf' H' e h1 h2 h3 => ⟨xs, Same.seq h1 hq, by rw [hv.len]; exact e⟩
theorem di_dat (h : DP X e Γ (.list ds)) : DI X false tg e Γ ds := di_of (pi_list h) fun σ H Hf fps ok R q => tD_run ok fun v Hf1 H1 g1 hv => by
  cases hv with
  | lst h1 h2 => exact ⟨_, rfl, ⟨_, Same.seq (ok.growG g1).sub h1⟩, q _ Hf1 H1 g1 (itl_of h1 h2)⟩
theorem di_list (h : DLs X e Γ ds) : DI X true tg e Γ ds := di_of (pi_list h) fun σ H Hf fps ok R q => tL_run ok fun a xs Hf1 H1 g1 h1 h2 => ⟨_, rfl, ⟨_, h1⟩, q _ Hf1 H1 g1 (itl_of h1 h2)⟩
theorem di_tup (h : DP X e Γ (.tuple ds)) : DI X false tg e Γ ds := di_of (pi_tup h) fun σ H Hf fps ok R q => tD_run ok fun v Hf1 H1 g1 hv => by
  cases hv with
  | @tup a xs _ h1 h2 =>
    refine ⟨_, rfl, ⟨_, SqT.of ((ok.growG g1).sub _ _ h1)⟩, q _ Hf1 H1 g1 ⟨fun i d Hf' H' e h1' h2' h3 => ?_, fun i Hf' H' e h1' h2' h3 => ⟨xs, SqT.of (h3 _ _ (h2' _ _ h1)), by rw [h2.len]; exact e⟩⟩⟩
    obtain ⟨x, e1, e2⟩ := h2.at e
    refine ⟨⟨xs, x, SqT.of (h3 _ _ (h2' _ _ h1)), e1⟩, fun y H'' ⟨e3, e4⟩ => ?_⟩
    subst e3
    have e5 := e4 xs (SqT.of (h3 _ _ (h2' _ _ h1)))
    rw [e1] at e5
    cases e5
    exact ⟨Hf', .refl, Dv.up h2' _ e2⟩
/-- lo, .., lo + n - 1 -/
def rangeD (lo : Int) (n : Nat) : List PyData := (List.range n).map fun i : Nat => .int (lo + (i : Int))
theorem rangeD_len (lo : Int) (n : Nat) : (rangeD lo n).length = n := by simp [rangeD]
theorem itr_of {K : PySem.W.Frag} {Hf B : Hp} (lo : Int) (n : Nat) : ItD K (Itr lo n) Hf B (rangeD lo n) where
  go := fun i d Hf' H' e h1 h2 h3 => by
    have hi : i < n := by
      have := (List.getElem?_eq_some_iff.mp e).1
      rw [rangeD_len] at this
      exact this
    have e' : d = .int (lo + (i : Int)) := by
      simp [rangeD, List.getElem?_map, hi] at e
      exact e.symm
    subst e'
    exact ⟨hi, fun x H'' ⟨e1, e2⟩ => by
      subst e1 e2
      exact ⟨Hf', .refl, .int _⟩⟩
  stop := fun i Hf' H' e h1 h2 h3 => by
    rw [rangeD_len] at e
    exact e
theorem di_range1 {n : Int} (h1 : -(2 ^ 62) ≤ n) (h2 : n < 2 ^ 62) (hg : Gl X "range") (hm : X.mg "range" = none) (ha : DP X a Γ (.int n)) (n1 : NoStar X a [] := by rfl) : DI X false tg (.Call (.Name "range" p) [a] [] pos) Γ (rangeD 0 n.toNat) :=
  di_of (pi_range1 hg hm (da_cons ha da_nil n1) (hs := n1)) fun σ H Hf fps ok R q => tA_run ok fun vs Hf1 H1 g1 hvs => by
    cases hvs with
    | cons u1 u2 =>
      cases u2
      cases u1
      exact ⟨n, rfl, h1, h2, q _ Hf1 H1 g1 (itr_of 0 n.toNat)⟩
theorem di_range2 {m n : Int} (h1 : -(2 ^ 62) ≤ m) (h2 : m < 2 ^ 62) (h3 : -(2 ^ 62) ≤ n) (h4 : n < 2 ^ 62) (hg : Gl X "range") (hm : X.mg "range" = none) (ha : DP X a Γ (.int m)) (hb : DP X b Γ (.int n)) (n1 : NoStar X a [b] := by rfl) (n2 : NoStar X b [] := by rfl) :
    DI X false tg (.Call (.Name "range" p) [a, b] [] pos) Γ (rangeD m (n - m).toNat) :=
  di_of (pi_range2 hg hm (da_cons ha (da_cons hb da_nil n2) n1) (hs := by rw [n1, n2]; rfl) (hs2 := n2)) fun σ H Hf fps ok R q => tA_run ok fun vs Hf1 H1 g1 hvs => by
    cases hvs with
    | cons u1 u2 =>
      cases u2 with
      | cons u2 u3 =>
        cases u3
        cases u1
        cases u2
        exact ⟨m, n, rfl, ⟨h1, h2, h3, h4⟩, q _ Hf1 H1 g1 (itr_of m _)⟩
/-- enumerate, zip: new pairs -/
def enumD : Nat → List PyData → List PyData
  | _, [] => []
  | n, d :: ds => .tuple [.int (n : Int), d] :: enumD (n + 1) ds
theorem enumD_len : ∀ (ds : List PyData) (n : Nat), (enumD n ds).length = ds.length
  | [], _ => rfl
  | _ :: ds, n => congrArg Nat.succ (enumD_len ds (n + 1))
theorem enumD_at : ∀ (ds : List PyData) (n i : Nat), (enumD n ds)[i]? = (ds[i]?).map fun d => .tuple [.int ((n + i : Nat) : Int), d]
  | [], _, _ => by simp [enumD]
  | _ :: ds, n, 0 => by simp [enumD]
  | _ :: ds, n, i + 1 => by
    have h := enumD_at ds (n + 1) i
    show (enumD (n + 1) ds)[i]? = _
    rw [h]
    have e : n + 1 + i = n + (i + 1) := by omega
    rw [e]
    simp
theorem ite_of {K : PySem.W.Frag} {a : Addr} {xs : List V} {Hf B : Hp} (hq : SqL K B a xs) (hv : DvAll K Hf xs ds) : ItD K (Ite K a) Hf B (enumD 0 ds) where
  go := fun i d Hf' H' e h1 h2 h3 => by
    rw [enumD_at] at e
    obtain ⟨d0, e0, e00⟩ := Option.map_eq_some_iff.mp e
    obtain ⟨x, e1, e2⟩ := hv.at e0
    refine ⟨⟨xs, x, Same.seq h1 hq, e1⟩, fun y H'' ⟨T, x', e3, hT, e4, e5⟩ => ?_⟩
    subst e3 e4
    have e6 := e5 xs (Same.seq h1 hq)
    rw [e1] at e6
    cases e6
    have g := Grow.new (u := .tup [.int (i : Nat), x]) hT h3
    refine ⟨_, g, ?_⟩
    rw [← e00]
    refine .tup upd_same (.cons ?_ (.one (Dv.up (h2.trans g.mono) _ e2)))
    rw [Nat.zero_add]
    exact .int _
  stop := fun i Hf' H' e h1 h2 h3 => ⟨xs, Same.seq h1 hq, by rw [hv.len, ← enumD_len ds 0]; exact e⟩
variable {elts : List Expr} {kk : Nat} {tpos : Pos}
theorem di_enum (hg : Gl X "enumerate") (hm : X.mg "enumerate" = none) (ha : DP X a Γ (.list ds)) (n1 : NoStar X a [] := by rfl) : DI X false (.Tuple elts kk tpos) (.Call (.Name "enumerate" p) [a] [] pos) Γ (enumD 0 ds) :=
  di_of (pi_enum hg hm (da_cons ha da_nil n1) (hs := n1)) fun σ H Hf fps ok R q => tA_run ok fun vs Hf1 H1 g1 hvs => by
    cases hvs with
    | cons u1 u2 =>
      cases u2
      cases u1 with
      | lst v1 v2 => exact ⟨_, _, rfl, Same.seq (ok.growG g1).sub v1, q _ Hf1 H1 g1 (ite_of v1 v2)⟩
def zipD : List PyData → List PyData → List PyData
  | d :: ds, e :: es => .tuple [d, e] :: zipD ds es
  | _, _ => []
theorem zipD_at : ∀ (ds es : List PyData) (i : Nat), (zipD ds es)[i]? = (ds[i]?).bind fun d => (es[i]?).map fun e => .tuple [d, e]
  | [], _, _ => by simp [zipD]
  | _ :: _, [], i => by
    have e : zipD (‹PyData› :: ‹List PyData›) [] = [] := rfl
    simp [zipD]
  | d :: ds, e :: es, 0 => by simp [zipD]
  | d :: ds, e :: es, i + 1 => by
    show (zipD ds es)[i]? = _
    rw [zipD_at ds es i]
    simp
theorem zipD_len : ∀ (ds es : List PyData), (zipD ds es).length = min ds.length es.length
  | [], _ => by simp [zipD]
  | _ :: _, [] => by simp [zipD]
  | d :: ds, e :: es => by
    show (zipD ds es).length + 1 = _
    rw [zipD_len ds es]
    simp only [List.length_cons]
    omega
theorem itz_of {K : PySem.W.Frag} {a b : Addr} {xs ys : List V} {Hf B : Hp} (hq : SqL K B a xs) (hv : DvAll K Hf xs ds) (hq' : SqL K B b ys) (hv' : DvAll K Hf ys ds') : ItD K (Itz K a b) Hf B (zipD ds ds') where
  go := fun i d Hf' H' e h1 h2 h3 => by
    rw [zipD_at] at e
    obtain ⟨d0, e0, e00⟩ := Option.bind_eq_some_iff.mp e
    obtain ⟨d1, e01, e02⟩ := Option.map_eq_some_iff.mp e00
    obtain ⟨x, e1, e2⟩ := hv.at e0
    obtain ⟨y, e1', e2'⟩ := hv'.at e01
    refine ⟨⟨xs, ys, x, y, Same.seq h1 hq, Same.seq h1 hq', e1, e1'⟩, fun z H'' ⟨T, x', y', e3, hT, e4, e5, e5'⟩ => ?_⟩
    subst e3 e4
    have e6 := e5 xs (Same.seq h1 hq)
    rw [e1] at e6
    cases e6
    have e6' := e5' ys (Same.seq h1 hq')
    rw [e1'] at e6'
    cases e6'
    have g := Grow.new (u := .tup [x, y]) hT h3
    refine ⟨_, g, ?_⟩
    rw [← e02]
    exact .tup upd_same (.cons (Dv.up (h2.trans g.mono) _ e2) (.one (Dv.up (h2.trans g.mono) _ e2')))
  stop := fun i Hf' H' e h1 h2 h3 => ⟨xs, ys, Same.seq h1 hq, Same.seq h1 hq', by
    rw [zipD_len] at e
    rw [hv.len, hv'.len]
    omega⟩
theorem di_zip (hg : Gl X "zip") (hm : X.mg "zip" = none) (ha : DLs X a Γ ds) (hb : DLs X b Γ ds') (n1 : NoStar X a [b] := by rfl) (n2 : NoStar X b [] := by rfl) : DI X true (.Tuple elts kk tpos) (.Call (.Name "zip" p) [a, b] [] pos) Γ (zipD ds ds') :=
  di_of (pi_zip hg hm (pa_cons ha (pa_cons hb pa_nil n2) n1) (hs := n1) (hpl := by rw [n2]; rfl)) fun σ H Hf fps ok R q => by
    refine tL_run (ds := ds) (Q := fun u H1 => tL X.prog X.w X.K Γ ds' σ H1 fun v H2 => ∃ a b xs ys, [u, v] = [.ref a, .ref b] ∧ SqL X.K H2 a xs ∧ SqL X.K H2 b ys ∧ R (Itz X.K a b) H2) ok fun a xs Hf1 H1 g1 h1 h2 => ?_
    refine tL_run (ok.growG g1) fun b ys Hf2 H2 g2 h1' h2' => ?_
    exact ⟨a, b, xs, ys, rfl, Same.seq g2.all h1, h1', q _ Hf2 H2 (g1.trans g2) (itz_of (Same.seq g2.all h1) (DvAll.up g2.mono _ h2) h1' h2')⟩
/-- the signs of a text -/
def signsD (y : Str) : List PyData := y.cps.toList.map fun ch => .str ⟨#[ch]⟩
theorem signsD_len (y : Str) : (signsD y).length = y.length := by simp [signsD, Str.length]
theorem di_str {y : Str} (h : DP X e Γ (.str y)) : DI X false tg e Γ (signsD y) := di_of (pi_str h) fun σ H Hf fps ok R q => tD_run ok fun v Hf1 H1 g1 hv => by
  cases hv
  refine ⟨y, rfl, q _ Hf1 H1 g1 ⟨fun i d Hf' H' e h1 h2 h3 => ?_, fun i Hf' H' e h1 h2 h3 => by rw [signsD_len] at e; exact e⟩⟩
  have e' : (y.cps.toList[i]?).map (fun ch => PyData.str ⟨#[ch]⟩) = some d := by
    unfold signsD at e
    rw [List.getElem?_map] at e
    exact e
  obtain ⟨ch, e1, e2⟩ := Option.map_eq_some_iff.mp e'
  refine ⟨?_, fun x H'' ⟨e3, c', e4, e5⟩ => ?_⟩
  · have := (List.getElem?_eq_some_iff.mp e1).1
    rw [Array.length_toList] at this
    exact this
  · subst e3 e5
    rw [Array.getElem?_toList] at e1
    rw [e1] at e4
    cases e4
    rw [← e2]
    exact ⟨Hf', .refl, .str _⟩
/-- d.items(), d a dict that stays -/
def itemsD (kvs : List (Key × PyData)) : List PyData := kvs.map fun p => .tuple [kD p.1, p.2]
theorem kvD_at {K : PySem.W.Frag} {H : Hp} : ∀ {ws : List (Key × V)} {kvs : List (Key × PyData)} {i : Nat} {k : Key} {d : PyData}, KvD K H ws kvs → kvs[i]? = some (k, d) → ∃ v, ws[i]? = some (k, v) ∧ Dv K H v d
  | _, _, _, _, _, .nil, e => by simp at e
  | (k1, v) :: _, (k2, d') :: _, 0, k, d, .cons ⟨h1, h2⟩ _, e => by
    have h1 : k1 = k2 := h1
    subst h1
    have e' := Option.some.inj (show some (k1, d') = some (k, d) from e)
    cases e'
    exact ⟨v, rfl, h2⟩
  | _ :: _, _ :: _, i + 1, k, d, .cons _ t, e => by
    obtain ⟨v, h1, h2⟩ := kvD_at (i := i) t (by simpa using e)
    exact ⟨v, by simpa using h1, h2⟩
theorem kvD_len {K : PySem.W.Frag} {H : Hp} {ws : List (Key × V)} {kvs : List (Key × PyData)} (h : KvD K H ws kvs) : ws.length = kvs.length := Paired.length h
theorem kV_dv {K : PySem.W.Frag} {H : Hp} (k : Key) : Dv K H (kV k) (kD k) := by
  cases k with
  | inl n => exact .int n
  | inr y => exact .str y
theorem dict_dv {K : PySem.W.Frag} {H : Hp} {v : V} {kvs : List (Key × PyData)} (h : Dv K H v (dictD kvs)) : ∃ a o ws, v = .ref a ∧ H a = some (.frz o (.dK ws)) ∧ KvD K H ws kvs := by
  unfold dictD at h
  generalize hm : kvs.map (fun p => (kD p.1, p.2)) = m at h
  cases h with
  | dct h1 h2 => exact ⟨_, _, _, rfl, h1, kvD_of (by rw [hm]; exact h2)⟩
theorem di_items {kvs : List (Key × PyData)} {apos cpos : Pos} (h : DP X e Γ (dictD kvs)) (hbase : attributeBase e "items" X.env (eval e X.env) = eval e X.env := by rfl) (hline : (apos.endLine == cpos.line) = true := by rfl) :
    DI X false (.Tuple elts kk tpos) (.Call (.Attribute e "items" apos) [] [] cpos) Γ (itemsD kvs) := di_of (pi_items h hbase hline) fun σ H Hf fps ok R q => tD_run ok fun v Hf1 H1 g1 hv => by
  obtain ⟨a, ob, ws, ev, h1, h2⟩ := dict_dv hv
  refine ⟨a, ob, ws, ev, (ok.growG g1).sub _ _ h1, q _ Hf1 H1 g1 ⟨fun i d Hf' H' e h1' h2' h3 => ?_, fun i Hf' H' e h1' h2' h3 => ⟨h3 _ _ (h2' _ _ h1), by rw [kvD_len h2]; simpa [itemsD] using e⟩⟩⟩
  unfold itemsD at e
  rw [List.getElem?_map] at e
  obtain ⟨⟨k, d0⟩, e0, e00⟩ := Option.map_eq_some_iff.mp e
  obtain ⟨v0, e1, e2⟩ := kvD_at h2 e0
  refine ⟨⟨h3 _ _ (h2' _ _ h1), (List.getElem?_eq_some_iff.mp e1).1⟩, fun x H'' ⟨T, k', v', e3, e4, hT, e5⟩ => ?_⟩
  subst e4 e5
  rw [e1] at e3
  cases e3
  have g := Grow.new (u := .tup [kV k, v0]) hT h3
  refine ⟨_, g, ?_⟩
  rw [← e00]
  exact .tup upd_same (.cons (kV_dv k) (.one (Dv.up (h2'.trans g.mono) _ e2)))
/-- for key in d -/
theorem di_keys {kvs : List (Key × PyData)} (h : DP X e Γ (dictD kvs)) : DI X false tg e Γ (kvs.map fun kv => kD kv.1) := di_of (pi_keys h) fun σ H Hf fps ok R q => tD_run ok fun v Hf1 H1 g1 hv => by
  obtain ⟨a, ob, ws, ev, h1, h2⟩ := dict_dv hv
  refine ⟨a, ob, ev, .inl ⟨ws, (ok.growG g1).sub _ _ h1, q _ Hf1 H1 g1 ⟨fun i d Hf' H' e h1' h2' h3 => ?_, fun i Hf' H' e h1' h2' h3 => ⟨h3 _ _ (h2' _ _ h1), by rw [kvD_len h2]; simpa using e⟩⟩⟩⟩
  rw [List.getElem?_map] at e
  obtain ⟨⟨k, d0⟩, e0, e00⟩ := Option.map_eq_some_iff.mp e
  obtain ⟨v0, e1, e2⟩ := kvD_at h2 e0
  refine ⟨⟨h3 _ _ (h2' _ _ h1), (List.getElem?_eq_some_iff.mp e1).1⟩, fun x H'' ⟨e3, k', v', e4, e5⟩ => ?_⟩
  subst e3 e5
  rw [e1] at e4
  cases e4
  rw [← e00]
  exact ⟨Hf', .refl, kV_dv k⟩

/-! ### comprehensions -/
def wipeG (Γ : Ctx) : List Nat → Ctx
  | [] => Γ
  | v :: vs => (wipeG Γ vs).set v none
theorem wipe_at (σ : L2.St) (j : Nat) : ∀ vs : List Nat, (wipe σ vs)[j]? = if j ∈ vs then (σ[j]?).map (fun _ => none) else σ[j]?
  | [] => by simp [wipe]
  | v :: vs => by
    unfold wipe
    rw [List.getElem?_set]
    have ih := wipe_at σ j vs
    by_cases h : v = j
    · subst h
      rw [if_pos rfl, if_pos List.mem_cons_self, wipe_length]
      by_cases hl : v < σ.length
      · rw [if_pos hl, List.getElem?_eq_getElem hl]; rfl
      · rw [if_neg hl, List.getElem?_eq_none (Nat.le_of_not_lt hl)]; rfl
    · rw [if_neg h, ih]
      by_cases hm : j ∈ vs
      · rw [if_pos hm, if_pos (List.mem_cons_of_mem _ hm)]
      · rw [if_neg hm, if_neg (fun z => (List.mem_cons.mp z).elim (fun q => h q.symm) hm)]
theorem wipeG_len (Γ : Ctx) : ∀ vs : List Nat, (wipeG Γ vs).length = Γ.length
  | [] => rfl
  | v :: vs => by unfold wipeG; rw [List.length_set, wipeG_len Γ vs]
theorem wipeG_at (Γ : Ctx) (j : Nat) : ∀ vs : List Nat, (wipeG Γ vs)[j]? = if j ∈ vs then (Γ[j]?).map (fun _ => none) else Γ[j]?
  | [] => by simp [wipeG]
  | v :: vs => by
    unfold wipeG
    rw [List.getElem?_set]
    have ih := wipeG_at Γ j vs
    by_cases h : v = j
    · subst h
      rw [if_pos rfl, if_pos List.mem_cons_self, wipeG_len]
      by_cases hl : v < Γ.length
      · rw [if_pos hl, List.getElem?_eq_getElem hl]; rfl
      · rw [if_neg hl, List.getElem?_eq_none (Nat.le_of_not_lt hl)]; rfl
    · rw [if_neg h, ih]
      by_cases hm : j ∈ vs
      · rw [if_pos hm, if_pos (List.mem_cons_of_mem _ hm)]
      · rw [if_neg hm, if_neg (fun z => (List.mem_cons.mp z).elim (fun q => h q.symm) hm)]
theorem Ok.wipe {P : Program} {w : World} {K : PySem.W.Frag} {Hf H : Hp} {σ : L2.St} {fps : Fps} (o : Ok P w K Hf H σ Γ fps) (vs : List Nat) : Ok P w K Hf H (L2.wipe σ vs) (wipeG Γ vs) (fun j => if j ∈ vs then [] else fps j) := by
  refine ⟨o.sub, by rw [wipeG_len, wipe_length]; exact o.len, fun j t e => ?_, fun j e => ?_, fun j => ?_, fun j k a h1 h2 => ?_, fun j a h => ?_⟩
  · rw [wipeG_at] at e
    by_cases h : j ∈ vs
    · rw [if_pos h] at e
      obtain ⟨_, _, z⟩ := Option.map_eq_some_iff.mp e
      cases z
    · rw [if_neg h] at e
      rw [wipe_at, if_neg h, if_neg h]
      exact o.sl j t e
  · by_cases h : j ∈ vs
    · rw [if_pos h]
    · rw [if_neg h]
      refine o.em j fun t z => e t ?_
      rw [wipeG_at, if_neg h]
      exact z
  · by_cases h : j ∈ vs
    · rw [if_pos h]; exact List.nodup_nil
    · rw [if_neg h]; exact o.nd j
  · by_cases h : j ∈ vs
    · rw [if_pos h] at h1; cases h1
    · by_cases h' : k ∈ vs
      · rw [if_pos h'] at h2; cases h2
      · rw [if_neg h] at h1
        rw [if_neg h'] at h2
        exact o.dj j k a h1 h2
  · by_cases h' : j ∈ vs
    · rw [if_pos h'] at h; cases h
    · rw [if_neg h'] at h; exact o.nf j a h
theorem wipe_wipe (σ : L2.St) (vs : List Nat) : L2.wipe (L2.wipe σ vs) vs = L2.wipe σ vs := by
  apply List.ext_getElem?
  intro j
  rw [wipe_at, wipe_at]
  by_cases h : j ∈ vs
  · rw [if_pos h, if_pos h]; cases σ[j]? <;> rfl
  · rw [if_neg h]
theorem wipe_set (σ : L2.St) (vs : List Nat) {j : Nat} (h : j ∈ vs) (v : Option V) : L2.wipe (σ.set j v) vs = L2.wipe σ vs := by
  apply List.ext_getElem?
  intro l
  rw [wipe_at, wipe_at]
  by_cases hl : l ∈ vs
  · rw [if_pos hl, if_pos hl, List.getElem?_set]
    by_cases e : j = l
    · subst e
      rw [if_pos rfl]
      by_cases q : j < σ.length
      · rw [if_pos q, List.getElem?_eq_getElem q]; rfl
      · rw [if_neg q, List.getElem?_eq_none (Nat.le_of_not_lt q)]
    · rw [if_neg e]
  · rw [if_neg hl, if_neg hl, List.getElem?_set_ne (fun z => hl (by rw [← z]; exact h))]
/-- a target that takes the data d -/
inductive DG (X : Cx) : Expr → PyData → List (Nat × PyData) → Prop
  | name {i : Nat} {x : Str} {d : PyData} {pos : Pos} : X.N.Nodup → X.N[i]? = some x → Loc X.env.scope x → (X.fn x = true ∨ X.env.scope.names.lookup x = some .local) → DG X (.Name x pos) d [(i, d)]
  | pair {i j : Nat} {x y : Str} {d e : PyData} {n : Nat} {p q pos : Pos} : X.calm = true → X.N.Nodup → X.N[i]? = some x → Loc X.env.scope x → (X.fn x = true ∨ X.env.scope.names.lookup x = some .local) → X.N[j]? = some y → Loc X.env.scope y → (X.fn y = true ∨ X.env.scope.names.lookup y = some .local) →
      DG X (.Tuple [.Name x p, .Name y q] n pos) (.tuple [d, e]) [(i, d), (j, e)]
def setsG (Γ : Ctx) : List (Nat × PyData) → Ctx
  | [] => Γ
  | (i, d) :: r => setsG (Γ.set i (some (dat d))) r
def tG (P : Program) (w : World) (K : PySem.W.Frag) (d : PyData) (l : List (Nat × PyData)) : TG := fun v σ H Q => ∃ Hf, Dv K Hf v d ∧ Same Hf H ∧ ∀ σ', (∀ Γ fps, Ok P w K Hf H σ Γ fps → ∃ fps', Ok P w K Hf H σ' (setsG Γ l) fps' ∧ ∀ a, own fps' a → own fps a) → (∀ vs : List Nat, (∀ p ∈ l, p.1 ∈ vs) → L2.wipe σ' vs = L2.wipe σ vs) → (∀ j, (∀ p ∈ l, p.1 ≠ j) → σ'[j]? = σ[j]?) → Q σ' H
theorem Ok.setD {P : Program} {w : World} {K : PySem.W.Frag} {Hf H : Hp} {σ : L2.St} {fps : Fps} {v : V} (o : Ok P w K Hf H σ Γ fps) (h : Dv K Hf v d) (i : Nat) : ∃ fps', Ok P w K Hf H (σ.set i (some v)) (Γ.set i (some (DL.dat d))) fps' ∧ ∀ a, own fps' a → own fps a :=
  ⟨_, o.set (Rs.dat h) i, fun a z => (own_set z).elim id fun q => (List.not_mem_nil q).elim⟩
theorem dg_pg {l : List (Nat × PyData)} (h : DG X tg d l) : PG X tg (tG X.prog X.w X.K d l) := by
  cases h with
  | @name i x _ pos hN hi hx hf =>
    refine ⟨fun pins s σ H v u Q I r q => ?_⟩
    obtain ⟨Hf, hd, sub, k⟩ := q
    refine (pg_name hN hi hx hf).run pins s σ H v u Q I r (k _ (fun Γ fps o => o.setD hd i) (fun vs hv => wipe_set σ vs (hv (i, d) (by simp)) _) fun j hj => ?_)
    exact List.getElem?_set_ne (hj (i, d) (by simp))
  | @pair i j x y d1 d2 n p q pos hc hN hi hx hf hj hy hf' =>
    refine ⟨fun pins s σ H v u Q I r z => ?_⟩
    obtain ⟨Hf, hd, sub, k⟩ := z
    cases hd with
    | @tup a xs _ h1 h2 =>
      cases h2 with
      | @cons v1 vs1 _ _ g1 g2 =>
        cases g2 with
        | @cons v2 vs2 _ _ g2 g3 =>
          cases g3
          refine (pg_tup hc (pgs_cons (pg_name hN hi hx hf) (pgs_cons (pg_name hN hj hy hf') pgs_nil))).run pins s σ H _ u Q I r ⟨a, _, rfl, SqT.of (sub _ _ h1), rfl, _, _, rfl, _, _, rfl, rfl, k _ (fun Γ fps o => ?_) (fun vs hv => ?_) fun l hl => ?_⟩
          · obtain ⟨f1, o1, e1⟩ := o.setD g1 i
            obtain ⟨f2, o2, e2⟩ := o1.setD g2 j
            exact ⟨f2, o2, fun a z => e1 a (e2 a z)⟩
          · rw [wipe_set _ vs (hv (j, d2) (by simp)), wipe_set _ vs (hv (i, d1) (by simp))]
          · rw [List.getElem?_set_ne (hl (j, d2) (by simp)), List.getElem?_set_ne (hl (i, d1) (by simp))]
/-- tests of a comprehension -/
abbrev DTs (X : Cx) (ifs : List Expr) (Γ : Ctx) (t : Bool) : Prop := PTs X ifs (tT X.prog X.w X.K Γ t)
theorem dts_nil : DTs X [] Γ true := ⟨fun pins s σ H Q I ⟨Hf, fps, ok, q⟩ => pts_nil.run pins s σ H Q I (q Hf H .refl)⟩
theorem dts_one {t : Bool} (h : DT X c Γ t) : DTs X [c] Γ t := pts_one h
/-- the context of a comprehension's block -/
abbrev Blk (X : Cx) (scope : Scope) (Y : Cx → Prop) : Prop := ∀ (s : Shared) (H : Hp) (C : Addr) (cl : List (Str × Addr)) (fp : List Addr), Y (X.blk s H scope (compEnvC scope cl C X.env) fp)
theorem take_succ' {α : Type} {l : List α} {n : Nat} {x : α} (h : l[n]? = some x) : l.take (n + 1) = l.take n ++ [x] := by
  rw [List.take_succ, h]
  rfl
theorem lc_read {α : Type} {enc : α → PyData} {xs : List α} {P : Program} {w : World} {K : PySem.W.Frag} {wi : TI} {g : TG} {tt : TT} {te : TE} {vs : List Nat} {σ : L2.St} {H : Hp} {Q : VK} {Hf : Hp} {fps : Fps} {t : α → Bool} {f : α → PyData} {l : PyData → List (Nat × PyData)}
    (ok : Ok P w K Hf H σ Γ fps) (hwi : ∀ σ H (R : It → Hp → Prop), tI P w K true Γ (xs.map enc) σ H R → wi σ H R) (hg : ∀ d ∈ xs, ∀ v σ H Q, tG P w K (enc d) (l (enc d)) v σ H Q → g v σ H Q) (ht : ∀ d ∈ xs, ∀ σ H Q, tT P w K (setsG (wipeG Γ vs) (l (enc d))) (t d) σ H Q → tt σ H Q)
    (he : ∀ d ∈ xs, t d = true → ∀ σ H Q, tD P w K (setsG (wipeG Γ vs) (l (enc d))) (f d) σ H Q → te σ H Q) (hl : ∀ d ∈ xs, ∀ p ∈ l (enc d), p.1 ∈ vs) (hz : xs.length < sizeLine)
    (q : ∀ v Hf' H', Grow Hf H Hf' H' → Dv K Hf' v (.list ((xs.filter t).map f)) → Q v H') : tLc wi g tt te vs σ H Q := by
  refine hwi σ H _ ⟨Hf, fps, ok, fun J Hf1 H1 g1 it => fun D hD => ?_⟩
  have ok1 := ok.growG g1
  have it : ItD K J Hf1 H1 (xs.map enc) := it
  refine ⟨fun i m H2 => m = xs.length - i ∧ i ≤ xs.length ∧ ∃ Hf2 acc, Grow Hf1 H1 Hf2 H2 ∧ H2 D = some (.lst acc) ∧ Hf2 D = none ∧ DvAll K Hf2 acc (((xs.take i).filter t).map f), ⟨xs.length, by simp, Nat.zero_le _, Hf1, [], ⟨fun b o h => by rw [upd_ne (ne_of_none h hD)]; exact h, Same.refl _, fun s b o h => by rw [upd_ne (ne_of_none (s b o h) hD)]; exact s b o h, fun _ h _ => h⟩, upd_same, Same.freeF ok1.sub hD, .nil⟩, ?_⟩
  rintro i m H2 ⟨rfl, hi, Hf2, acc, g2, e1, e2, e3⟩
  have ok2 := ok1.growG g2
  by_cases hlt : i < xs.length
  · obtain ⟨d, ed⟩ : ∃ d, xs[i]? = some d := ⟨xs[i], List.getElem?_eq_getElem hlt⟩
    have hd : d ∈ xs := List.mem_of_getElem? ed
    have et : xs.take (i + 1) = xs.take i ++ [d] := take_succ' ed
    obtain ⟨go, yl⟩ := it.go i (enc d) Hf2 H2 (by rw [List.getElem?_map, ed]; rfl) g2.all g2.mono ok2.sub
    refine .inr ⟨go, fun H3 => i + 1 ≤ xs.length ∧ ∃ Hf3 acc, Grow Hf1 H1 Hf3 H3 ∧ H3 D = some (.lst acc) ∧ Hf3 D = none ∧ DvAll K Hf3 acc (((xs.take (i + 1)).filter t).map f), fun H3 ⟨a, b⟩ => ⟨xs.length - (i + 1), by omega, rfl, a, b⟩, fun x H3 y => ?_⟩
    obtain ⟨Hf3, g3, hx⟩ := yl x H3 y
    have ok3 := ok2.growG g3
    have D3 : H3 D = some (.lst acc) := g3.all _ _ e1
    have D3f : Hf3 D = none := g3.own D e2 (by rw [e1]; exact True.intro)
    refine hg d hd x _ H3 _ ⟨Hf3, hx, ok3.sub, fun σ' hσ hw _ => ⟨?_, ?_⟩⟩
    · rw [hw vs (hl d hd), wipe_wipe]
    · have okw := ok3.wipe vs
      obtain ⟨_, okw', _⟩ := hσ _ _ okw
      refine ht d hd σ' H3 _ ⟨Hf3, _, okw', fun Hf4 H4 g4 => ?_⟩
      have D4 : H4 D = some (.lst acc) := g4.all _ _ D3
      have D4f : Hf4 D = none := g4.own D D3f (by rw [D3]; exact True.intro)
      cases hb : t d with
      | false =>
        show (if false = true then _ else _)
        rw [if_neg Bool.false_ne_true]
        refine ⟨hlt, Hf4, acc, (g2.trans g3).trans g4, D4, D4f, ?_⟩
        rw [et, List.filter_append]
        have e : List.filter t [d] = [] := by simp [hb]
        rw [e, List.append_nil]
        exact DvAll.up (g3.mono.trans g4.mono) _ e3
      | true =>
        show (if true = true then _ else _)
        rw [if_pos rfl]
        refine he d hd hb σ' H4 _ ⟨Hf4, _, okw'.growG g4, fun u Hf5 H5 g5 hu => ?_⟩
        have D5 : H5 D = some (.lst acc) := g5.all _ _ D4
        have D5f : Hf5 D = none := g5.own D D4f (by rw [D4]; exact True.intro)
        have el : acc.length < sizeLine := by
          have h1 := e3.len
          have h2 : (List.map f (List.filter t (List.take i xs))).length ≤ i := by
            rw [List.length_map]
            refine Nat.le_trans (List.length_filter_le _ _) ?_
            rw [List.length_take]
            exact Nat.min_le_left _ _
          omega
        refine ⟨acc, D5, el, hlt, Hf5, acc ++ [u], ?_, upd_same, D5f, ?_⟩
        · have gg := ((g2.trans g3).trans g4).trans g5
          refine ⟨fun b o h => ?_, gg.mono, fun s b o h => ?_, gg.own⟩
          · rw [upd_ne (ne_of_none h hD)]; exact gg.all b o h
          · have : b ≠ D := fun z => by rw [z, D5f] at h; cases h
            rw [upd_ne this]; exact gg.sub s b o h
        · rw [et, List.filter_append, List.map_append]
          have e : List.map f (List.filter t [d]) = [f d] := by simp [hb]
          rw [e]
          exact (DvAll.up ((g3.mono.trans g4.mono).trans g5.mono) _ e3).app (.one hu)
  · have e : i = xs.length := by omega
    subst e
    refine .inl ⟨it.stop _ Hf2 H2 (by rw [List.length_map]; exact Nat.le_refl _) g2.all g2.mono ok2.sub, ?_⟩
    rw [List.take_length] at e3
    have nf : Same Hf2 (upd Hf2 D (.lst acc)) := fun b o h => by
      rw [upd_ne (fun z => by rw [z, e2] at h; cases h)]
      exact h
    refine q (.ref D) (upd Hf2 D (.lst acc)) H2 (g1.trans ⟨g2.all, g2.mono.trans nf, fun s b o h => ?_, fun a h n => ?_⟩) (.lst (SqL.of upd_same) (DvAll.up nf _ e3))
    · by_cases z : b = D
      · rw [z, upd_same] at h
        rw [z, e1]
        exact h
      · rw [upd_ne z] at h
        exact g2.sub s b o h
    · have z : a ≠ D := fun z => by rw [z, show H1 D = none from hD] at n; exact n
      rw [upd_ne z]
      exact g2.own a h n
section
variable {elt iter : Expr} {ifs : List Expr} {scope : Scope} {own : List (Str × Nat)} {α : Type} {enc : α → PyData} {xs : List α} {t : α → Bool} {f : α → PyData} {l : PyData → List (Nat × PyData)}
def gAny (P : Program) (w : World) (K : PySem.W.Frag) (xs : List α) (enc : α → PyData) (l : PyData → List (Nat × PyData)) : TG := fun v σ H Q => ∃ d, d ∈ xs ∧ tG P w K (enc d) (l (enc d)) v σ H Q
def tAny (P : Program) (w : World) (K : PySem.W.Frag) (xs : List α) (G : α → Ctx) (t : α → Bool) : TT := fun σ H Q => ∃ d, d ∈ xs ∧ tT P w K (G d) (t d) σ H Q
def eAny (P : Program) (w : World) (K : PySem.W.Frag) (xs : List α) (G : α → Ctx) (t : α → Bool) (f : α → PyData) : TE := fun σ H Q => ∃ d, d ∈ xs ∧ t d = true ∧ tD P w K (G d) (f d) σ H Q
/-- what the rules of a comprehension ask -/
theorem lcG (nd : X.N.Nodup) (it : DI X true tg iter Γ (xs.map enc)) (blk : BlkOk X.N X.env.scope scope own) (hg : ∀ d ∈ xs, Blk X scope fun Y => DG Y tg (enc d) (l (enc d))) (ts : ∀ d ∈ xs, Blk X scope fun Y => DTs Y ifs (setsG (wipeG Γ (own.map (·.2))) (l (enc d))) (t d))
    (el : ∀ d ∈ xs, t d = true → Blk X scope fun Y => DP Y elt (setsG (wipeG Γ (own.map (·.2))) (l (enc d))) (f d)) (ow : ∀ d ∈ xs, ∀ p ∈ l (enc d), p.1 ∈ own.map (·.2)) (sz : xs.length < sizeLine) (calm : X.calm = true) (hs : ∀ x, foldedSetIterable iter X.env x = pure x) :
    DP X (.ListComp elt [⟨tg, iter, ifs, 0⟩] scope pos) Γ (.list ((xs.filter t).map f)) := by
  refine dp_grow (pe_lc (own := own) (g := gAny X.prog X.w X.K xs enc l) (tt := tAny X.prog X.w X.K xs (fun d => setsG (wipeG Γ (own.map (·.2))) (l (enc d))) t) (te := eAny X.prog X.w X.K xs (fun d => setsG (wipeG Γ (own.map (·.2))) (l (enc d))) t f) calm nd it blk ?_ ?_ ?_ hs) fun σ H Hf fps ok Q q => ?_
  · intro s H C cl fp
    exact ⟨fun pins st σ H v u Q I r ⟨d, hd, z⟩ => (dg_pg (hg d hd s _ C cl fp)).run pins st σ H v u Q I r z⟩
  · intro s H C cl fp
    exact ⟨fun pins st σ H Q I ⟨d, hd, z⟩ => (ts d hd s _ C cl fp).run pins st σ H Q I z⟩
  · intro s H C cl fp
    exact ⟨fun pins st σ H Q I ⟨d, hd, ht, z⟩ => (el d hd ht s _ C cl fp).run pins st σ H Q I z⟩
  · exact lc_read ok (fun _ _ _ z => z) (fun d hd v σ H Q z => ⟨d, hd, z⟩) (fun d hd σ H Q z => ⟨d, hd, z⟩) (fun d hd ht σ H Q z => ⟨d, hd, ht, z⟩) ow sz q
end

/-! ### sorted -/
def sortD (ds : List PyData) : List PyData := ds.mergeSort (PySem.W.dataLe false id)
def rSortD (X : Cx) (ds : List PyData) : List V → Hp → VK → Prop := fun vs H Q => ∃ p xs Hf, vs = [.ref p] ∧ SqL X.K H p xs ∧ Same Hf H ∧ DvAll X.K Hf xs ds ∧
  ∀ ys l, H l = none → DvAll X.K Hf ys (sortD ds) → Q (.ref l) (upd H l (.lst ys))
theorem each_of {K : PySem.W.Frag} {Hf : Hp} {h : Heap} : ∀ {xs : List V} {vs : List Value} {ds : List PyData}, Vals xs vs → DvAll K Hf xs ds → (∀ x v d, Dv K Hf x d → RelV x v → d ∈ ds → ∃ as, Reads h v d as) →
    PySem.W.EachIs (fun v d => ∃ x, RelV x v ∧ Dv K Hf x d) vs ds ∧ PySem.W.EachIs (fun v d => ∃ as, Reads h v d as) vs ds
  | _, _, _, .nil, .nil, _ => ⟨.nil, .nil⟩
  | _, _, _, .cons r t, .cons h t', f => by
    obtain ⟨a, b⟩ := each_of t t' fun x v d h1 h2 h3 => f x v d h1 h2 (List.mem_cons_of_mem _ h3)
    exact ⟨.cons ⟨_, r, h⟩ a, .cons (f _ _ _ h r List.mem_cons_self) b⟩
theorem each_back {K : PySem.W.Frag} {Hf : Hp} : ∀ {vs : List Value} {ds : List PyData}, PySem.W.EachIs (fun v d => ∃ x, RelV x v ∧ Dv K Hf x d) vs ds → ∃ xs, Vals xs vs ∧ DvAll K Hf xs ds
  | _, _, .nil => ⟨[], .nil, .nil⟩
  | _, _, .cons ⟨x, h1, h2⟩ t => by
    obtain ⟨xs, a, b⟩ := each_back t
    exact ⟨x :: xs, .cons h1 a, .cons h2 b⟩
theorem lay_mem : ∀ {ds : List PyData}, PyData.canLayAll0 ds = true → ∀ d ∈ ds, d.canLay0 = true
  | [], _, d, h => by cases h
  | e :: ds, c, d, h => by
    have c' : e.canLay0 = true ∧ PyData.canLayAll0 ds = true := by simpa [PyData.canLayAll0] using c
    rcases List.mem_cons.mp h with q | q
    · rw [q]; exact c'.1
    · exact lay_mem c'.2 d q
theorem cr_sortD (c : PyData.canLayAll0 ds = true) (hal : PySem.W.AllAlike ds) (hk : PySem.W.Sortable ds) (hu : ∀ d ∈ ds, X.A.units + 2 + d.depth < cLine) : CallR X (.builtin "sorted") (rSortD X ds) := by
  intro pins s σ H vs us Q I r h
  obtain ⟨p, xs, Hf, rfl, hs, sub, hd, q⟩ := h
  obtain ⟨its, rv, hl, hz⟩ := I.list hs
  rw [Vals.ref1 r]
  obtain ⟨e1, e2⟩ := each_of (h := s.heap) rv hd fun x v d h1 h2 h3 => Dp.reads I d x v (dp_up (lay_mem c d h3) sub h1) h2
  refine PySem.W.sorted_data (enc := fun d : PyData => d) hl.isList e1 e2 (by rw [List.map_id']; exact hal) (by rw [List.map_id']; exact hk) (by rw [← hd.len]; exact hz) hu fun out h1 h2 => ?_
  obtain ⟨ys, v1, v2⟩ := each_back h2
  obtain ⟨ep, he'⟩ := PyProof.Rows.sortedAll_at s.heap its out.toArray
  have hlen : ys.length ≤ sizeLine := by
    rw [v1.length, h1, ← hd.len]
    exact hz
  exact ⟨.ref _, upd H (s.heap.objs.size + 1) (.lst ys), I.laid (t' := s.toks) (fun _ _ => PyProof.Rows.sortedAll_old) (Nat.le_succ _) ⟨hlen, out, ep, v1, he'⟩, rfl, q _ _ (I.hok.fresh (Nat.le_succ _)) v2⟩
/-- sorted(xs) -/
theorem dp_sorted (c : PyData.canLayAll0 ds = true) (hal : PySem.W.AllAlike ds) (hk : PySem.W.Sortable ds) (hu : ∀ d ∈ ds, X.A.units + 2 + d.depth < cLine) (hg : Gl X "sorted") (hm : X.mg "sorted" = none) (ha : DLs X e Γ ds) (n1 : NoStar X e [] := by rfl) :
    DP X (.Call (.Name "sorted" p) [e] [] pos) Γ (.list (sortD ds)) :=
  dp_grow (pe_callB (cr_sortD c hal hk hu) hg hm (by decide +kernel) (pa_cons ha pa_nil n1) (he := n1)) fun σ H Hf fps ok Q q => show tL X.prog X.w X.K Γ ds σ H (fun x H1 => rSortD X ds [x] H1 Q) from tL_run ok fun p xs Hf1 H1 g1 h1 h2 =>
    ⟨p, xs, Hf1, rfl, h1, (ok.growG g1).sub, h2, fun ys l hl hy => by
      have g := Grow.new (u := .lst ys) hl (ok.growG g1).sub
      exact q _ _ _ (g1.trans g) (.lst (SqL.of upd_same) (DvAll.up g.mono _ hy))⟩
end
end DL


set_option Elab.async false
set_option linter.all false
set_option maxRecDepth 100000
set_option maxHeartbeats 4000000
/-! DL5: statements over data. -/
namespace DL
open PySem PySem.Spec PyProof.Rows L2

/-- what is wanted behind statements -/
structure Po where
  nx : Ctx → Prop := fun _ => False
  rt : Ctx → Sl → Prop := fun _ _ => False
  xr : Hp → Prop := fun _ => True
section
variable (P : Program) (w : World) (K : PySem.W.Frag)
/-- from a state to a later one; the first n names as they were -/
structure Rch (n : Nat) (Hf H : Hp) (σ : L2.St) (W : Addr → Prop) (Hf' H' : Hp) (σ' : L2.St) (W' : Addr → Prop) : Prop where
  st : Step W Hf H W' Hf' H'
  kp : ∀ i, i < n → σ'[i]? = σ[i]?
structure Gd (p : Po) (D : Ends) (n : Nat) (Hf H : Hp) (σ : L2.St) (W : Addr → Prop) : Prop where
  nx : ∀ Γ' σ' Hf' H' fps', p.nx Γ' → Ok P w K Hf' H' σ' Γ' fps' → Rch n Hf H σ W Hf' H' σ' (own fps') → D.nx σ' H'
  rt : ∀ Γ' s v f σ' Hf' H' fps', p.rt Γ' s → Ok P w K Hf' H' σ' Γ' fps' → Rs P w K Hf' H' s v f fps' → Rch n Hf H σ W Hf' H' σ' (ownR fps' f) → D.rt v H'
  xr : ∀ Γ' σ' Hf' H' fps', Ok P w K Hf' H' σ' Γ' fps' → Rch n Hf H σ W Hf' H' σ' (own fps') → p.xr H'
def tW (n : Nat) (Γ : Ctx) (p : Po) : TS := fun D σ H => ∃ Hf fps, Ok P w K Hf H σ Γ fps ∧ Gd P w K p D n Hf H σ (own fps)
end
abbrev WS (X : Cx) (n : Nat) (sts : List Stmt) (Γ : Ctx) (p : Po) : Prop := PSs X sts (tW X.prog X.w X.K n Γ p)
abbrev WS1 (X : Cx) (n : Nat) (st : Stmt) (Γ : Ctx) (p : Po) : Prop := PS X st (tW X.prog X.w X.K n Γ p)
section
variable {P : Program} {w : World} {K : PySem.W.Frag} {n : Nat} {Hf H Hf1 H1 Hf2 H2 : Hp} {σ σ1 σ2 : L2.St} {W W1 W2 : Addr → Prop} {p q : Po} {D D' : Ends} {fps fps1 : Fps} {f : List Addr} {Γ Γ1 Γ2 : Ctx}
theorem Rch.refl : Rch n Hf H σ W Hf H σ W := ⟨.refl, fun _ _ => rfl⟩
theorem Rch.trans (a : Rch n Hf H σ W Hf1 H1 σ1 W1) (b : Rch n Hf1 H1 σ1 W1 Hf2 H2 σ2 W2) : Rch n Hf H σ W Hf2 H2 σ2 W2 := ⟨a.st.trans b.st, fun i h => (b.kp i h).trans (a.kp i h)⟩
theorem Rch.set {v : Option V} {i : Nat} (h : n ≤ i) (k : ∀ x, W1 x → W x) : Rch n Hf H σ W Hf H (σ.set i v) W1 := ⟨Step.refl.imp k, fun j hj => List.getElem?_set_ne (by omega)⟩
theorem Rch.of (s : Step W Hf H W1 Hf1 H1) : Rch n Hf H σ W Hf1 H1 σ W1 := ⟨s, fun _ _ => rfl⟩
theorem Gd.step (g : Gd P w K p D n Hf H σ W) (r : Rch n Hf H σ W Hf1 H1 σ1 W1) : Gd P w K p D n Hf1 H1 σ1 W1 :=
  ⟨fun Γ' σ' Hf' H' fps' h o r' => g.nx Γ' σ' Hf' H' fps' h o (r.trans r'), fun Γ' s v f σ' Hf' H' fps' h o z r' => g.rt Γ' s v f σ' Hf' H' fps' h o z (r.trans r'), fun Γ' σ' Hf' H' fps' o r' => g.xr Γ' σ' Hf' H' fps' o (r.trans r')⟩
/-- less is told of the names -/
inductive Sub : Ctx → Ctx → Prop
  | nil : Sub [] []
  | same {x : Option Sl} {Γ Γ' : Ctx} : Sub Γ Γ' → Sub (x :: Γ) (x :: Γ')
  | drop {x : Option Sl} {Γ Γ' : Ctx} : Sub Γ Γ' → Sub (x :: Γ) (none :: Γ')
theorem Sub.refl : ∀ Γ : Ctx, Sub Γ Γ
  | [] => .nil
  | _ :: Γ => .same (Sub.refl Γ)
theorem Sub.len : ∀ {Γ Γ' : Ctx}, Sub Γ Γ' → Γ'.length = Γ.length
  | _, _, .nil => rfl
  | _, _, .same h => congrArg Nat.succ h.len
  | _, _, .drop h => congrArg Nat.succ h.len
theorem Sub.at : ∀ {Γ Γ' : Ctx} {i : Nat} {s : Sl}, Sub Γ Γ' → Γ'[i]? = some (some s) → Γ[i]? = some (some s)
  | _, _, 0, _, .same _, e => e
  | _, _, i + 1, _, .same h, e => Sub.at (i := i) h e
  | _, _, 0, _, .drop _, e => by cases e
  | _, _, i + 1, _, .drop h, e => Sub.at (i := i) h e
theorem Sub.trans {Γ1 : Ctx} : ∀ {Γ2 Γ3 : Ctx}, Sub Γ1 Γ2 → Sub Γ2 Γ3 → Sub Γ1 Γ3
  | _, _, .nil, h => h
  | _, _, .same h, .same h' => .same (h.trans h')
  | _, _, .same h, .drop h' => .drop (h.trans h')
  | _, _, .drop h, .same h' => .drop (h.trans h')
  | _, _, .drop h, .drop h' => .drop (h.trans h')
open Classical in
theorem Ok.sub' (o : Ok P w K Hf H σ Γ fps) (h : Sub Γ Γ2) : ∃ fps2, Ok P w K Hf H σ Γ2 fps2 ∧ ∀ a, own fps2 a → own fps a := by
  refine ⟨fun i => if ∃ s, Γ2[i]? = some (some s) then fps i else [], ⟨o.sub, by rw [h.len]; exact o.len, fun i s e => ?_, fun i e => ?_, fun i => ?_, fun i j a h1 h2 => ?_, fun i a h1 => ?_⟩, fun a ⟨i, hi⟩ => ?_⟩
  · obtain ⟨v, h1, h2⟩ := o.sl i s (h.at e)
    refine ⟨v, h1, ?_⟩
    rw [if_pos ⟨s, e⟩]
    exact h2
  · rw [if_neg fun ⟨s, z⟩ => e s z]
  · split
    · exact o.nd i
    · exact List.nodup_nil
  · split at h1
    · split at h2
      · exact o.dj i j a h1 h2
      · cases h2
    · cases h1
  · split at h1
    · exact o.nf i a h1
    · cases h1
  · have hi : a ∈ (if ∃ s, Γ2[i]? = some (some s) then fps i else []) := hi
    split at hi
    · exact ⟨i, hi⟩
    · cases hi
/-- a thing at slot i is changed, what is at hand may come to it -/
theorem Ok.updS {s s' : Sl} {v : V} {f f' : List Addr} {i : Nat} (o : Ok P w K Hf H σ Γ fps) (hf : f.Nodup ∧ (∀ a ∈ f, Hf a = none) ∧ ∀ a ∈ f, ∀ i, a ∉ fps i) (e : Γ[i]? = some (some s)) (hv : σ[i]? = some (some v)) (hs : SlOk P w K Hf H1 s' v f') (keep : ∀ b, b ∉ fps i → H1 b = H b) (there : ∀ b, H b ≠ none → H1 b ≠ none)
    (nd : f'.Nodup) (fr : ∀ a ∈ f', a ∈ fps i ∨ a ∈ f) : Ok P w K Hf H1 σ (Γ.set i (some s')) (fun j => if j = i then f' else fps j) ∧ Step (ownR fps f) Hf H (own fun j => if j = i then f' else fps j) Hf H1 := by
  have hi : i < Γ.length := (List.getElem?_eq_some_iff.mp e).1
  refine ⟨⟨fun b u hb => ?_, by rw [List.length_set]; exact o.len, fun j t q => ?_, fun j q => ?_, fun j => ?_, fun j k a h1 h2 => ?_, fun j a h1 => ?_⟩, ⟨fun b u n h => ?_, Same.refl _, fun a _ h _ => h, there, fun a ⟨j, hj⟩ => ?_⟩⟩
  · rw [keep b fun z => by rw [o.nf i b z] at hb; cases hb]
    exact o.sub b u hb
  · by_cases hj : j = i
    · subst hj
      rw [List.getElem?_set_self hi] at q
      cases q
      rw [if_pos rfl]
      exact ⟨v, hv, hs⟩
    · rw [List.getElem?_set_ne (Ne.symm hj)] at q
      rw [if_neg hj]
      obtain ⟨u, h1, h2⟩ := o.sl j t q
      exact ⟨u, h1, SlOk.frame (Same.refl _) (fun a ha => keep a fun z => hj (o.dj j i a ha z)) h2⟩
  · by_cases hj : j = i
    · subst hj
      exact absurd (List.getElem?_set_self hi) (q s')
    · rw [if_neg hj]
      refine o.em j fun t z => q t ?_
      rw [List.getElem?_set_ne (Ne.symm hj)]
      exact z
  · by_cases hj : j = i
    · rw [if_pos hj]; exact nd
    · rw [if_neg hj]; exact o.nd j
  · by_cases hj : j = i <;> by_cases hk : k = i
    · rw [hj, hk]
    · rw [if_pos hj] at h1
      rw [if_neg hk] at h2
      rcases fr a h1 with z | z
      · rw [hj]; exact o.dj i k a z h2
      · exact (hf.2.2 a z k h2).elim
    · rw [if_neg hj] at h1
      rw [if_pos hk] at h2
      rcases fr a h2 with z | z
      · rw [hk]; exact o.dj j i a h1 z
      · exact (hf.2.2 a z j h1).elim
    · rw [if_neg hj] at h1
      rw [if_neg hk] at h2
      exact o.dj j k a h1 h2
  · by_cases hj : j = i
    · rw [if_pos hj] at h1
      rcases fr a h1 with z | z
      · exact o.nf i a z
      · exact hf.2.1 a z
    · rw [if_neg hj] at h1; exact o.nf j a h1
  · rw [keep b fun z => n (.inl ⟨i, z⟩)]
    exact h
  · have hj : a ∈ (if j = i then f' else fps j) := hj
    by_cases q : j = i
    · rw [if_pos q] at hj
      exact .inl ((fr a hj).elim (fun z => .inl ⟨i, z⟩) .inr)
    · rw [if_neg q] at hj
      exact .inl (.inl ⟨j, hj⟩)
theorem Rs.apart {s : Sl} {v : V} (r : Rs P w K Hf H s v f fps) : f.Nodup ∧ (∀ a ∈ f, Hf a = none) ∧ ∀ a ∈ f, ∀ i, a ∉ fps i := ⟨r.nd, r.nf, r.dj⟩
theorem noHand : ([] : List Addr).Nodup ∧ (∀ a ∈ ([] : List Addr), Hf a = none) ∧ ∀ a ∈ ([] : List Addr), ∀ i, a ∉ fps i := ⟨List.nodup_nil, fun _ h => (List.not_mem_nil h).elim, fun _ h => (List.not_mem_nil h).elim⟩
end
section
variable {X : Cx} {e a b c : Expr} {es : List Expr} {Γ Γ' Γ1 Γ2 : Ctx} {s s' : Sl} {d da db dc : PyData} {ds ds' : List PyData} {te ta tb : TE} {pos : Pos} {i n : Nat} {x : Str} {st : Stmt} {rest sts : List Stmt} {p q : Po} {t : TS}
/-- from a rule of the layer -/
theorem ws_of (h : PSs X sts t) (k : ∀ D σ H Hf fps, Ok X.prog X.w X.K Hf H σ Γ fps → Gd X.prog X.w X.K p D n Hf H σ (own fps) → t D σ H) : WS X n sts Γ p :=
  ⟨fun pins s σ H D I ⟨Hf, fps, ok, g⟩ => h.run pins s σ H D I (k D σ H Hf fps ok g)⟩
theorem w1_of (h : PS X st t) (k : ∀ D σ H Hf fps, Ok X.prog X.w X.K Hf H σ Γ fps → Gd X.prog X.w X.K p D n Hf H σ (own fps) → t D σ H) : WS1 X n st Γ p :=
  ⟨fun pins s σ H D I ⟨Hf, fps, ok, g⟩ => h.run pins s σ H D I (k D σ H Hf fps ok g)⟩
theorem ws_weak (hs : Sub Γ Γ2) (h : WS X n sts Γ2 p) : WS X n sts Γ p := ws_of h fun D σ H Hf fps ok g => by
  obtain ⟨f2, o2, k⟩ := ok.sub' hs
  exact ⟨Hf, f2, o2, g.step (Rch.of (Step.refl.imp k))⟩
theorem ws_nil (h : p.nx Γ) : WS X n [] Γ p := ws_of pss_nil fun D σ H Hf fps ok g => g.nx Γ σ Hf H fps h ok .refl
theorem ws_to (hs : Sub Γ Γ2) (h : p.nx Γ2) : WS X n [] Γ p := ws_weak hs (ws_nil h)
theorem ws_doc {y : Str} {j : Nat} {pos' : Pos} (h : WS X n rest Γ p) : WS X n (.Expr (.Constant (.str y) j pos) pos' :: rest) Γ p := ws_of (pss_cons ps_doc h) fun D σ H Hf fps ok g => ⟨Hf, fps, ok, g⟩
/-- any of some contexts -/
theorem ws_any {M : Ctx → Prop} (h : ∀ Γ', M Γ' → WS X n sts Γ' p) : PSs X sts (fun D σ H => ∃ Γ', M Γ' ∧ tW X.prog X.w X.K n Γ' p D σ H) := ⟨fun pins s σ H D I ⟨Γ', m, z⟩ => (h Γ' m).run pins s σ H D I z⟩
/-- one statement, then the others -/
theorem ws_cons {M : Ctx → Prop} (h1 : WS1 X n st Γ { p with nx := M }) (h2 : ∀ Γ', M Γ' → WS X n rest Γ' p) : WS X n (st :: rest) Γ p :=
  ws_of (pss_cons h1 (ws_any h2)) fun D σ H Hf fps ok g => ⟨Hf, fps, ok, fun Γ' σ' Hf' H' fps' m o r => ⟨Γ', m, Hf', fps', o, g.step r⟩, g.rt, g.xr⟩
theorem ws_c (h1 : WS1 X n st Γ { p with nx := fun Γ' => WS X n rest Γ' p }) : WS X n (st :: rest) Γ p := ws_cons h1 fun _ h => h
/-- name = e -/
theorem ws_set {pos' : Pos} (i : Nat) (he : DE X e Γ Γ1 s) (hr : WS X n rest (Γ1.set i (some s)) p) (nd : X.N.Nodup := by assumption) (hN : X.N[i]? = some x := by rfl) (hn : n ≤ i := by decide) (hx : Loc X.env.scope x := by first | exact Or.inl rfl | exact Or.inr rfl) (hs : swapsWith e (some (.Name x pos')) pos.line X.env = pure false := by rfl)
    (hf : X.fn x = true ∨ X.env.scope.names.lookup x = some .local := by first | exact .inl rfl | exact .inr rfl | assumption) : WS X n (.Assign [.Name x pos'] e pos :: rest) Γ p :=
  ws_of (pss_cons (ps_set nd hN hx he hs hf) hr) fun D σ H Hf fps ok g => ⟨Hf, fps, ok, fun v Hf' H' fps' f o r st =>
    ⟨Hf', _, o.set r i, g.step ((Rch.of st).trans (Rch.set hn fun y hy => own_set hy))⟩⟩
/-- an expression for its own sake -/
theorem ws_exp (he : DE X e Γ Γ1 s) (hr : WS X n rest Γ1 p) (hs : swapsWith e none pos.line X.env = pure false := by rfl) : WS X n (.Expr e pos :: rest) Γ p :=
  ws_of (pss_cons (ps_expr he hs) hr) fun D σ H Hf fps ok g => ⟨Hf, fps, ok, fun v Hf' H' fps' f o r st => ⟨Hf', fps', o, g.step (Rch.of (st.imp fun _ h => .inl h))⟩⟩
theorem ws_ret (he : DE X e Γ Γ1 s) (h : p.rt Γ1 s) : WS X n (.Return (some e) pos :: rest) Γ p :=
  ws_of (pss_cons (ps_ret he) pss_never) fun D σ H Hf fps ok g => ⟨Hf, fps, ok, fun v Hf' H' fps' f o r st => g.rt Γ1 s v f σ Hf' H' fps' h o r (Rch.of st)⟩
theorem ws_retN (h : p.rt Γ (dat .none)) : WS X n (.Return none pos :: rest) Γ p :=
  ws_of (pss_cons ps_retN pss_never) fun D σ H Hf fps ok g => g.rt Γ (dat .none) .non [] σ Hf H fps h ok (Rs.dat .non) (Rch.of (Step.refl.imp fun _ h => h.elim id fun z => (List.not_mem_nil z).elim))
/-- if: the rest goes on behind each -/
theorem ws_if {A B : List Stmt} {t : Bool} (hc : DT X c Γ t) (ha : t = true → WS X n A Γ { p with nx := fun Γ' => WS X n rest Γ' p }) (hb : t = false → WS X n B Γ { p with nx := fun Γ' => WS X n rest Γ' p }) : WS X n (.If c A B pos :: rest) Γ p := by
  refine ws_c ?_
  cases t with
  | true =>
    refine w1_of (ps_if hc (ha rfl) pss_never) fun D σ H Hf fps ok g => tT_run ok fun Hf1 H1 g1 => ?_
    rw [if_pos rfl]
    exact ⟨Hf1, fps, ok.growG g1, g.step (Rch.of g1.step)⟩
  | false =>
    refine w1_of (ps_if hc pss_never (hb rfl)) fun D σ H Hf fps ok g => tT_run ok fun Hf1 H1 g1 => ?_
    rw [if_neg Bool.false_ne_true]
    exact ⟨Hf1, fps, ok.growG g1, g.step (Rch.of g1.step)⟩
/-- if without else -/
theorem ws_if1 {A : List Stmt} {t : Bool} (hc : DT X c Γ t) (ha : t = true → WS X n A Γ { p with nx := fun Γ' => WS X n rest Γ' p }) (hb : t = false → WS X n rest Γ p) : WS X n (.If c A [] pos :: rest) Γ p :=
  ws_if hc ha fun h => ws_nil (hb h)
/-- code, whichever context it begins with -/
theorem pss_u : PSs X sts (fun D σ H => ∃ n Γ p, WS X n sts Γ p ∧ tW X.prog X.w X.K n Γ p D σ H) := ⟨fun pins s σ H D I ⟨n, Γ, p, h, z⟩ => h.run pins s σ H D I z⟩
theorem pt_u : PT X c (fun σ H Q => ∃ Γ t, DT X c Γ t ∧ tT X.prog X.w X.K Γ t σ H Q) := ⟨fun pins s σ H Q I ⟨Γ, t, h, z⟩ => h.run pins s σ H Q I z⟩
theorem pg_u {tg : Expr} : PG X tg (fun v σ H Q => ∃ d l, DG X tg d l ∧ tG X.prog X.w X.K d l v σ H Q) := ⟨fun pins s σ H v u Q I r ⟨d, l, h, z⟩ => (dg_pg h).run pins s σ H v u Q I r z⟩
/-- while -/
theorem ws_while {body : List Stmt} (I : Nat → Ctx → Prop) (m : Nat) (h0 : I m Γ) (hc : ∀ m Γ', I m Γ' → ∃ t, DT X c Γ' t ∧ (t = true → WS X n body Γ' { p with nx := fun Γ2 => ∃ m', m' < m ∧ I m' Γ2 }) ∧ (t = false → WS X n rest Γ' p))
    (hp : PassesOwn (model X.prog X.w) X.A X.env X.xe := by exact PassesOwn.never) : WS X n (.While c body [] pos :: rest) Γ p := by
  refine ws_c (w1_of (ps_while hp pt_u pss_u) fun D σ H Hf fps ok g => ?_)
  refine ⟨fun m σ' H' => ∃ Γ' Hf' fps', I m Γ' ∧ Ok X.prog X.w X.K Hf' H' σ' Γ' fps' ∧ Rch n Hf H σ (own fps) Hf' H' σ' (own fps'), ⟨m, Γ, Hf, fps, h0, ok, .refl⟩, ?_⟩
  rintro m σ' H' ⟨Γ', Hf', fps', hI, ok', r'⟩
  obtain ⟨t, h1, h2, h3⟩ := hc m Γ' hI
  refine ⟨Γ', t, h1, tT_run ok' fun Hf1 H1 g1 => ?_⟩
  have r1 := r'.trans (Rch.of (n := n) (σ := σ') (g1.step (W := own fps')))
  cases t with
  | true =>
    show (if true = true then _ else _)
    rw [if_pos rfl]
    refine ⟨fun σ2 H2 => ∃ Γ2 Hf2 fps2, (∃ m', m' < m ∧ I m' Γ2) ∧ Ok X.prog X.w X.K Hf2 H2 σ2 Γ2 fps2 ∧ Rch n Hf H σ (own fps) Hf2 H2 σ2 (own fps2), fun σ2 H2 ⟨Γ2, Hf2, fps2, ⟨m', hm, hI2⟩, o2, r2⟩ => ⟨m', hm, Γ2, Hf2, fps2, hI2, o2, r2⟩, n, Γ', _, h2 rfl, Hf1, fps', ok'.growG g1, ?_⟩
    exact ⟨fun Γ2 σ2 Hf2 H2 fps2 hh o2 r2 => ⟨Γ2, Hf2, fps2, hh, o2, r1.trans r2⟩, (g.step r1).rt, (g.step r1).xr⟩
  | false =>
    show (if false = true then _ else _)
    rw [if_neg Bool.false_ne_true]
    exact g.nx Γ' σ' Hf1 H1 fps' (h3 rfl) (ok'.growG g1) r1
/-- for d in a walk over data -/
theorem ws_for {body : List Stmt} {tg iter : Expr} (I : Nat → Ctx → Prop) (l : PyData → List (Nat × PyData)) (hi : DI X false tg iter Γ ds) (hg : ∀ d ∈ ds, DG X tg d (l d)) (h0 : I 0 Γ)
    (hb : ∀ k d Γ', ds[k]? = some d → I k Γ' → WS X n body (setsG Γ' (l d)) { p with nx := I (k + 1) }) (he : ∀ Γ', I ds.length Γ' → WS X n rest Γ' p) (hl : ∀ d ∈ ds, ∀ q ∈ l d, n ≤ q.1) (hc : X.calm = true := by rfl)
    (hp : PassesOwn (model X.prog X.w) X.A X.env X.xe := by exact PassesOwn.never) (hs : ∀ x, foldedSetIterable iter X.env x = pure x := by intro _; rfl) : WS X n (.For tg iter body [] pos :: rest) Γ p := by
  refine ws_c (w1_of (ps_for hp hc hi pg_u pss_u hs) fun D σ H Hf fps ok g => ⟨Hf, fps, ok, fun J Hf1 H1 g1 it => ?_⟩)
  have it : ItD X.K J Hf1 Hf1 ds := it
  refine ⟨fun i m σ' H' => m = ds.length - i ∧ i ≤ ds.length ∧ ∃ Γ' Hf' fps', I i Γ' ∧ Ok X.prog X.w X.K Hf' H' σ' Γ' fps' ∧ Same Hf1 Hf' ∧ Rch n Hf H σ (own fps) Hf' H' σ' (own fps'), ⟨_, rfl, Nat.zero_le _, Γ, Hf1, fps, h0, ok.growG g1, Same.refl _, Rch.of g1.step⟩, ?_⟩
  rintro i m σ2 H2 ⟨rfl, hle, Γ2, Hf2, fps2, hI, o2, s2, r2⟩
  by_cases hlt : i < ds.length
  · obtain ⟨d, ed⟩ : ∃ d, ds[i]? = some d := ⟨ds[i], List.getElem?_eq_getElem hlt⟩
    have hd : d ∈ ds := List.mem_of_getElem? ed
    obtain ⟨go, yl⟩ := it.go i d Hf2 H2 ed (s2.trans o2.sub) s2 o2.sub
    refine .inr ⟨go, fun σ' H' => i + 1 ≤ ds.length ∧ ∃ Γ' Hf' fps', I (i + 1) Γ' ∧ Ok X.prog X.w X.K Hf' H' σ' Γ' fps' ∧ Same Hf1 Hf' ∧ Rch n Hf H σ (own fps) Hf' H' σ' (own fps'), fun σ' H' z => ⟨_, by omega, rfl, z⟩, fun x H3 y => ?_⟩
    obtain ⟨Hf3, g3, hx⟩ := yl x H3 y
    have o3 := o2.growG g3
    refine ⟨d, l d, hg d hd, Hf3, hx, o3.sub, fun σ4 k4 _ k5 => ?_⟩
    obtain ⟨fps4, o4, w4⟩ := k4 Γ2 fps2 o3
    have r3 : Rch n Hf H σ (own fps) Hf3 H3 σ4 (own fps4) := r2.trans ⟨(g3.step).imp w4, fun j hj => k5 j fun q hq => by
      have := hl d hd q hq
      omega⟩
    refine ⟨n, _, _, hb i d Γ2 ed hI, Hf3, fps4, o4, fun Γ5 σ5 Hf5 H5 fps5 h5 o5 r5 => ⟨hlt, Γ5, Hf5, fps5, h5, o5, (s2.trans g3.mono).trans r5.st.mono, r3.trans r5⟩, (g.step r3).rt, (g.step r3).xr⟩
  · have e : i = ds.length := by omega
    subst e
    exact .inl ⟨it.stop _ Hf2 H2 (Nat.le_refl _) (s2.trans o2.sub) s2 o2.sub, g.nx Γ2 σ2 Hf2 H2 fps2 (he Γ2 hI) o2 r2⟩
/-- a list of one's own becomes data that stays -/
theorem ws_frzL (hg : Γ[i]? = some (some (.b (.ol ds)))) (h : WS X n sts (Γ.set i (some (dat (.list ds)))) p) : WS X n sts Γ p := ws_of h fun D σ H Hf fps ok g => by
  obtain ⟨v, h1, l, xs, e1, e2, e3, e4⟩ := ok.sl i _ hg
  have hi : i < Γ.length := (List.getElem?_eq_some_iff.mp hg).1
  have lm : l ∈ fps i := by rw [e2]; exact List.mem_singleton.mpr rfl
  have hn := ok.nf i l lm
  have mono : Same Hf (upd Hf l (.lst xs)) := fun b o hb => by rw [upd_ne (ne_of_none hb hn)]; exact hb
  have ne : ∀ j a, a ∈ fps j → j ≠ i → a ≠ l := fun j a ha hj z => hj (ok.dj j i l (z ▸ ha) lm)
  refine ⟨upd Hf l (.lst xs), fun j => if j = i then [] else fps j, ⟨fun b o hb => ?_, by rw [List.length_set]; exact ok.len, fun j t q => ?_, fun j q => ?_, fun j => ?_, fun j k a h1 h2 => ?_, fun j a h1 => ?_⟩, g.step (Rch.of ⟨fun _ _ _ h => h, mono, fun a na h _ => ?_, fun _ h => h, fun a ⟨j, hj⟩ => ?_⟩)⟩
  · by_cases z : b = l
    · rw [z, upd_same] at hb
      rw [z, ← hb]; exact e3
    · rw [upd_ne z] at hb; exact ok.sub b o hb
  · by_cases hj : j = i
    · subst hj
      rw [List.getElem?_set_self hi] at q
      cases q
      rw [if_pos rfl]
      exact ⟨v, h1, rfl, by rw [e1]; exact .lst (SqL.of upd_same) (DvAll.up mono _ e4)⟩
    · rw [List.getElem?_set_ne (Ne.symm hj)] at q
      rw [if_neg hj]
      obtain ⟨u, h1, h2⟩ := ok.sl j t q
      exact ⟨u, h1, SlOk.frame mono (fun a ha => rfl) h2⟩
  · by_cases hj : j = i
    · rw [if_pos hj]
    · rw [if_neg hj]
      refine ok.em j fun t z => q t ?_
      rw [List.getElem?_set_ne (Ne.symm hj)]
      exact z
  · by_cases hj : j = i
    · rw [if_pos hj]; exact List.nodup_nil
    · rw [if_neg hj]; exact ok.nd j
  · by_cases hj : j = i
    · rw [if_pos hj] at h1; cases h1
    · by_cases hk : k = i
      · rw [if_pos hk] at h2; cases h2
      · rw [if_neg hj] at h1
        rw [if_neg hk] at h2
        exact ok.dj j k a h1 h2
  · by_cases hj : j = i
    · rw [if_pos hj] at h1; cases h1
    · rw [if_neg hj] at h1
      rw [upd_ne (ne j a h1 hj)]
      exact ok.nf j a h1
  · rw [upd_ne (fun z => na ⟨i, by rw [z]; exact lm⟩)]
    exact h
  · have hj : a ∈ (if j = i then [] else fps j) := hj
    by_cases q : j = i
    · rw [if_pos q] at hj; cases hj
    · rw [if_neg q] at hj; exact .inl ⟨j, hj⟩
end
end DL


set_option Elab.async false
set_option linter.all false
set_option maxRecDepth 100000
set_option maxHeartbeats 4000000
/-! DL6: lists, dicts of one's own are written; they become data. -/
namespace DL
open PySem PySem.Spec PyProof.Rows L2

section
variable {X : Cx} {e a b c o : Expr} {es : List Expr} {Γ Γ' Γ1 Γ2 : Ctx} {s s' : Sl} {d da db dc : PyData} {ds ds' ds0 : List PyData} {te ta tb : TE} {pos p1 ap cp : Pos} {i n : Nat} {x : Str} {st : Stmt} {rest sts : List Stmt} {p q : Po} {t : TS}
/-! ### what is owned becomes data -/
theorem Step.frz {Hf H : Hp} {l : Addr} {u : HO} {f : List Addr} {W : Addr → Prop} (hl : l ∈ f) (hn : Hf l = none) (hw : ∀ a, W a → a ∉ f) : Step (fun a => W a ∨ a ∈ f) Hf H W (upd Hf l u) H :=
  ⟨fun _ _ _ h => h, fun b o hb => by rw [upd_ne (ne_of_none hb hn)]; exact hb, fun a na h _ => by rw [upd_ne (fun z => na (.inr (by rw [z]; exact hl)))]; exact h, fun _ h => h, fun a h => .inl (.inl h)⟩
/-- a list at hand becomes data -/
theorem de_frzL (h : DE X e Γ Γ1 (.b (.ol ds))) : DE X e Γ Γ1 (dat (.list ds)) := de_of h fun σ H Hf fps ok Q q => ⟨Hf, fps, ok, fun v Hf' H' fps' f o r st => by
  obtain ⟨l, xs, e1, e2, e3, e4⟩ := r.ok
  subst e1 e2
  have hn : Hf' l = none := r.nf l (List.mem_singleton.mpr rfl)
  have mono : Same Hf' (upd Hf' l (.lst xs)) := fun b o hb => by rw [upd_ne (ne_of_none hb hn)]; exact hb
  have nl : ∀ a, own fps' a → a ≠ l := fun a ⟨j, hj⟩ z => r.dj l (List.mem_singleton.mpr rfl) j (z ▸ hj)
  have st2 : Step (ownR fps' [l]) Hf' H' (own fps') (upd Hf' l (.lst xs)) H' := Step.frz (List.mem_singleton.mpr rfl) hn fun a ha z => nl a ha (List.mem_singleton.mp z)
  refine q (.ref l) (upd Hf' l (.lst xs)) H' fps' [] (o.grow mono (fun b u hb => ?_) (fun _ _ => rfl) fun a ha => ?_) (Rs.dat (.lst (SqL.of upd_same) (DvAll.up mono _ e4))) ((st.trans st2).imp fun y hy => hy.elim id fun z => (List.not_mem_nil z).elim)
  · by_cases z : b = l
    · rw [z, upd_same] at hb
      rw [z, ← hb]; exact e3
    · rw [upd_ne z] at hb; exact o.sub b u hb
  · rw [upd_ne (nl a ha)]
    obtain ⟨j, hj⟩ := ha
    exact o.nf j a hj⟩
/-- a dict at hand becomes data: it is locked for good -/
theorem de_frzK {kvs : List (Key × PyData)} (h : DE X e Γ Γ1 (.b (.okd kvs))) : DE X e Γ Γ1 (dat (dictD kvs)) := by
  refine ⟨fun pins s σ H Q I ⟨Hf, fps, ok, q⟩ => ?_⟩
  refine thn (h.run pins s σ H (fun v H' => ∃ Hf' fps' f, Ok X.prog X.w X.K Hf' H' σ Γ1 fps' ∧ Rs X.prog X.w X.K Hf' H' (.b (.okd kvs)) v f fps' ∧ Step (own fps) Hf H (ownR fps' f) Hf' H') I ⟨Hf, fps, ok, fun v Hf' H' fps' f o r st => ⟨Hf', fps', f, o, r, st⟩⟩) fun u s1 ⟨v, H1, I1, rv, Hf', fps', f, o, r, st⟩ => ?_
  obtain ⟨l, ws, e1, e2, e3, e4⟩ := r.ok
  subst e1 e2
  obtain ⟨od, I2⟩ := I1.lock e3 True.intro
  have hn : Hf' l = none := r.nf l (List.mem_singleton.mpr rfl)
  have mono : Same Hf' (upd Hf' l (.frz od (.dK ws))) := fun b o hb => by rw [upd_ne (ne_of_none hb hn)]; exact hb
  have nl : ∀ a, own fps' a → a ≠ l := fun a ⟨j, hj⟩ z => r.dj l (List.mem_singleton.mpr rfl) j (z ▸ hj)
  refine ⟨_, _, I2, rv, q (.ref l) (upd Hf' l (.frz od (.dK ws))) (upd H1 l (.frz od (.dK ws))) fps' [] (o.grow mono (fun b u hb => ?_) (fun a ha => upd_ne (nl a ha)) fun a ha => ?_) (Rs.dat (.dct upd_same (dvKV_of (KvD.up mono e4)))) (st.trans ⟨fun b u hb hu => ?_, mono, fun a na ha _ => ?_, fun a ha => ?_, fun a ha => .inl (ha.elim .inl fun z => (List.not_mem_nil z).elim)⟩)⟩
  · by_cases z : b = l
    · rw [z, upd_same] at hb ⊢; exact hb
    · rw [upd_ne z] at hb ⊢; exact o.sub b u hb
  · rw [upd_ne (nl a ha)]
    obtain ⟨j, hj⟩ := ha
    exact o.nf j a hj
  · rw [upd_ne (fun z => hb (.inr (List.mem_singleton.mpr z)))]; exact hu
  · rw [upd_ne (fun z => na (.inr (List.mem_singleton.mpr z)))]; exact ha
  · by_cases z : a = l
    · rw [z, upd_same]; simp
    · rw [upd_ne z]; exact ha

theorem noR {fps : Fps} {y : Addr} (h : ownR fps [] y) : own fps y := h.elim id fun z => (List.not_mem_nil z).elim

/-! ### a list at a slot is written -/
theorem Ok.updL {P : Program} {w : World} {K : PySem.W.Frag} {Hf H : Hp} {σ : L2.St} {fps : Fps} {l : Addr} {xs : List V} {f : List Addr} (ok : Ok P w K Hf H σ Γ fps) (hf : f.Nodup ∧ (∀ a ∈ f, Hf a = none) ∧ ∀ a ∈ f, ∀ i, a ∉ fps i) (hg : Γ[i]? = some (some (.b (.ol ds)))) (hv : σ[i]? = some (some (.ref l))) (hx : DvAll K Hf xs ds') :
    ∃ fps', Ok P w K Hf (upd H l (.lst xs)) σ (Γ.set i (some (.b (.ol ds')))) fps' ∧ Step (ownR fps f) Hf H (own fps') Hf (upd H l (.lst xs)) := by
  obtain ⟨v, h1, l', ys, e1, e2, e3, e4⟩ := ok.sl i _ hg
  rw [hv] at h1
  cases h1
  cases e1
  obtain ⟨o2, s2⟩ := ok.updS (H1 := upd H l (.lst xs)) (s' := .b (.ol ds')) (f' := [l]) hf hg hv ⟨l, xs, rfl, rfl, upd_same, hx⟩ (fun b hb => upd_ne fun z => hb (by rw [e2, z]; exact List.mem_singleton.mpr rfl))
    (fun b hb => by
      by_cases z : b = l
      · rw [z, upd_same]; simp
      · rw [upd_ne z]; exact hb) (by simp) fun a ha => .inl (by rw [e2]; exact ha)
  exact ⟨_, o2, s2⟩
theorem ol_at {P : Program} {w : World} {K : PySem.W.Frag} {Hf H : Hp} {σ : L2.St} {fps : Fps} (ok : Ok P w K Hf H σ Γ fps) (hg : Γ[i]? = some (some (.b (.ol ds)))) : ∃ l xs, σ[i]? = some (some (.ref l)) ∧ H l = some (.lst xs) ∧ DvAll K Hf xs ds := by
  obtain ⟨v, h1, l, xs, e1, e2, e3, e4⟩ := ok.sl i _ hg
  exact ⟨l, xs, by rw [h1, e1], e3, e4⟩
abbrev BaseOk (X : Cx) (o : Expr) (name : Str) : Prop := attributeBase o name X.env (eval o X.env) = eval o X.env
abbrev FewOk (X : Cx) (es : List Expr) (cpos : Pos) : Prop := ((backTo cpos (starEach es X.env)).all (fun x => !x.1) && (backToKw cpos (keywordEach [] X.env)).all (fun x => x.1.isSome)
      && decide (es.length + ([] : List Keyword).length + (if ([] : List Keyword).isEmpty then 0 else 1) < 30)) = true
abbrev PlainOk (X : Cx) (es : List Expr) (cpos : Pos) : Prop := (backTo cpos (starEach es X.env)).any (·.1) = false
/-- one argument, whatever it does -/
theorem pa_one (ha : PE X a ta) (hs : NoStar X a [] := by rfl) : PA X [a] (tCons ta tNil) := pa_cons ha pa_nil hs
/-- found.append(a) -/
theorem de_append (i : Nat) (hg0 : Γ[i]? = some (some (.b (.ol ds0)))) (ha : DE X a Γ Γ1 (dat d)) (hg : Γ1[i]? = some (some (.b (.ol ds)))) (hz : ds.length < sizeLine) (hN : X.N[i]? = some x := by rfl) (hv : Vis X.env.scope x := by first | exact Or.inl rfl | exact Or.inr (Or.inl rfl) | exact Or.inr (Or.inr rfl))
    (hd : (x == ("__debug__" : Str)) = false := by decide) (hcd : (x == ("__classdict__" : Str)) = false := by decide) (hb : BaseOk X (.Name x p1) "append" := by rfl) (hfew : FewOk X [a] cp := by rfl) (hline : (ap.endLine == cp.line) = true := by rfl) (hs : NoStar X a [] := by rfl) (hpl : PlainOk X [] cp := by rfl) :
    DE X (.Call (.Attribute (.Name x p1) "append" ap) [a] [] cp) Γ (Γ1.set i (some (.b (.ol (ds ++ [d]))))) (dat .none) :=
  de_of (pe_bm PySem.F.plainAttrs_list PySem.F.slot_list_append PySem.F.type_list_append mt_append (pe_var hN hv hd hcd) (pa_one ha hs) hb hfew hline hs hpl) fun σ H Hf fps ok Q q => by
    obtain ⟨l, xs, h1, h2, h3⟩ := ol_at ok hg0
    refine ⟨_, h1, .inl ⟨rfl, _, SqL.of h2⟩, ?_⟩
    refine ⟨Hf, fps, ok, fun v Hf1 H1 fps1 f o1 r1 s1 => ?_⟩
    obtain ⟨l', ys, h1', h2', h3'⟩ := ol_at o1 hg
    rw [h1] at h1'
    cases h1'
    obtain ⟨rfl, hv1⟩ := r1.dv
    refine ⟨l, ys, v, rfl, rfl, h2', by rw [h3'.len]; exact hz, ?_⟩
    obtain ⟨fps2, o2, s2⟩ := o1.updL noHand hg h1 (h3'.app (.one hv1))
    exact q .non Hf1 _ fps2 [] o2 (Rs.dat .non) ((s1.trans s2).imp fun _ h => noR h)
def rExtendQ (K : PySem.W.Frag) : V → List V → Hp → VK → Prop := fun x vs H Q => ∃ l b xs zs, x = .ref l ∧ vs = [.ref b] ∧ H l = some (.lst xs) ∧ SqL K H b zs ∧ xs.length + zs.length ≤ sizeLine ∧ Q .non (upd H l (.lst (xs ++ zs)))
theorem extendW (l : Addr) (items : Array Value) (n : Nat) (b : Addr) (items2 : Array Value) (n2 : Nat) (dd : Option Addr) (sl : Array (Option Value)) (h0 : ¬(!items.isEmpty && Builtin.List.listTooLong (items.size + items2.size)) = true) (h1 : items.size ≤ sizeLine) (h2 : items.size + items2.size ≤ sizeLine + 1) :
    Meets (Builtin.«list.extend» ⟨[.ref l, .ref b], []⟩) (fun _ R s => s.heap.get? l = some { cls := .type "list", dict := none, data := .seq items n, slots := #[] } ∧ s.heap.get? b = some { cls := .type "list", dict := dd, data := .seq items2 n2, slots := sl } ∧ R (.ok (.ret Value.none)) { s with heap := s.heap.update l (Obj.mapSeq fun x => x ++ items2), toks := s.toks }) :=
  .of_wp fun prog w A R s h => by
    obtain ⟨hp, g, d, tk, os⟩ := s
    obtain ⟨hl, hb, h⟩ := h
    have f1 := AutoSeq1.idx_int
    have f3 := AutoSeq1.sub_list_list
    have hz' : (items ++ items2).size ≤ sizeLine + 1 := by rw [Array.size_append]; exact h2
    wp_walk using (wpAny_updateSeq hl rfl (hz := h1) (_hz' := hz')), wpAny_loadPart' hl, wpAny_loadPart' hb
    exact ⟨_, rfl, h⟩
theorem mt_extendQ : MtR X "list.extend" (rExtendQ X.K) := by
  intro pins s σ H x vs v us Q I rx rv h
  obtain ⟨l, b, xs, zs, rfl, rfl, hH, hB, hz, q⟩ := h
  cases rx
  obtain ⟨u, rfl, ru⟩ := rv.one
  cases ru
  obtain ⟨z, its, n, r, hl, e⟩ := I.lstM hH
  obtain ⟨its2, r2, ⟨⟨cls2, dd2, data2, sl2⟩, n2, ho2, hc2, hdn2, hd2⟩, _⟩ := I.list hB
  simp only at hc2 hd2 hdn2
  subst hc2 hd2 hdn2
  have hl2 := r2.length
  have hsz : its.toArray.size + its2.toArray.size ≤ sizeLine := by rw [List.size_toArray, List.size_toArray]; omega
  have hlong : ¬ (!its.toArray.isEmpty && Builtin.List.listTooLong (its.toArray.size + its2.toArray.size)) = true := by
    rw [notLongL hsz, Bool.and_false]
    exact Bool.false_ne_true
  refine call_meets PySem.F.slot_list_extend ⟨_, e, rfl⟩ PySem.F.entry_list_extend (PySem.F.args_list_extend_2 _ _)
    (extendW l its.toArray n b its2.toArray n2 none sl2 hlong (by rw [List.size_toArray]; omega) (by omega)) ⟨e, ho2, ?_⟩
  refine ⟨.non, _, I.lset (its' := its ++ its2) hH e (by simp) (r.append r2) ?_, rfl, q⟩
  rw [List.length_append]
  omega
/-- found.extend(a) -/
theorem de_extend (i : Nat) (hg0 : Γ[i]? = some (some (.b (.ol ds)))) (ha : DP X a Γ (.list ds')) (hz : ds.length + ds'.length ≤ sizeLine) (hN : X.N[i]? = some x := by rfl) (hv : Vis X.env.scope x := by first | exact Or.inl rfl | exact Or.inr (Or.inl rfl) | exact Or.inr (Or.inr rfl))
    (hd : (x == ("__debug__" : Str)) = false := by decide) (hcd : (x == ("__classdict__" : Str)) = false := by decide) (hb : BaseOk X (.Name x p1) "extend" := by rfl) (hfew : FewOk X [a] cp := by rfl) (hline : (ap.endLine == cp.line) = true := by rfl) (hs : NoStar X a [] := by rfl) (hpl : PlainOk X [] cp := by rfl) :
    DE X (.Call (.Attribute (.Name x p1) "extend" ap) [a] [] cp) Γ (Γ.set i (some (.b (.ol (ds ++ ds'))))) (dat .none) :=
  de_of (pe_bm PySem.F.plainAttrs_list PySem.F.slot_list_extend PySem.F.type_list_extend mt_extendQ (pe_var hN hv hd hcd) (pa_one ha hs) hb hfew hline hs hpl) fun σ H Hf fps ok Q q => by
    obtain ⟨l, xs, h1, h2, h3⟩ := ol_at ok hg0
    refine ⟨_, h1, .inl ⟨rfl, _, SqL.of h2⟩, ?_⟩
    refine ⟨Hf, fps, ok, fun v Hf1 H1 g1 hv1 => ?_⟩
    cases hv1 with
    | @lst b zs _ k1 k2 =>
      have o1 := ok.growG g1
      have h3' := DvAll.up g1.mono _ h3
      refine ⟨l, b, xs, zs, rfl, rfl, g1.all _ _ h2, Same.seq o1.sub k1, by rw [h3.len, k2.len]; exact hz, ?_⟩
      obtain ⟨fps2, o2, s2⟩ := o1.updL noHand hg0 h1 (h3'.app k2)
      exact q .non Hf1 _ fps2 [] o2 (Rs.dat .non) ((((g1.step (W := own fps)).imp fun _ h => noR h).trans s2).imp fun _ h => noR h)
/-- found.insert(n, k) -/
theorem de_insert (i : Nat) {k : Int} (hg : Γ[i]? = some (some (.b (.ol ds)))) (h0 : 0 ≤ k) (h1 : k < 2 ^ 63) (ha : DP X a Γ (.int k)) (hb' : DP X b Γ d) (hz : ds.length < sizeLine) (hN : X.N[i]? = some x := by rfl) (hv : Vis X.env.scope x := by first | exact Or.inl rfl | exact Or.inr (Or.inl rfl) | exact Or.inr (Or.inr rfl))
    (hd : (x == ("__debug__" : Str)) = false := by decide) (hcd : (x == ("__classdict__" : Str)) = false := by decide) (hb : BaseOk X (.Name x p1) "insert" := by rfl) (hfew : FewOk X [a, b] cp := by rfl) (hline : (ap.endLine == cp.line) = true := by rfl) (hs : NoStar X a [b] := by rfl) (hs2 : NoStar X b [] := by rfl) (hpl : PlainOk X [b] cp := by rfl) :
    DE X (.Call (.Attribute (.Name x p1) "insert" ap) [a, b] [] cp) Γ (Γ.set i (some (.b (.ol (ds.take k.toNat ++ [d] ++ ds.drop k.toNat))))) (dat .none) :=
  de_of (pe_bm PySem.F.plainAttrs_list PySem.F.slot_list_insert PySem.F.type_list_insert mt_insert (pe_var hN hv hd hcd) (da_cons ha (da_cons hb' da_nil hs2) hs) hb hfew hline hs hpl) fun σ H Hf fps ok Q q => by
    obtain ⟨l, xs, e1, h2, h3⟩ := ol_at ok hg
    refine ⟨_, e1, .inl ⟨rfl, _, SqL.of h2⟩, ?_⟩
    refine ⟨Hf, fps, ok, fun vs Hf1 H1 g1 hvs => ?_⟩
    cases hvs with
    | cons v1 w1 =>
      cases w1 with
      | cons v2 w2 =>
        cases w2
        cases v1
        have o1 := ok.growG g1
        have h3' := DvAll.up g1.mono _ h3
        refine ⟨l, xs, k, _, rfl, rfl, g1.all _ _ h2, by rw [h3.len]; exact hz, h0, h1, ?_⟩
        obtain ⟨fps2, o2, s2⟩ := o1.updL noHand hg e1 (((h3'.take k.toNat).app (.one v2)).app (h3'.drop k.toNat))
        exact q .non Hf1 _ fps2 [] o2 (Rs.dat .non) ((((g1.step (W := own fps)).imp fun _ h => noR h).trans s2).imp fun _ h => noR h)
end

/-! ### dicts are written -/
section
variable {κ : Type} [DecidableEq κ]
def putD (kvs : List (κ × PyData)) (k : κ) (d : PyData) : List (κ × PyData) :=
  if (kvs.any fun kv => decide (kv.1 = k)) = true then kvs.map (fun kv => if kv.1 = k then (kv.1, d) else kv) else kvs ++ [(k, d)]
def valG (kvs : List (κ × PyData)) (k : κ) : Option PyData := (kvs.find? fun kv => decide (kv.1 = k)).map (·.2)
theorem pair_any {K : PySem.W.Frag} {H : Hp} (k : κ) : ∀ {ws : List (κ × V)} {kvs : List (κ × PyData)}, Paired (fun p q => p.1 = q.1 ∧ Dv K H p.2 q.2) ws kvs → (ws.any fun kv => decide (kv.1 = k)) = (kvs.any fun kv => decide (kv.1 = k))
  | _, _, .nil => rfl
  | (j, v) :: ws, (j', d) :: kvs, .cons ⟨h1, _⟩ t => by
    have h1 : j = j' := h1
    subst h1
    rw [List.any_cons, List.any_cons, pair_any k t]
theorem pair_map {K : PySem.W.Frag} {H : Hp} {v : V} {d : PyData} (k : κ) (h : Dv K H v d) : ∀ {ws : List (κ × V)} {kvs : List (κ × PyData)}, Paired (fun p q => p.1 = q.1 ∧ Dv K H p.2 q.2) ws kvs →
    Paired (fun p q => p.1 = q.1 ∧ Dv K H p.2 q.2) (ws.map fun kv => if kv.1 = k then (kv.1, v) else kv) (kvs.map fun kv => if kv.1 = k then (kv.1, d) else kv)
  | _, _, .nil => .nil
  | (j, u) :: ws, (j', d') :: kvs, .cons ⟨h1, h2⟩ t => by
    have h1 : j = j' := h1
    subst h1
    rw [List.map_cons, List.map_cons]
    refine .cons ?_ (pair_map k h t)
    by_cases e : j = k
    · show _ ∧ _
      simp only [e, if_true]
      exact ⟨trivial, h⟩
    · show _ ∧ _
      simp only [e, if_false]
      exact ⟨trivial, h2⟩
theorem pair_app {α β : Type} {F : α → β → Prop} : ∀ {l l' : List α} {m m' : List β}, Paired F l m → Paired F l' m' → Paired F (l ++ l') (m ++ m')
  | _, _, _, _, .nil, h => h
  | _, _, _, _, .cons r t, h => .cons r (pair_app t h)
theorem pair_put {K : PySem.W.Frag} {H : Hp} {v : V} {d : PyData} {ws : List (κ × V)} {kvs : List (κ × PyData)} (k : κ) (h : Dv K H v d) (r : Paired (fun p q => p.1 = q.1 ∧ Dv K H p.2 q.2) ws kvs) : Paired (fun p q => p.1 = q.1 ∧ Dv K H p.2 q.2) (putK ws k v) (putD kvs k d) := by
  unfold putK putD
  rw [pair_any k r]
  split
  · exact pair_map k h r
  · exact pair_app r (.cons ⟨rfl, h⟩ .nil)
theorem pair_val {K : PySem.W.Frag} {H : Hp} (k : κ) : ∀ {ws : List (κ × V)} {kvs : List (κ × PyData)}, Paired (fun p q => p.1 = q.1 ∧ Dv K H p.2 q.2) ws kvs → (valV ws k = none ∧ valG kvs k = none) ∨ ∃ v d, valV ws k = some v ∧ valG kvs k = some d ∧ Dv K H v d
  | _, _, .nil => .inl ⟨rfl, rfl⟩
  | (j, v) :: ws, (j', d) :: kvs, .cons ⟨h1, h2⟩ t => by
    have h1 : j = j' := h1
    subst h1
    by_cases e : j = k
    · refine .inr ⟨v, d, valV_pos (p := (j, v)) e, ?_, h2⟩
      simp [valG, List.find?_cons, e]
    · have e2 : valG ((j, d) :: kvs) k = valG kvs k := by simp [valG, List.find?_cons, e]
      rw [valV_neg (p := (j, v)) e, e2]
      exact pair_val k t
end
section
variable {X : Cx} {e a b c o : Expr} {es : List Expr} {Γ Γ' Γ1 Γ2 : Ctx} {s s' : Sl} {d da db dc : PyData} {ds ds' ds0 : List PyData} {te ta tb : TE} {pos p1 ap cp tp : Pos} {i n : Nat} {x : Str} {st : Stmt} {rest sts : List Stmt} {p q : Po} {t : TS}
/-- an object at a slot that is replaced in place -/
theorem Ok.updO {P : Program} {w : World} {K : PySem.W.Frag} {Hf H : Hp} {σ : L2.St} {fps : Fps} {l : Addr} {u : HO} (ok : Ok P w K Hf H σ Γ fps) (hg : Γ[i]? = some (some s)) (hv : σ[i]? = some (some (.ref l))) (hf : fps i = [l]) (hs : SlOk P w K Hf (upd H l u) s' (.ref l) [l]) :
    ∃ fps', Ok P w K Hf (upd H l u) σ (Γ.set i (some s')) fps' ∧ Step (own fps) Hf H (own fps') Hf (upd H l u) := by
  obtain ⟨o2, s2⟩ := ok.updS (H1 := upd H l u) (s' := s') (f' := [l]) noHand hg hv hs (fun b hb => upd_ne fun z => hb (by rw [hf, z]; exact List.mem_singleton.mpr rfl))
    (fun b hb => by
      by_cases z : b = l
      · rw [z, upd_same]; simp
      · rw [upd_ne z]; exact hb) (by simp) fun a ha => .inl (by rw [hf]; exact ha)
  exact ⟨_, o2, ⟨fun b u hb => s2.keep b u fun z => hb (noR z), s2.mono, fun a ha => s2.own a fun z => ha (noR z), s2.there, fun a ha => (s2.new a ha).imp noR id⟩⟩
theorem dvs_keys {K : PySem.W.Frag} {H : Hp} : ∀ {k : List Key} {xs : List V}, DvAll K H xs (k.map kD) → xs = k.map kV
  | [], _, h => by cases h; rfl
  | j :: k, _, h => by
    rw [List.map_cons] at h
    cases h with
    | cons h1 h2 => rw [key_dv h1, dvs_keys h2]; rfl
theorem tup_keys {K : PySem.W.Frag} {H : Hp} {v : V} {k : List Key} (h : Dv K H v (.tuple (k.map kD))) : ∃ b, v = .ref b ∧ H b = some (.tup (k.map kV)) := by
  cases h with
  | tup h1 h2 => exact ⟨_, rfl, by rw [h1, dvs_keys h2]⟩
/-- a dict with tuples as keys, read -/
def tKT (P : Program) (w : World) (K : PySem.W.Frag) (Γ : Ctx) (kvs : List (List Key × PyData)) : TE := fun σ H Q => ∃ Hf fps, Ok P w K Hf H σ Γ fps ∧ ∀ a ws Hf' H', Grow Hf H Hf' H' → Rd H' a (.dT ws) → KtD K Hf' ws kvs → Q (.ref a) H'
abbrev DKT (X : Cx) (e : Expr) (Γ : Ctx) (kvs : List (List Key × PyData)) : Prop := PE X e (tKT X.prog X.w X.K Γ kvs)
theorem dt_own {kvs : List (List Key × PyData)} (hN : X.N[i]? = some x) (hv : Vis X.env.scope x) (hg : Γ[i]? = some (some (.b (.otd kvs)))) (hd : (x == ("__debug__" : Str)) = false := by decide) (hcd : (x == ("__classdict__" : Str)) = false := by decide) : DKT X (.Name x pos) Γ kvs :=
  ⟨fun pins s σ H Q I ⟨Hf, fps, ok, q⟩ => (pe_var hN hv hd hcd).run pins s σ H Q I (by
    obtain ⟨v, h1, a, ws, e1, e2, e3, e4⟩ := ok.sl i _ hg
    subst e1
    exact ⟨_, h1, q a ws Hf H .refl (.inl e3) e4⟩)⟩
theorem tKT_run {P : Program} {w : World} {K : PySem.W.Frag} {σ : L2.St} {Hf H : Hp} {fps : Fps} {Q : VK} {kvs : List (List Key × PyData)} (ok : Ok P w K Hf H σ Γ fps) (k : ∀ a ws Hf' H', Grow Hf H Hf' H' → Rd H' a (.dT ws) → KtD K Hf' ws kvs → Q (.ref a) H') : tKT P w K Γ kvs σ H Q := ⟨Hf, fps, ok, k⟩
theorem cm_inT {kvs : List (List Key × PyData)} {k : List Key} (hu : X.A.units + 1 < cLine) (ha : DP X a Γ (.tuple (k.map kD))) (hb : DKT X b Γ kvs) (hm : behindInMarks .In b = false := by rfl) : CM X .In a b Γ (valG kvs k).isSome :=
  cm_grow (pc_din hu ha hb) hm fun σ H Hf fps ok Q q => tD_run ok fun v Hf1 H1 g1 hv => tKT_run (ok.growG g1) fun l ws Hf2 H2 g2 h1 h2 => by
    obtain ⟨tb, rfl, htb⟩ := tup_keys hv
    refine ⟨l, valV ws k, rfl, .inr ⟨ws, k, tb, h1, rfl, g2.all _ _ ((ok.growG g1).sub _ _ htb), rfl⟩, ?_⟩
    have e : (valV ws k).isSome = (valG kvs k).isSome := by
      rcases pair_val k h2 with ⟨e1, e2⟩ | ⟨v, d, e1, e2, _⟩ <;> rw [e1, e2] <;> rfl
    rw [e]
    exact q _ Hf2 H2 (g1.trans g2) (.bl _)
theorem cm_notInT {kvs : List (List Key × PyData)} {k : List Key} (hu : X.A.units + 1 < cLine) (ha : DP X a Γ (.tuple (k.map kD))) (hb : DKT X b Γ kvs) (hm : behindInMarks .NotIn b = false := by rfl) : CM X .NotIn a b Γ (!(valG kvs k).isSome) :=
  cm_grow (pc_dnotin hu ha hb) hm fun σ H Hf fps ok Q q => tD_run ok fun v Hf1 H1 g1 hv => tKT_run (ok.growG g1) fun l ws Hf2 H2 g2 h1 h2 => by
    obtain ⟨tb, rfl, htb⟩ := tup_keys hv
    refine ⟨l, valV ws k, rfl, .inr ⟨ws, k, tb, h1, rfl, g2.all _ _ ((ok.growG g1).sub _ _ htb), rfl⟩, ?_⟩
    have e : (valV ws k).isSome = (valG kvs k).isSome := by
      rcases pair_val k h2 with ⟨e1, e2⟩ | ⟨v, d, e1, e2, _⟩ <;> rw [e1, e2] <;> rfl
    rw [e]
    exact q _ Hf2 H2 (g1.trans g2) (.bl _)
/-- found[k] = value, texts and ints the keys -/
theorem ws_dput (i : Nat) {kvs : List (Key × PyData)} {k : Key} (ha : DE X a Γ Γ1 (dat d)) (hg : Γ1[i]? = some (some (.b (.okd kvs)))) (hb : DP X b Γ1 (kD k)) (hz : kvs.length < sizeLine) (hu : X.A.units + 1 < cLine) (hr : WS X n rest (Γ1.set i (some (.b (.okd (putD kvs k d))))) p) (hN : X.N[i]? = some x := by rfl)
    (hv : Vis X.env.scope x := by first | exact Or.inl rfl | exact Or.inr (Or.inl rfl) | exact Or.inr (Or.inr rfl)) (hd : (x == ("__debug__" : Str)) = false := by decide) (hcd : (x == ("__classdict__" : Str)) = false := by decide)
    (hs : swapsWith a (some (.Subscript (.Name x p1) b tp)) pos.line X.env = pure false := by rfl) : WS X n (.Assign [.Subscript (.Name x p1) b tp] a pos :: rest) Γ p :=
  ws_of (pss_cons (ps_dput hu (pe_var hN hv hd hcd) hb ha hs) hr) fun D σ H Hf fps ok g => ⟨Hf, fps, ok, fun v Hf1 H1 fps1 f o1 r1 s1 => by
    obtain ⟨rfl, hv1⟩ := r1.dv
    obtain ⟨u, e1, l, ws, rfl, e2, e3, e4⟩ := o1.sl i _ hg
    refine ⟨_, e1, Hf1, fps1, o1, fun y Hf2 H2 g2 hy => ?_⟩
    have ey := key_dv hy
    subst ey
    have o2 := o1.growG g2
    refine ⟨l, _, rfl, DPut.k (g2.all _ _ e3) (by rw [kvD_len e4]; exact hz), ?_⟩
    obtain ⟨fps3, o3, s3⟩ := o2.updO (u := .dK (putK ws k v)) (s' := .b (.okd (putD kvs k d))) hg e1 e2 ⟨l, _, rfl, rfl, upd_same, pair_put k (Dv.up g2.mono _ hv1) (KvD.up g2.mono e4)⟩
    exact ⟨Hf2, fps3, o3, g.step (Rch.of (((s1.imp fun _ h => .inl h).trans g2.step).trans s3))⟩⟩
/-- found[k] = value, tuples of texts and ints the keys -/
theorem ws_dputT (i : Nat) {kvs : List (List Key × PyData)} {k : List Key} (ha : DE X a Γ Γ1 (dat d)) (hg : Γ1[i]? = some (some (.b (.otd kvs)))) (hb : DP X b Γ1 (.tuple (k.map kD))) (hz : kvs.length < sizeLine) (hu : X.A.units + 1 < cLine) (hr : WS X n rest (Γ1.set i (some (.b (.otd (putD kvs k d))))) p) (hN : X.N[i]? = some x := by rfl)
    (hv : Vis X.env.scope x := by first | exact Or.inl rfl | exact Or.inr (Or.inl rfl) | exact Or.inr (Or.inr rfl)) (hd : (x == ("__debug__" : Str)) = false := by decide) (hcd : (x == ("__classdict__" : Str)) = false := by decide)
    (hs : swapsWith a (some (.Subscript (.Name x p1) b tp)) pos.line X.env = pure false := by rfl) : WS X n (.Assign [.Subscript (.Name x p1) b tp] a pos :: rest) Γ p :=
  ws_of (pss_cons (ps_dput hu (pe_var hN hv hd hcd) hb ha hs) hr) fun D σ H Hf fps ok g => ⟨Hf, fps, ok, fun v Hf1 H1 fps1 f o1 r1 s1 => by
    obtain ⟨rfl, hv1⟩ := r1.dv
    obtain ⟨u, e1, l, ws, rfl, e2, e3, e4⟩ := o1.sl i _ hg
    refine ⟨_, e1, Hf1, fps1, o1, fun y Hf2 H2 g2 hy => ?_⟩
    have o2 := o1.growG g2
    obtain ⟨tb, rfl, htb⟩ := tup_keys hy
    refine ⟨l, _, rfl, DPut.t (g2.all _ _ e3) (o2.sub _ _ htb) (by rw [Paired.length e4]; exact hz), ?_⟩
    obtain ⟨fps3, o3, s3⟩ := o2.updO (u := .dT (putK ws k v)) (s' := .b (.otd (putD kvs k d))) hg e1 e2 ⟨l, _, rfl, rfl, upd_same, pair_put k (Dv.up g2.mono _ hv1) (KtD.up g2.mono e4)⟩
    exact ⟨Hf2, fps3, o3, g.step (Rch.of (((s1.imp fun _ h => .inl h).trans g2.step).trans s3))⟩⟩
end
end DL


set_option Elab.async false
set_option linter.all false
set_option maxRecDepth 100000
set_option maxHeartbeats 4000000
/-! DL7: defs, methods, objects. -/
namespace DL
open PySem PySem.Spec PyProof.Rows L2

/-! ### a def from data to data -/
def ctx0 (N : List Str) (ds : List PyData) : Ctx := ds.map (fun d => some (dat d)) ++ List.replicate (N.length - ds.length) none
theorem ctx0_at {N : List Str} {ds : List PyData} {i : Nat} {s : Sl} (h : (ctx0 N ds)[i]? = some (some s)) : ∃ d, ds[i]? = some d ∧ s = dat d := by
  unfold ctx0 at h
  by_cases hi : i < ds.length
  · rw [List.getElem?_append_left (by simpa using hi), List.getElem?_map] at h
    obtain ⟨d, h1, h2⟩ := Option.map_eq_some_iff.mp h
    cases h2
    exact ⟨d, h1, rfl⟩
  · rw [List.getElem?_append_right (by simpa using hi), List.getElem?_replicate] at h
    split at h <;> cases h
theorem st_at {N : List Str} {vs : List V} {i : Nat} {v : V} (h : vs[i]? = some v) : (L2.start N vs)[i]? = some (some v) := by
  have hi : i < vs.length := (List.getElem?_eq_some_iff.mp h).1
  unfold L2.start
  rw [List.getElem?_append_left (by simpa using hi), List.getElem?_map, h]
  rfl
theorem start_len {N : List Str} {vs : List V} : (L2.start N vs).length = vs.length + (N.length - vs.length) := by
  unfold L2.start
  rw [List.length_append, List.length_map, List.length_replicate]
section
variable {P : Program} {w : World} {K : PySem.W.Frag} {mg : Str → Option Value} {base : Heap} {x qual : Str} {params : Arguments} {body : List Stmt} {scope : Scope} {dvs : List V} {kws : List (Str × V)} {f : Addr} {fd : FuncData} {N ps : List Str} {k : Nat} {R : List PyData → PyData → Prop}
theorem ok_start {Hf H : Hp} {vs : List V} {ds : List PyData} (sub : Same Hf H) (h : DvAll K Hf vs ds) : Ok P w K Hf H (L2.start N vs) (ctx0 N ds) fun _ => [] where
  sub := sub
  len := by
    rw [start_len, h.len]
    unfold ctx0
    rw [List.length_append, List.length_map, List.length_replicate]
    exact Nat.le_refl _
  sl := fun i s e => by
    obtain ⟨d, h1, rfl⟩ := ctx0_at e
    obtain ⟨v, h2, h3⟩ := h.at h1
    exact ⟨v, st_at h2, rfl, h3⟩
  em := fun _ _ => rfl
  nd := fun _ => List.nodup_nil
  dj := fun _ _ _ h => (List.not_mem_nil h).elim
  nf := fun _ _ h => (List.not_mem_nil h).elim
/-- the context of a body -/
abbrev BX (P : Program) (w : World) (K : PySem.W.Frag) (mg : Str → Option Value) (base : Heap) (N : List Str) (qual : Str) (scope : Scope) (f : Addr) (cdv : Value) (A : Around) (outer : List Env) (s : Shared) (H : Hp) (E : XK) : Cx := (cxOf CX0 P w K mg base N qual scope f cdv A outer s H E).nox
theorem fn_D (F : FunD K x qual params body scope dvs kws f fd) (S : FnScope N ps scope) (hl : ∀ ds d, R ds d → ds.length = ps.length)
    (hb : ∀ (cdv : Value) (A : Around) (outer : List Env) (s : Shared) (H : Hp) (E : XK) (ds : List PyData) (d : PyData), Room k (A.deeper (envOfC qual scope s.heap.objs.size f cdv)) → R ds d →
      WS (BX P w K mg base N qual scope f cdv A outer s H E) ps.length body (ctx0 N ds) { nx := fun _ => d = .none, rt := fun _ r => r = dat d }) : FnOk P w K mg base CX0 (k + 1) f fd ps (spD K R) := by
  refine F.ok S (fun vs H Q E h => ?_) fun cdv A outer s H vs Q E hr h => ?_
  · obtain ⟨Hf, ds, d, _, h2, h3, _⟩ := h
    rw [h2.len]
    exact hl ds d h3
  · obtain ⟨Hf, ds, d, h1, h2, h3, h4⟩ := h
    refine ⟨_, PSs.nox (hb cdv A outer s H E ds d hr h3), Hf, fun _ => [], ok_start h1 h2, ?_⟩
    have emp : ∀ {Hf' H' : Hp} {σ σ' : L2.St} {W' : Addr → Prop}, Rch ps.length Hf H σ (own fun _ => []) Hf' H' σ' W' → Same Hf' H' → Grow Hf H Hf' H' := fun r s => ⟨fun b o hb => r.st.keep b o (fun ⟨_, z⟩ => List.not_mem_nil z) hb, r.st.mono, fun _ => s, fun a ha hn => r.st.own a (fun ⟨_, z⟩ => List.not_mem_nil z) ha hn⟩
    refine ⟨fun Γ' σ' Hf' H' fps' e o r => ?_, fun Γ' s' v f' σ' Hf' H' fps' e o r0 r => ?_, fun _ _ _ _ _ _ _ => True.intro⟩
    · exact h4 .non Hf' H' (emp r o.sub) (by rw [show d = .none from e]; exact .non)
    · have e : s' = dat d := e
      subst e
      exact h4 v Hf' H' (emp r o.sub) r0.dv.2
end

/-! ### a def that is given one thing of the caller's, to change it -/
/-- the i-th argument is the thing -/
def spO (P : Program) (w : World) (K : PySem.W.Frag) (R : List PyData → Sl → List PyData → Sl → PyData → Prop) : Sp := fun vs H Q _ => ∃ Hf ds1 s ds2 s' d vs1 v0 vs2 f, vs = vs1 ++ v0 :: vs2 ∧ Same Hf H ∧ DvAll K Hf vs1 ds1 ∧ DvAll K Hf vs2 ds2 ∧ SlOk P w K Hf H s v0 f ∧ f.Nodup ∧ (∀ a ∈ f, Hf a = none) ∧ R ds1 s ds2 s' d ∧
  ∀ v Hf' H' f', Same Hf' H' → Dv K Hf' v d → SlOk P w K Hf' H' s' v0 f' → f'.Nodup → (∀ a ∈ f', Hf' a = none) → Step (fun a => a ∈ f) Hf H (fun a => a ∈ f') Hf' H' → Q v H'
def ctxO (N : List Str) (ds1 : List PyData) (s : Sl) (ds2 : List PyData) : Ctx := ds1.map (fun d => some (dat d)) ++ some s :: ds2.map (fun d => some (dat d)) ++ List.replicate (N.length - (ds1.length + 1 + ds2.length)) none
section
variable {P : Program} {w : World} {K : PySem.W.Frag} {mg : Str → Option Value} {base : Heap} {x qual : Str} {params : Arguments} {body : List Stmt} {scope : Scope} {dvs : List V} {kws : List (Str × V)} {f : Addr} {fd : FuncData} {N ps : List Str} {k : Nat} {R : List PyData → Sl → List PyData → Sl → PyData → Prop}
theorem map_dat {ds : List PyData} {i : Nat} {s : Sl} (h : (ds.map fun d => some (dat d))[i]? = some (some s)) : ∃ d, ds[i]? = some d ∧ s = dat d := by
  rw [List.getElem?_map] at h
  obtain ⟨d, h1, h2⟩ := Option.map_eq_some_iff.mp h
  cases h2
  exact ⟨d, h1, rfl⟩
theorem ctxO_at {ds1 ds2 : List PyData} {s t : Sl} {i : Nat} (h : (ctxO N ds1 s ds2)[i]? = some (some t)) : (∃ d, ds1[i]? = some d ∧ t = dat d ∧ i < ds1.length) ∨ (i = ds1.length ∧ t = s) ∨ ∃ d j, i = ds1.length + 1 + j ∧ ds2[j]? = some d ∧ t = dat d := by
  unfold ctxO at h
  rw [List.append_assoc] at h
  by_cases h1 : i < ds1.length
  · rw [List.getElem?_append_left (by simpa using h1)] at h
    obtain ⟨d, e1, e2⟩ := map_dat h
    exact .inl ⟨d, e1, e2, h1⟩
  · rw [List.getElem?_append_right (by simpa using h1), List.length_map, List.cons_append] at h
    cases e : i - ds1.length with
    | zero =>
      rw [e, List.getElem?_cons_zero] at h
      cases h
      exact .inr (.inl ⟨by omega, rfl⟩)
    | succ j =>
      rw [e, List.getElem?_cons_succ] at h
      by_cases h2 : j < ds2.length
      · rw [List.getElem?_append_left (by simpa using h2)] at h
        obtain ⟨d, e1, e2⟩ := map_dat h
        exact .inr (.inr ⟨d, j, by omega, e1, e2⟩)
      · rw [List.getElem?_append_right (by simpa using h2), List.getElem?_replicate] at h
        split at h <;> cases h
theorem ctxO_len {ds1 ds2 : List PyData} {s : Sl} : (ctxO N ds1 s ds2).length = ds1.length + 1 + ds2.length + (N.length - (ds1.length + 1 + ds2.length)) := by
  unfold ctxO
  simp only [List.length_append, List.length_cons, List.length_map, List.length_replicate]
  omega
theorem ok_startO {Hf H : Hp} {vs1 vs2 : List V} {v0 : V} {ds1 ds2 : List PyData} {s : Sl} {g : List Addr} (sub : Same Hf H) (h1 : DvAll K Hf vs1 ds1) (h2 : DvAll K Hf vs2 ds2) (hs : SlOk P w K Hf H s v0 g) (nd : g.Nodup) (nf : ∀ a ∈ g, Hf a = none) :
    Ok P w K Hf H (L2.start N (vs1 ++ v0 :: vs2)) (ctxO N ds1 s ds2) fun i => if i = ds1.length then g else [] where
  sub := sub
  len := by
    rw [start_len, ctxO_len, List.length_append, List.length_cons, h1.len, h2.len]
    omega
  sl := fun i t e => by
    rcases ctxO_at e with ⟨d, e1, rfl, hi⟩ | ⟨rfl, rfl⟩ | ⟨d, j, rfl, e1, rfl⟩
    · obtain ⟨v, q1, q2⟩ := h1.at e1
      refine ⟨v, st_at ?_, ?_⟩
      · rw [List.getElem?_append_left (by rw [h1.len]; exact hi)]; exact q1
      · rw [if_neg (by omega)]; exact ⟨rfl, q2⟩
    · refine ⟨v0, st_at ?_, ?_⟩
      · rw [List.getElem?_append_right (by rw [h1.len]; exact Nat.le_refl _), h1.len, Nat.sub_self]; rfl
      · rw [if_pos rfl]; exact hs
    · obtain ⟨v, q1, q2⟩ := h2.at e1
      refine ⟨v, st_at ?_, ?_⟩
      · rw [List.getElem?_append_right (by rw [h1.len]; omega), h1.len, show ds1.length + 1 + j - ds1.length = j + 1 by omega, List.getElem?_cons_succ]; exact q1
      · rw [if_neg (by omega)]; exact ⟨rfl, q2⟩
  em := fun i h => by
    by_cases hi : i = ds1.length
    · refine absurd ?_ (h s)
      unfold ctxO
      rw [List.append_assoc, List.getElem?_append_right (by simp [hi]), List.length_map, hi, Nat.sub_self]
      rfl
    · rw [if_neg hi]
  nd := fun i => by
    split
    · exact nd
    · exact List.nodup_nil
  dj := fun i j a h1 h2 => by
    split at h1
    · split at h2
      · omega
      · cases h2
    · cases h1
  nf := fun i a h => by
    split at h
    · exact nf a h
    · cases h
theorem fn_O (F : FunD K x qual params body scope dvs kws f fd) (S : FnScope N ps scope) (hl : ∀ ds1 s ds2 s' d, R ds1 s ds2 s' d → ds1.length + 1 + ds2.length = ps.length)
    (hb : ∀ (cdv : Value) (A : Around) (outer : List Env) (s : Shared) (H : Hp) (E : XK) (ds1 : List PyData) (t : Sl) (ds2 : List PyData) (t' : Sl) (d : PyData), Room k (A.deeper (envOfC qual scope s.heap.objs.size f cdv)) → R ds1 t ds2 t' d →
      WS (BX P w K mg base N qual scope f cdv A outer s H E) ps.length body (ctxO N ds1 t ds2) { nx := fun Γ => d = .none ∧ Γ[ds1.length]? = some (some t'), rt := fun Γ r => r = dat d ∧ Γ[ds1.length]? = some (some t') }) : FnOk P w K mg base CX0 (k + 1) f fd ps (spO P w K R) := by
  refine F.ok S (fun vs H Q E h => ?_) fun cdv A outer s H vs Q E hr h => ?_
  · obtain ⟨Hf, ds1, t, ds2, t', d, vs1, v0, vs2, g, rfl, _, h1, h2, _, _, _, h3, _⟩ := h
    rw [List.length_append, List.length_cons, h1.len, h2.len]
    have := hl _ _ _ _ _ h3
    omega
  · obtain ⟨Hf, ds1, t, ds2, t', d, vs1, v0, vs2, g, rfl, sub, h1, h2, hs, nd, nf, h3, q⟩ := h
    refine ⟨_, PSs.nox (hb cdv A outer s H E ds1 t ds2 t' d hr h3), Hf, _, ok_startO sub h1 h2 hs nd nf, ?_⟩
    have hn : ds1.length < ps.length := by have := hl _ _ _ _ _ h3; omega
    have v00 : (L2.start N (vs1 ++ v0 :: vs2))[ds1.length]? = some (some v0) := st_at (by
      rw [List.getElem?_append_right (by rw [h1.len]; exact Nat.le_refl _), h1.len, Nat.sub_self]; rfl)
    have wg : ∀ a, own (fun i => if i = ds1.length then g else []) a → a ∈ g := fun a ⟨i, hi⟩ => by
      have hi : a ∈ (if i = ds1.length then g else []) := hi
      split at hi
      · exact hi
      · cases hi
    have gw : ∀ a, a ∈ g → own (fun i => if i = ds1.length then g else []) a := fun a ha => ⟨ds1.length, by show a ∈ (if ds1.length = ds1.length then g else []); rw [if_pos rfl]; exact ha⟩
    have fin : ∀ {Γ' : Ctx} {σ' : L2.St} {Hf' H' : Hp} {fps' : Fps} {W' : Addr → Prop} {v : V}, Γ'[ds1.length]? = some (some t') → Ok P w K Hf' H' σ' Γ' fps' → Rch ps.length Hf H (L2.start N (vs1 ++ v0 :: vs2)) (own fun i => if i = ds1.length then g else []) Hf' H' σ' W' → (∀ a, own fps' a → W' a) → Dv K Hf' v d → Q v H' := fun {Γ' σ' Hf' H' fps' W' v} hg o r hw hv => by
      obtain ⟨u, e1, e2⟩ := o.sl _ _ hg
      rw [r.kp _ hn, v00] at e1
      cases e1
      exact q v Hf' H' (fps' ds1.length) o.sub hv e2 (o.nd _) (fun a ha => o.nf _ a ha) ⟨fun b u n => r.st.keep b u fun z => n (wg b z), r.st.mono, fun a n => r.st.own a fun z => n (wg a z), r.st.there, fun a ha => (r.st.new a (hw a ⟨_, ha⟩)).imp (wg a) id⟩
    refine ⟨fun Γ' σ' Hf' H' fps' e o r => ?_, fun Γ' s' v f' σ' Hf' H' fps' e o r0 r => ?_, fun _ _ _ _ _ _ _ => True.intro⟩
    · exact fin e.2 o r (fun _ h => h) (by rw [e.1]; exact .non)
    · obtain ⟨e1, e2⟩ := e
      subst e1
      exact fin e2 o r (fun _ h => .inl h) r0.dv.2
end
end DL


set_option Elab.async false
set_option linter.all false
set_option maxRecDepth 100000
set_option maxHeartbeats 4000000
/-! DL8: calls that change a thing; objects made; fields written. -/
namespace DL
open PySem PySem.Spec PyProof.Rows L2

section
variable {P : Program} {w : World} {K : PySem.W.Frag} {Hf H Hf' H' : Hp} {σ : L2.St} {Γ : Ctx} {fps : Fps} {i : Nat} {s s' : Sl} {v0 : V} {f' : List Addr}
/-- what stands at a slot was changed by a callee -/
theorem Ok.stepAt (o : Ok P w K Hf H σ Γ fps) (e : Γ[i]? = some (some s)) (hv : σ[i]? = some (some v0)) (st : Step (fun a => a ∈ fps i) Hf H (fun a => a ∈ f') Hf' H') (sub : Same Hf' H') (hs : SlOk P w K Hf' H' s' v0 f') (nd : f'.Nodup) (nf : ∀ a ∈ f', Hf' a = none) :
    Ok P w K Hf' H' σ (Γ.set i (some s')) (fun j => if j = i then f' else fps j) ∧ Step (own fps) Hf H (own fun j => if j = i then f' else fps j) Hf' H' := by
  have hi : i < Γ.length := (List.getElem?_eq_some_iff.mp e).1
  have out : ∀ j a, a ∈ fps j → j ≠ i → a ∉ fps i := fun j a ha hj z => hj (o.dj j i a ha z)
  have apart : ∀ j a, a ∈ fps j → j ≠ i → a ∉ f' := fun j a ha hj z => by
    rcases st.new a z with q | q
    · exact out j a ha hj q
    · exact o.there ha q
  refine ⟨⟨sub, by rw [List.length_set]; exact o.len, fun j t q => ?_, fun j q => ?_, fun j => ?_, fun j k a h1 h2 => ?_, fun j a h1 => ?_⟩, ⟨fun b u n h => st.keep b u (fun z => n ⟨i, z⟩) h, st.mono, fun a n h => st.own a (fun z => n ⟨i, z⟩) h, st.there, fun a ⟨j, hj⟩ => ?_⟩⟩
  · by_cases hj : j = i
    · subst hj
      rw [List.getElem?_set_self hi] at q
      cases q
      rw [if_pos rfl]
      exact ⟨v0, hv, hs⟩
    · rw [List.getElem?_set_ne (Ne.symm hj)] at q
      rw [if_neg hj]
      obtain ⟨u, h1, h2⟩ := o.sl j t q
      exact ⟨u, h1, h2.step st fun a ha => out j a ha hj⟩
  · by_cases hj : j = i
    · subst hj
      exact absurd (List.getElem?_set_self hi) (q s')
    · rw [if_neg hj]
      refine o.em j fun t z => q t ?_
      rw [List.getElem?_set_ne (Ne.symm hj)]
      exact z
  · by_cases hj : j = i
    · rw [if_pos hj]; exact nd
    · rw [if_neg hj]; exact o.nd j
  · by_cases hj : j = i <;> by_cases hk : k = i
    · rw [hj, hk]
    · rw [if_pos hj] at h1
      rw [if_neg hk] at h2
      exact (apart k a h2 hk h1).elim
    · rw [if_neg hj] at h1
      rw [if_pos hk] at h2
      exact (apart j a h1 hj h2).elim
    · rw [if_neg hj] at h1
      rw [if_neg hk] at h2
      exact o.dj j k a h1 h2
  · by_cases hj : j = i
    · rw [if_pos hj] at h1; exact nf a h1
    · rw [if_neg hj] at h1
      exact st.own a (out j a h1 hj) (o.nf j a h1) (o.mut h1)
  · have hj : a ∈ (if j = i then f' else fps j) := hj
    by_cases q : j = i
    · rw [if_pos q] at hj
      exact (st.new a hj).imp (fun z => ⟨i, z⟩) id
    · rw [if_neg q] at hj
      exact .inl ⟨j, hj⟩
end

/-! ### calls -/
section
variable (P : Program) (w : World) (K : PySem.W.Frag)
/-- arguments, one of them the thing at slot i -/
def tAo (Γ : Ctx) (ds1 : List PyData) (i : Nat) (ds2 : List PyData) : TA := fun σ H Q => ∃ Hf fps, Ok P w K Hf H σ Γ fps ∧ ∃ v0, σ[i]? = some (some v0) ∧ ∀ vs1 vs2 Hf' H', Grow Hf H Hf' H' → DvAll K Hf' vs1 ds1 → DvAll K Hf' vs2 ds2 → Q (vs1 ++ v0 :: vs2) H'
end
abbrev DAo (X : Cx) (es : List Expr) (Γ : Ctx) (ds1 : List PyData) (i : Nat) (ds2 : List PyData) : Prop := PA X es (tAo X.prog X.w X.K Γ ds1 i ds2)
section
variable {X : Cx} {e a b c o : Expr} {es : List Expr} {Γ Γ' Γ1 Γ2 : Ctx} {s s' : Sl} {d da db dc : PyData} {ds ds1 ds2 ds' ds0 : List PyData} {te ta tb : TE} {pos p1 ap cp tp pp : Pos} {i n k : Nat} {x y m : Str} {st : Stmt} {rest sts : List Stmt} {p q : Po} {t : TS} {ps : List Str}
theorem dao_here (i : Nat) (ha : DA X es Γ ds2) (hg : Γ[i]? = some (some s)) (hN : X.N[i]? = some x := by rfl) (hv : Vis X.env.scope x := by first | exact Or.inl rfl | exact Or.inr (Or.inl rfl) | exact Or.inr (Or.inr rfl)) (hd : (x == ("__debug__" : Str)) = false := by decide) (hcd : (x == ("__classdict__" : Str)) = false := by decide)
    (hs : NoStar X (.Name x p1) es := by rfl) : DAo X (.Name x p1 :: es) Γ [] i ds2 :=
  ⟨fun pos pins s σ H Q I ⟨Hf, fps, ok, v0, e0, q⟩ => (pa_cons (pe_var hN hv hd hcd) ha hs).run pos pins s σ H Q I ⟨v0, e0, tA_run ok fun vs Hf' H' g h => q [] vs Hf' H' g .nil h⟩⟩
theorem dao_cons (ha : DP X e Γ d) (hr : DAo X es Γ ds1 i ds2) (hs : NoStar X e es := by rfl) : DAo X (e :: es) Γ (d :: ds1) i ds2 :=
  ⟨fun pos pins s σ H Q I ⟨Hf, fps, ok, v0, e0, q⟩ => (pa_cons ha hr hs).run pos pins s σ H Q I (tD_run ok fun v Hf1 H1 g1 hv => ⟨Hf1, fps, ok.growG g1, v0, e0, fun vs1 vs2 Hf2 H2 g2 h1 h2 => q (v :: vs1) vs2 Hf2 H2 (g1.trans g2) (.cons (Dv.up g2.mono _ hv) h1) h2⟩)⟩
variable {R : List PyData → Sl → List PyData → Sl → PyData → Prop}
/-- the reading of such a call -/
theorem callO {σ : L2.St} {H Hf : Hp} {fps : Fps} {Q : VK} (ok : Ok X.prog X.w X.K Hf H σ Γ fps) (hR : R ds1 s ds2 s' d) (hg : Γ[i]? = some (some s)) {vs1 vs2 : List V} {v0 : V} (hv : σ[i]? = some (some v0)) (h1 : DvAll X.K Hf vs1 ds1) (h2 : DvAll X.K Hf vs2 ds2)
    (q : ∀ v Hf' H' fps' f, Ok X.prog X.w X.K Hf' H' σ (Γ.set i (some s')) fps' → Rs X.prog X.w X.K Hf' H' (dat d) v f fps' → Step (own fps) Hf H (ownR fps' f) Hf' H' → Q v H') : spO X.prog X.w X.K R (vs1 ++ v0 :: vs2) H Q E0 := by
  obtain ⟨u, e1, e2⟩ := ok.sl i s hg
  rw [hv] at e1
  cases e1
  refine ⟨Hf, ds1, s, ds2, s', d, vs1, v0, vs2, fps i, rfl, ok.sub, h1, h2, e2, ok.nd i, fun a ha => ok.nf i a ha, hR, fun v Hf' H' f' sub hv' hs nd nf st => ?_⟩
  obtain ⟨o2, s2⟩ := ok.stepAt hg hv st sub hs nd nf
  exact q v Hf' H' _ [] o2 (Rs.dat hv') (s2.imp fun _ h => noR h)
/-- f(.., x, ..), x the thing -/
theorem de_callO (F : XFn X k x ps (spO X.prog X.w X.K R)) (hr : Room k X.A) (hR : R ds1 s ds2 s' d) (ha : DAo X (e :: es) Γ ds1 i ds2) (hi : Γ[i]? = some (some s)) (hg : Gl X x := by rfl) (hdb : (x == ("__debug__" : Str)) = false := by decide) (he : NoStar X e es := by rfl) (hpl : PlainOk X es pos := by rfl) :
    DE X (.Call (.Name x pp) (e :: es) [] pos) Γ (Γ.set i (some s')) (dat d) := by
  obtain ⟨f, fd, F, hm, hk, hb⟩ := F.ex
  refine de_of (pe_call F hr hg hm hk hb .nil pass0 ha hdb he hpl) fun σ H Hf fps ok Q q => ?_
  obtain ⟨v0, e0, _⟩ := ok.sl i s hi
  refine ⟨Hf, fps, ok, v0, e0, fun vs1 vs2 Hf1 H1 g1 h1 h2 => ?_⟩
  show spO X.prog X.w X.K R ((vs1 ++ v0 :: vs2) ++ []) H1 Q E0
  rw [List.append_nil]
  exact callO (ok.growG g1) hR hi e0 h1 h2 fun v Hf' H' fps' f o r st => q v Hf' H' fps' f o r (g1.step.trans st)

/-! ### objects -/
/-- a method that keeps a promise by at most level k -/
structure DMe (P : Program) (w : World) (K : PySem.W.Frag) (mg : Str → Option Value) (base : Heap) (k : Nat) (C : Addr) (m : Str) (ps : List Str) (sp : Sp) : Prop where
  cls : Cls K C
  ex : ∃ f fd, FnOk P w K mg base CX0 k f fd ps sp ∧ Meth K C m f ∧ Binds K fd ps []
abbrev XMe (X : Cx) (k : Nat) (C : Addr) (m : Str) (ps : List Str) (sp : Sp) : Prop := DMe X.prog X.w X.K X.mg X.base k C m ps sp
theorem fs_none {P : Program} {w : World} {K : PySem.W.Frag} {Hf H : Hp} {f : Str} : ∀ {vs : List (Str × V)} {fs : List (Str × Bs)} {fps : List (List Addr)}, FsOk P w K Hf H vs fs fps → fs.lookup f = none → vs.lookup f = none
  | _, _, _, .nil, h => rfl
  | _, _, _, .cons (f := g) (v := v) (x := z) (vs := vs) (fs := fs) h1 t, h => by
    have h' : (match f == g with | true => some z | false => fs.lookup f) = none := h
    show (match f == g with | true => some v | false => vs.lookup f) = none
    cases q : f == g with
    | true => rw [q] at h'; cases h'
    | false =>
      rw [q] at h'
      exact fs_none t h'
variable {C : Addr} {fs fs' : List (Str × Bs)}
abbrev MethTree (X : Cx) (o : Expr) (m : Str) (apos pos : Pos) (es : List Expr) (pl : Sem Bool) : Prop := eval (.Call (.Attribute o m apos) es [] pos) X.env = (do
      let ov ← eval o X.env
      standAt apos.atName
      let (f, first) ← holding [ov] (getMethod ov m pl)
      callWith pos f first (backTo pos (starEach es X.env)) (backToKw pos (keywordEach [] X.env)))
/-- x.m(e, ..) -/
theorem de_meth {pl : Sem Bool} (i : Nat) (F : XMe X k C m ps (spO X.prog X.w X.K R)) (hr : Room k X.A) (hR : R [] (.o C fs) ds s' d) (hi : Γ[i]? = some (some (.o C fs))) (hl : fs.lookup m = none) (ha : DA X (e :: es) Γ ds) (hN : X.N[i]? = some x := by rfl)
    (hv : Vis X.env.scope x := by first | exact Or.inl rfl | exact Or.inr (Or.inl rfl) | exact Or.inr (Or.inr rfl)) (hd : (x == ("__debug__" : Str)) = false := by decide) (hcd : (x == ("__classdict__" : Str)) = false := by decide) (he : NoStar X e es := by rfl) (hpl : PlainOk X es pos := by rfl) (ht : MethTree X (.Name x p1) m ap pos (e :: es) pl := by rfl) :
    DE X (.Call (.Attribute (.Name x p1) m ap) (e :: es) [] pos) Γ (Γ.set i (some s')) (dat d) := by
  obtain ⟨f, fd, F', hm, hb⟩ := F.ex
  refine de_of (pe_meth (pl := pl) (pe_var hN hv hd hcd) F.cls hm F' hr hb .nil pass0 ha he hpl ht) fun σ H Hf fps ok Q q => ?_
  obtain ⟨v0, e0, a, dx, fvs, fpl, e1, e2, e3, e4⟩ := ok.sl i _ hi
  subst e1
  refine ⟨_, e0, a, dx, fvs, rfl, e3, fs_none e4 hl, tA_run ok fun vs Hf1 H1 g1 h1 => ?_⟩
  rw [List.append_nil]
  exact callO (vs1 := []) (ok.growG g1) hR hi e0 .nil h1 fun v Hf' H' fps' f o r st => q v Hf' H' fps' f o r (g1.step.trans st)
/-- x.m() -/
theorem de_meth0 {pl : Sem Bool} (i : Nat) (F : XMe X k C m ps (spO X.prog X.w X.K R)) (hr : Room k X.A) (hR : R [] (.o C fs) [] s' d) (hi : Γ[i]? = some (some (.o C fs))) (hl : fs.lookup m = none) (hN : X.N[i]? = some x := by rfl)
    (hv : Vis X.env.scope x := by first | exact Or.inl rfl | exact Or.inr (Or.inl rfl) | exact Or.inr (Or.inr rfl)) (hd : (x == ("__debug__" : Str)) = false := by decide) (hcd : (x == ("__classdict__" : Str)) = false := by decide) (ht : MethTree X (.Name x p1) m ap pos [] pl := by rfl) :
    DE X (.Call (.Attribute (.Name x p1) m ap) [] [] pos) Γ (Γ.set i (some s')) (dat d) := by
  obtain ⟨f, fd, F', hm, hb⟩ := F.ex
  refine de_of (pe_meth0 (pl := pl) (pe_var hN hv hd hcd) F.cls hm F' hr hb .nil pass0 ht) fun σ H Hf fps ok Q q => ?_
  obtain ⟨v0, e0, a, dx, fvs, fpl, e1, e2, e3, e4⟩ := ok.sl i _ hi
  subst e1
  refine ⟨_, e0, a, dx, fvs, rfl, e3, fs_none e4 hl, ?_⟩
  exact callO (vs1 := []) (vs2 := []) ok hR hi e0 .nil .nil q
/-- a method that only reads -/
def spRd (P : Program) (w : World) (K : PySem.W.Frag) (R : Sl → PyData → Prop) : Sp := fun vs H Q _ => ∃ Hf s d v0 f, vs = [v0] ∧ Same Hf H ∧ SlOk P w K Hf H s v0 f ∧ f.Nodup ∧ (∀ a ∈ f, Hf a = none) ∧ R s d ∧ ∀ v Hf' H', Grow Hf H Hf' H' → Dv K Hf' v d → Q v H'
theorem dp_meth0 {pl : Sem Bool} {R : Sl → PyData → Prop} (i : Nat) (F : XMe X k C m ps (spRd X.prog X.w X.K R)) (hr : Room k X.A) (hR : R (.o C fs) d) (hi : Γ[i]? = some (some (.o C fs))) (hl : fs.lookup m = none) (hN : X.N[i]? = some x := by rfl)
    (hv : Vis X.env.scope x := by first | exact Or.inl rfl | exact Or.inr (Or.inl rfl) | exact Or.inr (Or.inr rfl)) (hd : (x == ("__debug__" : Str)) = false := by decide) (hcd : (x == ("__classdict__" : Str)) = false := by decide) (ht : MethTree X (.Name x p1) m ap pos [] pl := by rfl) :
    DP X (.Call (.Attribute (.Name x p1) m ap) [] [] pos) Γ d := by
  obtain ⟨f, fd, F', hm, hb⟩ := F.ex
  refine dp_grow (pe_meth0 (pl := pl) (pe_var hN hv hd hcd) F.cls hm F' hr hb .nil pass0 ht) fun σ H Hf fps ok Q q => ?_
  obtain ⟨v0, e0, hs⟩ := ok.sl i _ hi
  obtain ⟨a, dx, fvs, fpl, e1, e2, e3, e4⟩ := id hs
  subst e1
  exact ⟨_, e0, a, dx, fvs, rfl, e3, fs_none e4 hl, Hf, .o C fs, d, .ref a, fps i, rfl, ok.sub, hs, ok.nd i, fun b hb => ok.nf i b hb, hR, fun v Hf' H' g hv => q v Hf' H' g hv⟩
/-- C(e, ..) -/
structure DMk (P : Program) (w : World) (K : PySem.W.Frag) (mg : Str → Option Value) (base : Heap) (k : Nat) (x : Str) (C : Addr) (ps : List Str) (sp : Sp) : Prop where
  ex : ∃ f fd, FnOk P w K mg base CX0 k f fd ps sp ∧ Mk K C f ∧ Binds K fd ps [] ∧ mg x = some (.ref C)
theorem de_make (F : DMk X.prog X.w X.K X.mg X.base k x C ps (spO X.prog X.w X.K R)) (hr : Room (k + 1) X.A) (hR : R [] (.o C []) ds s' .none) (ha : DA X (e :: es) Γ ds) (hg : Gl X x := by rfl) (hdb : (x == ("__debug__" : Str)) = false := by decide) (he : NoStar X e es := by rfl) (hpl : PlainOk X es pos := by rfl) :
    DE X (.Call (.Name x pp) (e :: es) [] pos) Γ Γ s' := by
  obtain ⟨f, fd, F, hmk, hb, hm⟩ := F.ex
  refine de_of (pe_make hmk F hr hg hm hb .nil pass0 ha hdb he hpl) fun σ H Hf fps ok Q q => tA_run ok fun vs Hf1 H1 g1 h1 => ?_
  intro a dx na ndx ne
  rw [List.append_nil]
  have ok1 := ok.growG g1
  have nb : ∀ b, H1 b ≠ none → b ≠ a ∧ b ≠ dx := fun b hb => ⟨fun z => hb (by rw [z]; exact na), fun z => hb (by rw [z]; exact ndx)⟩
  have up : ∀ b, H1 b ≠ none → upd (upd H1 dx (.own a)) a (.ins C dx []) b = H1 b := fun b hb => by rw [upd_ne (nb b hb).1, upd_ne (nb b hb).2]
  have sub1 : Same Hf1 (upd (upd H1 dx (.own a)) a (.ins C dx [])) := fun b u hb => by
    have := ok1.sub b u hb
    rw [up b (by rw [this]; simp)]
    exact this
  have fa : Hf1 a = none := Same.freeF ok1.sub na
  refine ⟨Hf1, [], .o C [], ds, s', .none, [], .ref a, vs, [a], rfl, sub1, .nil, h1, ⟨a, dx, [], [], rfl, rfl, upd_same, .nil⟩, by simp, fun b hb => by rw [List.mem_singleton.mp hb]; exact fa, hR, fun v Hf' H' f' sub' hv hs nd nf st => ?_⟩
  have hvn : v = .non := by cases hv; rfl
  refine ⟨hvn, ?_⟩
  have st1 : Step (own fps) Hf1 H1 (fun b => own fps b ∨ b = a) Hf1 (upd (upd H1 dx (.own a)) a (.ins C dx [])) := ⟨fun b u _ hb => by rw [up b (by rw [hb]; simp)]; exact hb, Same.refl _, fun _ _ h _ => h, fun b hb => by rw [up b hb]; exact hb, fun b hb => hb.imp id fun z => by rw [z]; exact na⟩
  have own1 : ∀ j b, b ∈ fps j → b ∉ f' := fun j b hb z => by
    have hn := ok1.there hb
    rcases st.new b z with w | w
    · exact (nb b hn).1 (List.mem_singleton.mp w)
    · rw [up b hn] at w; exact hn w
  have okk : Ok X.prog X.w X.K Hf' H' σ Γ fps := ok1.grow st.mono sub' (fun b ⟨j, hb⟩ => by
    have hn := ok1.there hb
    cases e : H1 b with
    | none => exact absurd e hn
    | some u => rw [st.keep b u (fun z => (nb b hn).1 (List.mem_singleton.mp z)) (by rw [up b hn]; exact e)]) fun b ⟨j, hb⟩ => st.own b (fun z => (nb b (ok1.there hb)).1 (List.mem_singleton.mp z)) (ok1.nf j b hb) (by rw [up b (ok1.there hb)]; exact ok1.mut hb)
  refine q (.ref a) Hf' H' fps f' okk ⟨hs, nd, nf, fun b hb j hj => own1 j b hj hb⟩ (g1.step.trans (st1.trans ⟨fun b u n hb => st.keep b u (fun z => n (.inr (List.mem_singleton.mp z))) hb, st.mono, fun b n hb => st.own b (fun z => n (.inr (List.mem_singleton.mp z))) hb, st.there, fun b hb => ?_⟩))
  rcases hb with hb | hb
  · exact .inl (.inl hb)
  · exact (st.new b hb).imp (fun z => .inr (List.mem_singleton.mp z)) id
end
end DL


set_option Elab.async false
set_option linter.all false
set_option maxRecDepth 100000
set_option maxHeartbeats 4000000
/-! DL9: fields written; results that are owned; bodies that only read. -/
namespace DL
open PySem PySem.Spec PyProof.Rows L2

def putB (f : Str) (y : Bs) : List (Str × Bs) → List (Str × Bs)
  | [] => [(f, y)]
  | (g, z) :: r => if g = f then (g, y) :: r else (g, z) :: putB f y r
section
variable {P : Program} {w : World} {K : PySem.W.Frag} {Hf H H1 : Hp} {f : Str} {y y0 : Bs} {v : V} {fp : List Addr}
theorem fs_len : ∀ {vs : List (Str × V)} {fs : List (Str × Bs)} {fps : List (List Addr)}, FsOk P w K Hf H vs fs fps → vs.length = fs.length
  | _, _, _, .nil => rfl
  | _, _, _, .cons _ t => congrArg Nat.succ (fs_len t)
theorem fs_put (h : BsOk P w K Hf H1 y v fp) (nd : fp.Nodup) : ∀ {vs : List (Str × V)} {fs : List (Str × Bs)} {fps : List (List Addr)}, FsOk P w K Hf H vs fs fps → (∀ a ∈ fps.flatten, H1 a = H a) → fps.flatten.Nodup → (∀ a ∈ fp, a ∉ fps.flatten) →
    ∃ fps', FsOk P w K Hf H1 (putF f v vs) (putB f y fs) fps' ∧ fps'.flatten.Nodup ∧ ∀ a ∈ fps'.flatten, a ∈ fps.flatten ∨ a ∈ fp
  | _, _, _, .nil, _, _, _ => ⟨[fp], .cons h .nil, by simpa using nd, fun a ha => .inr (by simpa using ha)⟩
  | _, _, _, .cons (f := g) (v := u) (x := z) (fp := q) (vs := vs) (fs := fs) (fps := fps) h1 t, k, n, dj => by
    rw [List.flatten_cons] at k n dj ⊢
    obtain ⟨n1, n2, n3⟩ := List.nodup_append.mp n
    by_cases e : g = f
    · refine ⟨fp :: fps, ?_, ?_, fun a ha => ?_⟩
      · show FsOk P w K Hf H1 (if g = f then _ else _) (if g = f then _ else _) _
        rw [if_pos e, if_pos e]
        exact .cons h (FsOk.frame (Same.refl _) (fun a ha => k a (List.mem_append_right _ ha)) t)
      · rw [List.flatten_cons]
        exact List.nodup_append.mpr ⟨nd, n2, fun a ha b hb e2 => dj a ha (List.mem_append_right _ (by rw [e2]; exact hb))⟩
      · rw [List.flatten_cons] at ha
        exact (List.mem_append.mp ha).elim .inr fun z => .inl (List.mem_append_right _ z)
    · obtain ⟨fps', r1, r2, r3⟩ := fs_put h nd t (fun a ha => k a (List.mem_append_right _ ha)) n2 fun a ha z => dj a ha (List.mem_append_right _ z)
      refine ⟨q :: fps', ?_, ?_, fun a ha => ?_⟩
      · show FsOk P w K Hf H1 (if g = f then _ else _) (if g = f then _ else _) _
        rw [if_neg e, if_neg e]
        exact .cons (BsOk.frame (Same.refl _) (fun a ha => k a (List.mem_append_left _ ha)) h1) r1
      · rw [List.flatten_cons]
        refine List.nodup_append.mpr ⟨n1, r2, fun a ha b hb e2 => ?_⟩
        rcases r3 b hb with w | w
        · exact n3 a ha b w e2
        · exact dj b w (List.mem_append_left _ (by rw [← e2]; exact ha))
      · rw [List.flatten_cons] at ha
        rcases List.mem_append.mp ha with z | z
        · exact .inl (List.mem_append_left _ z)
        · exact (r3 a z).imp (List.mem_append_right _) id
/-- a field's thing is changed in place -/
theorem fs_chg : ∀ {vs : List (Str × V)} {fs : List (Str × Bs)} {fps : List (List Addr)}, FsOk P w K Hf H vs fs fps → fps.flatten.Nodup → fs.lookup f = some y0 →
    ∃ v fp, vs.lookup f = some v ∧ BsOk P w K Hf H y0 v fp ∧ (∀ a ∈ fp, a ∈ fps.flatten) ∧ ∀ H1 y, BsOk P w K Hf H1 y v fp → (∀ a ∈ fps.flatten, a ∉ fp → H1 a = H a) → FsOk P w K Hf H1 vs (putB f y fs) fps
  | _, _, _, .nil, _, h => by cases h
  | _, _, _, .cons (f := g) (v := u) (x := z) (fp := q) (vs := vs) (fs := fs) (fps := fps) h1 t, n, h => by
    rw [List.flatten_cons] at n
    obtain ⟨n1, n2, n3⟩ := List.nodup_append.mp n
    have h' : (match f == g with | true => some z | false => fs.lookup f) = some y0 := h
    cases e : f == g with
    | true =>
      rw [e] at h'
      cases h'
      refine ⟨u, q, ?_, h1, fun a ha => by rw [List.flatten_cons]; exact List.mem_append_left _ ha, fun H1 y hb k => ?_⟩
      · show (match f == g with | true => some u | false => vs.lookup f) = some u
        rw [e]
      · have eg : g = f := (beq_iff_eq.mp e).symm
        show FsOk P w K Hf H1 _ (if g = f then _ else _) _
        rw [if_pos eg]
        exact .cons hb (FsOk.frame (Same.refl _) (fun a ha => k a (by rw [List.flatten_cons]; exact List.mem_append_right _ ha) fun w => n3 a w a ha rfl) t)
    | false =>
      rw [e] at h'
      obtain ⟨v, fp, r1, r2, r3, r4⟩ := fs_chg t n2 h'
      refine ⟨v, fp, ?_, r2, fun a ha => by rw [List.flatten_cons]; exact List.mem_append_right _ (r3 a ha), fun H1 y hb k => ?_⟩
      · show (match f == g with | true => some u | false => vs.lookup f) = some v
        rw [e]; exact r1
      · have eg : ¬ g = f := fun w => by rw [w, beq_self_eq_true] at e; cases e
        show FsOk P w K Hf H1 _ (if g = f then _ else _) _
        rw [if_neg eg]
        exact .cons (BsOk.frame (Same.refl _) (fun a ha => k a (by rw [List.flatten_cons]; exact List.mem_append_left _ ha) fun w => n3 a ha a (r3 a w) rfl) h1) (r4 H1 y hb fun a ha hn => k a (by rw [List.flatten_cons]; exact List.mem_append_right _ ha) hn)
end
section
variable {X : Cx} {e a b c o : Expr} {es : List Expr} {Γ Γ' Γ1 Γ2 : Ctx} {s s' : Sl} {d da db dc : PyData} {ds ds1 ds2 ds' ds0 : List PyData} {te ta tb : TE} {pos p1 p2 ap cp tp pp : Pos} {i n k : Nat} {x y m f : Str} {st : Stmt} {rest sts : List Stmt} {p q : Po} {t : TS} {ps : List Str} {C : Addr} {fs fs' fs0 : List (Str × Bs)} {z : Bs}
/-- x.f = value -/
theorem ws_fld (i : Nat) (cl : Cls X.K C) (na : NoAttr X.K C f) (ha : DE X a Γ Γ1 (.b z)) (hg : Γ1[i]? = some (some (.o C fs))) (hz : fs.length < 1000) (hr : WS X n rest (Γ1.set i (some (.o C (putB f z fs)))) p) (hN : X.N[i]? = some x := by rfl)
    (hv : Vis X.env.scope x := by first | exact Or.inl rfl | exact Or.inr (Or.inl rfl) | exact Or.inr (Or.inr rfl)) (hd : (x == ("__debug__" : Str)) = false := by decide) (hcd : (x == ("__classdict__" : Str)) = false := by decide)
    (hs : swapsWith a (some (.Attribute (.Name x p1) f tp)) pos.line X.env = pure false := by rfl) : WS X n (.Assign [.Attribute (.Name x p1) f tp] a pos :: rest) Γ p :=
  ws_of (pss_cons (ps_fld (pe_var hN hv hd hcd) ha hs) hr) fun D σ H Hf fps ok g => ⟨Hf, fps, ok, fun v Hf1 H1 fps1 h o1 r1 s1 => by
    obtain ⟨u, e1, l, dx, fvs, fpl, rfl, e2, e3, e4⟩ := o1.sl i _ hg
    refine ⟨_, e1, l, C, dx, fvs, rfl, e3, cl, na, by rw [fs_len e4]; exact hz, ?_⟩
    have nd := o1.nd i
    rw [e2] at nd
    have lf : ∀ b ∈ fpl.flatten, b ≠ l := fun b hb w => (List.nodup_cons.mp nd).1 (by rw [← w]; exact hb)
    have hl : l ∉ h := fun w => r1.dj l w i (by rw [e2]; exact List.mem_cons_self)
    obtain ⟨fpl', q1, q2, q3⟩ := fs_put (f := f) (H1 := upd H1 l (.ins C dx (putF f v fvs))) (BsOk.frame (Same.refl _) (fun b hb => upd_ne fun w => hl (by rw [← w]; exact hb)) r1.ok) r1.nd e4 (fun b hb => upd_ne (lf b hb)) (List.nodup_cons.mp nd).2 fun b hb w => r1.dj b hb i (by rw [e2]; exact List.mem_cons_of_mem _ w)
    obtain ⟨o2, s2⟩ := o1.updS (H1 := upd H1 l (.ins C dx (putF f v fvs))) (s' := .o C (putB f z fs)) (f' := l :: fpl'.flatten) r1.apart hg e1 ⟨l, dx, _, fpl', rfl, rfl, upd_same, q1⟩ (fun b hb => upd_ne fun w => hb (by rw [e2, w]; exact List.mem_cons_self))
      (fun b hb => by
        by_cases w : b = l
        · rw [w, upd_same]; simp
        · rw [upd_ne w]; exact hb) (List.nodup_cons.mpr ⟨fun w => (q3 l w).elim (List.nodup_cons.mp nd).1 hl, q2⟩) fun b hb => by
          rcases List.mem_cons.mp hb with w | w
          · exact .inl (by rw [e2, w]; exact List.mem_cons_self)
          · exact (q3 b w).imp (fun w => by rw [e2]; exact List.mem_cons_of_mem _ w) id
    exact ⟨Hf1, _, o2, g.step (Rch.of (s1.trans s2))⟩⟩
/-- x.f is changed in place -/
theorem Ok.fldIn {P : Program} {w : World} {K : PySem.W.Frag} {Hf H : Hp} {σ : L2.St} {fps : Fps} {y0 : Bs} (ok : Ok P w K Hf H σ Γ fps) (hg : Γ[i]? = some (some (.o C fs))) (hl : fs.lookup f = some y0) :
    ∃ a dx fvs v fp, σ[i]? = some (some (.ref a)) ∧ H a = some (.ins C dx fvs) ∧ fvs.lookup f = some v ∧ BsOk P w K Hf H y0 v fp ∧ a ∉ fp ∧ (∀ b ∈ fp, Hf b = none) ∧
      ∀ H1 y, BsOk P w K Hf H1 y v fp → (∀ b, b ∉ fp → H1 b = H b) → (∀ b, H b ≠ none → H1 b ≠ none) → ∃ fps', Ok P w K Hf H1 σ (Γ.set i (some (.o C (putB f y fs)))) fps' ∧ Step (own fps) Hf H (own fps') Hf H1 := by
  obtain ⟨u, e1, l, dx, fvs, fpl, rfl, e2, e3, e4⟩ := ok.sl i _ hg
  have nd := ok.nd i
  rw [e2] at nd
  obtain ⟨v, fp, r1, r2, r3, r4⟩ := fs_chg e4 (List.nodup_cons.mp nd).2 hl
  have lf : l ∉ fp := fun z => (List.nodup_cons.mp nd).1 (r3 l z)
  refine ⟨l, dx, fvs, v, fp, e1, e3, r1, r2, lf, fun b hb => ok.nf i b (by rw [e2]; exact List.mem_cons_of_mem _ (r3 b hb)), fun H1 y hb k th => ?_⟩
  obtain ⟨o2, s2⟩ := ok.updS (H1 := H1) (s' := .o C (putB f y fs)) (f' := fps i) noHand hg e1 ⟨l, dx, fvs, fpl, rfl, e2, by rw [k l lf]; exact e3, r4 H1 y hb fun a _ hn => k a hn⟩ (fun b hb => k b fun z => hb (by rw [e2]; exact List.mem_cons_of_mem _ (r3 b z))) th (ok.nd i) fun a ha => .inl ha
  exact ⟨_, o2, ⟨fun b u hb => s2.keep b u fun z => hb (noR z), s2.mono, fun a ha => s2.own a fun z => ha (noR z), s2.there, fun a ha => (s2.new a ha).imp noR id⟩⟩
/-- x.f.append(a) -/
theorem de_appendF (i : Nat) (cl : Cls X.K C) (na : NoAttr X.K C f) (hg : Γ[i]? = some (some (.o C fs))) (hl : fs.lookup f = some (.ol ds)) (ha : DP X a Γ d) (hz : ds.length < sizeLine)
    (hN : X.N[i]? = some x := by rfl) (hv : Vis X.env.scope x := by first | exact Or.inl rfl | exact Or.inr (Or.inl rfl) | exact Or.inr (Or.inr rfl))
    (hd : (x == ("__debug__" : Str)) = false := by decide) (hcd : (x == ("__classdict__" : Str)) = false := by decide) (hb1 : BaseOk X (.Name x p1) f := by rfl) (hb : BaseOk X (.Attribute (.Name x p1) f p2) "append" := by rfl) (hfew : FewOk X [a] cp := by rfl) (hline : (ap.endLine == cp.line) = true := by rfl) (hs : NoStar X a [] := by rfl) (hpl : PlainOk X [] cp := by rfl) :
    DE X (.Call (.Attribute (.Attribute (.Name x p1) f p2) "append" ap) [a] [] cp) Γ (Γ.set i (some (.o C (putB f (.ol (ds ++ [d])) fs)))) (dat .none) :=
  de_of (pe_bm PySem.F.plainAttrs_list PySem.F.slot_list_append PySem.F.type_list_append mt_append (pe_fld (pe_var hN hv hd hcd) hb1) (pa_one ha hs) hb hfew hline hs hpl) fun σ H Hf fps ok Q q => by
    obtain ⟨a0, dx, fvs, v0, fp, e1, e2, e3, ⟨l, xs, rfl, e5, e6, e7⟩, _⟩ := ok.fldIn hg hl
    refine ⟨_, e1, a0, C, dx, fvs, _, rfl, e2, cl, na, e3, .inl ⟨rfl, _, SqL.of e6⟩, ?_⟩
    refine ⟨Hf, fps, ok, fun v Hf1 H1 g1 hv1 => ?_⟩
    have o1 := ok.growG g1
    obtain ⟨a1, dx1, fvs1, v1, fp1, e1', e2', e3', ⟨l1, ys, rfl, e5', e6', e7'⟩, _, _, k⟩ := o1.fldIn hg hl
    rw [e1] at e1'
    cases e1'
    rw [g1.all _ _ e2] at e2'
    cases e2'
    rw [e3] at e3'
    cases e3'
    refine ⟨l, ys, v, rfl, rfl, e6', by rw [e7'.len]; exact hz, ?_⟩
    obtain ⟨fps2, o2, s2⟩ := k (upd H1 l (.lst (ys ++ [v]))) (.ol (ds ++ [d])) ⟨l, _, rfl, e5', upd_same, e7'.app (.one hv1)⟩ (fun b hb => upd_ne fun w => hb (by rw [e5', w]; exact List.mem_singleton.mpr rfl)) fun b hb => by
      by_cases w : b = l
      · rw [w, upd_same]; simp
      · rw [upd_ne w]; exact hb
    exact q .non Hf1 _ fps2 [] o2 (Rs.dat .non) ((g1.step.trans s2).imp fun _ h => noR h)
/-- a dict of one's own becomes data: it is locked for good -/
theorem ws_frzK {kvs : List (Key × PyData)} (hg : Γ[i]? = some (some (.b (.okd kvs)))) (h : WS X n sts (Γ.set i (some (dat (dictD kvs)))) p) : WS X n sts Γ p := by
  refine ⟨fun pins s σ H D I ⟨Hf, fps, ok, g⟩ => ?_⟩
  obtain ⟨v, e1, l, ws, rfl, e2, e3, e4⟩ := ok.sl i _ hg
  obtain ⟨od, I2⟩ := I.lock e3 True.intro
  have lm : l ∈ fps i := by rw [e2]; exact List.mem_singleton.mpr rfl
  have hn : Hf l = none := ok.nf i l lm
  have mono : Same Hf (upd Hf l (.frz od (.dK ws))) := fun b o hb => by rw [upd_ne (ne_of_none hb hn)]; exact hb
  have keep : ∀ b, b ≠ l → upd H l (.frz od (.dK ws)) b = H b := fun b hb => upd_ne hb
  have st : Step (fun a => a ∈ fps i) Hf H (fun a => a ∈ ([] : List Addr)) (upd Hf l (.frz od (.dK ws))) (upd H l (.frz od (.dK ws))) := ⟨fun b u hb hu => by rw [keep b fun z => hb (by rw [z]; exact lm)]; exact hu, mono, fun a na ha _ => by rw [upd_ne fun z => na (by rw [z]; exact lm)]; exact ha, fun a ha => by
    by_cases z : a = l
    · rw [z, upd_same]; simp
    · rw [upd_ne z]; exact ha, fun a ha => (List.not_mem_nil ha).elim⟩
  obtain ⟨o2, s2⟩ := ok.stepAt hg e1 st (fun b u hb => by
    by_cases z : b = l
    · rw [z, upd_same] at hb ⊢; exact hb
    · rw [upd_ne z] at hb ⊢; exact ok.sub b u hb) (s' := dat (dictD kvs)) ⟨rfl, .dct upd_same (dvKV_of (KvD.up mono e4))⟩ List.nodup_nil fun _ h => (List.not_mem_nil h).elim
  exact h.run pins s σ _ D I2 ⟨_, _, o2, g.step (Rch.of s2)⟩
/-- spot[k] = value -/
theorem ws_setL (i : Nat) {j : Int} {jj : Nat} (ha : DP X a Γ d) (hg : Γ[i]? = some (some (.b (.ol ds)))) (hb : DP X b Γ (.int j)) (hj : ixN ds.length j = some jj) (hr : WS X n rest (Γ.set i (some (.b (.ol (ds.set jj d))))) p) (hN : X.N[i]? = some x := by rfl)
    (hv : Vis X.env.scope x := by first | exact Or.inl rfl | exact Or.inr (Or.inl rfl) | exact Or.inr (Or.inr rfl)) (hd : (x == ("__debug__" : Str)) = false := by decide) (hcd : (x == ("__classdict__" : Str)) = false := by decide)
    (hs : swapsWithSole [.Subscript (.Name x p1) b tp] a pos.line X.env = pure false := by rfl) (hw : swappedStores [.Subscript (.Name x p1) b tp] a X.env = pure none := by rfl)
    (h1 : (assignEach [.Subscript (.Name x p1) b tp] X.env).map (·.2) = [assign (.Subscript (.Name x p1) b tp) X.env] := by rfl)
    (h2 : ∀ v, assign (.Subscript (.Name x p1) b tp) X.env v = (do
      let ov ← holding [v] (eval (.Name x p1) X.env)
      let iv ← holding [v, ov] (eval b X.env)
      standAt tp
      holding [v, ov, iv] (setItem ov iv v)
      release [v, ov, iv] []) := by intro _; rfl) : WS X n (.Assign [.Subscript (.Name x p1) b tp] a pos :: rest) Γ p :=
  ws_of (pss_cons (ps_asg ha (pg_sub (pe_var hN hv hd hcd) hb set_list h2) hs hw h1) hr) fun D σ H Hf fps ok g => tD_run ok fun v Hf1 H1 g1 hv1 => by
    obtain ⟨l, xs, e1, e2, e3⟩ := ol_at ok hg
    refine ⟨_, e1, tD_run (ok.growG g1) fun u Hf2 H2 g2 hu => ?_⟩
    cases hu
    have o2 := (ok.growG g1).growG g2
    have e3' := DvAll.up (g1.mono.trans g2.mono) _ e3
    refine ⟨l, xs, j, jj, rfl, rfl, g2.all _ _ (g1.all _ _ e2), by rw [e3.len]; exact hj, ?_⟩
    obtain ⟨fps3, o3, s3⟩ := o2.updL noHand hg e1 (e3'.set (Dv.up g2.mono _ hv1) jj)
    exact ⟨Hf2, fps3, o3, g.step (Rch.of ((((g1.trans g2).step (W := own fps)).imp fun _ h => noR h).trans s3))⟩
end

/-! ### bodies that only read -/
def tWP (P : Program) (w : World) (K : PySem.W.Frag) (Γ : Ctx) (d : PyData) : TS := fun D σ H => ∃ Hf fps, Ok P w K Hf H σ Γ fps ∧ ∀ v Hf' H', Grow Hf H Hf' H' → Dv K Hf' v d → D.rt v H'
abbrev WP (X : Cx) (sts : List Stmt) (Γ : Ctx) (d : PyData) : Prop := PSs X sts (tWP X.prog X.w X.K Γ d)
section
variable {X : Cx} {e a c : Expr} {Γ : Ctx} {d : PyData} {pos : Pos} {rest A : List Stmt}
theorem wp_doc {y : Str} {j : Nat} {pos' : Pos} (h : WP X rest Γ d) : WP X (.Expr (.Constant (.str y) j pos) pos' :: rest) Γ d := ⟨fun pins s σ H D I z => (pss_cons ps_doc h).run pins s σ H D I z⟩
theorem wp_ret (he : DP X e Γ d) : WP X (.Return (some e) pos :: rest) Γ d := ⟨fun pins s σ H D I ⟨Hf, fps, ok, q⟩ => (pss_cons (ps_ret he) pss_never).run pins s σ H D I ⟨Hf, fps, ok, q⟩⟩
theorem wp_if {t : Bool} (hc : DT X c Γ t) (ha : t = true → WP X A Γ d) (hb : t = false → WP X rest Γ d) : WP X (.If c A [] pos :: rest) Γ d := by
  cases t with
  | true =>
    refine ⟨fun pins s σ H D I ⟨Hf, fps, ok, q⟩ => (pss_cons (ps_if hc (ha rfl) pss_never) pss_never).run pins s σ H D I ⟨Hf, fps, ok, fun Hf1 H1 g1 => ?_⟩⟩
    show (if true = true then _ else _)
    rw [if_pos rfl]
    exact ⟨Hf1, fps, ok.growG g1, fun v Hf2 H2 g2 hv => q v Hf2 H2 (g1.trans g2) hv⟩
  | false =>
    refine ⟨fun pins s σ H D I ⟨Hf, fps, ok, q⟩ => (pss_cons (ps_if hc pss_never pss_nil) (hb rfl)).run pins s σ H D I ⟨Hf, fps, ok, fun Hf1 H1 g1 => ?_⟩⟩
    show (if false = true then _ else _)
    rw [if_neg Bool.false_ne_true]
    exact ⟨Hf1, fps, ok.growG g1, fun v Hf2 H2 g2 hv => q v Hf2 H2 (g1.trans g2) hv⟩
end
section
variable {P : Program} {w : World} {K : PySem.W.Frag} {mg : Str → Option Value} {base : Heap} {x qual : Str} {params : Arguments} {body : List Stmt} {scope : Scope} {dvs : List V} {kws : List (Str × V)} {f : Addr} {fd : FuncData} {N : List Str} {y : Str} {k : Nat}
theorem fn_Rd {R : Sl → PyData → Prop} (F : FunD K x qual params body scope dvs kws f fd) (S : FnScope N [y] scope)
    (hb : ∀ (cdv : Value) (A : Around) (outer : List Env) (s : Shared) (H : Hp) (E : XK) (t : Sl) (d : PyData), Room k (A.deeper (envOfC qual scope s.heap.objs.size f cdv)) → R t d → WP (BX P w K mg base N qual scope f cdv A outer s H E) body (ctxO N [] t []) d) : FnOk P w K mg base CX0 (k + 1) f fd [y] (spRd P w K R) := by
  refine F.ok S (fun vs H Q E h => ?_) fun cdv A outer s H vs Q E hr h => ?_
  · obtain ⟨Hf, t, d, v0, g, rfl, _⟩ := h
    rfl
  · obtain ⟨Hf, t, d, v0, g, rfl, sub, hs, nd, nf, hR, q⟩ := h
    exact ⟨_, PSs.nox (hb cdv A outer s H E t d hr hR), Hf, _, ok_startO (vs1 := []) (vs2 := []) (ds1 := []) (ds2 := []) sub .nil .nil hs nd nf, q⟩
/-- from data to an owned thing -/
def spR (P : Program) (w : World) (K : PySem.W.Frag) (R : List PyData → Sl → Prop) : Sp := fun vs H Q _ => ∃ Hf ds t, Same Hf H ∧ DvAll K Hf vs ds ∧ R ds t ∧ ∀ v Hf' H' f, Same Hf' H' → SlOk P w K Hf' H' t v f → f.Nodup → (∀ a ∈ f, Hf' a = none) → Step (fun _ => False) Hf H (fun a => a ∈ f) Hf' H' → Q v H'
theorem fn_R {ps : List Str} {R : List PyData → Sl → Prop} (F : FunD K x qual params body scope dvs kws f fd) (S : FnScope N ps scope) (hl : ∀ ds t, R ds t → ds.length = ps.length)
    (hb : ∀ (cdv : Value) (A : Around) (outer : List Env) (s : Shared) (H : Hp) (E : XK) (ds : List PyData) (t : Sl), Room k (A.deeper (envOfC qual scope s.heap.objs.size f cdv)) → R ds t →
      WS (BX P w K mg base N qual scope f cdv A outer s H E) ps.length body (ctx0 N ds) { rt := fun _ r => r = t }) : FnOk P w K mg base CX0 (k + 1) f fd ps (spR P w K R) := by
  refine F.ok S (fun vs H Q E h => ?_) fun cdv A outer s H vs Q E hr h => ?_
  · obtain ⟨Hf, ds, t, _, h2, h3, _⟩ := h
    rw [h2.len]
    exact hl ds t h3
  · obtain ⟨Hf, ds, t, h1, h2, h3, h4⟩ := h
    refine ⟨_, PSs.nox (hb cdv A outer s H E ds t hr h3), Hf, fun _ => [], ok_start h1 h2, ?_⟩
    refine ⟨fun Γ' σ' Hf' H' fps' e o r => e.elim, fun Γ' s' v f' σ' Hf' H' fps' e o r0 r => ?_, fun _ _ _ _ _ _ _ => True.intro⟩
    have e : s' = t := e
    subst e
    have no : ∀ a, ¬ own (fun _ => ([] : List Addr)) a := fun a ⟨_, z⟩ => List.not_mem_nil z
    exact h4 v Hf' H' f' o.sub r0.ok r0.nd r0.nf ⟨fun b u _ => r.st.keep b u (no b), r.st.mono, fun a _ => r.st.own a (no a), r.st.there, fun a ha => (r.st.new a (.inr ha)).imp (fun z => no a z) id⟩
end
section
variable {X : Cx} {e : Expr} {es : List Expr} {Γ Γ1 : Ctx} {s s' t : Sl} {d : PyData} {ds : List PyData} {pos pp : Pos} {k : Nat} {x : Str} {ps : List Str}
theorem de_callR {R : List PyData → Sl → Prop} (F : XFn X k x ps (spR X.prog X.w X.K R)) (hr : Room k X.A) (hR : R ds t) (ha : DA X (e :: es) Γ ds) (hg : Gl X x := by rfl) (hdb : (x == ("__debug__" : Str)) = false := by decide) (he : NoStar X e es := by rfl) (hpl : PlainOk X es pos := by rfl) :
    DE X (.Call (.Name x pp) (e :: es) [] pos) Γ Γ t := by
  obtain ⟨f, fd, F, hm, hk, hb⟩ := F.ex
  refine de_of (pe_call F hr hg hm hk hb .nil pass0 ha hdb he hpl) fun σ H Hf fps ok Q q => tA_run ok fun vs Hf1 H1 g1 hvs => ?_
  rw [List.append_nil]
  have o1 := ok.growG g1
  refine ⟨Hf1, ds, t, o1.sub, hvs, hR, fun v Hf' H' f' sub hs nd nf st => ?_⟩
  have no : ∀ {b u}, H1 b = some u → H' b = some u := fun {b u} hb => st.keep b u (fun z => z) hb
  refine q v Hf' H' fps f' (o1.grow st.mono sub (fun a ⟨i, ha⟩ => ?_) fun a ⟨i, ha⟩ => st.own a (fun z => z) (o1.nf i a ha) (o1.mut ha)) ⟨hs, nd, nf, fun a ha i hi => ?_⟩ (g1.step.trans ⟨fun b u _ => st.keep b u (fun z => z), st.mono, fun a _ => st.own a fun z => z, st.there, fun a ha => ?_⟩)
  · cases e : H1 a with
    | none => exact absurd e (o1.there ha)
    | some u => rw [no e]
  · exact (st.new a ha).elim id fun z => o1.there hi z
  · exact ha.imp id fun z => (st.new a z).elim False.elim id
/-- f(e), e a thing made for it -/
theorem de_callH {R : List PyData → Sl → List PyData → Sl → PyData → Prop} (F : XFn X k x ps (spO X.prog X.w X.K R)) (hr : Room k X.A) (hR : R [] s [] s' d) (ha : DE X e Γ Γ1 s) (hg : Gl X x := by rfl) (hdb : (x == ("__debug__" : Str)) = false := by decide) (he : NoStar X e [] := by rfl) (hpl : PlainOk X [] pos := by rfl) :
    DE X (.Call (.Name x pp) [e] [] pos) Γ Γ1 (dat d) := by
  obtain ⟨f, fd, F, hm, hk, hb⟩ := F.ex
  refine de_of (pe_call F hr hg hm hk hb .nil pass0 (pa_one ha he) hdb he hpl) fun σ H Hf fps ok Q q => ⟨Hf, fps, ok, fun v Hf1 H1 fps1 h o1 r1 s1 => ?_⟩
  show spO X.prog X.w X.K R [v] H1 Q E0
  refine ⟨Hf1, [], s, [], s', d, [], v, [], h, rfl, o1.sub, .nil, .nil, r1.ok, r1.nd, r1.nf, hR, fun u Hf' H' f' sub hu hs nd nf st => ?_⟩
  have ap : ∀ a, own fps1 a → a ∉ h := fun a ⟨j, hj⟩ z => r1.dj a z j hj
  refine q u Hf' H' fps1 [] (o1.grow st.mono sub (fun a ha => ?_) fun a ha => ?_) (Rs.dat hu) ((s1.trans (W2 := own fps1) ⟨fun b w hb => st.keep b w fun z => hb (.inr z), st.mono, fun a n => st.own a fun z => n (.inr z), st.there, fun a ha => .inl (.inl ha)⟩).imp fun _ z => noR z)
  · obtain ⟨j, hj⟩ := id ha
    cases e : H1 a with
    | none => exact absurd e (o1.there hj)
    | some w => exact st.keep a w (ap a ha) e
  · obtain ⟨j, hj⟩ := id ha
    exact st.own a (ap a ha) (o1.nf j a hj) (o1.mut hj)
end
end DL


set_option Elab.async false
set_option linter.all false
set_option maxRecDepth 100000
set_option maxHeartbeats 4000000
/-! DL10: dicts whose keys are tuples of tuples. -/
namespace DL
open PySem PySem.Spec PyProof.Rows L2

section
variable {P : Program} {w : World} {K : PySem.W.Frag} {Hf H : Hp}
theorem paired_mem_r' {α β : Type} {F : α → β → Prop} : ∀ {l : List α} {m : List β}, Paired F l m → ∀ b ∈ m, ∃ a ∈ l, F a b
  | _, _, .nil, b, h => by cases h
  | _, _, .cons r t, b, h => by
    rcases List.mem_cons.mp h with e | h
    · subst e
      exact ⟨_, List.mem_cons_self, r⟩
    · obtain ⟨a, ha, q⟩ := paired_mem_r' t b h
      exact ⟨a, List.mem_cons_of_mem _ ha, q⟩
mutual
/-- data as a key in the heap -/
theorem nested_is {h : Heap} (ok : HOk P w H h) (sub : Same Hf H) : ∀ (k : NestedKey) {v : V} {u : Value}, Dv K Hf v (nkD k) → RelV v u → NestedIs h k u
  | .none, _, _, d, r => by
    cases (show Dv K Hf _ .none from d)
    cases (show _ = Value.none from r)
    exact .none
  | .num i, _, _, d, r => by
    cases (show Dv K Hf _ (.int i) from d)
    obtain ⟨t, rfl⟩ := r
    exact .int i t
  | .text x, _, _, d, r => by
    cases (show Dv K Hf _ (.str x) from d)
    obtain ⟨t, rfl⟩ := r
    exact .text x t
  | .tup ks, _, _, d, r => by
    cases (show Dv K Hf _ (.tuple (nkDs ks)) from d) with
    | tup h1 h2 =>
      cases r
      obtain ⟨_, its, rv, o, e1, e2, n, e3⟩ := (show ObjOk P w H h _ (.tup _) from ok _ _ (sub _ _ h1))
      exact .tup e1 e2 e3 (by simpa using nested_all ok sub ks h2 rv)
theorem nested_all {h : Heap} (ok : HOk P w H h) (sub : Same Hf H) : ∀ (ks : List NestedKey) {vs : List V} {us : List Value}, DvAll K Hf vs (nkDs ks) → Vals vs us → NestedAll h ks us
  | [], _, _, d, r => by
    cases (show DvAll K Hf _ [] from d)
    cases r
    exact .nil
  | k :: ks, _, _, d, r => by
    cases (show DvAll K Hf _ (nkD k :: nkDs ks) from d) with
    | cons h1 h2 =>
      cases r with
      | cons r1 r2 => exact .cons (nested_is ok sub k h1 r1) (nested_all ok sub ks h2 r2)
end
/-- how the entries stand for the pairs -/
abbrev NtP (K : PySem.W.Frag) (Hf : Hp) : List (NestedKey × V) → List (NestedKey × Addr × Value) → Prop := Paired fun p q => p.1 = q.1 ∧ Dv K Hf (.ref q.2.1) (nkD p.1) ∧ p.1.depth ≤ 8 ∧ RelV p.2 q.2.2
theorem nt_val {kvs : List (NestedKey × V)} {xs : List (NestedKey × Addr × Value)} (k : NestedKey) (r : NtP K Hf kvs xs) : RelO (valV kvs k) ((atKey xs k).map (·.2)) := by
  induction r with
  | nil => trivial
  | @cons p q ps qs h t ih =>
    obtain ⟨h1, _, _, h2⟩ := h
    by_cases e : p.1 = k
    · have b : atKey (q :: qs) k = some q.2 := by simp [atKey, List.find?_cons, h1.symm.trans e]
      rw [valV_pos e, b]
      exact h2
    · have b : atKey (q :: qs) k = atKey qs k := by simp [atKey, List.find?_cons, show ¬ q.1 = k from fun z => e (h1.trans z)]
      rw [valV_neg e, b]
      exact ih
theorem nt_rep {y : V} {u : Value} (k : NestedKey) (ry : RelV y u) : ∀ {kvs : List (NestedKey × V)} {xs : List (NestedKey × Addr × Value)}, NtP K Hf kvs xs → NtP K Hf (kvs.map fun kv => if kv.1 = k then (kv.1, y) else kv) (xs.map (putAt k u))
  | _, _, .nil => .nil
  | p :: ps, q :: qs, .cons ⟨h1, h2, h3, h4⟩ t => by
    rw [List.map_cons, List.map_cons]
    refine .cons ?_ (nt_rep k ry t)
    unfold putAt
    by_cases z : p.1 = k
    · rw [if_pos z, if_pos (h1.symm.trans z)]; exact ⟨h1, h2, h3, ry⟩
    · rw [if_neg z, if_neg fun y => z (h1.trans y)]; exact ⟨h1, h2, h3, h4⟩
theorem nt_put {kvs : List (NestedKey × V)} {xs : List (NestedKey × Addr × Value)} {k : NestedKey} {b : Addr} {y : V} {u : Value} (r : NtP K Hf kvs xs) (hb : Dv K Hf (.ref b) (nkD k)) (hk : k.depth ≤ 8) (ry : RelV y u) : NtP K Hf (putK kvs k y) (storedH xs k b u) := by
  have e : (kvs.any fun kv => decide (kv.1 = k)) = (atKey xs k).isSome := by rw [valV_any, (nt_val k r).isSome_eq, Option.isSome_map]
  unfold putK storedH
  rw [e]
  split
  · exact nt_rep k ry r
  · exact Paired.snoc r ⟨rfl, hb, hk, ry⟩
/-- the thing at a is such a dict -/
def NdAt (P : Program) (w : World) (K : PySem.W.Frag) (Hf H : Hp) (a : Addr) (kvs : List (NestedKey × V)) : Prop := ∃ o, H a = some (.ext fun h => h.get? a = some o) ∧ NdObj P w K Hf a o kvs
theorem nd_of {X : Cx} {pins : List (Addr × Obj)} {σ : L2.St} {s : Shared} {a : Addr} {kvs : List (NestedKey × V)} (I : L2.Inv X pins σ H s) (sub : Same Hf H) (h : NdAt X.prog X.w X.K Hf H a kvs) :
    kvs.length ≤ sizeLine ∧ (a == sysModules) = false ∧ ∃ xs, NtP X.K Hf kvs xs ∧ s.heap.DictOfH (nestedKind X.prog X.w) a xs := by
  obtain ⟨o, e, h1, h2, h3, es, ep, xs, h4, h5, h6, h7⟩ := h
  have g : s.heap.get? a = some o := (I.hok a _ e).1
  refine ⟨h3, h2, xs, h7, o, es, ep, g, h1, h4, h5, fun x hx => ?_, h6⟩
  obtain ⟨p, _, q⟩ := paired_mem_r' h7 x hx
  obtain ⟨q1, q2, q3, _⟩ := q
  rw [← q1]
  exact ⟨nested_is I.hok sub p.1 q2 rfl, q3⟩
end
section
variable {X : Cx} {e a b c o : Expr} {es : List Expr} {Γ Γ' Γ1 Γ2 : Ctx} {s s' : Sl} {d da db dc : PyData} {ds ds' ds0 : List PyData} {te ta tb : TE} {pos p1 p2 ap cp tp : Pos} {i n : Nat} {x f : Str} {st : Stmt} {rest sts : List Stmt} {p q : Po} {t : TS} {C : Addr} {fs : List (Str × Bs)} {kvs : List (NestedKey × V)} {k : NestedKey}
/-- such a dict, read -/
def tKN (P : Program) (w : World) (K : PySem.W.Frag) (Γ : Ctx) (kvs : List (NestedKey × V)) : TE := fun σ H Q => ∃ Hf fps, Ok P w K Hf H σ Γ fps ∧ ∀ a Hf' H', Grow Hf H Hf' H' → NdAt P w K Hf' H' a kvs → Q (.ref a) H'
abbrev DKN (X : Cx) (e : Expr) (Γ : Ctx) (kvs : List (NestedKey × V)) : Prop := PE X e (tKN X.prog X.w X.K Γ kvs)
theorem vn (i : Nat) (hN : X.N[i]? = some x := by rfl) (hg : Γ[i]? = some (some (.b (.ond kvs))) := by rfl) (hv : Vis X.env.scope x := by first | exact Or.inl rfl | exact Or.inr (Or.inl rfl) | exact Or.inr (Or.inr rfl)) (hd : (x == ("__debug__" : Str)) = false := by decide) (hcd : (x == ("__classdict__" : Str)) = false := by decide) : DKN X (.Name x pos) Γ kvs :=
  ⟨fun pins s σ H Q I ⟨Hf, fps, ok, q⟩ => (pe_var hN hv hd hcd).run pins s σ H Q I (by
    obtain ⟨v, h1, a, o, e1, e2, e3, e4⟩ := ok.sl i _ hg
    subst e1
    exact ⟨_, h1, q a Hf H .refl ⟨o, e3, e4⟩⟩)⟩
theorem vnF (i : Nat) (cl : Cls X.K C) (na : NoAttr X.K C f) (hl : fs.lookup f = some (.ond kvs)) (hN : X.N[i]? = some x := by rfl) (hg : Γ[i]? = some (some (.o C fs)) := by rfl) (hv : Vis X.env.scope x := by first | exact Or.inl rfl | exact Or.inr (Or.inl rfl) | exact Or.inr (Or.inr rfl)) (hd : (x == ("__debug__" : Str)) = false := by decide) (hcd : (x == ("__classdict__" : Str)) = false := by decide)
    (hb : BaseOk X (.Name x p1) f := by rfl) : DKN X (.Attribute (.Name x p1) f pos) Γ kvs :=
  ⟨fun pins s σ H Q I ⟨Hf, fps, ok, q⟩ => (pe_fld (pe_var hN hv hd hcd) hb).run pins s σ H Q I (by
    obtain ⟨a0, dx, fvs, v0, fp, e1, e2, e3, ⟨l, o, rfl, e5, e6, e7⟩, _⟩ := ok.fldIn hg hl
    exact ⟨_, e1, a0, C, dx, fvs, _, rfl, e2, cl, na, e3, q l Hf H .refl ⟨o, e6, e7⟩⟩)⟩
theorem nd_up {P : Program} {w : World} {K : PySem.W.Frag} {Hf H Hf' H' : Hp} {a : Addr} (g : Grow Hf H Hf' H') (h : NdAt P w K Hf H a kvs) : NdAt P w K Hf' H' a kvs := let ⟨o, h1, h2⟩ := h; ⟨o, g.all _ _ h1, h2.up g.mono⟩
/-- k in d, k not in d -/
theorem cm_inN (hu : X.A.units + 9 < cLine) (hk : k.depth ≤ 8) (ht : ∃ ks, k = .tup ks) (ha : DP X a Γ (nkD k)) (hb : DKN X b Γ kvs) (hm : behindInMarks .In b = false := by rfl) : CM X .In a b Γ (valV kvs k).isSome := by
  refine ⟨⟨fun pins s σ H Q I ⟨Hf, fps, ok, q⟩ => ?_⟩, hm⟩
  refine thn (ha.run pins s σ H (fun v H' => ∃ Hf', Grow Hf H Hf' H' ∧ Dv X.K Hf' v (nkD k)) I ⟨Hf, fps, ok, fun v Hf' H' g hv => ⟨Hf', g, hv⟩⟩) fun iv s1 ⟨y, H1, I1, ry, Hf1, g1, hy⟩ => ?_
  refine thn (hb.run pins s1 σ H1 (fun v H' => ∃ Hf' l, Grow Hf1 H1 Hf' H' ∧ v = .ref l ∧ NdAt X.prog X.w X.K Hf' H' l kvs) I1 ⟨Hf1, fps, ok.growG g1, fun l Hf' H' g hv => ⟨Hf', l, g, rfl, hv⟩⟩) fun uv s2 ⟨z, H2, I2, rz, Hf2, l, g2, ez, hn⟩ => ?_
  subst ez
  cases rz
  obtain ⟨ks, rfl⟩ := ht
  have hy2 := Dv.up g2.mono _ hy
  cases hy2 with
  | tup h1 h2 =>
    cases ry
    have sub2 := ((ok.growG g1).growG g2).sub
    obtain ⟨n1, n2, xs, n3, n4⟩ := nd_of I2 sub2 hn
    refine wpAny_in_heap (knd := nestedKind X.prog X.w) (k := NestedKey.tup ks) (show X.A.units + 1 + 8 < cLine by omega) ⟨nested_is (K := X.K) (Hf := Hf2) I2.hok sub2 (.tup ks) (.tup h1 h2) rfl, hk⟩ n2 n4 ?_
    have e := (nt_val (NestedKey.tup ks) n3).isSome_eq
    rw [Option.isSome_map] at e
    rw [← e]
    exact ⟨.bl _, H2, I2.tok _, rfl, q _ Hf2 H2 (g1.trans g2) (.bl _)⟩
theorem cm_notInN (hu : X.A.units + 9 < cLine) (hk : k.depth ≤ 8) (ht : ∃ ks, k = .tup ks) (ha : DP X a Γ (nkD k)) (hb : DKN X b Γ kvs) (hm : behindInMarks .NotIn b = false := by rfl) : CM X .NotIn a b Γ (!(valV kvs k).isSome) := by
  refine ⟨⟨fun pins s σ H Q I ⟨Hf, fps, ok, q⟩ => ?_⟩, hm⟩
  refine thn (ha.run pins s σ H (fun v H' => ∃ Hf', Grow Hf H Hf' H' ∧ Dv X.K Hf' v (nkD k)) I ⟨Hf, fps, ok, fun v Hf' H' g hv => ⟨Hf', g, hv⟩⟩) fun iv s1 ⟨y, H1, I1, ry, Hf1, g1, hy⟩ => ?_
  refine thn (hb.run pins s1 σ H1 (fun v H' => ∃ Hf' l, Grow Hf1 H1 Hf' H' ∧ v = .ref l ∧ NdAt X.prog X.w X.K Hf' H' l kvs) I1 ⟨Hf1, fps, ok.growG g1, fun l Hf' H' g hv => ⟨Hf', l, g, rfl, hv⟩⟩) fun uv s2 ⟨z, H2, I2, rz, Hf2, l, g2, ez, hn⟩ => ?_
  subst ez
  cases rz
  obtain ⟨ks, rfl⟩ := ht
  have hy2 := Dv.up g2.mono _ hy
  cases hy2 with
  | tup h1 h2 =>
    cases ry
    have sub2 := ((ok.growG g1).growG g2).sub
    obtain ⟨n1, n2, xs, n3, n4⟩ := nd_of I2 sub2 hn
    refine wpAny_notIn_heap (knd := nestedKind X.prog X.w) (k := NestedKey.tup ks) (show X.A.units + 1 + 8 < cLine by omega) ⟨nested_is (K := X.K) (Hf := Hf2) I2.hok sub2 (.tup ks) (.tup h1 h2) rfl, hk⟩ n2 n4 ?_
    have e := (nt_val (NestedKey.tup ks) n3).isSome_eq
    rw [Option.isSome_map] at e
    rw [← e]
    exact ⟨.bl _, H2, I2.tok _, rfl, q _ Hf2 H2 (g1.trans g2) (.bl _)⟩
/-- d[k], a scalar there -/
theorem dp_getN {v0 : V} (hu : X.A.units + 9 < cLine) (hk : k.depth ≤ 8) (ht : ∃ ks, k = .tup ks) (hv0 : valV kvs k = some v0) (hd0 : ∀ Hf, Dv X.K Hf v0 d) (ha : DKN X a Γ kvs) (hb : DP X b Γ (nkD k)) (hs : NoSl b := by exact fun _ _ => rfl) : DP X (.Subscript a b pos) Γ d := by
  refine ⟨fun pins s σ H Q I ⟨Hf, fps, ok, q⟩ => ?_⟩
  refine subD_of PySem.F.slot_dict_getitem.lookup hs (thn (ha.run pins s σ H (fun v H' => ∃ Hf' l, Grow Hf H Hf' H' ∧ v = .ref l ∧ NdAt X.prog X.w X.K Hf' H' l kvs) I ⟨Hf, fps, ok, fun l Hf' H' g hv => ⟨Hf', l, g, rfl, hv⟩⟩) fun uv s1 ⟨z, H1, I1, rz, Hf1, l, g1, ez, hn⟩ =>
    thn (hb.run pins s1 σ H1 (fun v H' => ∃ Hf', Grow Hf1 H1 Hf' H' ∧ Dv X.K Hf' v (nkD k)) I1 ⟨Hf1, fps, ok.growG g1, fun v Hf' H' g hv => ⟨Hf', g, hv⟩⟩) fun iv s2 ⟨y, H2, I2, ry, Hf2, g2, hy⟩ => ?_)
  subst ez
  cases rz
  obtain ⟨ks, rfl⟩ := ht
  cases hy with
  | tup h1 h2 =>
    cases ry
    have sub2 := ((ok.growG g1).growG g2).sub
    obtain ⟨n1, n2, xs, n3, n4⟩ := nd_of I2 sub2 (nd_up g2 hn)
    refine ⟨n4.typeIs, ?_⟩
    obtain ⟨w', hw, rw'⟩ := RelO.some_of (v := v0) (o := (atKey xs (NestedKey.tup ks)).map (·.2)) (by rw [← hv0]; exact nt_val _ n3)
    obtain ⟨p, hp, hp2⟩ := Option.map_eq_some_iff.mp hw
    refine wpAny_getItem_heap (knd := nestedKind X.prog X.w) (k := NestedKey.tup ks) (show X.A.units + 1 + 8 < cLine by omega) ⟨nested_is (K := X.K) (Hf := Hf2) I2.hok sub2 (.tup ks) (.tup h1 h2) rfl, hk⟩ n4 hp ?_
    rw [hp2]
    exact ⟨v0, H2, I2.tok _, rw', q _ Hf2 H2 (g1.trans g2) (hd0 Hf2)⟩
/-- d[k] = v at the heap -/
theorem nd_set {pins : List (Addr × Obj)} {σ : L2.St} {H Hf : Hp} {s : Shared} {a b : Addr} {v : V} {r : Value} {Q : Unit → Shared → Prop} (hu : X.A.units + 9 < cLine) (I : L2.Inv X pins σ H s) (sub : Same Hf H) (hn : NdAt X.prog X.w X.K Hf H a kvs) (na : Hf a = none) (hk : k.depth ≤ 8) (hb : Dv X.K Hf (.ref b) (nkD k)) (rv : RelV v r) (hz : kvs.length < sizeLine)
    (h : ∀ s' o', L2.Inv X pins σ (upd H a (.ext fun h => h.get? a = some o')) s' → NdObj X.prog X.w X.K Hf a o' (putK kvs k v) → Q () s') : wpAny (model X.prog X.w) X.A (setItem (.ref a) (.ref b) r) Q X.xe s := by
  obtain ⟨n1, n2, xs, n3, n4⟩ := nd_of I sub hn
  have hl : (putK kvs k v).length ≤ sizeLine := by have := length_putK kvs k v; omega
  refine wpAny_setItem_heap (knd := nestedKind X.prog X.w) (hsz := by rw [← Paired.length n3]; exact n1) (k := k) (show X.A.units + 1 + 8 < cLine by omega) ⟨nested_is (K := X.K) (Hf := Hf) I.hok sub k hb rfl, hk⟩ n4 fun h' dd' hs => ?_
  obtain ⟨q, es, ep, hq, h2, h3, h4, _, h5⟩ := dd'
  obtain ⟨o0, e0, _⟩ := hn
  exact h _ q (d_write I (by rw [e0]; exact True.intro) hs ⟨q, hq⟩ ⟨hq, ⟨q, hq⟩, fun h1 h2 e1 k1 => k1 q e1⟩) ⟨h2, n2, hl, es, ep, _, h3, h4, h5, nt_put n3 hb hk rv⟩
def sNPut (X : Cx) (kvs : List (NestedKey × V)) (k : NestedKey) (td ty tv : TE) : TS := fun D σ H => tv σ H fun v H1 => td σ H1 fun x H2 => ty σ H2 fun y H3 => ∃ a b Hf, x = .ref a ∧ y = .ref b ∧ Same Hf H3 ∧ NdAt X.prog X.w X.K Hf H3 a kvs ∧ Hf a = none ∧ Dv X.K Hf (.ref b) (nkD k) ∧
  ∀ o', NdObj X.prog X.w X.K Hf a o' (putK kvs k v) → D.nx σ (upd H3 a (.ext fun h => h.get? a = some o'))
theorem ps_nput (hu : X.A.units + 9 < cLine) (hk : k.depth ≤ 8) (hz : kvs.length < sizeLine) (ho : PE X o ta) (hi : PE X b tb) (hv : PE X a te) (hs : swapsWith a (some (.Subscript o b tp)) pos.line X.env = pure false) : PS X (.Assign [.Subscript o b tp] a pos) (sNPut X kvs k ta tb te) := by
  refine ⟨fun pins s σ H D I h => ?_⟩
  refine wpAny_Assign_Subscript (thn (hv.run pins s σ H _ I h) fun r s1 ⟨v, H1, I1, rv, q1⟩ => thn (ho.run pins s1 σ H1 _ I1 q1) fun u s2 ⟨x, H2, I2, rx, q2⟩ => thn (hi.run pins s2 σ H2 _ I2 q2) fun iv s3 ⟨y, H3, I3, ry, l, m, Hf, ex, ey, sub, hn, na, hb, q3⟩ => ?_) hs
  subst ex ey
  cases rx
  cases ry
  exact nd_set hu I3 sub hn na hk hb rv hz fun s4 o' I4 hn' => ⟨σ, _, I4, q3 o' hn'⟩
/-- found[k] = value, tuples of tuples the keys, scalars the values -/
theorem ws_dputN (i : Nat) {v0 : V} (hu : X.A.units + 9 < cLine) (hk : k.depth ≤ 8) (ht : ∃ ks, k = .tup ks) (ha : DP X a Γ d) (hd0 : ∀ Hf v, Dv X.K Hf v d → v = v0) (hb : DP X b Γ (nkD k)) (hz : kvs.length < sizeLine) (hr : WS X n rest (Γ.set i (some (.b (.ond (putK kvs k v0))))) p) (hN : X.N[i]? = some x := by rfl) (hg : Γ[i]? = some (some (.b (.ond kvs))) := by rfl)
    (hv : Vis X.env.scope x := by first | exact Or.inl rfl | exact Or.inr (Or.inl rfl) | exact Or.inr (Or.inr rfl)) (hd : (x == ("__debug__" : Str)) = false := by decide) (hcd : (x == ("__classdict__" : Str)) = false := by decide)
    (hs : swapsWith a (some (.Subscript (.Name x p1) b tp)) pos.line X.env = pure false := by rfl) : WS X n (.Assign [.Subscript (.Name x p1) b tp] a pos :: rest) Γ p :=
  ws_of (pss_cons (ps_nput hu hk hz (pe_var hN hv hd hcd) hb ha hs) hr) fun D σ H Hf fps ok g => tD_run ok fun v Hf1 H1 g1 hv1 => by
    obtain ⟨u, e1, l, ob, rfl, e2, e3, e4⟩ := ok.sl i _ hg
    refine ⟨_, e1, tD_run (ok.growG g1) fun y Hf2 H2 g2 hy => ?_⟩
    have e := hd0 _ _ hv1
    subst e
    have o2 := (ok.growG g1).growG g2
    obtain ⟨ks, rfl⟩ := ht
    cases hy with
    | tup h1 h2 =>
      refine ⟨l, _, Hf2, rfl, rfl, o2.sub, nd_up (g1.trans g2) ⟨ob, e3, e4⟩, o2.nf i l (by rw [e2]; exact List.mem_singleton.mpr rfl), .tup h1 h2, fun o' hn' => ?_⟩
      obtain ⟨fps3, o3, s3⟩ := o2.updO (u := .ext fun h => h.get? l = some o') (s' := .b (.ond (putK kvs (.tup ks) v))) hg e1 e2 ⟨l, o', rfl, rfl, upd_same, hn'⟩
      exact ⟨Hf2, fps3, o3, g.step (Rch.of ((g1.trans g2).step.trans s3))⟩
theorem ws_dputNF (i : Nat) {v0 : V} (cl : Cls X.K C) (na : NoAttr X.K C f) (hu : X.A.units + 9 < cLine) (hk : k.depth ≤ 8) (ht : ∃ ks, k = .tup ks) (ha : DP X a Γ d) (hd0 : ∀ Hf v, Dv X.K Hf v d → v = v0) (hb : DP X b Γ (nkD k)) (hz : kvs.length < sizeLine) (hl : fs.lookup f = some (.ond kvs)) (hr : WS X n rest (Γ.set i (some (.o C (putB f (.ond (putK kvs k v0)) fs)))) p) (hN : X.N[i]? = some x := by rfl) (hg : Γ[i]? = some (some (.o C fs)) := by rfl)
    (hv : Vis X.env.scope x := by first | exact Or.inl rfl | exact Or.inr (Or.inl rfl) | exact Or.inr (Or.inr rfl)) (hd : (x == ("__debug__" : Str)) = false := by decide) (hcd : (x == ("__classdict__" : Str)) = false := by decide) (hb1 : BaseOk X (.Name x p1) f := by rfl)
    (hs : swapsWith a (some (.Subscript (.Attribute (.Name x p1) f p2) b tp)) pos.line X.env = pure false := by rfl) : WS X n (.Assign [.Subscript (.Attribute (.Name x p1) f p2) b tp] a pos :: rest) Γ p :=
  ws_of (pss_cons (ps_nput hu hk hz (pe_fld (pe_var hN hv hd hcd) hb1) hb ha hs) hr) fun D σ H Hf fps ok g => tD_run ok fun v Hf1 H1 g1 hv1 => by
    have o1 := ok.growG g1
    obtain ⟨a0, dx, fvs, v0', fp, e1, e2, e3, ⟨l, ob, rfl, e5, e6, e7⟩, _⟩ := o1.fldIn hg hl
    refine ⟨_, e1, a0, C, dx, fvs, _, rfl, e2, cl, na, e3, tD_run o1 fun y Hf2 H2 g2 hy => ?_⟩
    have e := hd0 _ _ hv1
    subst e
    have o2 := o1.growG g2
    obtain ⟨ks, rfl⟩ := ht
    cases hy with
    | tup h1 h2 =>
      obtain ⟨a1, dx1, fvs1, v1, fp1, e1', e2', e3', ⟨l1, ob1, rfl, e5', e6', e7'⟩, _, lnf0, kk⟩ := o2.fldIn hg hl
      rw [e1] at e1'
      cases e1'
      rw [g2.all _ _ e2] at e2'
      cases e2'
      rw [e3] at e3'
      cases e3'
      have lnf : Hf2 l = none := lnf0 l (by rw [e5']; exact List.mem_singleton.mpr rfl)
      refine ⟨l, _, Hf2, rfl, rfl, o2.sub, ⟨ob1, e6', e7'⟩, lnf, .tup h1 h2, fun o' hn' => ?_⟩
      obtain ⟨fps3, o3, s3⟩ := kk (upd H2 l (.ext fun h => h.get? l = some o')) (.ond (putK kvs (.tup ks) v)) ⟨l, o', rfl, e5', upd_same, hn'⟩ (fun b hb => upd_ne fun w => hb (by rw [e5', w]; exact List.mem_singleton.mpr rfl)) fun b hb => by
        by_cases w : b = l
        · rw [w, upd_same]; simp
        · rw [upd_ne w]; exact hb
      exact ⟨Hf2, fps3, o3, g.step (Rch.of ((g1.trans g2).step.trans s3))⟩
/-- {} -/
theorem de_dictN : DE X (.Dict [] [] pos) Γ Γ (.b (.ond [])) := by
  refine ⟨fun pins s σ H Q I ⟨Hf, fps, ok, q⟩ => ?_⟩
  have hn : H s.heap.objs.size = none := I.hok.fresh (Nat.le_refl _)
  have e0 : (s.heap.push { cls := .type "dict", data := .dict #[] }).get? s.heap.objs.size = some { cls := .type "dict", data := .dict #[] } := Heap.get?_push_size _ rfl
  have hb : (s.heap.objs.size == sysModules) = false := beq_eq_false_iff_ne.mpr (Ne.symm (Nat.ne_of_lt I.big))
  have hnd : NdObj X.prog X.w X.K Hf s.heap.objs.size { cls := .type "dict", data := .dict #[] } [] := ⟨⟨rfl, rfl, rfl⟩, hb, Nat.zero_le _, #[], 0, [], rfl, rfl, List.nodup_nil, .nil⟩
  have I2 := I.laid (a := s.heap.objs.size) (h' := s.heap.push { cls := .type "dict", data := .dict #[] }) (o := .ext fun h => h.get? s.heap.objs.size = some { cls := .type "dict", data := .dict #[] }) (t' := s.toks) (fun _ _ q => Heap.get?_push_of_some _ q) (Nat.le_refl _) ⟨e0, ⟨_, e0⟩, fun h1 h2 e1 k1 => k1 _ e1⟩
  obtain ⟨o, r, st⟩ := ok.hand (u := .ext fun h => h.get? s.heap.objs.size = some { cls := .type "dict", data := .dict #[] }) (y := .ond []) hn ⟨s.heap.objs.size, _, rfl, rfl, upd_same, hnd⟩
  exact wpAny_Dict_empty ⟨.ref s.heap.objs.size, _, I2, rfl, q _ _ _ _ _ o r st⟩
end
end DL


set_option Elab.async false
set_option linter.all false
set_option maxRecDepth 100000
set_option maxHeartbeats 4000000
/-! DL11: a dict of dicts of one's own. -/
namespace DL
open PySem PySem.Spec PyProof.Rows L2

def truD (ls : List Str) : List (Key × PyData) := ls.map fun x => (Sum.inr x, .bool true)
def kkD (kvs : List (Str × List Str)) : PyData := dictD (kvs.map fun p => (Sum.inr p.1, dictD (truD p.2)))
theorem tru_D {K : PySem.W.Frag} {Hf : Hp} : ∀ ls : List Str, KvD K Hf (trues ls) (truD ls)
  | [] => .nil
  | x :: ls => .cons ⟨rfl, .bl true⟩ (tru_D ls)

/-! ### locks -/
section
variable {X : Cx} {pins : List (Addr × Obj)} {σ : L2.St} {s : Shared}
theorem lockL : ∀ (L : List Addr) {H : Hp}, L.Nodup → L2.Inv X pins σ H s → (∀ b ∈ L, ∃ ws, H b = some (.dK ws)) → ∃ H1, L2.Inv X pins σ H1 s ∧ (∀ b, b ∉ L → H1 b = H b) ∧ ∀ b ∈ L, ∃ od ws, H b = some (.dK ws) ∧ H1 b = some (.frz od (.dK ws))
  | [], H, _, I, _ => ⟨H, I, fun _ _ => rfl, fun _ h => (List.not_mem_nil h).elim⟩
  | b :: L, H, nd, I, h => by
    obtain ⟨nb, nL⟩ := List.nodup_cons.mp nd
    obtain ⟨ws, e⟩ := h b List.mem_cons_self
    obtain ⟨od, I1⟩ := I.lock e True.intro
    have ne : ∀ c ∈ L, c ≠ b := fun c hc z => nb (by rw [← z]; exact hc)
    obtain ⟨H1, I2, k1, k2⟩ := lockL L nL I1 fun c hc => by
      rw [upd_ne (ne c hc)]
      exact h c (List.mem_cons_of_mem _ hc)
    refine ⟨H1, I2, fun c hc => ?_, fun c hc => ?_⟩
    · have hc' : c ∉ L := fun z => hc (List.mem_cons_of_mem _ z)
      rw [k1 c hc', upd_ne fun z => hc (by rw [z]; exact List.mem_cons_self)]
    · rcases List.mem_cons.mp hc with z | z
      · subst z
        exact ⟨od, ws, e, by rw [k1 c nb, upd_same]⟩
      · obtain ⟨od', ws', e1, e2⟩ := k2 c z
        rw [upd_ne (ne c z)] at e1
        exact ⟨od', ws', e1, e2⟩
theorem unlockL : ∀ (L : List Addr) {H : Hp}, L.Nodup → L2.Inv X pins σ H s → (∀ b ∈ L, (∃ od ws, H b = some (.frz od (.dK ws))) ∧ ∀ o' u', X.H_0 b ≠ some (.frz o' u')) → ∃ H1, L2.Inv X pins σ H1 s ∧ (∀ b, b ∉ L → H1 b = H b) ∧ ∀ b ∈ L, ∀ od ws, H b = some (.frz od (.dK ws)) → H1 b = some (.dK ws)
  | [], H, _, I, _ => ⟨H, I, fun _ _ => rfl, fun _ h => (List.not_mem_nil h).elim⟩
  | b :: L, H, nd, I, h => by
    obtain ⟨nb, nL⟩ := List.nodup_cons.mp nd
    obtain ⟨⟨od, ws, e⟩, n0⟩ := h b List.mem_cons_self
    have I1 := I.unlock e n0
    have ne : ∀ c ∈ L, c ≠ b := fun c hc z => nb (by rw [← z]; exact hc)
    obtain ⟨H1, I2, k1, k2⟩ := unlockL L nL I1 fun c hc => by
      rw [upd_ne (ne c hc)]
      exact h c (List.mem_cons_of_mem _ hc)
    refine ⟨H1, I2, fun c hc => ?_, fun c hc od' ws' e' => ?_⟩
    · have hc' : c ∉ L := fun z => hc (List.mem_cons_of_mem _ z)
      rw [k1 c hc', upd_ne fun z => hc (by rw [z]; exact List.mem_cons_self)]
    · rcases List.mem_cons.mp hc with z | z
      · subst z
        rw [e] at e'
        cases e'
        rw [k1 c nb, upd_same]
      · exact k2 c z od' ws' (by rw [upd_ne (ne c z)]; exact e')
end
mutual
def noD : PyData → Bool
  | .list ds => noDs ds
  | .tuple ds => noDs ds
  | .dict _ => false
  | _ => true
def noDs : List PyData → Bool
  | [] => true
  | d :: ds => noD d && noDs ds
end
section
variable {K : PySem.W.Frag} {Hf Hg : Hp}
mutual
/-- data without dicts does not look at dicts -/
theorem dv_cut (k : ∀ a u, Hf a = some u → (∀ o ws, u ≠ .frz o (.dK ws)) → Hg a = some u) : ∀ (d : PyData) {v : V}, noD d = true → Dv K Hf v d → Dv K Hg v d
  | .none, _, _, h => by cases h; exact .non
  | .bool _, _, _, h => by cases h; exact .bl _
  | .int _, _, _, h => by cases h; exact .int _
  | .str _, _, _, h => by cases h; exact .str _
  | .list ds, _, c, h => by
    cases h with
    | @lst a xs _ h1 h2 =>
      refine .lst ?_ (dv_cutAll k ds (by simpa [noD] using c) h2)
      rcases h1 with (e | ⟨o, e⟩) | e
      · exact .inl (.inl (k _ _ e fun _ _ z => nomatch z))
      · exact .inl (.inr ⟨o, k _ _ e fun _ _ z => nomatch z⟩)
      · exact .inr e
  | .tuple ds, _, c, h => by
    cases h with
    | tup h1 h2 => exact .tup (k _ _ h1 fun _ _ z => nomatch z) (dv_cutAll k ds (by simpa [noD] using c) h2)
  | .dict ds, _, c, h => by simp [noD] at c
theorem dv_cutAll (k : ∀ a u, Hf a = some u → (∀ o ws, u ≠ .frz o (.dK ws)) → Hg a = some u) : ∀ (ds : List PyData) {vs : List V}, noDs ds = true → DvAll K Hf vs ds → DvAll K Hg vs ds
  | [], _, _, h => by cases h; exact .nil
  | d :: ds, _, c, h => by
    have c' : noD d = true ∧ noDs ds = true := by simpa [noDs] using c
    cases h with
    | cons h1 h2 => exact .cons (dv_cut k d c'.1 h1) (dv_cutAll k ds c'.2 h2)
end
end
section
variable {X : Cx} {e a b c o : Expr} {es : List Expr} {Γ Γ' Γ1 Γ2 : Ctx} {s s' : Sl} {d da db dc : PyData} {ds ds' ds0 : List PyData} {te ta tb : TE} {pos p1 p2 ap cp tp : Pos} {i n : Nat} {x f : Str} {st : Stmt} {rest sts : List Stmt} {p q : Po} {t : TS} {kvs : List (Str × List Str)}
theorem kk_val {K : PySem.W.Frag} {Hf H1 : Hp} : ∀ {kvs : List (Str × List Str)} {bs : List Addr}, Paired (fun b (q : Str × List Str) => ∃ od, H1 b = some (.frz od (.dK (trues q.2)))) bs kvs → (∀ b ∈ bs, Hf b = H1 b) → KvD K Hf ((kvs.zip bs).map fun q => ((Sum.inr q.1.1 : Key), V.ref q.2)) (kvs.map fun p => (Sum.inr p.1, dictD (truD p.2)))
  | [], _, _, _ => by
    rw [List.zip_nil_left]
    exact .nil
  | (k, ls) :: kvs, [], h, _ => by cases h
  | (k, ls) :: kvs, b :: bs, .cons ⟨od, e⟩ t, hk => by
    rw [List.zip_cons_cons, List.map_cons, List.map_cons]
    refine .cons ⟨rfl, ?_⟩ (kk_val t fun c hc => hk c (List.mem_cons_of_mem _ hc))
    exact .dct (by rw [hk b List.mem_cons_self]; exact e) (dvKV_of (tru_D ls))
/-- locking such a dict -/
theorem lockKK {pins : List (Addr × Obj)} {σ : L2.St} {H Hf : Hp} {sh : Shared} {fps : Fps} (I : L2.Inv X pins σ H sh) (ok : Ok X.prog X.w X.K Hf H σ Γ fps) (hg : Γ[i]? = some (some (.b (.okk kvs)))) :
    ∃ Hf1 H1 fps1, L2.Inv X pins σ H1 sh ∧ Ok X.prog X.w X.K Hf1 H1 σ (Γ.set i (some (dat (kkD kvs)))) fps1 ∧ Step (own fps) Hf H (own fps1) Hf1 H1 ∧ (∀ b, b ∉ fps i → H1 b = H b ∧ Hf1 b = Hf b) ∧ ∀ b ∈ fps i, (∃ od ws, H b = some (.dK ws) ∧ H1 b = some (.frz od (.dK ws)) ∧ Hf1 b = some (.frz od (.dK ws))) ∧ ∀ o' u', X.H_0 b ≠ some (.frz o' u') := by
  obtain ⟨v0, e1, l, bs, rfl, e2, e3, e4⟩ := ok.sl i _ hg
  have hdK : ∀ b ∈ fps i, ∃ ws, H b = some (.dK ws) := fun b hb => by
    rw [e2] at hb
    rcases List.mem_cons.mp hb with z | z
    · exact ⟨_, by rw [z]; exact e3⟩
    · obtain ⟨q, _, e⟩ := paired_mem_r e4 b z
      exact ⟨_, e⟩
  obtain ⟨H1, I1, k1, k2⟩ := lockL (fps i) (ok.nd i) I hdK
  have he : ∀ b, ∃ u, (b ∈ fps i → u = H1 b) ∧ (b ∉ fps i → u = Hf b) := fun b => by
    by_cases hb : b ∈ fps i
    · exact ⟨H1 b, fun _ => rfl, fun z => (z hb).elim⟩
    · exact ⟨Hf b, fun z => (hb z).elim, fun _ => rfl⟩
  let Hf1 : Hp := fun b => Classical.choose (he b)
  have f1 : ∀ b ∈ fps i, Hf1 b = H1 b := fun b hb => (Classical.choose_spec (he b)).1 hb
  have f2 : ∀ b, b ∉ fps i → Hf1 b = Hf b := fun b hb => (Classical.choose_spec (he b)).2 hb
  have mono : Same Hf Hf1 := fun b u hb => by
    rw [f2 b fun z => by rw [ok.nf i b z] at hb; cases hb]
    exact hb
  have sub1 : Same Hf1 H1 := fun b u hb => by
    by_cases z : b ∈ fps i
    · rw [f1 b z] at hb; exact hb
    · rw [f2 b z] at hb
      rw [k1 b z]
      exact ok.sub b u hb
  have st : Step (fun a => a ∈ fps i) Hf H (fun a => a ∈ ([] : List Addr)) Hf1 H1 := ⟨fun b u hb hu => by rw [k1 b hb]; exact hu, mono, fun a na ha _ => by rw [f2 a na]; exact ha, fun a ha => by
    by_cases z : a ∈ fps i
    · obtain ⟨od, ws, _, e⟩ := k2 a z
      rw [e]; simp
    · rw [k1 a z]; exact ha, fun a ha => (List.not_mem_nil ha).elim⟩
  have e4' : Paired (fun b (q : Str × List Str) => ∃ od, H1 b = some (.frz od (.dK (trues q.2)))) bs kvs := pairedMem e4 fun b q hb e => by
    obtain ⟨od, ws, w1, w2⟩ := k2 b (by rw [e2]; exact List.mem_cons_of_mem _ hb)
    rw [e] at w1
    cases w1
    exact ⟨od, w2⟩
  obtain ⟨od, ws, w1, w2⟩ := k2 l (by rw [e2]; exact List.mem_cons_self)
  rw [e3] at w1
  cases w1
  have hv : Dv X.K Hf1 (.ref l) (kkD kvs) := .dct (by rw [f1 l (by rw [e2]; exact List.mem_cons_self)]; exact w2) (dvKV_of (kk_val e4' fun b hb => f1 b (by rw [e2]; exact List.mem_cons_of_mem _ hb)))
  obtain ⟨o2, s2⟩ := ok.stepAt hg e1 st sub1 (s' := dat (kkD kvs)) ⟨rfl, hv⟩ List.nodup_nil fun _ h => (List.not_mem_nil h).elim
  refine ⟨Hf1, H1, _, I1, o2, s2, fun b hb => ⟨k1 b hb, f2 b hb⟩, fun b hb => ⟨?_, ?_⟩⟩
  · obtain ⟨od, ws, w1, w2⟩ := k2 b hb
    exact ⟨od, ws, w1, w2, by rw [f1 b hb]; exact w2⟩
  · obtain ⟨ws, e⟩ := hdK b hb
    exact I.nofrz e True.intro
/-- for good -/
theorem ws_frzKK (i : Nat) (hg : Γ[i]? = some (some (.b (.okk kvs)))) (h : WS X n sts (Γ.set i (some (dat (kkD kvs)))) p) : WS X n sts Γ p := by
  refine ⟨fun pins s σ H D I ⟨Hf, fps, ok, g⟩ => ?_⟩
  obtain ⟨Hf1, H1, fps1, I1, o1, s1, _⟩ := lockKK I ok hg
  exact h.run pins s σ H1 D I1 ⟨Hf1, fps1, o1, g.step (Rch.of s1)⟩
/-- for the time of an expression -/
theorem dp_borrow (i : Nat) (hg : Γ[i]? = some (some (.b (.okk kvs)))) (hc : noD d = true) (h : DP X e (Γ.set i (some (dat (kkD kvs)))) d) : DP X e Γ d := by
  refine ⟨fun pins s σ H Q I ⟨Hf, fps, ok, q⟩ => ?_⟩
  obtain ⟨Hf1, H1, fps1, I1, o1, s1, k1, k2⟩ := lockKK I ok hg
  refine thn (h.run pins s σ H1 (fun v H' => ∃ Hf', Grow Hf1 H1 Hf' H' ∧ Dv X.K Hf' v d) I1 ⟨Hf1, fps1, o1, fun v Hf' H' g hv => ⟨Hf', g, hv⟩⟩) fun u s' ⟨v, H', I', rv, Hf', g, hv⟩ => ?_
  obtain ⟨H2, I2, j1, j2⟩ := unlockL (fps i) (ok.nd i) I' fun b hb => by
    obtain ⟨⟨od, ws, w1, w2, w3⟩, w4⟩ := k2 b hb
    exact ⟨⟨od, ws, g.all _ _ w2⟩, w4⟩
  have he : ∀ b, ∃ u, (b ∈ fps i → u = none) ∧ (b ∉ fps i → u = Hf' b) := fun b => by
    by_cases hb : b ∈ fps i
    · exact ⟨none, fun _ => rfl, fun z => (z hb).elim⟩
    · exact ⟨Hf' b, fun z => (hb z).elim, fun _ => rfl⟩
  let Hf2 : Hp := fun b => Classical.choose (he b)
  have f1 : ∀ b ∈ fps i, Hf2 b = none := fun b hb => (Classical.choose_spec (he b)).1 hb
  have f2 : ∀ b, b ∉ fps i → Hf2 b = Hf' b := fun b hb => (Classical.choose_spec (he b)).2 hb
  refine ⟨v, H2, I2, rv, q v Hf2 H2 ⟨fun b u hb => ?_, fun b u hb => ?_, fun _ b u hb => ?_, fun a ha hn => ?_⟩ (dv_cut (fun a u ha hu => ?_) d hc hv)⟩
  · by_cases z : b ∈ fps i
    · obtain ⟨⟨od, ws, w1, w2, w3⟩, _⟩ := k2 b z
      rw [hb] at w1
      cases w1
      exact j2 b z od ws (g.all _ _ w2)
    · rw [j1 b z]
      exact g.all _ _ (by rw [(k1 b z).1]; exact hb)
  · have z : b ∉ fps i := fun z => by rw [ok.nf i b z] at hb; cases hb
    rw [f2 b z]
    exact g.mono _ _ (by rw [(k1 b z).2]; exact hb)
  · by_cases z : b ∈ fps i
    · rw [f1 b z] at hb; cases hb
    · rw [f2 b z] at hb
      rw [j1 b z]
      exact g.sub o1.sub _ _ hb
  · by_cases z : a ∈ fps i
    · exact f1 a z
    · rw [f2 a z]
      exact g.own a (by rw [(k1 a z).2]; exact ha) (by rw [(k1 a z).1]; exact hn)
  · have z : a ∉ fps i := fun z => by
      obtain ⟨⟨od, ws, w1, w2, w3⟩, _⟩ := k2 a z
      rw [g.mono _ _ w3] at ha
      cases ha
      exact hu od ws rfl
    rw [f2 a z]
    exact ha
/-! ### such a dict is made, read, written -/
theorem de_dictKK : DE X (.Dict [] [] pos) Γ Γ (.b (.okk [])) := de_of pe_dnewK fun σ H Hf fps ok Q q p hp => by
  obtain ⟨o, r, st⟩ := ok.hand (u := .dK []) (y := .okk []) hp ⟨p, [], rfl, rfl, upd_same, .nil⟩
  exact q _ _ _ _ _ o r st
def kkAt (kvs : List (Str × List Str)) (k : Str) : Option (List Str) := (kvs.find? fun p => decide (p.1 = k)).map (·.2)
def kkSet (kvs : List (Str × List Str)) (k : Str) (ls : List Str) : List (Str × List Str) := kvs.map fun p => if p.1 = k then (p.1, ls) else p
theorem kk_find {H : Hp} {k : Str} {ls : List Str} : ∀ {kvs : List (Str × List Str)} {bs : List Addr}, Paired (fun b (q : Str × List Str) => H b = some (.dK (trues q.2))) bs kvs → kkAt kvs k = some ls → ∃ b ∈ bs, valV ((kvs.zip bs).map fun q => ((Sum.inr q.1.1 : Key), V.ref q.2)) (Sum.inr k) = some (.ref b) ∧ H b = some (.dK (trues ls))
  | [], _, .nil, h => by simp [kkAt] at h
  | (j, ms) :: kvs, b :: bs, .cons e t, h => by
    by_cases z : j = k
    · have e2 : kkAt ((j, ms) :: kvs) k = some ms := by simp [kkAt, List.find?_cons, z]
      rw [e2] at h
      cases h
      refine ⟨b, List.mem_cons_self, ?_, e⟩
      rw [List.zip_cons_cons, List.map_cons]
      exact valV_pos (p := ((Sum.inr j : Key), V.ref b)) (by rw [z])
    · have e2 : kkAt ((j, ms) :: kvs) k = kkAt kvs k := by simp [kkAt, List.find?_cons, z]
      rw [e2] at h
      obtain ⟨c, hc, w1, w2⟩ := kk_find t h
      refine ⟨c, List.mem_cons_of_mem _ hc, ?_, w2⟩
      rw [List.zip_cons_cons, List.map_cons, valV_neg (p := ((Sum.inr j : Key), V.ref b)) fun w => z (Sum.inr.inj w)]
      exact w1
theorem kk_keys : ∀ {kvs : List (Str × List Str)} {bs : List Addr} {k : Str}, k ∉ kvs.map (·.1) → valV ((kvs.zip bs).map fun q => ((Sum.inr q.1.1 : Key), V.ref q.2)) (Sum.inr k) = none
  | [], _, _, _ => by rw [List.zip_nil_left]; rfl
  | _ :: _, [], _, _ => by rw [List.zip_nil_right]; rfl
  | (j, ms) :: kvs, b :: bs, k, h => by
    rw [List.zip_cons_cons, List.map_cons, valV_neg (p := ((Sum.inr j : Key), V.ref b)) fun w => h (by rw [← Sum.inr.inj w]; exact List.mem_cons_self)]
    exact kk_keys fun z => h (List.mem_cons_of_mem _ z)
theorem zip_snoc {α β : Type} {x : α} {y : β} : ∀ {l : List α} {m : List β}, m.length = l.length → (l ++ [x]).zip (m ++ [y]) = l.zip m ++ [(x, y)]
  | [], [], _ => rfl
  | [], _ :: _, h => by simp at h
  | _ :: _, [], h => by simp at h
  | a :: l, b :: m, h => by
    show (a, b) :: (l ++ [x]).zip (m ++ [y]) = (a, b) :: (l.zip m ++ [(x, y)])
    rw [zip_snoc (by simpa using h)]
/-- found[k] = {} -/
theorem ws_dputKK (i : Nat) {k : Str} (ha : DE X a Γ Γ1 (.b (.okd []))) (hg : Γ1[i]? = some (some (.b (.okk kvs)))) (hb : DP X b Γ1 (.str k)) (hk : k ∉ kvs.map (·.1)) (hz : kvs.length < sizeLine) (hu : X.A.units + 1 < cLine) (hr : WS X n rest (Γ1.set i (some (.b (.okk (kvs ++ [(k, [])]))))) p) (hN : X.N[i]? = some x := by rfl)
    (hv : Vis X.env.scope x := by first | exact Or.inl rfl | exact Or.inr (Or.inl rfl) | exact Or.inr (Or.inr rfl)) (hd : (x == ("__debug__" : Str)) = false := by decide) (hcd : (x == ("__classdict__" : Str)) = false := by decide)
    (hs : swapsWith a (some (.Subscript (.Name x p1) b tp)) pos.line X.env = pure false := by rfl) : WS X n (.Assign [.Subscript (.Name x p1) b tp] a pos :: rest) Γ p :=
  ws_of (pss_cons (ps_dput hu (pe_var hN hv hd hcd) hb ha hs) hr) fun D σ H Hf fps ok g => ⟨Hf, fps, ok, fun v Hf1 H1 fps1 h o1 r1 s1 => by
    obtain ⟨u, e1, l, bs, rfl, e2, e3, e4⟩ := o1.sl i _ hg
    refine ⟨_, e1, Hf1, fps1, o1, fun y Hf2 H2 g2 hy => ?_⟩
    cases hy
    have o2 := o1.growG g2
    obtain ⟨c, ws, rfl, rfl, c3, c4⟩ := r1.ok
    cases c4
    have hl : bs.length = kvs.length := Paired.length e4
    refine ⟨l, _, rfl, DPut.k (k := Sum.inr k) (g2.all _ _ e3) (by rw [List.length_map, List.length_zip, hl, Nat.min_self]; exact hz), ?_⟩
    rw [putK_new _ (kk_keys hk)]
    have lc : l ≠ c := fun z => r1.dj c (List.mem_singleton.mpr rfl) i (by rw [e2, z]; exact List.mem_cons_self)
    have cn : ∀ j, c ∉ fps1 j := fun j => r1.dj c (List.mem_singleton.mpr rfl) j
    have hc2 : H2 c = some (.dK []) := g2.all _ _ c3
    have nd := o2.nd i
    rw [e2] at nd
    have lb : ∀ b' ∈ bs, b' ≠ l := fun b' hb' z => (List.nodup_cons.mp nd).1 (by rw [← z]; exact hb')
    obtain ⟨o3, s3⟩ := o2.updS (f := [c]) (f' := l :: (bs ++ [c])) (H1 := upd H2 l (.dK (((kvs.zip bs).map fun q => ((Sum.inr q.1.1 : Key), V.ref q.2)) ++ [(Sum.inr k, V.ref c)]))) (s' := .b (.okk (kvs ++ [(k, [])])))
      ⟨by simp, fun w hw => by rw [List.mem_singleton.mp hw]; exact g2.own c (r1.nf c (List.mem_singleton.mpr rfl)) (by rw [c3]; exact True.intro), fun w hw j => by rw [List.mem_singleton.mp hw]; exact cn j⟩ hg e1
      ⟨l, bs ++ [c], rfl, rfl, by rw [upd_same, zip_snoc hl, List.map_append]; rfl, pair_app (pairedMem e4 fun b' q hb' e => by rw [upd_ne (lb b' hb')]; exact g2.all _ _ e) (.cons (by rw [upd_ne (Ne.symm lc)]; exact hc2) .nil)⟩
      (fun b' hb' => upd_ne fun z => hb' (by rw [e2, z]; exact List.mem_cons_self)) (fun b' hb' => by
        by_cases z : b' = l
        · rw [z, upd_same]; simp
        · rw [upd_ne z]; exact hb')
      (List.nodup_cons.mpr ⟨fun z => (List.mem_append.mp z).elim (List.nodup_cons.mp nd).1 fun w => lc (List.mem_singleton.mp w), List.nodup_append.mpr ⟨(List.nodup_cons.mp nd).2, by simp, fun w hw y hy e => cn i (by rw [e2, ← List.mem_singleton.mp hy, ← e]; exact List.mem_cons_of_mem _ hw)⟩⟩)
      fun w hw => by
        rcases List.mem_cons.mp hw with z | z
        · exact .inl (by rw [e2, z]; exact List.mem_cons_self)
        · rcases List.mem_append.mp z with z | z
          · exact .inl (by rw [e2]; exact List.mem_cons_of_mem _ z)
          · exact .inr z
    exact ⟨Hf2, _, o3, g.step (Rch.of ((s1.trans g2.step).trans s3))⟩⟩
/-- found[k], read as a dict -/
theorem dk_subKK (i : Nat) {k : Str} {ls : List Str} (hk : kkAt kvs k = some ls) (hb : DP X b Γ (.str k)) (hu : X.A.units + 1 < cLine) (hN : X.N[i]? = some x := by rfl) (hg : Γ[i]? = some (some (.b (.okk kvs))) := by rfl) (hv : Vis X.env.scope x := by first | exact Or.inl rfl | exact Or.inr (Or.inl rfl) | exact Or.inr (Or.inr rfl)) (hd : (x == ("__debug__" : Str)) = false := by decide) (hcd : (x == ("__classdict__" : Str)) = false := by decide)
    (hs : NoSl b := by exact fun _ _ => rfl) : DK X (.Subscript (.Name x p1) b pos) Γ (truD ls) :=
  dk_grow (pe_dget hu (pe_var hN hv hd hcd) hb hs) fun σ H Hf fps ok Q q => by
    obtain ⟨u, e1, l, bs, rfl, e2, e3, e4⟩ := ok.sl i _ hg
    refine ⟨_, e1, tD_run ok fun y Hf1 H1 g1 hy => ?_⟩
    cases hy
    obtain ⟨c, hc, w1, w2⟩ := kk_find e4 hk
    exact ⟨l, _, rfl, .inl ⟨_, Sum.inr k, .inl (g1.all _ _ e3), rfl, w1.symm⟩, q c _ Hf1 H1 g1 (.inl (g1.all _ _ w2)) (tru_D ls)⟩
theorem kk_chg {H H1 : Hp} {k : Str} {ls' : List Str} {c : Addr} : ∀ {kvs : List (Str × List Str)} {bs : List Addr}, Paired (fun b (q : Str × List Str) => H b = some (.dK (trues q.2))) bs kvs → (kvs.map (·.1)).Nodup → bs.Nodup → valV ((kvs.zip bs).map fun q => ((Sum.inr q.1.1 : Key), V.ref q.2)) (Sum.inr k) = some (.ref c) →
    H1 c = some (.dK (trues ls')) → (∀ b, b ≠ c → H1 b = H b) → Paired (fun b (q : Str × List Str) => H1 b = some (.dK (trues q.2))) bs (kkSet kvs k ls') ∧ ((kkSet kvs k ls').zip bs).map (fun q => ((Sum.inr q.1.1 : Key), V.ref q.2)) = (kvs.zip bs).map fun q => ((Sum.inr q.1.1 : Key), V.ref q.2)
  | [], _, .nil, _, _, _, _, _ => ⟨.nil, rfl⟩
  | (j, ms) :: kvs, b :: bs, .cons e t, n1, n2, hv, h1, h2 => by
    rw [List.map_cons] at n1
    obtain ⟨m1, m2⟩ := List.nodup_cons.mp n1
    obtain ⟨m3, m4⟩ := List.nodup_cons.mp n2
    rw [List.zip_cons_cons, List.map_cons] at hv ⊢
    by_cases z : j = k
    · have e5 := valV_pos (p := ((Sum.inr j : Key), V.ref b)) (r := (kvs.zip bs).map fun q => ((Sum.inr q.1.1 : Key), V.ref q.2)) (k := Sum.inr k) (by rw [z])
      rw [e5] at hv
      cases hv
      have same : kkSet kvs k ls' = kvs := by
        unfold kkSet
        have : ∀ p ∈ kvs, (if p.1 = k then (p.1, ls') else p) = p := fun p hp => if_neg fun w => m1 (by rw [z, ← w]; exact List.mem_map.mpr ⟨p, hp, rfl⟩)
        rw [List.map_congr_left this, List.map_id']
      have hs : kkSet ((j, ms) :: kvs) k ls' = (j, ls') :: kkSet kvs k ls' := by
        show (if j = k then _ else _) :: _ = _
        rw [if_pos z]; rfl
      rw [hs, same]
      exact ⟨.cons h1 (pairedMem t fun b' q hb' w => by rw [h2 b' fun y => m3 (by rw [← y]; exact hb')]; exact w), rfl⟩
    · rw [valV_neg (p := ((Sum.inr j : Key), V.ref b)) fun w => z (Sum.inr.inj w)] at hv
      obtain ⟨r1, r2⟩ := kk_chg t m2 m4 hv h1 h2
      have hs : kkSet ((j, ms) :: kvs) k ls' = (j, ms) :: kkSet kvs k ls' := by
        show (if j = k then _ else _) :: _ = _
        rw [if_neg z]; rfl
      rw [hs, List.zip_cons_cons, List.map_cons, r2]
      refine ⟨.cons ?_ r1, rfl⟩
      have hb : b ≠ c := fun w => by
        have hc : ∃ q ∈ kvs.zip bs, V.ref q.2 = V.ref c := by
          have : ∃ p ∈ (kvs.zip bs).map fun q => ((Sum.inr q.1.1 : Key), V.ref q.2), p.2 = V.ref c := by
            unfold valV at hv
            obtain ⟨p, hp, hp2⟩ := Option.map_eq_some_iff.mp hv
            exact ⟨p, List.mem_of_find?_eq_some hp, hp2⟩
          obtain ⟨p, hp, e⟩ := this
          obtain ⟨q, hq, rfl⟩ := List.mem_map.mp hp
          exact ⟨q, hq, e⟩
        obtain ⟨q, hq, e⟩ := hc
        injection e with e
        refine m3 ?_
        rw [w, ← e]
        exact (List.of_mem_zip (a := q.1) (b := q.2) hq).2
      rw [h2 b hb]
      exact e
theorem trues_put {ls : List Str} {y : Str} (h : y ∉ ls) : putK (trues ls) (Sum.inr y) (V.bl true) = trues (ls ++ [y]) := by
  have hn : valV (trues ls) (Sum.inr y : Key) = none := by
    induction ls with
    | nil => rfl
    | cons z ls ih =>
      show valV (((Sum.inr z : Key), V.bl true) :: trues ls) _ = none
      rw [valV_neg (p := ((Sum.inr z : Key), V.bl true)) fun w => h (by rw [← Sum.inr.inj w]; exact List.mem_cons_self)]
      exact ih fun w => h (List.mem_cons_of_mem _ w)
  rw [putK_new _ hn]
  simp [trues]
theorem trues_len (ls : List Str) : (trues ls).length = ls.length := by simp [trues]
/-- found[k][y] = True -/
theorem ws_dputKK2 (i : Nat) {k y : Str} {ls : List Str} (hg : Γ[i]? = some (some (.b (.okk kvs)))) (ha : DP X a Γ (.bool true)) (hb : DP X b Γ (.str k)) (hc : DP X c Γ (.str y)) (hk : kkAt kvs k = some ls) (hy : y ∉ ls) (nd : (kvs.map (·.1)).Nodup) (hz : ls.length < sizeLine) (hu : X.A.units + 1 < cLine) (hr : WS X n rest (Γ.set i (some (.b (.okk (kkSet kvs k (ls ++ [y])))))) p) (hN : X.N[i]? = some x := by rfl)
    (hv : Vis X.env.scope x := by first | exact Or.inl rfl | exact Or.inr (Or.inl rfl) | exact Or.inr (Or.inr rfl)) (hd : (x == ("__debug__" : Str)) = false := by decide) (hcd : (x == ("__classdict__" : Str)) = false := by decide) (hsl : NoSl b := by exact fun _ _ => rfl)
    (hs : swapsWith a (some (.Subscript (.Subscript (.Name x p1) b p2) c tp)) pos.line X.env = pure false := by rfl) : WS X n (.Assign [.Subscript (.Subscript (.Name x p1) b p2) c tp] a pos :: rest) Γ p :=
  ws_of (pss_cons (ps_dput hu (pe_dget hu (pe_var hN hv hd hcd) hb hsl) hc ha hs) hr) fun D σ H Hf fps ok g => tD_run ok fun v Hf1 H1 g1 hv1 => by
    cases hv1
    have o1 := ok.growG g1
    obtain ⟨u, e1, l, bs, rfl, e2, e3, e4⟩ := o1.sl i _ hg
    refine ⟨_, e1, tD_run o1 fun w Hf2 H2 g2 hw => ?_⟩
    cases hw
    have o2 := o1.growG g2
    obtain ⟨u, e1', l2, bs2, rfl, e2', e3', e4'⟩ := o2.sl i _ hg
    rw [e1] at e1'
    cases e1'
    obtain ⟨m, hm, w1, w2⟩ := kk_find e4' hk
    refine ⟨l, _, rfl, .inl ⟨_, Sum.inr k, .inl e3', rfl, w1.symm⟩, tD_run o2 fun w Hf3 H3 g3 hw => ?_⟩
    cases hw
    have o3 := o2.growG g3
    refine ⟨m, _, rfl, DPut.k (k := Sum.inr y) (g3.all _ _ w2) (by rw [trues_len]; exact hz), ?_⟩
    rw [trues_put hy]
    have ndl := o3.nd i
    rw [e2'] at ndl
    have ml : m ≠ l := fun z => (List.nodup_cons.mp ndl).1 (by rw [← z]; exact hm)
    obtain ⟨r1, r2⟩ := kk_chg (H := H3) (H1 := upd H3 m (.dK (trues (ls ++ [y])))) (ls' := ls ++ [y]) (pairedMem e4' fun b' q _ e => g3.all _ _ e) nd (List.nodup_cons.mp ndl).2 w1 upd_same fun b' hb' => upd_ne hb'
    obtain ⟨o4, s4⟩ := o3.updS (f' := l :: bs2) (H1 := upd H3 m (.dK (trues (ls ++ [y])))) (s' := .b (.okk (kkSet kvs k (ls ++ [y])))) noHand hg e1 ⟨l, bs2, rfl, rfl, by rw [upd_ne (Ne.symm ml), r2]; exact g3.all _ _ e3', r1⟩
      (fun b' hb' => upd_ne fun z => hb' (by rw [e2', z]; exact List.mem_cons_of_mem _ hm)) (fun b' hb' => by
        by_cases z : b' = m
        · rw [z, upd_same]; simp
        · rw [upd_ne z]; exact hb') ndl fun w hw => .inl (by rw [e2']; exact hw)
    exact ⟨Hf3, _, o4, g.step (Rch.of (((((g1.trans g2).trans g3).step (W := own fps)).imp fun _ h => noR h).trans s4))⟩
end
end DL


set_option Elab.async false
set_option linter.all false
set_option maxRecDepth 100000
set_option maxHeartbeats 4000000
/-! DL12: dicts made of pairs; dicts with tuples as keys that stay; texts. -/
namespace DL
open PySem PySem.Spec PyProof.Rows L2

section
variable {X : Cx} {e a b c o : Expr} {es : List Expr} {Γ Γ' Γ1 Γ2 : Ctx} {s s' : Sl} {d da db dc : PyData} {ds ds' ds0 : List PyData} {te ta tb : TE} {pos p1 p2 ap cp tp : Pos} {i n : Nat} {x f : Str} {st : Stmt} {rest sts : List Stmt} {p q : Po} {t : TS}
/-! ### dict(pairs) -/
theorem pairs_dv {K : PySem.W.Frag} {H : Hp} : ∀ {kvs : List (Key × PyData)} {xs : List V}, DvAll K H xs (itemsD kvs) → ∃ (ps : List Addr) (ws : List (Key × V)), xs = ps.map V.ref ∧ Paired (fun p (kv : Key × V) => H p = some (.tup [kV kv.1, kv.2])) ps ws ∧ KvD K H ws kvs
  | [], _, h => by
    cases h
    exact ⟨[], [], rfl, .nil, .nil⟩
  | (k, d) :: kvs, _, h => by
    rw [itemsD, List.map_cons] at h
    cases h with
    | cons h1 h2 =>
      obtain ⟨ps, ws, e, r1, r2⟩ := pairs_dv h2
      cases h1 with
      | @tup a ys _ g1 g2 =>
        cases g2 with
        | cons w1 w2 =>
          cases w2 with
          | @cons v2 _ _ _ w2 w3 =>
            cases w3
            have ek := key_dv w1
            subst ek
            exact ⟨a :: ps, (k, v2) :: ws, by rw [e]; rfl, .cons g1 r1, .cons ⟨rfl, w2⟩ r2⟩
theorem merge_nd {K : PySem.W.Frag} {H : Hp} : ∀ {more acc : List (Key × V)}, ((acc ++ more).map (·.1)).Nodup → mergeK acc more = acc ++ more
  | [], acc, _ => (List.append_nil acc).symm
  | kv :: more, acc, nd => by
    have hn : valV acc kv.1 = none := by
      have : kv.1 ∉ acc.map (·.1) := fun z => by
        rw [List.map_append] at nd
        exact (List.nodup_append.mp nd).2.2 _ z _ (by rw [List.map_cons]; exact List.mem_cons_self) rfl
      cases q : valV acc kv.1 with
      | none => rfl
      | some v =>
        unfold valV at q
        obtain ⟨w, hw, _⟩ := Option.map_eq_some_iff.mp q
        have e := List.find?_some hw
        exact absurd (List.mem_map.mpr ⟨w, List.mem_of_find?_eq_some hw, by simpa using e⟩) this
    show mergeK (putK acc kv.1 kv.2) more = _
    rw [putK_new _ hn, merge_nd (K := K) (H := H) (by simpa using nd)]
    simp
theorem kv_keys {K : PySem.W.Frag} {H : Hp} : ∀ {ws : List (Key × V)} {kvs : List (Key × PyData)}, KvD K H ws kvs → ws.map (·.1) = kvs.map (·.1)
  | _, _, .nil => rfl
  | _, _, .cons ⟨h, _⟩ t => by rw [List.map_cons, List.map_cons, h, kv_keys t]
theorem de_dictP {kvs : List (Key × PyData)} (nd : (kvs.map (·.1)).Nodup) (ha : DP X e Γ (.list (itemsD kvs))) (hg : Gl X "dict") (hm : X.mg "dict" = none) (hc : X.calm = true := by rfl) (hs : starEach [e] X.env = (false, eval e X.env) :: starEach [] X.env := by rfl) (hpl : (backTo pos (starEach [] X.env)).any (·.1) = false := by rfl) :
    DE X (.Call (.Name "dict" p1) [e] [] pos) Γ Γ (.b (.okd kvs)) :=
  de_of (pe_callTy (call_dictP hc) hg hm (by decide +kernel) (pa_cons ha pa_nil hs) (he := hs) (hpl := hpl)) fun σ H Hf fps ok Q q => ⟨Hf, fps, ok, fun v Hf1 H1 g1 hv => by
    have o1 := ok.growG g1
    cases hv with
    | @lst l xs _ h1 h2 =>
      obtain ⟨ps, ws, e1, r1, r2⟩ := pairs_dv h2
      subst e1
      refine ⟨l, ps, ws, rfl, Same.seq o1.sub h1, Paired.mapP r1 fun p kv w => SqT.of (o1.sub _ _ w), fun p hp => ?_⟩
      rw [merge_nd (K := X.K) (H := Hf1) (acc := []) (by rw [List.nil_append, kv_keys r2]; exact nd)]
      obtain ⟨o2, r, st⟩ := o1.hand (u := .dK ws) (y := .okd kvs) hp ⟨p, ws, rfl, rfl, upd_same, r2⟩
      exact q _ _ _ _ _ o2 r (g1.step.trans st)⟩
/-- .. of pairs (tuple, value) -/
def pairsT (kvs : List (List Key × PyData)) : List PyData := kvs.map fun p => .tuple [.tuple (p.1.map kD), p.2]
def rDictT (X : Cx) (kvs : List (List Key × PyData)) : List V → Hp → VK → Prop := fun xs H Q => ∃ (a : Addr) (ys : List V) (Hf : Hp), xs = [.ref a] ∧ SqL X.K H a ys ∧ Same Hf H ∧ DvAll X.K Hf ys (pairsT kvs) ∧ ∀ p ws, H p = none → KtD X.K Hf ws kvs → Q (.ref p) (upd H p (.dT ws))
/-- the pairs with their addresses -/
theorem pairsT_of {K : PySem.W.Frag} {P : Program} {w : World} {H Hf : Hp} {h : Heap} (ok : HOk P w H h) (sub : Same Hf H) : ∀ {kvs : List (List Key × PyData)} {ys : List V} {us : List Value}, DvAll K Hf ys (pairsT kvs) → Vals ys us →
    ∃ (Ts : List Addr) (xs : List (List Key × Addr × Value)) (ws : List (List Key × V)), us = Ts.map Value.ref ∧ KtD K Hf ws kvs ∧ KT H ws xs ∧ Ts.length = xs.length ∧ ∀ (j : Nat) (k : List Key) (b : Addr) (u : Value), xs[j]? = some (k, b, u) → ∃ T, Ts[j]? = some T ∧ PairAt h T (.ref b) u
  | [], _, _, d, r => by
    cases d
    cases r
    exact ⟨[], [], [], rfl, .nil, .nil, rfl, fun j k b u e => by simp at e⟩
  | (k, d) :: kvs, _, _, dd, r => by
    rw [pairsT, List.map_cons] at dd
    cases dd with
    | cons h1 h2 =>
      cases r with
      | cons r1 r2 =>
        obtain ⟨Ts, xs, ws, e, k1, k2, k3, k4⟩ := pairsT_of ok sub h2 r2
        cases h1 with
        | @tup a ys _ g1 g2 =>
          cases r1
          cases g2 with
          | cons w1 w2 =>
            cases w2 with
            | @cons v2 _ _ _ w2 w3 =>
              cases w3
              obtain ⟨b, rfl, hb⟩ := tup_keys w1
              obtain ⟨_, its, rv, ht⟩ := (show ObjOk P w H h a (.tup [.ref b, v2]) from ok _ _ (sub _ _ g1))
              cases rv with
              | cons q1 q2 =>
                cases q1
                cases q2 with
                | @cons _ u _ _ q2 q3 =>
                  cases q3
                  refine ⟨a :: Ts, (k, b, u) :: xs, (k, v2) :: ws, by rw [e]; rfl, .cons ⟨rfl, w2⟩ k1, .cons ⟨rfl, sub _ _ hb, q2⟩ k2, by rw [List.length_cons, List.length_cons, k3], fun j k' b' u' e' => ?_⟩
                  cases j with
                  | zero =>
                    have e'' := Option.some.inj (show some (k, b, u) = some (k', b', u') from e')
                    cases e''
                    obtain ⟨o, o1, o2, n, o3⟩ := ht
                    exact ⟨a, rfl, .inl ⟨o, o1, o2, n, o3⟩⟩
                  | succ j =>
                    obtain ⟨T, w1, w2⟩ := k4 j k' b' u' (by simpa using e')
                    exact ⟨T, by simpa using w1, w2⟩
theorem storedAll_nd : ∀ {ps xs : List (List Key × Addr × Value)}, ((xs ++ ps).map (·.1)).Nodup → storedAllH xs ps = xs ++ ps
  | [], xs, _ => (List.append_nil xs).symm
  | p :: ps, xs, nd => by
    have hn : (atKey xs p.1).isSome = false := by
      have : p.1 ∉ xs.map (·.1) := fun z => by
        rw [List.map_append] at nd
        exact (List.nodup_append.mp nd).2.2 _ z _ (by rw [List.map_cons]; exact List.mem_cons_self) rfl
      cases q : atKey xs p.1 with
      | none => rfl
      | some v =>
        unfold atKey at q
        obtain ⟨w, hw, _⟩ := Option.map_eq_some_iff.mp q
        have e := List.find?_some hw
        exact absurd (List.mem_map.mpr ⟨w, List.mem_of_find?_eq_some hw, by simpa using e⟩) this
    have e : storedH xs p.1 p.2.1 p.2.2 = xs ++ [p] := by
      unfold storedH
      rw [if_neg (by rw [hn]; exact Bool.false_ne_true)]
    show storedAllH (storedH xs p.1 p.2.1 p.2.2) ps = _
    rw [e, storedAll_nd (by simpa using nd)]
    simp
theorem kt_keys {H : Hp} : ∀ {ws : List (List Key × V)} {xs : List (List Key × Addr × Value)}, KT H ws xs → xs.map (·.1) = ws.map (·.1)
  | _, _, .nil => rfl
  | _, _, .cons ⟨h, _⟩ t => by rw [List.map_cons, List.map_cons, ← h, kt_keys t]
theorem ktd_keys {K : PySem.W.Frag} {H : Hp} : ∀ {ws : List (List Key × V)} {kvs : List (List Key × PyData)}, KtD K H ws kvs → ws.map (·.1) = kvs.map (·.1)
  | _, _, .nil => rfl
  | _, _, .cons ⟨h, _⟩ t => by rw [List.map_cons, List.map_cons, h, ktd_keys t]
theorem call_dictT {kvs : List (List Key × PyData)} (nd : (kvs.map (·.1)).Nodup) (hu : X.A.units + 9 < cLine) (hc : X.calm = true) : CallR X (.type "dict") (rDictT X kvs) := by
  intro pins s σ H xs us Q I r h
  obtain ⟨a, ys, Hf, rfl, hs, sub, hd, q⟩ := h
  obtain ⟨its, rv, pl, hz⟩ := I.list hs
  rw [Vals.ref1 r]
  obtain ⟨Ts, qs, ws, e1, k1, k2, k3, k4⟩ := pairsT_of I.hok sub hd rv
  have hlen : qs.length = its.length := by rw [e1, List.length_map, k3]
  have hws : ws.length = qs.length := Paired.length k2
  obtain ⟨o, n, ho, hcl, hdn, hdat⟩ := pl
  let ps : List (Value × Value) := qs.map fun q => (.ref q.2.1, q.2.2)
  have PA := PairArg.list (prog := X.prog) (w := X.w) a its.toArray (fun j => Ts.getD j 0) ps
  have hpl : ps.length = qs.length := by simp [ps]
  refine call_dict_pairsH (knd := tupleKind (mixKind X.prog X.w)) (ps := qs) PA (I.ok.hd hc) (tupleKind_room_in1 (A := X.A.in1) (show X.A.units + 1 + 1 < cLine by omega)) ⟨⟨o, n, ho, hcl, hdn, hdat⟩, by rw [List.size_toArray, hpl, hlen], fun j k v hj => ?_⟩ ⟨hpl.symm, fun j key v hj => ?_⟩ (fun h' hk x hx => ?_) (by rw [hpl, hlen, ← rv.length]; exact hz) fun h' tk hd' hk => ?_
  · simp only [ps, List.getElem?_map] at hj
    obtain ⟨⟨k', b, u⟩, hq, e⟩ := Option.map_eq_some_iff.mp hj
    cases e
    obtain ⟨T, w1, w2⟩ := k4 j k' b u hq
    have eT : Ts.getD j 0 = T := by simp [List.getD, w1]
    refine ⟨?_, by show PairAt _ (Ts.getD j 0) _ _; rw [eT]; exact w2⟩
    show its.toArray[j]? = some (Value.ref (Ts.getD j 0))
    rw [eT, e1]
    simp [w1]
  · have hj : ps[j]? = some (key, v) := hj
    simp only [ps, List.getElem?_map] at hj
    obtain ⟨⟨k', b, u⟩, hq, e⟩ := Option.map_eq_some_iff.mp hj
    cases e
    exact ⟨k', b, hq, rfl⟩
  · obtain ⟨p, _, w1, w2, w3⟩ := paired_mem_r' k2 x hx
    obtain ⟨_, its', rv', o', e1', e2', n', e3'⟩ := (show ObjOk X.prog X.w H s.heap x.2.1 (.tup (p.1.map kV)) from I.hok _ _ w2)
    rw [← w1]
    exact ⟨o', its'.toArray, n', hk _ _ (Nat.ne_of_lt (Heap.lt_size e1')) (fun z => nomatch z) e1', e2', e3', by simpa using items_are rv'⟩
  · have hm : (s.heap.objs.size == sysModules) = false := beq_eq_false_iff_ne.mpr (Nat.ne_of_gt I.big)
    have hnd : ((([] : List (List Key × Addr × Value)) ++ qs).map (·.1)).Nodup := by rw [List.nil_append, kt_keys k2, ktd_keys k1]; exact nd
    rw [storedAll_nd hnd, List.nil_append] at hd'
    obtain ⟨od, es, ep, w1, w2, w3, w4, w5, w6⟩ := hd'
    have hf : H s.heap.objs.size = none := I.hok.fresh (Nat.le_refl _)
    refine ⟨.ref s.heap.objs.size, upd H s.heap.objs.size (.dT ws), I.laid (t' := tk) (fun b u e => hk b u (fun z => nomatch z) e) (Nat.le_refl _) (show ObjOk X.prog X.w (upd H s.heap.objs.size (.dT ws)) h' s.heap.objs.size (.dT ws) from ⟨by rw [hws, hlen, ← rv.length]; exact hz, hm, qs, k2.keeps fun b ys e => by rw [upd_ne (ne_of_none e hf)]; exact e, od, es, ep, w1, w2, w3, w4, w6⟩), rfl, q _ ws hf k1⟩
theorem de_dictPT {kvs : List (List Key × PyData)} (nd : (kvs.map (·.1)).Nodup) (hu : X.A.units + 9 < cLine) (ha : DP X e Γ (.list (pairsT kvs))) (hg : Gl X "dict") (hm : X.mg "dict" = none) (hc : X.calm = true := by rfl) (hs : starEach [e] X.env = (false, eval e X.env) :: starEach [] X.env := by rfl) (hpl : (backTo pos (starEach [] X.env)).any (·.1) = false := by rfl) :
    DE X (.Call (.Name "dict" p1) [e] [] pos) Γ Γ (.b (.otd kvs)) :=
  de_of (pe_callTy (call_dictT nd hu hc) hg hm (by decide +kernel) (pa_cons ha pa_nil hs) (he := hs) (hpl := hpl)) fun σ H Hf fps ok Q q => ⟨Hf, fps, ok, fun v Hf1 H1 g1 hv => by
    have o1 := ok.growG g1
    cases hv with
    | @lst l xs _ h1 h2 =>
      refine ⟨l, xs, Hf1, rfl, Same.seq o1.sub h1, o1.sub, h2, fun p ws hp hw => ?_⟩
      obtain ⟨o2, r, st⟩ := o1.hand (u := .dT ws) (y := .otd kvs) hp ⟨p, ws, rfl, rfl, upd_same, hw⟩
      exact q _ _ _ _ _ o2 r (g1.step.trans st)⟩
/-! ### a dict with tuples as keys that stays -/
theorem ws_frzT {kvs : List (List Key × PyData)} (i : Nat) (hg : Γ[i]? = some (some (.b (.otd kvs)))) (h : WS X n sts (Γ.set i (some (.b (.ftd kvs)))) p) : WS X n sts Γ p := by
  refine ⟨fun pins s σ H D I ⟨Hf, fps, ok, g⟩ => ?_⟩
  obtain ⟨v, e1, l, ws, rfl, e2, e3, e4⟩ := ok.sl i _ hg
  obtain ⟨od, I2⟩ := I.lock e3 True.intro
  have lm : l ∈ fps i := by rw [e2]; exact List.mem_singleton.mpr rfl
  have hn : Hf l = none := ok.nf i l lm
  have mono : Same Hf (upd Hf l (.frz od (.dT ws))) := fun b o hb => by rw [upd_ne (ne_of_none hb hn)]; exact hb
  have keep : ∀ b, b ≠ l → upd H l (.frz od (.dT ws)) b = H b := fun b hb => upd_ne hb
  have st : Step (fun a => a ∈ fps i) Hf H (fun a => a ∈ ([] : List Addr)) (upd Hf l (.frz od (.dT ws))) (upd H l (.frz od (.dT ws))) := ⟨fun b u hb hu => by rw [keep b fun z => hb (by rw [z]; exact lm)]; exact hu, mono, fun a na ha _ => by rw [upd_ne fun z => na (by rw [z]; exact lm)]; exact ha, fun a ha => by
    by_cases z : a = l
    · rw [z, upd_same]; simp
    · rw [upd_ne z]; exact ha, fun a ha => (List.not_mem_nil ha).elim⟩
  obtain ⟨o2, s2⟩ := ok.stepAt hg e1 st (fun b u hb => by
    by_cases z : b = l
    · rw [z, upd_same] at hb ⊢; exact hb
    · rw [upd_ne z] at hb ⊢; exact ok.sub b u hb) (s' := .b (.ftd kvs)) ⟨rfl, l, od, ws, rfl, upd_same, KtD.up mono e4⟩ List.nodup_nil fun _ h => (List.not_mem_nil h).elim
  exact h.run pins s σ _ D I2 ⟨_, _, o2, g.step (Rch.of s2)⟩
theorem ktd_at {K : PySem.W.Frag} {H : Hp} : ∀ {ws : List (List Key × V)} {kvs : List (List Key × PyData)} {i : Nat} {k : List Key} {v : V}, KtD K H ws kvs → ws[i]? = some (k, v) → ∃ d, kvs[i]? = some (k, d)
  | _, _, _, _, _, .nil, e => by simp at e
  | (k1, v) :: _, (k2, d') :: _, 0, k, _, .cons ⟨h1, h2⟩ _, e => by
    have h1 : k1 = k2 := h1
    subst h1
    have e' := Option.some.inj (show some (k1, v) = some (k, _) from e)
    cases e'
    exact ⟨d', rfl⟩
  | _ :: _, _ :: _, i + 1, k, _, .cons _ t, e => by
    obtain ⟨d, h⟩ := ktd_at (i := i) t (by simpa using e)
    exact ⟨d, by simpa using h⟩
theorem kVs_dv {K : PySem.W.Frag} {H : Hp} : ∀ k : List Key, DvAll K H (k.map kV) (k.map kD)
  | [] => .nil
  | a :: k => .cons (kV_dv a) (kVs_dv k)
/-- for k in d -/
theorem di_keysT {tg : Expr} {kvs : List (List Key × PyData)} (i : Nat) (hN : X.N[i]? = some x := by rfl) (hg : Γ[i]? = some (some (.b (.ftd kvs))) := by rfl) (hv : Vis X.env.scope x := by first | exact Or.inl rfl | exact Or.inr (Or.inl rfl) | exact Or.inr (Or.inr rfl)) (hd : (x == ("__debug__" : Str)) = false := by decide) (hcd : (x == ("__classdict__" : Str)) = false := by decide) :
    DI X false tg (.Name x pos) Γ (kvs.map fun kv => .tuple (kv.1.map kD)) := di_of (pi_keys (pe_var hN hv hd hcd)) fun σ H Hf fps ok R q => by
  obtain ⟨v, e1, e0, l, od, ws, rfl, e2, e3⟩ := ok.sl i _ hg
  refine ⟨_, e1, l, od, rfl, .inr ⟨ws, ok.sub _ _ e2, q _ Hf H .refl ⟨fun j d Hf' H' e h1 h2 h3 => ?_, fun j Hf' H' e h1 h2 h3 => ⟨h3 _ _ (h2 _ _ e2), by rw [Paired.length e3]; simpa using e⟩⟩⟩⟩
  rw [List.getElem?_map] at e
  obtain ⟨⟨k, d0⟩, e0', e00⟩ := Option.map_eq_some_iff.mp e
  refine ⟨⟨h3 _ _ (h2 _ _ e2), by rw [Paired.length e3]; exact (List.getElem?_eq_some_iff.mp e0').1⟩, fun y H'' ⟨eH, k', v', b, e4, e5, e6⟩ => ?_⟩
  subst eH e5
  obtain ⟨d1, e7⟩ := ktd_at e3 e4
  rw [e0'] at e7
  cases e7
  rw [← e00]
  by_cases hb : ∃ u, Hf' b = some u
  · obtain ⟨u, hb⟩ := hb
    have := h3 b u hb
    rw [e6] at this
    cases this
    exact ⟨Hf', .refl, .tup hb (kVs_dv k)⟩
  · have hb : Hf' b = none := by
      cases z : Hf' b with
      | none => rfl
      | some u => exact absurd ⟨u, z⟩ hb
    refine ⟨upd Hf' b (.tup (k.map kV)), ⟨Same.refl _, fun c u hc => by rw [upd_ne (ne_of_none hc hb)]; exact hc, fun _ c u hc => ?_, fun c hc hm => ?_⟩, .tup upd_same (kVs_dv k)⟩
    · by_cases z : c = b
      · rw [z, upd_same] at hc
        rw [z, ← hc]
        exact e6
      · rw [upd_ne z] at hc
        exact h3 c u hc
    · rw [upd_ne fun z => by rw [z, e6] at hm; exact hm]
      exact hc
/-! ### texts -/
theorem vals_of_get : ∀ {xs : List V} {us : List Value}, xs.length = us.length → (∀ (j : Nat) (u : Value), us[j]? = some u → ∃ y, xs[j]? = some y ∧ RelV y u) → Vals xs us
  | [], [], _, _ => .nil
  | [], _ :: _, h, _ => by simp at h
  | _ :: _, [], h, _ => by simp at h
  | y :: xs, u :: us, h, k => by
    obtain ⟨z, e, r⟩ := k 0 u rfl
    cases (show some y = some z from e)
    refine .cons r (vals_of_get (by simpa using h) fun j v e => ?_)
    obtain ⟨z, e1, r1⟩ := k (j + 1) v (by simpa using e)
    exact ⟨z, by simpa using e1, r1⟩
theorem call_listS (hc : X.calm = true) : CallR X (.type "list") (fun xs H Q => ∃ y : Str, xs = [.str y] ∧ y.length ≤ sizeLine ∧ ∀ l, H l = none → Q (.ref l) (upd H l (.lst (y.cps.toList.map fun c => V.str ⟨#[c]⟩)))) := by
  intro pins s σ H xs us Q I r h
  obtain ⟨y, rfl, hz, q⟩ := h
  obtain ⟨u, rfl, ru⟩ := r.one
  obtain ⟨t, rfl⟩ := ru
  refine PySem.call_list_str (hn := hz) (I.ok.hd hc) y t fun h' tk acc c' hk hS hacc => ?_
  have hv : Vals (y.cps.toList.map fun c => V.str ⟨#[c]⟩) acc.toList := by
    refine vals_of_get (by rw [List.length_map, Array.length_toList, Array.length_toList]; exact hacc.1.symm) fun j v e => ?_
    rw [Array.getElem?_toList] at e
    obtain ⟨c, u, e1, e2⟩ := hacc.2 j v e
    refine ⟨V.str ⟨#[c]⟩, ?_, ⟨u, e2⟩⟩
    rw [List.getElem?_map, Array.getElem?_toList, e1]
    rfl
  have hl : (y.cps.toList.map fun c => V.str ⟨#[c]⟩).length ≤ sizeLine := by
    rw [List.length_map, Array.length_toList]
    exact hz
  exact ⟨.ref s.heap.objs.size, upd H s.heap.objs.size (.lst (y.cps.toList.map fun c => V.str ⟨#[c]⟩)), I.laid (t' := tk) hk (Nat.le_refl _) ⟨hl, acc.toList, c', hv, by rw [Array.toArray_toList]; exact hS⟩, rfl, q _ (I.hok.fresh (Nat.le_refl _))⟩
end
end DL


set_option Elab.async false
set_option linter.all false
set_option maxRecDepth 100000
set_option maxHeartbeats 4000000
/-! DL13: texts; a comprehension that is stored. -/
namespace DL
open PySem PySem.Spec PyProof.Rows L2

section
variable {X : Cx} {e a b c o : Expr} {es : List Expr} {Γ Γ' Γ1 Γ2 : Ctx} {s s' : Sl} {d da db dc : PyData} {ds ds' ds0 : List PyData} {te ta tb : TE} {pos p1 p2 p3 ap cp tp : Pos} {i n : Nat} {x y f : Str} {st : Stmt} {rest sts : List Stmt} {p q : Po} {t : TS}
theorem dvAll_map {K : PySem.W.Frag} {H : Hp} {α : Type} {f : α → V} {g : α → PyData} (h : ∀ a, Dv K H (f a) (g a)) : ∀ l : List α, DvAll K H (l.map f) (l.map g)
  | [] => .nil
  | a :: l => .cons (h a) (dvAll_map h l)
/-- list(text) -/
theorem dp_listS {z : Str} (hz : z.length ≤ sizeLine) (ha : DP X e Γ (.str z)) (hg : Gl X "list") (hm : X.mg "list" = none) (hc : X.calm = true := by rfl) (hs : starEach [e] X.env = (false, eval e X.env) :: starEach [] X.env := by rfl) (hpl : (backTo pos (starEach [] X.env)).any (·.1) = false := by rfl) :
    DP X (.Call (.Name "list" p1) [e] [] pos) Γ (.list (signsD z)) :=
  dp_callTy (call_listS hc) (ds := [.str z]) (fun vs Hf H sub h Q q => by
    cases h with
    | cons h1 h2 =>
      cases h2
      cases h1
      refine ⟨z, rfl, hz, fun l hl => ?_⟩
      have g := Grow.new (u := .lst (z.cps.toList.map fun c => V.str ⟨#[c]⟩)) hl sub
      exact q _ _ _ g (.lst (SqL.of upd_same) (dvAll_map (fun c => .str _) _))) hg hm (by decide +kernel) (da_cons ha da_nil hs) (he := hs) (hpl := hpl)
/-- x.split(sep) -/
theorem dp_split {y z : Str} (hb : (z.length == 0) = false) (hz : y.length + 2 ≤ sizeLine) (ho : DP X o Γ (.str y)) (he : DP X e Γ (.str z)) (hs : starEach [e] X.env = [(false, eval e X.env)] := by rfl) (hbase : attributeBase o "split" X.env (eval o X.env) = eval o X.env := by rfl) (hline : (ap.endLine == pos.line) = true := by rfl) :
    DP X (.Call (.Attribute o "split" ap) [e] [] pos) Γ (.list ((Txt.split y z).map .str)) :=
  dp_grow (pe_split ho he hs hbase hline) fun σ H Hf fps ok Q q => tD_run ok fun v Hf1 H1 g1 hv => ⟨by cases hv; exact ⟨_, rfl⟩, tD_run (ok.growG g1) fun u Hf2 H2 g2 hu => by
    cases hv
    cases hu
    refine ⟨y, z, rfl, rfl, hb, hz, fun l hl => ?_⟩
    have g := Grow.new (u := .lst ((Txt.split y z).map V.str)) hl ((ok.growG g1).growG g2).sub
    exact q _ _ _ ((g1.trans g2).trans g) (.lst (SqL.of upd_same) (dvAll_map (fun c => .str _) _))⟩
/-- x.index(y), there -/
theorem dp_index {y z : Str} {k : Nat} {r : List Nat} (hk : Builtin.Str.occurrences y z 0 y.length 1 = k :: r) (ho : DP X o Γ (.str y)) (he : DP X e Γ (.str z)) (hs : starEach [e] X.env = [(false, eval e X.env)] := by rfl) (hbase : attributeBase o "index" X.env (eval o X.env) = eval o X.env := by rfl) (hline : (ap.endLine == pos.line) = true := by rfl) :
    DP X (.Call (.Attribute o "index" ap) [e] [] pos) Γ (.int (k : Nat)) :=
  dp_grow (pe_m1 PySem.F.slot_str_index PySem.F.type_str_index mt_sindex ho he hs hbase hline) fun σ H Hf fps ok Q q => tD_run ok fun v Hf1 H1 g1 hv => ⟨by cases hv; exact ⟨_, rfl⟩, tD_run (ok.growG g1) fun u Hf2 H2 g2 hu => by
    cases hv
    cases hu
    exact ⟨y, z, k, r, rfl, rfl, hk, q _ _ _ (g1.trans g2) (.int _)⟩⟩
/-- x.find(y) -/
theorem dp_find {y z : Str} (ho : DP X o Γ (.str y)) (he : DP X e Γ (.str z)) (hs : starEach [e] X.env = [(false, eval e X.env)] := by rfl) (hbase : attributeBase o "find" X.env (eval o X.env) = eval o X.env := by rfl) (hline : (ap.endLine == pos.line) = true := by rfl) :
    DP X (.Call (.Attribute o "find" ap) [e] [] pos) Γ (.int (Txt.find y z)) :=
  dp_grow (pe_m1 PySem.F.slot_str_find PySem.F.type_str_find mt_find ho he hs hbase hline) fun σ H Hf fps ok Q q => tD_run ok fun v Hf1 H1 g1 hv => ⟨by cases hv; exact ⟨_, rfl⟩, tD_run (ok.growG g1) fun u Hf2 H2 g2 hu => by
    cases hv
    cases hu
    exact ⟨y, z, rfl, rfl, q _ _ _ (g1.trans g2) (.int _)⟩⟩
/-! ### name = [..], a local -/
section
variable {elt tg iter : Expr} {ifs : List Expr} {scope : Scope} {own : List (Str × Nat)} {α : Type} {enc : α → PyData} {xs : List α} {tt : α → Bool} {ff : α → PyData} {l : PyData → List (Nat × PyData)}
theorem ws_setLcG (nd : X.N.Nodup) (hN : X.N[i]? = some y) (hyl : X.env.scope.names.lookup y = some .local) (hsw : swapsWith (.ListComp elt [⟨tg, iter, ifs, 0⟩] scope pos) (some (.Name y p1)) p2.line X.env = pure true) (hni : n ≤ i)
    (it : DI X true tg iter Γ (xs.map enc)) (blk : BlkOk X.N X.env.scope scope own) (hg : ∀ d ∈ xs, Blk X scope fun Y => DG Y tg (enc d) (l (enc d))) (ts : ∀ d ∈ xs, Blk X scope fun Y => DTs Y ifs (setsG (wipeG Γ (own.map (·.2))) (l (enc d))) (tt d))
    (el : ∀ d ∈ xs, tt d = true → Blk X scope fun Y => DP Y elt (setsG (wipeG Γ (own.map (·.2))) (l (enc d))) (ff d)) (ow : ∀ d ∈ xs, ∀ p ∈ l (enc d), p.1 ∈ own.map (·.2)) (sz : xs.length < sizeLine) (calm : X.calm = true) (hs : ∀ x, foldedSetIterable iter X.env x = pure x)
    (hr : WS X n rest (Γ.set i (some (dat (.list ((xs.filter tt).map ff))))) p) : WS X n (.Assign [.Name y p1] (.ListComp elt [⟨tg, iter, ifs, 0⟩] scope pos) p2 :: rest) Γ p := by
  refine ws_of (pss_cons (ps_setLc (own := own) (g := gAny X.prog X.w X.K xs enc l) (tt := tAny X.prog X.w X.K xs (fun d => setsG (wipeG Γ (own.map (·.2))) (l (enc d))) tt) (te := eAny X.prog X.w X.K xs (fun d => setsG (wipeG Γ (own.map (·.2))) (l (enc d))) tt ff) calm nd hN hyl hsw it blk ?_ ?_ ?_ hs) hr) fun D σ H Hf fps ok gd => ?_
  · intro s H C cl fp
    exact ⟨fun pins st σ H v u Q I r ⟨d, hd, z⟩ => (dg_pg (hg d hd s _ C cl fp)).run pins st σ H v u Q I r z⟩
  · intro s H C cl fp
    exact ⟨fun pins st σ H Q I ⟨d, hd, z⟩ => (ts d hd s _ C cl fp).run pins st σ H Q I z⟩
  · intro s H C cl fp
    exact ⟨fun pins st σ H Q I ⟨d, hd, ht, z⟩ => (el d hd ht s _ C cl fp).run pins st σ H Q I z⟩
  · show tLc _ _ _ _ _ σ H (fun v H1 => tW X.prog X.w X.K n _ p D (σ.set i (some v)) H1)
    exact lc_read ok (fun _ _ _ z => z) (fun d hd v σ H Q z => ⟨d, hd, z⟩) (fun d hd σ H Q z => ⟨d, hd, z⟩) (fun d hd ht σ H Q z => ⟨d, hd, ht, z⟩) ow sz fun v Hf' H' g1 hv =>
      ⟨Hf', _, (ok.growG g1).set (Rs.dat hv) i, gd.step ((Rch.of g1.step).trans (Rch.set hni fun y hy => (own_set hy).elim id fun z => (List.not_mem_nil z).elim))⟩
end
end
/-! ### a list in a field becomes data -/
theorem fs_frz {P : Program} {w : World} {K : PySem.W.Frag} {Hf H : Hp} {f : Str} {ds : List PyData} : ∀ {vs : List (Str × V)} {fs : List (Str × Bs)} {fps : List (List Addr)}, FsOk P w K Hf H vs fs fps → (∀ a ∈ fps.flatten, Hf a = none) → fps.flatten.Nodup → fs.lookup f = some (.ol ds) →
    ∃ l xs, H l = some (.lst xs) ∧ l ∈ fps.flatten ∧ ∃ fps', FsOk P w K (upd Hf l (.lst xs)) H vs (putB f (.dat (.list ds)) fs) fps' ∧ fps'.flatten.Nodup ∧ ∀ a ∈ fps'.flatten, a ∈ fps.flatten ∧ a ≠ l
  | _, _, _, .nil, _, _, h => by cases h
  | _, _, _, .cons (f := g) (v := u) (x := z) (fp := q) (vs := vs) (fs := fs) (fps := fps) h1 t, hn, n, h => by
    rw [List.flatten_cons] at n hn
    obtain ⟨n1, n2, n3⟩ := List.nodup_append.mp n
    have h' : (match f == g with | true => some z | false => fs.lookup f) = some (.ol ds) := h
    have mono : ∀ l xs, Hf l = none → Same Hf (upd Hf l (.lst xs)) := fun l xs hl b o hb => by rw [upd_ne (ne_of_none hb hl)]; exact hb
    cases e : f == g with
    | true =>
      rw [e] at h'
      cases h'
      obtain ⟨l, xs, rfl, rfl, k1, k2⟩ := h1
      have lm : l ∈ [l] := List.mem_singleton.mpr rfl
      have hl : Hf l = none := hn l (List.mem_append_left _ lm)
      have eg : g = f := (beq_iff_eq.mp e).symm
      refine ⟨l, xs, k1, by rw [List.flatten_cons]; exact List.mem_append_left _ lm, [] :: fps, ?_, ?_, fun a ha => ?_⟩
      · show FsOk P w K _ H _ (if g = f then _ else _) _
        rw [if_pos eg]
        exact .cons ⟨rfl, .lst (SqL.of upd_same) (DvAll.up (mono l xs hl) _ k2)⟩ (FsOk.frame (mono l xs hl) (fun _ _ => rfl) t)
      · rw [List.flatten_cons, List.nil_append]; exact n2
      · rw [List.flatten_cons, List.nil_append] at ha
        exact ⟨by rw [List.flatten_cons]; exact List.mem_append_right _ ha, fun w => n3 l lm a ha w.symm⟩
    | false =>
      rw [e] at h'
      obtain ⟨l, xs, k1, k2, fps', k3, k4, k5⟩ := fs_frz t (fun a ha => hn a (List.mem_append_right _ ha)) n2 h'
      have hl : Hf l = none := hn l (List.mem_append_right _ k2)
      have eg : ¬ g = f := fun w => by rw [w, beq_self_eq_true] at e; cases e
      refine ⟨l, xs, k1, by rw [List.flatten_cons]; exact List.mem_append_right _ k2, q :: fps', ?_, ?_, fun a ha => ?_⟩
      · show FsOk P w K _ H _ (if g = f then _ else _) _
        rw [if_neg eg]
        exact .cons (BsOk.frame (mono l xs hl) (fun _ _ => rfl) h1) k3
      · rw [List.flatten_cons]
        exact List.nodup_append.mpr ⟨n1, k4, fun a ha b hb => n3 a ha b (k5 b hb).1⟩
      · rw [List.flatten_cons] at ha ⊢
        rcases List.mem_append.mp ha with w | w
        · exact ⟨List.mem_append_left _ w, fun y => n3 a w l k2 y⟩
        · exact ⟨List.mem_append_right _ (k5 a w).1, (k5 a w).2⟩
theorem ws_frzF {X : Cx} {n : Nat} {sts : List Stmt} {Γ : Ctx} {p : Po} {C : Addr} {fs : List (Str × Bs)} {f : Str} {ds : List PyData} (i : Nat) (hg : Γ[i]? = some (some (.o C fs))) (hl : fs.lookup f = some (.ol ds)) (h : WS X n sts (Γ.set i (some (.o C (putB f (.dat (.list ds)) fs)))) p) : WS X n sts Γ p := ws_of h fun D σ H Hf fps ok g => by
  obtain ⟨v, e1, a, dx, fvs, fpl, rfl, e2, e3, e4⟩ := ok.sl i _ hg
  have nd := ok.nd i
  have nf := ok.nf i
  rw [e2] at nd nf
  obtain ⟨l, xs, k1, k2, fps', k3, k4, k5⟩ := fs_frz e4 (fun b hb => nf b (List.mem_cons_of_mem _ hb)) (List.nodup_cons.mp nd).2 hl
  have hn : Hf l = none := nf l (List.mem_cons_of_mem _ k2)
  have al : a ≠ l := fun w => (List.nodup_cons.mp nd).1 (by rw [w]; exact k2)
  have lm : l ∈ fps i := by rw [e2]; exact List.mem_cons_of_mem _ k2
  have mono : Same Hf (upd Hf l (.lst xs)) := fun b o hb => by rw [upd_ne (ne_of_none hb hn)]; exact hb
  have sub' : ∀ b ∈ a :: fps'.flatten, b ∈ fps i ∧ b ≠ l := fun b hb => by
    rcases List.mem_cons.mp hb with w | w
    · rw [w, e2]; exact ⟨List.mem_cons_self, al⟩
    · rw [e2]; exact ⟨List.mem_cons_of_mem _ (k5 b w).1, (k5 b w).2⟩
  obtain ⟨o2, s2⟩ := ok.stepAt hg e1 (f' := a :: fps'.flatten) (Hf' := upd Hf l (.lst xs)) (H' := H) ⟨fun _ _ _ h => h, mono, fun b nb hb _ => by rw [upd_ne fun w => nb (by rw [w]; exact lm)]; exact hb, fun _ h => h, fun b hb => .inl (sub' b hb).1⟩ (fun b u hb => by
    by_cases w : b = l
    · rw [w, upd_same] at hb
      rw [w, ← hb]; exact k1
    · rw [upd_ne w] at hb; exact ok.sub b u hb) (s' := .o C (putB f (.dat (.list ds)) fs)) ⟨a, dx, fvs, fps', rfl, rfl, e3, k3⟩ (List.nodup_cons.mpr ⟨fun w => (List.nodup_cons.mp nd).1 (k5 a w).1, k4⟩) fun b hb => by rw [upd_ne (sub' b hb).2]; exact ok.nf i b (sub' b hb).1
  exact ⟨_, _, o2, g.step (Rch.of s2)⟩
end DL


set_option Elab.async false
set_option linter.all false
set_option maxRecDepth 100000
set_option maxHeartbeats 4000000
/-! DS1: set(a list), by what holds of the set's object behind each item. -/
namespace DL
open PySem PySem.Spec PyProof.Rows L2
def set0 (w : World) : Obj := { cls := .type "set", dict := none, data := .set #[] 0 (.fresh 0 0 (!w.params.followText "set-order")) }
abbrev Old (h h' : Heap) : Prop := ∀ b o, h.get? b = some o → h'.get? b = some o
section
variable {P : Program} {w : World} {A : Around} {E : Value → Shared → Prop} {s : Shared}
/-- one item put in: from the set's object o, J i, to one with J (i + 1) -/
def AddR (P : Program) (w : World) (u : Nat) (h0 : Heap) (S : Addr) (its : Array Value) (J : Nat → Obj → Prop) : Prop :=
  ∀ (B : Around) (G : Value → Shared → Prop) (i : Nat) (v : Value) (σ : Shared) (o : Obj) (Q : Bool → Shared → Prop), B.units ≤ u + 3 → its[i]? = some v → Old h0 σ.heap → σ.heap.get? S = some o → J i o →
    (∀ b h' tk o', Heap.SameBut S σ.heap h' → h'.get? S = some o' → J (i + 1) o' → σ.toks ≤ tk → Q b { σ with heap := h', toks := tk }) → wpAny (model P w) B (setAdd S v) Q G σ

theorem set_loop {I : Addr} {fp wr : List Addr} {G : Array GenState → Array GenState → Prop} {St : Nat → Shared → Prop} {its : Array Value} {J : Nat → Obj → Prop} {R : Result → Shared → Prop} {S : Addr} {h0 : Heap} {u : Nat}
    (W : WalksS P w A.in1 I fp wr G its.size (fun i v => its[i]? = some v) St) (add : AddR P w u h0 S its J) (hu : A.in1.units ≤ u + 3) (nS : S ∉ fp) (oS : h0.get? S = none) (ow : ∀ b ∈ wr, h0.get? b = none)
    (fin : ∀ s' o', Moved (S :: wr) G s s' → s'.heap.get? S = some o' → J its.size o' → Old h0 s'.heap → R (.ok (.ret .none)) s') :
    ∀ (m i : Nat) (c : Shared) (o : Obj), i + m = its.size → St i c → Moved (S :: wr) G s c → Old h0 c.heap → c.heap.get? S = some o → J i o →
      codeAny (model P w) A (.builtin "set.update.loop" ⟨[.ref S, .ref I], []⟩) R c := by
  have nW : S ∉ wr := fun h => nS (W.sub _ h)
  intro m
  induction m with
  | zero =>
    intro i c o hi st mv old go hj
    have e : i = its.size := hi
    subst e
    refine codeAny_builtin F.entry_set_update_loop ?_
    rw [Around.under_plainId F.plain_set_update_loop _]
    show wpAny _ A.in1 (pyNext (.ref I) >>= _) _ _ c
    refine wpAny_bind (W.done c _ _ st fun c' mc => ?_)
    show wpAny _ A.in1 (ret Value.none) _ _ c'
    exact wpAny_pure (fin c' o (mv.trans W.gtrans (mc.mono fun b hb => List.mem_cons_of_mem _ hb)) (mc.heap S o nW go) hj fun b o' e => mc.heap b o' (fun hb => by rw [ow b hb] at e; cases e) (old b o' e))
  | succ m ih =>
    intro i c o hi st mv old go hj
    refine codeAny_builtin F.entry_set_update_loop ?_
    rw [Around.under_plainId F.plain_set_update_loop _]
    show wpAny _ A.in1 (pyNext (.ref I) >>= _) _ _ c
    refine wpAny_bind (W.item i c _ _ (by omega) st fun v c' hv st' mc => ?_)
    have old' : Old h0 c'.heap := fun b o' e => mc.heap b o' (fun hb => by rw [ow b hb] at e; cases e) (old b o' e)
    show wpAny _ A.in1 (holding [v] (setAdd S v) >>= _) _ _ c'
    refine wpAny_bind (wpAny_holding ?_)
    refine add A.in1 _ i v c' o _ hu hv old' (mc.heap S o nW go) hj fun b h' tk o' sb go' hj' ht => ?_
    refine wpAny_pure ⟨plainId_quiet F.plain_set_update_loop _, ih (i + 1) _ o' (by omega) (W.frame _ c' _ _ st' ht fun b hb q e => ?_) (mv.trans W.gtrans ((mc.mono fun b hb => List.mem_cons_of_mem _ hb).then_heap ht fun b q hb e => ?_)) (fun b q e => ?_) go' hj'⟩
    · rw [sb.2 b fun z => nS (z ▸ hb)]
      exact e
    · rw [sb.2 b fun z => hb (by rw [z]; exact List.mem_cons_self)]
      exact e
    · rw [sb.2 b fun z => by rw [z, oS] at e; cases e]
      exact old' b q e

set_option maxHeartbeats 8000000 in
/-- set(xs) -/
theorem call_setG {l : Addr} {its : Array Value} (J : Nat → Obj → Prop) {Q : Value → Shared → Prop} (hh : A.handled = none) (hl : s.heap.IsList l its) (j0 : J 0 (set0 w)) (add : AddR P w A.units s.heap s.heap.objs.size its J)
    (fin : ∀ h' tk o', Old s.heap h' → h'.get? s.heap.objs.size = some o' → J its.size o' → Q (.ref s.heap.objs.size) { s with heap := h', toks := tk }) : wpAny (model P w) A (call (.type "set") [.ref l]) Q E s := by
  have g0 : (s.heap.push (set0 w)).get? s.heap.objs.size = some (set0 w) := Heap.get?_push_size _ rfl
  have none_at : ∀ b, s.heap.objs.size ≤ b → s.heap.get? b = none := fun b hb => by
    cases q : s.heap.get? b with
    | none => rfl
    | some o => exact absurd (Heap.lt_size q) (Nat.not_lt.mpr hb)
  obtain ⟨c0, tl0, hmro⟩ := F.called_set.mro
  have hmade := F.called_set.made
  have hsub := F.called_set.sub
  refine wpAny_call (codeAny_of_tree ?_)
  show wpAny _ _ (callAny (.type "set") _) _ _ _
  refine wpAny_pure ⟨Code.quiet_builtin _ (by decide +kernel), codeAny_builtin F.entry_type_call ?_⟩
  rw [Around.under_plain (weight_type_call_type "set" [.ref l] []) rfl]
  have h1 := F.called_set.notType
  have h2 := F.called_set.canCreate
  have h3 := F.typeCall_set_1 (.ref l)
  repeat (any_goals (first | assumption | wp_step))
  refine codeAny_mono (code_set_led1 (.ref l) (E := E) (Q₁ := fun v c => v = .ref s.heap.objs.size ∧ c = { s with heap := s.heap.push (set0 w) }) ⟨rfl, rfl⟩) fun r c hr => ?_
  match r, hr with
  | .error e, hr => exact hr
  | .ok (.ret v), ⟨e1, e2⟩ =>
    subst e1 e2
    have tS : Shared.TypeIs { s with heap := s.heap.push (set0 w) } (.ref s.heap.objs.size) "set" := ⟨_, g0, rfl⟩
    have h4 := F.called_set.init.lookup
    have h5 := F.called_set.init.bind (.ref s.heap.objs.size)
    repeat (any_goals (first | assumption | wp_step))
    refine codeAny_mono (codeAny_call_builtin (R := wants (fun v c => v = .none ∧ ∃ h' tk o', c = { s with heap := h', toks := tk } ∧ Old s.heap h' ∧ h'.get? s.heap.objs.size = some o' ∧ J its.size o') E) F.called_set.init.plain F.entry_set_init (check_set_init_1 tS ?_)) fun r c hr => ?_
    · obtain ⟨ol, gl, cl, nl, dl⟩ := hl
      obtain ⟨k1, k2, k3, k4⟩ := ol
      simp only at cl dl
      subst cl dl
      have gl' : (s.heap.push (set0 w)).get? l = some { cls := .type "list", dict := k2, data := .seq its nl, slots := k4 } := Heap.get?_push_of_some _ gl
      have ll : (s.heap.push (set0 w)).IsList l its := ⟨_, gl', rfl, nl, rfl⟩
      have q1 := F.sub_list_set
      have q2 := F.sub_list_frozenset
      have q3 : (Value.type "list" == Value.type "dict") = false := by decide
      have lt : l < s.heap.objs.size := Heap.lt_size gl
      have hz : (s.heap.push (set0 w)).objs.size = s.heap.objs.size + 1 := Heap.size_push ..
      have nI : l ≠ (s.heap.push (set0 w)).objs.size := by
        rw [hz]
        exact Nat.ne_of_lt (Nat.lt_succ_of_lt lt)
      unfold Builtin.«set.__init__» noKeywords Builtin.Frozenset.updateFrom
      generalize hPI : pyIter = PI
      wp_walk
      subst hPI
      refine wpAny_pyIter_list ll ?_
      refine wpAny_bind (wpAny_runValue ?_)
      have hh3 : A.in1.in1.in1.handled = none := by simp [hh]
      refine set_loop (u := A.units) (h0 := s.heap) (J := J) ((Walks.list hh3 _ l nI its).toS) add (Nat.le_refl _) ?_ (none_at _ (Nat.le_refl _)) (fun b hb => none_at b ?_) ?fin its.size 0 _ (set0 w) (Nat.zero_add _)
        ⟨⟨_, Heap.get?_push_size _ rfl, rfl, rfl⟩, ll.push _⟩ (Moved.refl fun _ => rfl) (fun b o e => Heap.get?_push_of_some _ (Heap.get?_push_of_some _ e)) (Heap.get?_push_of_some _ g0) j0
      · rw [hz]
        simp only [List.mem_cons, List.not_mem_nil, or_false, not_or]
        exact ⟨Nat.ne_of_lt (Nat.lt_succ_self _), Nat.ne_of_gt lt⟩
      · rw [List.mem_singleton.mp hb, hz]
        exact Nat.le_succ _
      case fin =>
        intro c' o' mv go hj old
        obtain ⟨h', g', d', tk', os'⟩ := c'
        obtain rfl : g' = s.gens := mv.gens
        obtain rfl : d' = s.drawn := mv.drawn
        obtain rfl : os' = s.os := mv.os
        show wpAny _ _ _ _ _ _
        refine wpAny_pure ?_
        show wpAny _ _ (ret Value.none) _ _ _
        exact wpAny_pure ⟨rfl, h', tk', o', rfl, old, go, hj⟩
    · match r, hr with
      | .error e, hr => exact hr
      | .ok (.ret v), ⟨e1, h', tk, o', e2, old, go, hj⟩ =>
        subst e1 e2
        repeat (any_goals (first | assumption | wp_step))
        exact fin h' tk o' old go hj
end
end DL


set_option Elab.async false
set_option linter.all false
set_option maxRecDepth 100000
set_option maxHeartbeats 4000000
/-! DS2: sorted(set(texts)). -/
namespace DL
open PySem PySem.Spec PyProof.Rows L2
/-- the texts of a list, each once -/
def dis (xs : List Str) : List Str := xs.foldl (fun l x => if x ∈ l then l else x :: l) []
theorem dis_snoc (xs : List Str) (x : Str) : dis (xs ++ [x]) = if x ∈ dis xs then dis xs else x :: dis xs := by
  unfold dis
  rw [List.foldl_append] <;> rfl
theorem dis_mem (xs : List Str) : ∀ k, k ∈ dis xs ↔ k ∈ xs := by
  have key : ∀ n, n ≤ xs.length → ∀ k, k ∈ dis (xs.take n) ↔ k ∈ xs.take n := by
    intro n
    induction n with
    | zero => intro _ k; simp [dis]
    | succ n ih =>
      intro hn k
      have e : xs.take (n + 1) = xs.take n ++ [xs[n]] := by rw [List.take_succ, List.getElem?_eq_getElem (Nat.lt_of_succ_le hn)] <;> rfl
      rw [e, dis_snoc]
      have ih := ih (Nat.le_of_succ_le hn)
      by_cases c : xs[n] ∈ dis (xs.take n)
      · rw [if_pos c, ih k, List.mem_append, List.mem_singleton]
        exact ⟨.inl, fun z => z.elim id fun z => z ▸ (ih _).mp c⟩
      · rw [if_neg c, List.mem_cons, List.mem_append, List.mem_singleton, ih k]
        exact Or.comm
  have h := key xs.length (Nat.le_refl _)
  rw [List.take_length] at h
  exact h
theorem dis_nodup (xs : List Str) : (dis xs).Nodup := by
  have key : ∀ n, n ≤ xs.length → (dis (xs.take n)).Nodup := by
    intro n
    induction n with
    | zero => intro _; simp [dis]
    | succ n ih =>
      intro hn
      have e : xs.take (n + 1) = xs.take n ++ [xs[n]] := by rw [List.take_succ, List.getElem?_eq_getElem (Nat.lt_of_succ_le hn)] <;> rfl
      rw [e, dis_snoc]
      split
      · exact ih (Nat.le_of_succ_le hn)
      · rename_i c
        exact List.nodup_cons.mpr ⟨c, ih (Nat.le_of_succ_le hn)⟩
  have h := key xs.length (Nat.le_refl _)
  rw [List.take_length] at h
  exact h
theorem dis_len (xs : List Str) : (dis xs).length ≤ xs.length := by
  have key : ∀ n, n ≤ xs.length → (dis (xs.take n)).length ≤ n := by
    intro n
    induction n with
    | zero => intro _; simp [dis]
    | succ n ih =>
      intro hn
      have e : xs.take (n + 1) = xs.take n ++ [xs[n]] := by rw [List.take_succ, List.getElem?_eq_getElem (Nat.lt_of_succ_le hn)] <;> rfl
      rw [e, dis_snoc]
      have := ih (Nat.le_of_succ_le hn)
      split
      · omega
      · rw [List.length_cons]; omega
  have h := key xs.length (Nat.le_refl _)
  rw [List.take_length] at h
  exact h

/-- the text of a value -/
def txV : Value → Str
  | .str x _ => x
  | _ => ""
structure JTx (P : Program) (w : World) (l : List Str) (o : Obj) : Prop where
  at' : ∃ D : Froz.SD, o = Froz.sObj "set" D ∧ Froz.TxOk P w D l ∧ (D.1.toList.map fun e => txV e.2).Perm l ∧ (∀ e ∈ D.1.toList, ∃ x t, e.2 = Value.str x t) ∧ Ris D.2.2.place.toList ∧ (w.params.followText "set-order" = true ∨ D.2.2.led = true)
section
variable {P : Program} {w : World} {A : Around} {E : Value → Shared → Prop} {s : Shared}
theorem jtx0 : JTx P w [] (set0 w) := ⟨⟨(#[], 0, .fresh 0 0 (!w.params.followText "set-order")), rfl, Froz.TxOk.nil rfl, by simp, fun e he => by simp at he, List.Pairwise.nil, by
  show _ ∨ (!w.params.followText "set-order") = true
  cases w.params.followText "set-order"
  · exact .inr rfl
  · exact .inl rfl⟩⟩
theorem tailTx_perm (ep : Nat) (es : Array (Int × Value)) (t : SetTable) (b : Bool) : (Froz.tailTx ep es t b).1.toList.Perm es.toList := by
  unfold Froz.tailTx
  split
  · exact relayAll_perm ..
  · exact List.Perm.refl _
theorem tailTx_ris (ep : Nat) (es : Array (Int × Value)) (t : SetTable) (b : Bool) (r : Ris t.place.toList) : Ris (Froz.tailTx ep es t b).2.2.place.toList := by
  unfold Froz.tailTx
  split
  · exact relayAll_ris ..
  · exact r
theorem tailTx_led (ep : Nat) (es : Array (Int × Value)) (t : SetTable) (b : Bool) : (Froz.tailTx ep es t b).2.2.led = t.led := by
  unfold Froz.tailTx
  split
  · exact relayAll_led ..
  · rfl
theorem addTx_perm (h : Int) (v : Value) (D : Froz.SD) : (Froz.addTx h v D).1.toList.Perm (D.1.toList ++ [(h, v)]) := by
  unfold Froz.addTx
  refine (tailTx_perm ..).trans ?_
  rw [← Array.toList_push]
  exact layNew_perm ..
theorem plainOff_place (t : SetTable) : (if t.plain = true then { t with plain := false } else t).place = t.place := by split <;> rfl
theorem plainOff_led (t : SetTable) : (if t.plain = true then { t with plain := false } else t).led = t.led := by split <;> rfl
theorem addTx_ris (h : Int) (v : Value) (D : Froz.SD) (r : Ris D.2.2.place.toList) : Ris (Froz.addTx h v D).2.2.place.toList := by
  unfold Froz.addTx
  refine tailTx_ris _ _ _ _ ?_
  rw [plainOff_place]
  exact layNew_ris _ _ _ _ r
theorem addTx_led (h : Int) (v : Value) (D : Froz.SD) : (Froz.addTx h v D).2.2.led = D.2.2.led := by
  unfold Froz.addTx
  rw [tailTx_led, plainOff_led, layNew_led]
/-- a text that is there already -/
theorem add_known {a : Addr} {D : Froz.SD} {l : List Str} {k : Str} {u : Tok} {Q : Bool → Shared → Prop} (ho : s.heap.get? a = some (Froz.sObj "set" D)) (T : Froz.TxOk P w D l) (hk : k ∈ l) (hb : l.length < scanBound) (h : Q false s) :
    wpAny (model P w) A (setAddHashed a (.str k u) (hashStr w k)) Q E s := by
  obtain ⟨es, ep, t⟩ := D
  have hb0 : es.size < scanBound := Nat.lt_of_le_of_lt (Nat.le_of_eq T.sz) hb
  have el : ElemsOf (strKind P w) es.toList := T.el
  have ft : t.fits es.size = true := T.fit
  unfold setAddHashed setAddHashedIn
  refine wpAny_holding (wpAny_bind (wpAny_setState_of ho rfl ft ?_))
  dsimp only
  rw [byScan_of rfl hb0 el]
  simp only [↓reduceIte]
  unfold setAddByScan
  refine wpAny_bind ?_
  refine wpAny_bind (wpAny_rule ?_)
  refine wpAny_bind (wpAny_setScan_of (knd := strKind P w) (k := k) (Froz.is_str k u) ho rfl ft el ?_)
  cases q : List.findIdx? (fun e => (strKind P w).is k e.2) es.toList with
  | none =>
    obtain ⟨e, he, z⟩ := (T.mem k).mp hk
    have n := List.findIdx?_eq_none_iff.mp q e he
    rw [z] at n
    cases n
  | some j => exact wpAny_pure (wpAny_pure h)
theorem add_text {S : Addr} {l : List Str} {k : Str} {u : Tok} {o : Obj} {Q : Bool → Shared → Prop} (go : s.heap.get? S = some o) (j : JTx P w l o) (hb : l.length + 1 < scanBound)
    (h : ∀ b h' o', Heap.SameBut S s.heap h' → h'.get? S = some o' → JTx P w (if k ∈ l then l else k :: l) o' → Q b { s with heap := h', toks := s.toks + 1 }) : wpAny (model P w) A (setAdd S (.str k u)) Q E s := by
  obtain ⟨D, rfl, T, pm, tx, rs, ld⟩ := j.at'
  unfold setAdd
  refine wpAny_holding (wpAny_bind ((strKind P w).pyHash (Froz.is_str k u) ?_))
  by_cases c : k ∈ l
  · refine add_known (s := { s with toks := s.toks + 1 }) go T c (Nat.lt_of_succ_lt hb) (h false s.heap _ (Heap.SameBut.refl ..) go ?_)
    rw [if_pos c]
    exact j
  · refine Froz.add_x (s := { s with toks := s.toks + 1 }) go T c hb (h true _ (Froz.sObj "set" (Froz.addTx (hashStr w k) (.str k u) D)) (Heap.SameBut.update ..) (Froz.get_upd _ go rfl) ?_)
    rw [if_neg c]
    have p1 := addTx_perm (hashStr w k) (.str k u) D
    refine ⟨⟨_, rfl, Froz.add_ok u T, ?_, fun e he => ?_, addTx_ris _ _ _ rs, ?_⟩⟩
    · refine (p1.map _).trans ?_
      rw [List.map_append]
      exact (List.perm_append_comm).trans (List.Perm.cons k pm)
    · rcases List.mem_append.mp (p1.mem_iff.mp he) with z | z
      · exact tx e z
      · rw [List.mem_singleton.mp z]
        exact ⟨k, u, rfl⟩
    · rw [addTx_led]
      exact ld
/-- set(xs), xs a list of texts -/
theorem call_setTx {l : Addr} {its : Array Value} {xs : List Str} {Q : Value → Shared → Prop} (hh : A.handled = none) (hl : s.heap.IsList l its) (hv : Vals (xs.map V.str) its.toList) (hb : xs.length + 1 < scanBound)
    (fin : ∀ h' tk o', Old s.heap h' → h'.get? s.heap.objs.size = some o' → JTx P w (dis xs) o' → Q (.ref s.heap.objs.size) { s with heap := h', toks := tk }) : wpAny (model P w) A (call (.type "set") [.ref l]) Q E s := by
  have hz : its.size = xs.length := by
    have := hv.length
    rw [List.length_map, Array.length_toList] at this
    exact this.symm
  refine call_setG (fun i o => JTx P w (dis (xs.take i)) o) hh hl (by simpa [dis] using jtx0) (fun B G i v σ o Q hu e old go j k => ?_) fun h' tk o' old go j => ?_
  · obtain ⟨z, hx, t, rfl⟩ : ∃ z, xs[i]? = some z ∧ ∃ t, v = Value.str z t := by
      have e' : its.toList[i]? = some v := by rw [Array.getElem?_toList]; exact e
      have lt : i < xs.length := by
        have := (Array.getElem?_eq_some_iff.mp e).1
        omega
      obtain ⟨u, h1, h2⟩ := hv.get (i := i) (x := .str xs[i]) (by rw [List.getElem?_map, List.getElem?_eq_getElem lt] <;> rfl)
      rw [e'] at h1
      cases h1
      exact ⟨xs[i], List.getElem?_eq_getElem lt, h2⟩
    have le := dis_len (xs.take i)
    have le2 : (xs.take i).length ≤ xs.length := by rw [List.length_take]; omega
    refine add_text go j (by omega) fun b h' o' sb go' j' => k b h' _ o' sb go' ?_ (Nat.le_succ _)
    show JTx P w (dis (xs.take (i + 1))) o'
    rw [List.take_succ, hx]
    show JTx P w (dis (xs.take i ++ [z])) o'
    rw [dis_snoc]
    exact j'
  · refine fin h' tk o' old go ?_
    have j : JTx P w (dis (xs.take its.size)) o' := j
    rw [hz, List.take_length] at j
    exact j
/-- sorted(a set of texts) -/
theorem sorted_setTx {a : Addr} {l : List Str} {o : Obj} {Q : Value → Shared → Prop} (hh : A.handled = none) (go : s.heap.get? a = some o) (j : JTx P w l o) (hb : l.length < scanBound) (hu : A.units + 2 < cLine)
    (fin : ∀ (s' : Shared) (p : Addr) (out : Array Value) (c : Nat) (l' : List Str), Old s.heap s'.heap → s'.gens = s.gens → s'.os = s.os → s.heap.objs.size ≤ p → s'.heap.get? p = some (seqObj "list" out c) → l'.Perm l → PySem.W.EachIs (fun v x => ∃ t, v = Value.str x t) out.toList (l'.mergeSort (PySem.W.dataLe false PyData.str)) → Q (.ref p) s') :
    wpAny (model P w) A (call (.builtin "sorted") [.ref a]) Q E s := by
  obtain ⟨D, rfl, T, pm, tx, rs, ld⟩ := j.at'
  have hsz : D.1.size < scanBound := Nat.lt_of_le_of_lt (Nat.le_of_eq T.sz) hb
  refine Calls.call_function_entry kind_sorted plain_sorted entry_sorted (args_sorted1 _) ?_
  unfold Builtin.«sorted»
  refine wpAny_bind (m := checkCount "sorted" 1 1 _) (wpAny_pure ?_)
  refine wpAny_bind (collect_set (A := A.in1) (es := D.1) (ep := D.2.1) (t := D.2.2) hh ⟨_, go, rfl, rfl⟩ T.fit hsz rs ld fun s1 vs k1 hz g1 o1 p1 => ?_)
  have hvl : vs.length = l.length := by rw [p1.length_eq, List.length_map, Array.length_toList]; exact T.sz
  have htx : ∀ v ∈ vs, ∃ x t, v = Value.str x t := fun v hv => by
    obtain ⟨e, he, q⟩ := List.mem_map.mp (p1.mem_iff.mp hv)
    rw [← q]
    exact tx e he
  have pl : (vs.map txV).Perm l := by
    have q := p1.map txV
    rw [List.map_map] at q
    exact q.trans pm
  have each : ∀ us : List Value, (∀ v ∈ us, ∃ x t, v = Value.str x t) → PySem.W.EachIs (fun v x => ∃ t, v = Value.str x t) us (us.map txV) := by
    intro us
    induction us with
    | nil => intro _; exact .nil
    | cons v us ih =>
      intro h
      obtain ⟨x, t, rfl⟩ := h v List.mem_cons_self
      exact .cons ⟨t, rfl⟩ (ih fun u hu => h u (List.mem_cons_of_mem _ hu))
  have ev := each vs htx
  refine wpAny_bind (wpAny_newList ?_ (by rw [hvl]; exact fits_of_scanBound hb))
  have gL : (s1.heap.push (seqObj "list" vs.toArray 0)).get? s1.heap.objs.size = some (seqObj "list" vs.toArray 0) := Heap.get?_push_size _ rfl
  refine wpAny_bind (wpAny_holding (PySem.W.list_sort_data (s := { s1 with heap := s1.heap.push (seqObj "list" vs.toArray 0) }) (enc := PyData.str) gL ev (ev.mono fun v x ⟨t, e⟩ => by
    subst e
    exact ⟨[], .str _ _, List.not_mem_nil⟩) (PySem.W.AllAlike.of (enc := PyData.str) fun x y => by simp [PySem.W.alike]) (PySem.W.Sortable.others (enc := PyData.str) fun x => ⟨by simp, by simp⟩) (by rw [List.length_map, hvl]; exact fits_of_scanBound hb) (fun x _ => ?_) fun out ho1 ho2 => ?_))
  · show A.in1.units + 1 + 0 < cLine
    exact hu
  · obtain ⟨c, hc⟩ := sortedHeap_at (vs := vs) (out := out.toArray) gL
    refine wpAny_pure ⟨_, rfl, fin { s1 with heap := sortedHeap (s1.heap.push (seqObj "list" vs.toArray 0)) s1.heap.objs.size vs out.toArray } s1.heap.objs.size out.toArray c _ (fun b u e => ?_) g1 o1 hz hc pl ?_⟩
    · have q := k1 b u e
      have hlt := Heap.lt_size q
      show (sortedHeap (s1.heap.push (seqObj "list" vs.toArray 0)) s1.heap.objs.size vs out.toArray).get? b = some u
      rw [sortedHeap_old (Nat.ne_of_lt hlt) (by rw [size_push']; exact Nat.lt_succ_of_lt hlt)]
      exact Heap.get?_push_of_some _ q
    · exact ho2
end
end DL


set_option Elab.async false
set_option linter.all false
set_option maxRecDepth 100000
set_option maxHeartbeats 4000000
/-! DS3: the rule of sorted(set(texts)). -/
namespace DL
open PySem PySem.Spec PyProof.Rows L2
def leS (a b : Str) : Bool := PySem.W.dataLe false id (.str a) (.str b)
theorem leS_eq : PySem.W.dataLe false PyData.str = leS := rfl
theorem leS_iff (a b : Str) : leS a b = decide (a.cps.toList ≤ b.cps.toList) := congrFun (congrFun (PySem.W.dataLe_str fun x : Str => x) a) b
theorem str_cps {a b : Str} (h : a.cps.toList = b.cps.toList) : a = b := by
  cases a
  cases b
  simpa using h
def sortS (l : List Str) : List Str := l.mergeSort leS
theorem leS_trans (a b c : Str) (h1 : leS a b = true) (h2 : leS b c = true) : leS a c = true := by
  simp only [leS_iff, decide_eq_true_eq] at *
  exact List.le_trans h1 h2
theorem leS_total (a b : Str) : (leS a b || leS b a) = true := by
  simp only [leS_iff, Bool.or_eq_true, decide_eq_true_eq]
  exact List.le_total ..
theorem leS_anti {a b : Str} (h1 : leS a b = true) (h2 : leS b a = true) : a = b := by
  simp only [leS_iff, decide_eq_true_eq] at *
  exact str_cps (List.le_antisymm h1 h2)
theorem sortS_perm {l l' : List Str} (p : l.Perm l') : sortS l = sortS l' := by
  refine List.Perm.eq_of_pairwise (le := fun a b => leS a b = true) (fun a b _ _ => leS_anti) (List.pairwise_mergeSort leS_trans leS_total l) (List.pairwise_mergeSort leS_trans leS_total l') ?_
  exact ((List.mergeSort_perm l leS).trans p).trans (List.mergeSort_perm l' leS).symm
theorem strs_un {K : PySem.W.Frag} {H : Hp} : ∀ {xs : List Str} {vs : List V}, DvAll K H vs (xs.map PyData.str) → vs = xs.map V.str
  | [], _, h => by
    cases h
    rfl
  | x :: xs, _, h => by
    have h' : DvAll K H _ (PyData.str x :: xs.map PyData.str) := h
    cases h' with
    | cons h1 h2 =>
      cases h1
      rw [strs_un h2] <;> rfl
theorem strs_dvA {K : PySem.W.Frag} {H : Hp} : ∀ xs : List Str, DvAll K H (xs.map V.str) (xs.map PyData.str)
  | [] => .nil
  | x :: xs => .cons (.str x) (strs_dvA xs)
theorem vals_each : ∀ {us : List Value} {xs : List Str}, PySem.W.EachIs (fun v x => ∃ t, v = Value.str x t) us xs → Vals (xs.map V.str) us
  | _, _, .nil => .nil
  | _, _, .cons h t => .cons h (vals_each t)
section
variable {X : Cx} {e : Expr} {Γ : Ctx} {p p2 q pos : Pos} {xs : List Str}
theorem dp_sortSet (hc : X.calm = true) (hb : xs.length + 1 < scanBound) (hu : X.A.units + 2 < cLine) (hg : Gl X "sorted") (hm : X.mg "sorted" = none) (hg2 : Gl X "set") (hm2 : X.mg "set" = none) (ha : DLs X e Γ (xs.map PyData.str))
    (na : starEach [e] X.env = (false, eval e X.env) :: starEach [] X.env := by rfl) : DP X (.Call (.Name "sorted" p) [.Call (.Name "set" p2) [e] [] q] [] pos) Γ (.list ((sortS (dis xs)).map PyData.str)) := by
  refine dp_grow (te := fun σ H Q => tL X.prog X.w X.K Γ (xs.map PyData.str) σ H fun x H1 => ∃ l : Addr, x = V.ref l ∧ SqL X.K H1 l (xs.map V.str) ∧ ∀ b, H1 b = none → Q (.ref b) (upd H1 b (.lst ((sortS (dis xs)).map V.str)))) ⟨fun pins s σ H Q I h => ?_⟩ ?_
  · refine Call_ (ld_blt I hg hm PyProof.Rows.boot_sorted ?_)
    refine PyProof.Rows.callWith_builtin1 (PyProof.Rows.args_cons ?_ rfl) rfl rfl
    refine Call_ (ld_blt I hg2 hm2 PyProof.Rows.boot_set ?_)
    refine PyProof.Rows.callWith_type1 (PyProof.Rows.args_cons (thn (ha.run pins s σ H _ I h) fun v s1 ⟨x, H1, I1, r1, q1⟩ => PyProof.Rows.args_nil ?_) na) na rfl
    obtain ⟨l, rfl, hq, q1⟩ := q1
    cases r1
    obtain ⟨its, r, pl, hz⟩ := I1.list hq
    refine call_setTx (xs := xs) (I1.ok.hd hc) pl.isList (by simpa using r) hb fun h' tk o' old go j => ?_
    refine PyProof.Rows.args_nil ?_
    have I2 : Inv X pins σ H1 { s1 with heap := h', toks := tk } := I1.kept fun b o e => old b o e
    have hl := dis_len xs
    generalize hs2 : ({ s1 with heap := h', toks := tk } : Shared) = s2 at I2
    have go : s2.heap.get? s1.heap.objs.size = some o' := by rw [← hs2]; exact go
    refine sorted_setTx (s := s2) (I1.ok.hd hc) go j (by omega) hu fun s' b out c l' old2 g2 o2 hp gp pl2 each => ?_
    rw [leS_eq] at each
    have es : l'.mergeSort leS = sortS (dis xs) := sortS_perm pl2
    rw [es] at each
    have hn : H1 b = none := I2.hok.fresh hp
    have hlen : ((sortS (dis xs)).map V.str).length ≤ sizeLine := by
      rw [List.length_map, show (sortS (dis xs)).length = (dis xs).length from List.length_mergeSort ..]
      exact fits_of_scanBound (by omega)
    have J : Inv X pins σ (upd H1 b (.lst ((sortS (dis xs)).map V.str))) { s2 with heap := s'.heap, gens := s'.gens, drawn := s'.drawn, toks := s'.toks } :=
      I2.call (ch := []) (Un.laid old2 hp hn) (I2.hok.laid old2 hp ⟨hlen, out.toList, c, vals_each each, gp⟩) (by rw [g2]; exact I2.bare) (fun _ z => nomatch z)
    have e : s' = { s2 with heap := s'.heap, gens := s'.gens, drawn := s'.drawn, toks := s'.toks } := by
      cases s'
      cases s2
      cases o2
      rfl
    rw [e]
    exact ⟨.ref b, _, J, rfl, q1 b hn⟩
  · intro σ H Hf fps ok Q q
    refine tL_run ok fun a vs Hf1 H1 g1 h1 h2 => ?_
    rw [strs_un h2] at h1
    refine ⟨a, rfl, h1, fun b hb => ?_⟩
    have g := Grow.new (u := .lst ((sortS (dis xs)).map V.str)) hb (ok.growG g1).sub
    exact q _ _ _ (g1.trans g) (.lst (SqL.of upd_same) (strs_dvA _))
end
end DL


set_option Elab.async false
set_option linter.all false
set_option maxRecDepth 100000
set_option maxHeartbeats 4000000
/-! DS4: a set of tuples of ints and texts, each new: the real probing. -/
namespace DL
open PySem PySem.Spec PyProof.Rows L2
abbrev IsM (P : Program) (w : World) (h : Heap) (k : List Key) (a : Addr) : Prop := IsTupleKey (mixKind P w) h k a
abbrev mHash (P : Program) (w : World) (k : List Key) : Int := tupleKeyHash (mixKind P w) k
/-- the c-th state of a search -/
abbrev pr (m : Nat) (h : Int) (c : Nat) : SetTable.Probe := nth m (runAt m (SetTable.bits h % (m + 1)) (SetTable.bits h)) c
theorem pr_add (m : Nat) (h : Int) (c q : Nat) : nth m (pr m h c) q = pr m h (c + q) := (nth_add m c _ q).symm
theorem adv_dummy (m : Nat) : ∀ (n : Nat) (p : SetTable.Probe), p.dummy = none → (nth m p n).dummy = none
  | 0, _, h => h
  | n + 1, p, h => adv_dummy m n (adv m p) (by unfold adv; split <;> exact h)
section
variable {P : Program} {w : World} {A : Around} {E : Value → Shared → Prop} {s : Shared}
theorem mix_scan {k : Key} {v : Value} (h : (mixKind P w).is k v = true) : v.scannable = true := by
  rcases keyIs_shape h with ⟨i, t, rfl, rfl⟩ | ⟨x, t, rfl, rfl⟩ <;> rfl
theorem items_scan {ks : List Key} {vs : List Value} (h : ItemsAre (mixKind P w) ks vs) : ∀ v ∈ vs, v.scannable = true := by
  induction h with
  | nil => intro v hv; cases hv
  | cons h1 _ ih =>
    intro v hv
    rcases List.mem_cons.mp hv with e | hv
    · rw [e]; exact mix_scan h1
    · exact ih v hv
theorem cls_scan (n : Nat) {v : Value} (h : v.scannable = true) : ofAClassStatement n v = pure false := by
  cases n <;> cases v <;> first | rfl | (simp [Value.scannable] at h)
theorem cls_mix {k : List Key} {b : Addr} {Q : Bool → Shared → Prop} (hk : IsM P w s.heap k b) (h : Q false s) : wpAny (model P w) A (ofAClassStatement 8 (.ref b)) Q E s := by
  have hT := hk.typeIs
  obtain ⟨o, its, n, ho, _, hd, hi⟩ := hk
  unfold ofAClassStatement
  refine wpAny_bind (wpAny_typeOf hT ?_)
  dsimp only
  simp only [show (("tuple" : String) == "tuple") = true by decide, if_true, Bool.not_true, Bool.false_eq_true, if_false]
  try refine wpAny_bind (wpAny_pure ?_)
  try simp only [Bool.not_true, Bool.false_eq_true, if_false]
  show wpAny _ _ (seqItems? (.ref b) >>= _) _ _ s
  refine wpAny_bind (wpAny_seqItems ho hd ?_)
  dsimp only
  refine wpAny_bind ?_
  show wpAny _ _ (forIn its _ _) _ _ s
  rw [← Array.forIn_toList]
  refine wpAny_forIn_list _ (fun rest r c => r.1 = none ∧ c = s ∧ ∀ v ∈ rest, v.scannable = true) _ ?_ ?_ _ _ ⟨rfl, rfl, items_scan hi⟩
  · rintro v rest r c ⟨hr, rfl, hall⟩
    rw [cls_scan _ (hall v List.mem_cons_self)]
    refine wpAny_bind (wpAny_pure ?_)
    simp only [Bool.false_eq_true, if_false]
    exact wpAny_pure ⟨rfl, rfl, fun u hu => hall u (List.mem_cons_of_mem _ hu)⟩
  · rintro ⟨r1, r2⟩ c ⟨hr, rfl, _⟩
    simp only at hr
    subst hr
    exact wpAny_pure h
theorem byV_mix {k : List Key} {b : Addr} {Q : Bool → Shared → Prop} (hk : IsM P w s.heap k b) (h : ∀ t, Q t s) : wpAny (model P w) A (hashByValue 8 (.ref b)) Q E s := by
  have hT := hk.typeIs
  obtain ⟨o, its, n, ho, _, hd, hi⟩ := hk
  unfold hashByValue
  refine wpAny_bind (wpAny_specialOf hT PySem.F.slot_tuple_hash.lookup ?_)
  show wpAny _ _ (seqItems? (.ref b) >>= _) _ _ s
  refine wpAny_bind (wpAny_seqItems ho hd ?_)
  refine wpAny_bind ?_
  show wpAny _ _ (forIn its _ _) _ _ s
  rw [← Array.forIn_toList]
  refine wpAny_forIn_list _ (fun rest r c => c = s ∧ ∀ v ∈ rest, v.scannable = true) _ ?_ ?_ _ _ ⟨rfl, items_scan hi⟩
  · rintro v rest r c ⟨rfl, hall⟩
    rw [hashByValue_scannable _ (hall v List.mem_cons_self)]
    refine wpAny_bind (wpAny_pure ?_)
    cases plainKind v
    · simp only [Bool.not_false, if_true]
      exact wpAny_pure (wpAny_pure (h false))
    · simp only [Bool.not_true, Bool.false_eq_true, if_false]
      exact wpAny_pure ⟨rfl, fun u hu => hall u (List.mem_cons_of_mem _ hu)⟩
  · rintro ⟨r1, r2⟩ c ⟨rfl, _⟩
    cases r1
    · exact wpAny_pure (h true)
    · exact wpAny_pure (h _)
theorem seen_mix {k : List Key} {b : Addr} {Q : Bool → Shared → Prop} (hk : IsM P w s.heap k b) {ys : List Value} (hy : ∀ y ∈ ys, ∃ k' c, y = Value.ref c ∧ IsM P w s.heap k' c) (h : Q false s) : wpAny (model P w) A (searchCouldBeSeen (.ref b) ys) Q E s := by
  unfold searchCouldBeSeen
  refine wpAny_bind ?_
  refine wpAny_forIn_list _ (fun rest r c => r.1 = none ∧ c = s ∧ ∀ y ∈ rest, ∃ k' c', y = Value.ref c' ∧ IsM P w s.heap k' c') _ ?_ ?_ _ _ ⟨rfl, rfl, hy⟩
  · rintro v rest r c ⟨hr, rfl, hall⟩
    obtain ⟨k', c', rfl, hc⟩ := hall v List.mem_cons_self
    have tl : ∀ y ∈ rest, ∃ k' c', y = Value.ref c' ∧ IsM P w c.heap k' c' := fun u hu => hall u (List.mem_cons_of_mem _ hu)
    dsimp only
    by_cases hv : (b == c' || (carriedByValue (.ref b) && carriedByValue (.ref c'))) = true
    · exact wp_if_pos hv (wpAny_pure ⟨rfl, rfl, tl⟩)
    · refine wp_if_neg hv ?_
      refine wpAny_bind (wpAny_eqIsQuiet_tuple hk ?_)
      simp only [Bool.not_true, Bool.false_eq_true, if_false]
      refine wpAny_bind (wpAny_eqIsQuiet_tuple hc ?_)
      simp only [Bool.not_true, Bool.false_eq_true, if_false]
      refine wpAny_bind (cls_mix hk ?_)
      simp only [Bool.false_eq_true, if_false]
      refine wpAny_bind (cls_mix hc ?_)
      simp only [Bool.false_eq_true, if_false]
      exact wpAny_pure ⟨rfl, rfl, tl⟩
  · rintro ⟨r1, r2⟩ c ⟨hr, rfl, _⟩
    simp only at hr
    subst hr
    exact wpAny_pure h
end
end DL


set_option Elab.async false
set_option linter.all false
set_option maxRecDepth 100000
set_option maxHeartbeats 4000000
/-! DS5: the search of a new tuple, its place. -/
namespace DL
open PySem PySem.Spec PyProof.Rows L2
def rowsM (P : Program) (w : World) (L : List (Addr × List Key)) : List (Int × Value) := L.map fun p => (mHash P w p.2, Value.ref p.1)
/-- a set's object that holds the tuples L, in the table's order -/
structure JM (P : Program) (w : World) (L : List (Addr × List Key)) (o : Obj) (es : Array (Int × Value)) (ep : Nat) (t : SetTable) : Prop where
  ex : o.ExactSet
  da : o.data = .set es ep t
  rows : es.toList = rowsM P w L
  tab : TabOk t (L.map fun p => mHash P w p.2)
  led : w.params.followText "set-order" = true ∨ t.led = true
  room : L.length * 5 < t.mask * 3
section
variable {P : Program} {w : World} {A : Around} {E : Value → Shared → Prop} {s : Shared} {a : Addr} {L : List (Addr × List Key)} {o : Obj} {es : Array (Int × Value)} {ep : Nat} {t : SetTable}
theorem JM.size (J : JM P w L o es ep t) : es.size = L.length := by
  have h := congrArg List.length J.rows
  unfold rowsM at h
  rwa [Array.length_toList, List.length_map] at h
theorem JM.fits (J : JM P w L o es ep t) : t.fits es.size = true := by
  have h1 := J.tab.sz
  rw [List.length_map] at h1
  have h2 := J.size
  have h3 := J.room
  unfold SetTable.fits SetTable.fill
  rw [J.tab.dm, Bool.and_eq_true, beq_iff_eq, decide_eq_true_eq]
  show t.place.size = es.size ∧ t.place.size + 0 ≤ t.mask
  omega
theorem JM.at (J : JM P w L o es ep t) {i : Nat} {p : Addr × List Key} (h : L[i]? = some p) : es[i]? = some (mHash P w p.2, Value.ref p.1) := by
  rw [← Array.getElem?_toList, J.rows]
  unfold rowsM
  rw [List.getElem?_map, h]
  rfl
theorem JM.gw (J : JM P w L o es ep t) : ¬ t.gaveWay = true := by
  unfold SetTable.gaveWay
  rw [mask_odd J.tab.mok]
  decide
/-- a key that is not there: the search ends at the first empty slot of the way -/
theorem search_new (J : JM P w L o es ep t) (go : s.heap.get? a = some o) (tup : ∀ p ∈ L, IsM P w s.heap p.2 p.1) {x : Addr} {k : List Key} (hx : IsM P w s.heap k x) (hk : k ∉ L.map (·.2)) (hu : A.units < cLine) {K : Nat} (hKf : K < 10 * SetTable.turns t.mask)
    (hK : way t.mask (mHash P w k) K ∉ t.place.toList) (hKb : ∀ c, c < K → way t.mask (mHash P w k) c ∈ t.place.toList) {Q : SetFound → Shared → Prop} (fin : Q (.free (way t.mask (mHash P w k) K) false) s) :
    ∀ (f c : Nat) (stand : Option SetTable.Probe), stand.getD (t.probeStart (mHash P w k)) = pr t.mask (mHash P w k) c → c ≤ K → K - c < f → wpAny (model P w) A (setSearchFrom a (.ref x) (mHash P w k) true f stand) Q E s
  | 0, c, stand, _, _, hf => absurd hf (Nat.not_lt_zero _)
  | f + 1, c, stand, hst, hc, hf => by
    rw [setSearchFrom_succ]
    refine wpAny_bind (wpAny_setState_of go J.da J.fits ?_)
    dsimp only
    refine wp_if_neg J.gw ?_
    try refine wpAny_bind (wpAny_pure ?_)
    have wj : ∀ q, (nth t.mask (pr t.mask (mHash P w k) c) q).j = way t.mask (mHash P w k) (c + q) := fun q => congrArg SetTable.Probe.j (pr_add t.mask _ c q)
    have spec := go_spec t J.tab.ris J.tab.dm (fun i => (es[i]?.map (·.1)).getD 0) (mHash P w k) (10 * SetTable.turns t.mask) (K - c) (pr t.mask (mHash P w k) c) (adv_dummy t.mask c _ rfl) (by omega) (fun q hq => by rw [wj]; exact hKb (c + q) (by omega))
      (by rw [wj, show c + (K - c) = K by omega]; exact hK)
    rcases spec with ⟨q, i, hq, hi, _, _, hpr⟩ | ⟨_, hpr⟩
    · have hpr' : t.probe (fun i => (es[i]?.map (·.1)).getD 0) (mHash P w k) (stand.getD (t.probeStart (mHash P w k))) = some (.candidate (way t.mask (mHash P w k) (c + q)) i (pr t.mask (mHash P w k) (c + (q + 1)))) := by
        rw [hst, ← wj, ← pr_add]
        exact hpr
      rw [hpr']
      dsimp only
      rw [wj] at hi
      have hil : i < L.length := by
        have h1 : i < t.place.toList.length := (List.getElem?_eq_some_iff.mp hi).1
        have h2 := J.tab.sz
        rw [List.length_map] at h2
        rw [Array.length_toList] at h1
        omega
      have hp : L[i]? = some L[i] := List.getElem?_eq_getElem hil
      generalize L[i] = p at hp
      have hm : p ∈ L := List.mem_of_getElem? hp
      have hne : ¬ p.2 = k := fun e => hk (List.mem_map.mpr ⟨p, hm, e⟩)
      have rest : wpAny (model P w) A (searchRest a (.ref x) (mHash P w k) true f es t (way t.mask (mHash P w k) (c + q)) i (pr t.mask (mHash P w k) (c + (q + 1)))) Q E s := by
        unfold searchRest
        rw [J.at hp]
        dsimp only
        refine wpAny_bind (wpAny_holding (wpAny_eqBool_tuple hu (tup p hm) hx ?_))
        refine wpAny_bind (wpAny_setState_of go J.da J.fits ?_)
        dsimp only
        refine wp_if_neg (by simp [hne]) ?_
        try refine wpAny_bind (wpAny_pure ?_)
        rw [sameMem]
        dsimp only
        have hsl : t.slot (way t.mask (mHash P w k) (c + q)) = .live i := slot_live J.tab.ris hi
        simp only [if_true, hsl, J.at hp]
        refine wpAny_bind (wpAny_isSame_ref_self (wpAny_bind (wpAny_pure ?_)))
        simp only [if_true]
        refine wp_if_neg (by simp [hne]) ?_
        exact search_new J go tup hx hk hu hKf hK hKb fin f (c + (q + 1)) _ rfl (by omega) (by omega)
      by_cases hl : t.led = true
      · refine wp_if_neg (by simp [hl]) ?_
        try refine wpAny_bind (wpAny_pure ?_)
        exact rest
      · refine wp_if_pos (by simp [hl]) ?_
        refine wpAny_bind (seen_mix hx (fun y hy => ?_) ?_)
        · obtain ⟨e, he, ee⟩ := List.mem_map.mp hy
          have he1 : e ∈ es ∧ e.1 = mHash P w k := by simpa using he
          have he2 : e ∈ es.toList := by simpa using he1.1
          rw [J.rows] at he2
          obtain ⟨p2, hp2, e2⟩ := List.mem_map.mp he2
          refine ⟨p2.2, p2.1, ?_, tup p2 hp2⟩
          rw [← ee, ← e2]
        · refine wp_if_neg (by decide) ?_
          try refine wpAny_bind (wpAny_pure ?_)
          exact rest
    · have hpr' : t.probe (fun i => (es[i]?.map (·.1)).getD 0) (mHash P w k) (stand.getD (t.probeStart (mHash P w k))) = some (.empty (way t.mask (mHash P w k) K) none) := by
        have e2 : way t.mask (mHash P w k) K = (nth t.mask (pr t.mask (mHash P w k) c) (K - c)).j := by rw [wj, show c + (K - c) = K by omega]
        rw [hst, e2]
        exact hpr
      rw [hpr']
      dsimp only
      exact wpAny_pure fin
theorem search_new0 (J : JM P w L o es ep t) (go : s.heap.get? a = some o) (tup : ∀ p ∈ L, IsM P w s.heap p.2 p.1) {x : Addr} {k : List Key} (hx : IsM P w s.heap k x) (hk : k ∉ L.map (·.2)) (hu : A.units < cLine) {Q : SetFound → Shared → Prop}
    (fin : ∀ K, way t.mask (mHash P w k) K ∉ t.place.toList → (∀ c, c < K → way t.mask (mHash P w k) c ∈ t.place.toList) → Q (.free (way t.mask (mHash P w k) K) false) s) :
    wpAny (model P w) A (setSearch a (.ref x) (mHash P w k) true) Q E s := by
  have hroom := J.room
  obtain ⟨K, hKf, hK, hKb⟩ := J.tab.first (by rw [List.length_map]; omega) (mHash P w k)
  have hbig : K < 100000 := by
    have : 10 * SetTable.turns t.mask ≤ 1420 := by
      unfold SetTable.turns
      rcases J.tab.mok with e | e | e <;> omega
    omega
  unfold setSearch
  exact search_new J go tup hx hk hu hKf hK hKb (fin K hK hKb) 100000 0 none rfl (Nat.zero_le _) (by omega)
end
end DL


set_option Elab.async false
set_option linter.all false
set_option maxRecDepth 100000
set_option maxHeartbeats 4000000
/-! DS6: a new tuple put in; len(set(xs)). -/
namespace DL
open PySem PySem.Spec PyProof.Rows L2
theorem tab_off {t : SetTable} {hs : List Int} (T : TabOk t hs) (b : Bool) : TabOk (if b = true then t else { t with plain := false }) hs := by
  cases b
  · exact ⟨T.ris, T.dm, T.sz, T.mok, T.bd, T.reach⟩
  · exact T
section
variable {P : Program} {w : World}
theorem rows_in (L : List (Addr × List Key)) (i : Nat) (x : Addr) (k : List Key) : rowsM P w (L.take i ++ (x, k) :: L.drop i) = (rowsM P w L).take i ++ (mHash P w k, Value.ref x) :: (rowsM P w L).drop i := by
  unfold rowsM
  rw [List.map_append, List.map_cons, List.map_take, List.map_drop]
theorem perm_in {α : Type} (L : List α) (i : Nat) (x : α) : (L.take i ++ x :: L.drop i).Perm (x :: L) := by
  have h : (L.take i ++ x :: L.drop i).Perm (x :: (L.take i ++ L.drop i)) := List.perm_middle
  rwa [List.take_append_drop] at h
/-- laid anew in another order: rows of a permuted list -/
theorem rows_ord (L : List (Addr × List Key)) (es : Array (Int × Value)) (hr : es.toList = rowsM P w L) : ∀ ord : List Nat, (∀ i ∈ ord, i < L.length) →
    ord.filterMap (fun i => es[i]?) = rowsM P w (ord.filterMap fun i => L[i]?) ∧ (ord.filterMap fun i => L[i]?).map (fun p => mHash P w p.2) = ord.map fun i => (es.map (·.1)).getD i 0
  | [], _ => ⟨rfl, rfl⟩
  | i :: ord, h => by
    obtain ⟨e1, e2⟩ := rows_ord L es hr ord fun j hj => h j (List.mem_cons_of_mem _ hj)
    have hi := h i List.mem_cons_self
    have ent : es[i]? = some (mHash P w (L[i]).2, Value.ref (L[i]).1) := by
      rw [← Array.getElem?_toList, hr]
      unfold rowsM
      rw [List.getElem?_map, List.getElem?_eq_getElem hi]
      rfl
    have key : (es.map (·.1)).getD i 0 = mHash P w (L[i]).2 := by
      have : (es.map (·.1))[i]? = some (mHash P w (L[i]).2) := by rw [Array.getElem?_map, ent]; rfl
      simp [Array.getD_eq_getD_getElem?, this]
    refine ⟨?_, ?_⟩
    · rw [List.filterMap_cons_some ent, e1, List.filterMap_cons_some (List.getElem?_eq_getElem hi)]
      rfl
    · rw [List.filterMap_cons_some (List.getElem?_eq_getElem hi), List.map_cons, e2, List.map_cons, key]
theorem perm_ord {α : Type} (L : List α) (ord : List Nat) (h : ord.Perm (List.range L.length)) : (ord.filterMap fun i => L[i]?).Perm L := by
  refine (h.filterMap _).trans ?_
  have e : ∀ n, n ≤ L.length → (List.range n).filterMap (fun i => L[i]?) = L.take n := by
    intro n
    induction n with
    | zero => intro _; rfl
    | succ n ih =>
      intro hn
      rw [List.range_succ, List.filterMap_append, ih (Nat.le_of_succ_le hn), List.take_succ, List.filterMap_cons, List.getElem?_eq_getElem (Nat.lt_of_succ_le hn)]
      rfl
  rw [e _ (Nat.le_refl _), List.take_length]
variable {A : Around} {E : Value → Shared → Prop} {s : Shared} {a : Addr} {L : List (Addr × List Key)} {o : Obj} {es : Array (Int × Value)} {ep : Nat} {t : SetTable}
/-- the table laid anew -/
theorem relay_m (go : s.heap.get? a = some o) (ex : o.ExactSet) (da : o.data = .set es ep t) (rows : es.toList = rowsM P w L) (tab : TabOk t (L.map fun p => mHash P w p.2)) (hfl : es.size ≤ t.mask) (ld : w.params.followText "set-order" = true ∨ t.led = true) {wanted M : Nat}
    (hw : SetTable.sizeAbove wanted - 1 = M) (hM : MaskOk M) (hw2 : SetTable.sizeAbove wanted ≤ 128) (hn : L.length * 5 < M * 3) {Q : Unit → Shared → Prop}
    (fin : ∀ h' o' L' es' ep' t', Heap.SameBut a s.heap h' → h'.get? a = some o' → JM P w L' o' es' ep' t' → L'.Perm L → Q () { s with heap := h' }) : wpAny (model P w) A (setRelay a wanted) Q E s := by
  have hsl : es.size = L.length := by
    have h := congrArg List.length rows
    unfold rowsM at h
    rwa [Array.length_toList, List.length_map] at h
  have hsz := tab.sz
  rw [List.length_map] at hsz
  have hfits : t.fits es.size = true := by
    unfold SetTable.fits SetTable.fill
    rw [tab.dm, Bool.and_eq_true, beq_iff_eq, decide_eq_true_eq]
    show t.place.size = es.size ∧ t.place.size + 0 ≤ t.mask
    omega
  obtain ⟨t', order, e, hp, T, em, el, _, ed⟩ := relaid_ok t (hs := es.map (·.1)) (wanted := wanted) hw hM (by rw [Array.size_map, hsl]; omega)
  rw [Array.size_map, hsl] at hp
  obtain ⟨r1, r2⟩ := rows_ord L es rows order.toList fun i hi => List.mem_range.mp (hp.mem_iff.mp hi)
  have r3 := perm_ord L order.toList hp
  rw [← r2] at T
  generalize (order.toList.filterMap fun i => L[i]?) = L2 at r1 r2 r3 T
  have r0 : (order.filterMap (es[·]?)).toList = rowsM P w L2 := by
    first
      | (rw [Array.toList_filterMap]; exact r1)
      | simpa using r1
  have hs2 : (order.filterMap (es[·]?)).size = es.size := by
    have h := congrArg List.length r0
    unfold rowsM at h
    rw [Array.length_toList, List.length_map, r3.length_eq] at h
    rw [h, hsl]
  rw [setRelay_eq]
  refine wpAny_bind (wpAny_setState_of go da hfits ?_)
  dsimp only
  refine wp_if_neg (by rw [sizeLine_eq]; omega) ?_
  try refine wpAny_bind (wpAny_pure ?_)
  rw [e]
  dsimp only
  refine wpAny_bind ?_
  refine wp_if_neg (by rw [hs2]; simp) ?_
  try refine wpAny_bind (wpAny_pure ?_)
  refine wpAny_pure ?_
  dsimp only
  refine wpAny_storeSet_of go da ?_ (by rw [hs2, hsl, sizeLine_eq]; omega)
  exact fin _ _ L2 (order.filterMap (es[·]?)) (ep + 1) t' (Heap.SameBut.update ..) (store_at go da) ⟨⟨ex.1, ex.2.1, ex.2.2⟩, rfl, r0, T, by rw [el]; exact ld, by rw [r3.length_eq, em]; exact hn⟩ r3
/-- a new tuple -/
theorem add_new (J : JM P w L o es ep t) (go : s.heap.get? a = some o) (tup : ∀ p ∈ L, IsM P w s.heap p.2 p.1) {x : Addr} {k : List Key} (hx : IsM P w s.heap k x) (hk : k ∉ L.map (·.2)) (hu : A.units < cLine) (few : L.length + 1 ≤ 76) {Q : Bool → Shared → Prop}
    (fin : ∀ b h' o' L' es' ep' t', Heap.SameBut a s.heap h' → h'.get? a = some o' → JM P w L' o' es' ep' t' → L'.Perm ((x, k) :: L) → Q b { s with heap := h' }) : wpAny (model P w) A (setAddHashed a (.ref x) (mHash P w k)) Q E s := by
  have hsl := J.size
  have hroom := J.room
  unfold setAddHashed
  refine wpAny_holding ?_
  rw [show (100000 : Nat) = 99999 + 1 from rfl, setAddHashedIn_succ]
  refine wpAny_bind (wpAny_setState_of go J.da J.fits ?_)
  dsimp only
  refine wp_if_neg (by simp [byScan, Value.scannable]) ?_
  try refine wpAny_bind (wpAny_pure ?_)
  refine wpAny_bind (search_new0 J go tup hx hk hu fun K hK hb => ?_)
  dsimp only
  refine wpAny_bind (wpAny_setState_of go J.da J.fits ?_)
  dsimp only
  obtain ⟨q1, _, q3, q4, q5, _, _, _, q9⟩ := J.tab.put hK hb
  generalize hpt : t.put (way t.mask (mHash P w k) K) = pt at q1 q3 q4 q5 q9 ⊢
  obtain ⟨t1, i⟩ := pt
  dsimp only at q1 q3 q4 q5 q9 ⊢
  subst q1
  have hin : (SetTable.insertAt es (SetTable.below t.place (way t.mask (mHash P w k) K)) (mHash P w k, Value.ref x)).toList = rowsM P w (L.take (SetTable.below t.place (way t.mask (mHash P w k) K)) ++ (x, k) :: L.drop (SetTable.below t.place (way t.mask (mHash P w k) K))) := by
    rw [SetTable.toList_insertAt, rows_in, J.rows]
  generalize SetTable.below t.place (way t.mask (mHash P w k) K) = i at q3 hin ⊢
  have pm := perm_in L i (x, k)
  have hlen : (L.take i ++ (x, k) :: L.drop i).length = L.length + 1 := pm.length_eq
  have hhs : (L.take i ++ (x, k) :: L.drop i).map (fun p => mHash P w p.2) = (L.map fun p => mHash P w p.2).take i ++ mHash P w k :: (L.map fun p => mHash P w p.2).drop i := by rw [List.map_append, List.map_cons, List.map_take, List.map_drop]
  rw [← hhs] at q3
  have hes : (SetTable.insertAt es i (mHash P w k, Value.ref x)).size = L.length + 1 := by
    have h := congrArg List.length hin
    unfold rowsM at h
    rwa [Array.length_toList, List.length_map, hlen] at h
  generalize SetTable.insertAt es i (mHash P w k, Value.ref x) = es1 at hin hes ⊢
  generalize L.take i ++ (x, k) :: L.drop i = L1 at pm hlen q3 hin
  rw [List.length_map] at q9
  -- whatever hashByValue answers
  have tail : ∀ b : Bool, wpAny (model P w) A (do
      storeSet a es1 (if b = true then t1 else { t1 with plain := false })
      if (!false && (if b = true then t1 else { t1 with plain := false }).tooFull) = true then setRelay a (SetTable.grown (es.size + 1))
      return true) Q E s := fun b => by
    have T2 := tab_off q3 b
    have m2 : (if b = true then t1 else { t1 with plain := false }).mask = t.mask := by cases b <;> exact q4
    have l2 : (if b = true then t1 else { t1 with plain := false }).led = t.led := by cases b <;> exact q5
    have f2 : (if b = true then t1 else { t1 with plain := false }).fill = L.length + 1 := by cases b <;> exact q9
    generalize (if b = true then t1 else { t1 with plain := false }) = t2 at T2 m2 l2 f2 ⊢
    have ld2 : w.params.followText "set-order" = true ∨ t2.led = true := by rw [l2]; exact J.led
    refine wpAny_bind (wpAny_storeSet_of go J.da ?_ (by rw [hes, sizeLine_eq]; omega))
    have sb : Heap.SameBut a s.heap (s.heap.update a (Obj.putSet es1 t2)) := Heap.SameBut.update ..
    have go1 := store_at (es' := es1) (t' := t2) go J.da
    generalize s.heap.update a (Obj.putSet es1 t2) = h1 at sb go1 ⊢
    by_cases hf : t2.tooFull = true
    · have full : (L.length + 1) * 5 ≥ t2.mask * 3 := by
        have h := hf
        unfold SetTable.tooFull at h
        rw [decide_eq_true_eq, f2] at h
        exact h
      have cs : (t.mask = 7 ∧ L.length = 4) ∨ (t.mask = 31 ∧ L.length = 18) := by
        rw [m2] at full
        rcases J.tab.mok with e | e | e
        · rw [e] at full hroom; exact .inl ⟨e, by omega⟩
        · rw [e] at full hroom; exact .inr ⟨e, by omega⟩
        · rw [e] at full; omega
      have run : ∀ M, SetTable.sizeAbove (SetTable.grown (L.length + 1)) - 1 = M → MaskOk M → SetTable.sizeAbove (SetTable.grown (L.length + 1)) ≤ 128 → (L.length + 1) * 5 < M * 3 →
          wpAny (model P w) A (setRelay a (SetTable.grown (L.length + 1))) (fun _ c => wpAny (model P w) A (pure true) Q E c) E { s with heap := h1 } := fun M g1 g2 g3 g4 =>
        relay_m (s := { s with heap := h1 }) go1 ⟨J.ex.1, J.ex.2.1, J.ex.2.2⟩ rfl hin T2 (by rw [hes, m2]; rcases cs with ⟨e, e2⟩ | ⟨e, e2⟩ <;> omega) ld2 g1 g2 g3 (by rw [hlen]; exact g4) fun h2 o2 L2 es2 ep2 t3 sb2 go2 J2 pm2 =>
          wpAny_pure (fin true h2 o2 L2 es2 ep2 t3 (sb.trans sb2) go2 J2 (pm2.trans pm))
      rw [hsl]
      first
        | (refine wpAny_bind ?_; refine wp_if_pos (by simp [hf]) ?_)
        | (refine wp_if_pos (by simp [hf]) ?_; refine wpAny_bind ?_)
      rcases cs with ⟨_, e2⟩ | ⟨_, e2⟩
      · exact run 31 (by rw [e2, size_20]) (.inr (.inl rfl)) (by rw [e2, size_20]; decide) (by omega)
      · exact run 127 (by rw [e2, size_76]) (.inr (.inr rfl)) (by rw [e2, size_76]; decide) (by omega)
    · first
        | refine wp_if_neg (by simp [hf]) ?_
        | (refine wpAny_bind ?_; refine wp_if_neg (by simp [hf]) ?_; refine wpAny_pure ?_)
      refine wpAny_pure (fin true h1 _ L1 es1 (ep + 1) t2 sb go1 ⟨⟨J.ex.1, J.ex.2.1, J.ex.2.2⟩, rfl, hin, T2, ld2, ?_⟩ pm)
      have h := hf
      unfold SetTable.tooFull at h
      rw [decide_eq_true_eq, f2] at h
      rw [hlen]
      omega
  by_cases hpl : t1.plain = true
  · first
      | (refine wpAny_bind ?_; refine wp_if_pos hpl ?_; exact byV_mix hx fun b => tail b)
      | exact wp_if_pos hpl (wpAny_bind (byV_mix hx fun b => tail b))
  · first
      | (refine wpAny_bind ?_; refine wp_if_neg hpl ?_; exact wpAny_pure (tail true))
      | exact wp_if_neg hpl (tail true)
end
end DL


set_option Elab.async false
set_option linter.all false
set_option maxRecDepth 100000
set_option maxHeartbeats 4000000
/-! DS7: len(set(xs)), xs a list of tuples, each once. -/
namespace DL
open PySem PySem.Spec PyProof.Rows L2
theorem items_mix {P : Program} {w : World} : ∀ {k : List Key} {us : List Value}, Vals (k.map kV) us → ItemsAre (mixKind P w) k us
  | [], _, .nil => .nil
  | n :: k, _, .cons r t => .cons (kV_is r) (items_mix t)
section
variable {P : Program} {w : World} {A : Around} {E : Value → Shared → Prop} {s : Shared}
theorem jm0 : JM P w [] (set0 w) #[] 0 (.fresh 0 0 (!w.params.followText "set-order")) where
  ex := ⟨rfl, rfl, rfl⟩
  da := rfl
  rows := rfl
  tab := ⟨List.Pairwise.nil, rfl, rfl, .inl rfl, fun x hx => (by cases hx), fun i h j hi => (by simp at hi)⟩
  led := by
    show _ ∨ (!w.params.followText "set-order") = true
    cases w.params.followText "set-order"
    · exact .inr rfl
    · exact .inl rfl
  room := by
    show 0 * 5 < 7 * 3
    decide
/-- set(xs), xs tuples each once -/
theorem call_setM {l : Addr} {its : Array Value} (qs : List (Addr × List Key)) {Q : Value → Shared → Prop} (hh : A.handled = none) (hl : s.heap.IsList l its) (hi : its.toList = qs.map fun p => Value.ref p.1) (tup : ∀ p ∈ qs, IsM P w s.heap p.2 p.1) (nd : (qs.map (·.2)).Nodup) (few : qs.length ≤ 76) (hu : A.units + 3 < cLine)
    (fin : ∀ h' tk o' es ep t L, Old s.heap h' → h'.get? s.heap.objs.size = some o' → JM P w L o' es ep t → L.Perm qs → Q (.ref s.heap.objs.size) { s with heap := h', toks := tk }) : wpAny (model P w) A (call (.type "set") [.ref l]) Q E s := by
  have hz : its.size = qs.length := by
    have := congrArg List.length hi
    rwa [Array.length_toList, List.length_map] at this
  refine call_setG (fun i o => ∃ L es ep t, JM P w L o es ep t ∧ L.Perm (qs.take i)) hh hl ⟨[], _, _, _, jm0, by simp⟩ (fun B G i v σ o Q hB e old go ⟨L, es, ep, t, J, pm⟩ k => ?_) fun h' tk o' old go ⟨L, es, ep, t, J, pm⟩ => ?_
  · have lt : i < qs.length := by
      have := (Array.getElem?_eq_some_iff.mp e).1
      omega
    have hq : qs[i]? = some qs[i] := List.getElem?_eq_getElem lt
    have ev : v = Value.ref (qs[i]).1 := by
      have e' : its.toList[i]? = some v := by rw [Array.getElem?_toList]; exact e
      rw [hi, List.getElem?_map, hq] at e'
      exact (Option.some.inj e').symm
    generalize qs[i] = p at hq ev
    subst ev
    have up : ∀ {q : Addr × List Key}, q ∈ qs → IsM P w σ.heap q.2 q.1 := fun {q} hm => by
      obtain ⟨o, items, n, ho, r⟩ := tup q hm
      exact ⟨o, items, n, old _ _ ho, r⟩
    have hp : p ∈ qs := List.mem_of_getElem? hq
    have hx := up hp
    have tk' : qs.take (i + 1) = qs.take i ++ [p] := by rw [List.take_succ, hq]; rfl
    have hnew : p.2 ∉ L.map (·.2) := fun hm => by
      have h2 : p.2 ∈ (qs.take i).map (·.2) := (pm.map (·.2)).mem_iff.mp hm
      have h3 : ((qs.take (i + 1)).map (·.2)).Nodup := by
        rw [← List.take_append_drop (i + 1) qs, List.map_append] at nd
        exact (List.nodup_append.mp nd).1
      rw [tk', List.map_append] at h3
      exact (List.nodup_append.mp h3).2.2 _ h2 _ (List.mem_singleton.mpr rfl) rfl
    have hL : L.length = i := by rw [pm.length_eq, List.length_take]; omega
    unfold setAdd
    refine wpAny_holding (wpAny_bind (wpAny_pyHash_tuple (by omega) hx ?_))
    refine add_new (s := { σ with toks := σ.toks + (p.2.length + 1) }) J go (fun q hq => up (List.mem_of_mem_take (pm.mem_iff.mp hq))) hx hnew (by omega) (by omega) fun b h' o' L' es' ep' t' sb go' J' pm' => ?_
    refine k b h' _ o' sb go' ⟨L', es', ep', t', J', ?_⟩ (Nat.le_add_right _ _)
    rw [tk']
    exact (pm'.trans (List.Perm.cons p pm)).trans (List.perm_append_singleton p _).symm
  · refine fin h' tk o' es ep t L old go J ?_
    have pm : L.Perm (qs.take its.size) := pm
    rwa [hz, List.take_length] at pm
end
section
variable {X : Cx} {e : Expr} {Γ : Ctx} {p p2 q pos : Pos} {ks : List (List Key)}
/-- len(set(xs)) -/
theorem dp_lenSet (hc : X.calm = true) (nd : ks.Nodup) (few : ks.length ≤ 76) (hu : X.A.units + 3 < cLine) (hg : Gl X "len") (hm : X.mg "len" = none) (hg2 : Gl X "set") (hm2 : X.mg "set" = none) (ha : DLs X e Γ (ks.map fun k => .tuple (k.map kD)))
    (na : starEach [e] X.env = (false, eval e X.env) :: starEach [] X.env := by rfl) : DP X (.Call (.Name "len" p) [.Call (.Name "set" p2) [e] [] q] [] pos) Γ (.int ks.length) := by
  refine dp_grow (te := fun σ H Q => tL X.prog X.w X.K Γ (ks.map fun k => .tuple (k.map kD)) σ H fun x H1 => ∃ (l : Addr) (as : List Addr), x = V.ref l ∧ SqL X.K H1 l (as.map V.ref) ∧ Paired (fun a k => H1 a = some (.tup (k.map kV))) as ks ∧ Q (.int ks.length) H1) ⟨fun pins s σ H Q I h => ?_⟩ ?_
  · refine Call_ (ld_blt I hg hm PySem.boot_len ?_)
    refine PyProof.Rows.callWith_builtin1 (PyProof.Rows.args_cons ?_ rfl) rfl rfl
    refine Call_ (ld_blt I hg2 hm2 PyProof.Rows.boot_set ?_)
    refine PyProof.Rows.callWith_type1 (PyProof.Rows.args_cons (thn (ha.run pins s σ H _ I h) fun v s1 ⟨x, H1, I1, r1, q1⟩ => PyProof.Rows.args_nil ?_) na) na rfl
    obtain ⟨l, as, rfl, hq, hk, q1⟩ := q1
    cases r1
    obtain ⟨its, r, pl, hz⟩ := I1.list hq
    have refs : ∀ {as : List Addr} {us : List Value}, Vals (as.map V.ref) us → us = as.map Value.ref := by
      intro as
      induction as with
      | nil => intro us h; cases h; rfl
      | cons a as ih =>
        intro us h
        cases h with
        | cons r t =>
          cases r
          rw [ih t]
          rfl
    have zip2 : ∀ {as : List Addr} {ks : List (List Key)}, Paired (fun a k => H1 a = some (.tup (k.map kV))) as ks → (as.zip ks).map (fun p => Value.ref p.1) = as.map Value.ref ∧ (as.zip ks).map (·.2) = ks ∧ ∀ p ∈ as.zip ks, H1 p.1 = some (.tup (p.2.map kV)) := by
      intro as ks h
      induction h with
      | nil => exact ⟨rfl, rfl, fun p hp => by cases hp⟩
      | cons r _ ih =>
        obtain ⟨a, b, c⟩ := ih
        refine ⟨by rw [List.zip_cons_cons, List.map_cons, a]; rfl, by rw [List.zip_cons_cons, List.map_cons, b], fun p hp => ?_⟩
        rcases List.mem_cons.mp hp with e | hp
        · rw [e]; exact r
        · exact c p hp
    obtain ⟨z1, z2, z3⟩ := zip2 hk
    have hlq : (as.zip ks).length = ks.length := by
      have := congrArg List.length z2
      rwa [List.length_map] at this
    refine call_setM (P := X.prog) (w := X.w) (as.zip ks) (I1.ok.hd hc) pl.isList (by rw [z1]; simpa using refs r) (fun p hp => ?_) (by rw [z2]; exact nd) (by rw [hlq]; exact few) hu fun h' tk o' es ep t L old go J pm => ?_
    · obtain ⟨its2, r2, ⟨o2, ho2, hc2, n2, hd2⟩, _⟩ := I1.tuple (SqT.of (z3 p hp))
      exact ⟨o2, its2.toArray, n2, ho2, hc2, hd2, by simpa using items_mix r2⟩
    refine PyProof.Rows.args_nil ?_
    have I2 : Inv X pins σ H1 { s1 with heap := h', toks := tk } := I1.kept fun b o e => old b o e
    have hs := J.size
    have hlL : L.length = ks.length := by rw [pm.length_eq, hlq]
    refine call_len_set go J.ex J.da J.fits (by rw [hs] <;> omega) ⟨.int ks.length, H1, I2.tok _, ⟨_, by rw [hs, hlL]⟩, q1⟩
  · intro σ H Hf fps ok Q q
    refine tL_run ok fun a vs Hf1 H1 g1 h1 h2 => ?_
    have un : ∀ {ks : List (List Key)} {vs : List V}, DvAll X.K Hf1 vs (ks.map fun k => .tuple (k.map kD)) → ∃ as : List Addr, vs = as.map V.ref ∧ Paired (fun a k => Hf1 a = some (.tup (k.map kV))) as ks := by
      intro ks
      induction ks with
      | nil => intro vs h; cases h; exact ⟨[], rfl, .nil⟩
      | cons k ks ih =>
        intro vs h
        have h' : DvAll X.K Hf1 vs (.tuple (k.map kD) :: ks.map fun k => .tuple (k.map kD)) := h
        cases h' with
        | cons h1 h2 =>
          obtain ⟨as, e1, e2⟩ := ih h2
          obtain ⟨b, e3, e4⟩ := tup_keys h1
          exact ⟨b :: as, by rw [e3, e1]; rfl, .cons e4 e2⟩
    obtain ⟨as, e1, e2⟩ := un h2
    rw [e1] at h1
    exact ⟨a, as, rfl, h1, Paired.mapP e2 fun _ _ z => (ok.growG g1).sub _ _ z, q _ Hf1 H1 g1 (.int _)⟩
end
end DL


set_option Elab.async false
set_option linter.all false
set_option maxRecDepth 100000
set_option maxHeartbeats 4000000
/-! WB: the text's defs by names; loops over lists of values. -/
namespace DL
open PySem PySem.Spec PyProof.Rows L2

/-! ### the text -/
structure Txt (K : PySem.W.Frag) (mg : Str → Option Value) : Prop where
  ex : ∃ h : Heap, K.In h ∧ h.Ns mainGlobals mg
  c : He.SaysD KHead.fa KHead.fn K
abbrev FnT (K : PySem.W.Frag) (x : Str) (st : Stmt) (f : Addr) (fd : FuncData) : Prop := FunD K x x (defArgs st) (defBody st) (defScope st) [] [] f fd
abbrev FnM (K : PySem.W.Frag) (x q : Str) (st : Stmt) (f : Addr) (fd : FuncData) : Prop := FunD K x q (defArgs st) (defBody st) (defScope st) [] [] f fd
section
variable {P : Program} {w : World} {K : PySem.W.Frag} {mg : Str → Option Value} {base : Heap}
theorem Txt.free (T : Txt K mg) (i : Nat) {x : Str} (h : KHead.fa[i]? = some (.free x) := by rfl) : mg x = none := by
  obtain ⟨h0, X, G⟩ := T.ex
  exact He.free_ok X G (T.c.fact i h)
theorem Txt.int (T : Txt K mg) (i : Nat) {x : Str} {n : Int} (h : KHead.fa[i]? = some (.int x n) := by rfl) : ∃ t, mg x = some (.int n t) := by
  obtain ⟨h0, X, G⟩ := T.ex
  exact He.int_ok X G (T.c.fact i h)
theorem Txt.str (T : Txt K mg) (i : Nat) {x y : Str} (h : KHead.fa[i]? = some (.str x y) := by rfl) : ∃ t, mg x = some (.str y t) := by
  obtain ⟨h0, X, G⟩ := T.ex
  exact He.str_ok X G (T.c.fact i h)
theorem Txt.fn (T : Txt K mg) (i : Nat) {x : Str} {st : Stmt} {k : Nat} {ps : List Str} {sp : Sp} (hd : KHead.fn[i]? = some ⟨(x, none), x, x, defArgs st, defBody st, defScope st, [], []⟩) (hg : KHead.fa[i]? = some (.glo x))
    (hb : ∀ (kV doc pm : Value) (an : Option Addr) (cdv ct : Value) (us : List Value), us.length = ps.length → bindArgs (PySem.W.fnOf x x (defArgs st) (defBody st) (defScope st) .none kV doc pm an cdv ct) ⟨us, []⟩ = pure (ps.zip us))
    (hf : ∀ f fd, FnT K x st f fd → FnOk P w K mg base CX0 k f fd ps sp) : DFn P w K mg base k x ps sp := by
  obtain ⟨h0, X, G⟩ := T.ex
  obtain ⟨fd, F⟩ := T.c.def_ i hd
  exact ⟨_, fd, hf _ fd F, He.glo_ok X G (T.c.fact i hg), F.kp, FunD.bindsN F hb⟩
end

section
variable {P : Program} {w : World} {K : PySem.W.Frag} {mg : Str → Option Value} {base : Heap}
theorem Txt.fn2 (T : Txt K mg) (i j : Nat) {x : Str} {st : Stmt} {k : Nat} {ps : List Str} {sp : Sp} (hd : KHead.fn[i]? = some ⟨(x, none), x, x, defArgs st, defBody st, defScope st, [], []⟩) (hg : KHead.fa[j]? = some (.glo x))
    (hb : ∀ (kV doc pm : Value) (an : Option Addr) (cdv ct : Value) (us : List Value), us.length = ps.length → bindArgs (PySem.W.fnOf x x (defArgs st) (defBody st) (defScope st) .none kV doc pm an cdv ct) ⟨us, []⟩ = pure (ps.zip us))
    (hf : ∀ f fd, FnT K x st f fd → FnOk P w K mg base CX0 k f fd ps sp) : DFn P w K mg base k x ps sp := by
  obtain ⟨h0, X, G⟩ := T.ex
  obtain ⟨fd, F⟩ := T.c.def_ i hd
  exact ⟨_, fd, hf _ fd F, He.glo_ok X G (T.c.fact j hg), F.kp, FunD.bindsN F hb⟩
/-- a method -/
theorem Txt.me (T : Txt K mg) (i j c : Nat) {C m q : Str} {st : Stmt} {k : Nat} {ps : List Str} {sp : Sp} (hd : KHead.fn[i]? = some ⟨(C, some m), m, q, defArgs st, defBody st, defScope st, [], []⟩) (hg : KHead.fa[j]? = some (.meth C m)) (hc : KHead.fa[c]? = some (.cls C))
    (hb : ∀ (kV doc pm : Value) (an : Option Addr) (cdv ct : Value) (us : List Value), us.length = ps.length → bindArgs (PySem.W.fnOf m q (defArgs st) (defBody st) (defScope st) .none kV doc pm an cdv ct) ⟨us, []⟩ = pure (ps.zip us))
    (hf : ∀ f fd, FnM K m q st f fd → FnOk P w K mg base CX0 k f fd ps sp) : DMe P w K mg base k (He.ga K C) m ps sp := by
  obtain ⟨fd, F⟩ := T.c.def_ i hd
  exact ⟨He.cls_ok (T.c.fact c hc), _, fd, hf _ fd F, He.meth_ok (T.c.fact j hg), FunD.bindsN F hb⟩
/-- a class that is made -/
theorem Txt.mkr (T : Txt K mg) (i j c : Nat) {C q : Str} {st : Stmt} {k : Nat} {ps : List Str} {sp : Sp} (hd : KHead.fn[i]? = some ⟨(C, some "__init__"), "__init__", q, defArgs st, defBody st, defScope st, [], []⟩) (hg : KHead.fa[j]? = some (.mkr C)) (hc : KHead.fa[c]? = some (.glo C))
    (hb : ∀ (kV doc pm : Value) (an : Option Addr) (cdv ct : Value) (us : List Value), us.length = ps.length → bindArgs (PySem.W.fnOf "__init__" q (defArgs st) (defBody st) (defScope st) .none kV doc pm an cdv ct) ⟨us, []⟩ = pure (ps.zip us))
    (hf : ∀ f fd, FnM K "__init__" q st f fd → FnOk P w K mg base CX0 k f fd ps sp) : DMk P w K mg base k C (He.ga K C) ps sp := by
  obtain ⟨h0, X, G⟩ := T.ex
  obtain ⟨fd, F⟩ := T.c.def_ i hd
  exact ⟨_, fd, hf _ fd F, He.mkr_ok (T.c.fact j hg), FunD.bindsN F hb, He.glo_ok X G (T.c.fact c hc)⟩
theorem Txt.na (T : Txt K mg) (i : Nat) {C f : Str} (h : KHead.fa[i]? = some (.noat C f) := by rfl) : NoAttr K (He.ga K C) f := He.noat_ok (T.c.fact i h)
theorem Txt.cl (T : Txt K mg) (i : Nat) {C : Str} (h : KHead.fa[i]? = some (.cls C) := by rfl) : Cls K (He.ga K C) := He.cls_ok (T.c.fact i h)
end
def sLET : Str := "abcdefghijklmnopqrstuvwxyz"
def sCAP : Str := "ABCDEFGHIJKLMNOPQRSTUVWXYZ"
def sFIG : Str := "0123456789"
def sEND : Str := "."
section
variable {K : PySem.W.Frag} {mg : Str → Option Value}
theorem Txt.b_len (T : Txt K mg) : mg "len" = none := T.free 100
theorem Txt.b_all (T : Txt K mg) : mg "all" = none := T.free 101
theorem Txt.b_sorted (T : Txt K mg) : mg "sorted" = none := T.free 102
theorem Txt.b_set (T : Txt K mg) : mg "set" = none := T.free 103
theorem Txt.b_dict (T : Txt K mg) : mg "dict" = none := T.free 104
theorem Txt.b_list (T : Txt K mg) : mg "list" = none := T.free 105
theorem Txt.b_tuple (T : Txt K mg) : mg "tuple" = none := T.free 106
theorem Txt.b_range (T : Txt K mg) : mg "range" = none := T.free 107
theorem Txt.b_enumerate (T : Txt K mg) : mg "enumerate" = none := T.free 108
theorem Txt.b_zip (T : Txt K mg) : mg "zip" = none := T.free 109
theorem Txt.MOST_RULES (T : Txt K mg) : ∃ t, mg "MOST_RULES" = some (.int (40) t) := T.int 87
theorem Txt.MOST_PARTS (T : Txt K mg) : ∃ t, mg "MOST_PARTS" = some (.int (6) t) := T.int 88
theorem Txt.MOST_NAME (T : Txt K mg) : ∃ t, mg "MOST_NAME" = some (.int (8) t) := T.int 89
theorem Txt.MOST_TEXT (T : Txt K mg) : ∃ t, mg "MOST_TEXT" = some (.int (30) t) := T.int 90
theorem Txt.WHOLE (T : Txt K mg) : ∃ t, mg "WHOLE" = some (.int (-1) t) := T.int 95
theorem Txt.MOST_ROWS (T : Txt K mg) : ∃ t, mg "MOST_ROWS" = some (.int (200) t) := T.int 96
theorem Txt.MOST_DEEDS (T : Txt K mg) : ∃ t, mg "MOST_DEEDS" = some (.int (299) t) := T.int 97
theorem Txt.MOST_STATES (T : Txt K mg) : ∃ t, mg "MOST_STATES" = some (.int (200) t) := T.int 98
theorem Txt.MOST_STANDS (T : Txt K mg) : ∃ t, mg "MOST_STANDS" = some (.int (200) t) := T.int 99
theorem Txt.LETTERS (T : Txt K mg) : ∃ t, mg "LETTERS" = some (.str sLET t) := T.str 91
theorem Txt.CAPITALS (T : Txt K mg) : ∃ t, mg "CAPITALS" = some (.str sCAP t) := T.str 92
theorem Txt.FIGURES (T : Txt K mg) : ∃ t, mg "FIGURES" = some (.str sFIG t) := T.str 93
theorem Txt.END (T : Txt K mg) : ∃ t, mg "END" = some (.str sEND t) := T.str 94
end

/-! ### loops over lists of values -/
def lN (i : Nat) (d : PyData) : List (Nat × PyData) := [(i, d)]
def lP (i j : Nat) : PyData → List (Nat × PyData)
  | .tuple [a, b] => [(i, a), (j, b)]
  | _ => []
abbrev VisT (X : Cx) (x : Str) : Prop := Loc X.env.scope x
abbrev FnL (X : Cx) (x : Str) : Prop := X.fn x = true ∨ X.env.scope.names.lookup x = some .local
section
variable {X : Cx} {n : Nat} {Γ : Ctx} {ds : List PyData} {p : Po} {rest body : List Stmt} {iter tg : Expr} {pos p1 p2 p3 : Pos} {x y : Str} {α S : Type}
theorem drop_at {xs : List α} {k : Nat} {a : α} (h : xs[k]? = some a) : xs.drop k = a :: xs.drop (k + 1) := by
  obtain ⟨hk, e⟩ := List.getElem?_eq_some_iff.mp h
  rw [List.drop_eq_getElem_cons hk, e]
theorem Sub.set {Γ1 : Ctx} : ∀ {Γ2 : Ctx} (i : Nat) (s : Option Sl), Sub Γ1 Γ2 → Sub (Γ1.set i s) (Γ2.set i s)
  | _, _, _, .nil => .nil
  | _, 0, s, .same h => .same h
  | _, 0, s, .drop h => .same h
  | _, i + 1, s, .same h => .same (Sub.set i s h)
  | _, i + 1, s, .drop h => .drop (Sub.set i s h)
theorem sub_sets : ∀ {Γ1 Γ2 : Ctx}, Sub Γ1 Γ2 → ∀ l : List (Nat × PyData), Sub (setsG Γ1 l) (setsG Γ2 l)
  | _, _, h, [] => h
  | _, _, h, (i, d) :: r => sub_sets (h.set i _) r
theorem ws_forG {l : PyData → List (Nat × PyData)} {xs : List α} (enc : α → PyData) (J : List α → S → Prop) (C : S → Ctx) (s0 : S) (hi : DI X false tg iter Γ (xs.map enc)) (hg : ∀ a ∈ xs, DG X tg (enc a) (l (enc a))) (h0 : J xs s0) (hs0 : Sub Γ (C s0))
    (hb : ∀ a r s, a ∈ xs → J (a :: r) s → WS X n body (setsG (C s) (l (enc a))) { p with nx := fun Γ' => ∃ s', J r s' ∧ Sub Γ' (C s') }) (he : ∀ s, J [] s → WS X n rest (C s) p) (hl : ∀ a ∈ xs, ∀ q ∈ l (enc a), n ≤ q.1) (hc : X.calm = true)
    (hp : PassesOwn (model X.prog X.w) X.A X.env X.xe) (hs : ∀ x, foldedSetIterable iter X.env x = pure x) : WS X n (.For tg iter body [] pos :: rest) Γ p := by
  refine ws_for (fun k Γ' => ∃ s, J (xs.drop k) s ∧ Sub Γ' (C s)) l hi (fun d hd => ?_) ⟨s0, by rw [List.drop_zero]; exact h0, hs0⟩ (fun k d Γ' hk ⟨s, hj, hsub⟩ => ?_) (fun Γ' ⟨s, hj, hsub⟩ => ?_) (fun d hd q hq => ?_) hc hp hs
  · obtain ⟨a, ha, rfl⟩ := List.mem_map.mp hd
    exact hg a ha
  · rw [List.getElem?_map] at hk
    obtain ⟨a, ha, rfl⟩ := Option.map_eq_some_iff.mp hk
    rw [drop_at ha] at hj
    refine ws_weak (sub_sets hsub _) (hb a _ s (List.mem_of_getElem? ha) hj)
  · rw [List.length_map, List.drop_length] at hj
    exact ws_weak hsub (he s hj)
  · obtain ⟨a, ha, rfl⟩ := List.mem_map.mp hd
    exact hl a ha q hq
/-- for x in .. -/
theorem ws_forN {xs : List α} (i : Nat) (enc : α → PyData) (J : List α → S → Prop) (C : S → Ctx) (s0 : S) (hi : DI X false (.Name x p1) iter Γ (xs.map enc)) (h0 : J xs s0) (hs0 : Sub Γ (C s0))
    (hb : ∀ a r s, a ∈ xs → J (a :: r) s → WS X n body ((C s).set i (some (dat (enc a)))) { p with nx := fun Γ' => ∃ s', J r s' ∧ Sub Γ' (C s') }) (he : ∀ s, J [] s → WS X n rest (C s) p) (nd : X.N.Nodup := by assumption) (hN : X.N[i]? = some x := by rfl) (hx : VisT X x := by first | exact Or.inl rfl | exact Or.inr rfl) (hf : FnL X x := by first | exact .inl rfl | exact .inr rfl) (hl : n ≤ i := by decide) (hc : X.calm = true := by rfl)
    (hp : PassesOwn (model X.prog X.w) X.A X.env X.xe := by exact PassesOwn.never) (hs : ∀ x, foldedSetIterable iter X.env x = pure x := by intro _; rfl) : WS X n (.For (.Name x p1) iter body [] pos :: rest) Γ p :=
  ws_forG (l := lN i) enc J C s0 hi (fun a _ => DG.name nd hN hx hf) h0 hs0 hb he (fun a _ q hq => by rw [List.mem_singleton.mp hq]; exact hl) hc hp hs
/-- for x, y in .. -/
theorem ws_forP {xs : List α} {tn : Nat} (i j : Nat) (e1 e2 : α → PyData) (J : List α → S → Prop) (C : S → Ctx) (s0 : S) (hi : DI X false (.Tuple [.Name x p1, .Name y p2] tn p3) iter Γ (xs.map fun a => .tuple [e1 a, e2 a])) (h0 : J xs s0) (hs0 : Sub Γ (C s0))
    (hb : ∀ a r s, a ∈ xs → J (a :: r) s → WS X n body (((C s).set i (some (dat (e1 a)))).set j (some (dat (e2 a)))) { p with nx := fun Γ' => ∃ s', J r s' ∧ Sub Γ' (C s') }) (he : ∀ s, J [] s → WS X n rest (C s) p) (nd : X.N.Nodup := by assumption) (hN : X.N[i]? = some x := by rfl) (hN2 : X.N[j]? = some y := by rfl) (hx : VisT X x := by first | exact Or.inl rfl | exact Or.inr rfl) (hf : FnL X x := by first | exact .inl rfl | exact .inr rfl) (hy : VisT X y := by first | exact Or.inl rfl | exact Or.inr rfl) (hf2 : FnL X y := by first | exact .inl rfl | exact .inr rfl) (hl : n ≤ i := by decide) (hl2 : n ≤ j := by decide) (hc : X.calm = true := by rfl)
    (hp : PassesOwn (model X.prog X.w) X.A X.env X.xe := by exact PassesOwn.never) (hs : ∀ x, foldedSetIterable iter X.env x = pure x := by intro _; rfl) : WS X n (.For (.Tuple [.Name x p1, .Name y p2] tn p3) iter body [] pos :: rest) Γ p :=
  ws_forG (l := lP i j) (fun a => .tuple [e1 a, e2 a]) J C s0 hi (fun a _ => DG.pair hc nd hN hx hf hN2 hy hf2) h0 hs0 hb he (fun a _ q hq => by
    rcases List.mem_cons.mp hq with e | hq
    · rw [e]; exact hl
    · rw [List.mem_singleton.mp hq]; exact hl2) hc hp hs
theorem dt_weak {c : Expr} {t : Bool} {Γ2 : Ctx} (h : Sub Γ Γ2) (hc : DT X c Γ2 t) : DT X c Γ t := ⟨fun pins s σ H Q I ⟨Hf, fps, ok, q⟩ => by
  obtain ⟨f2, o2, _⟩ := ok.sub' h
  exact hc.run pins s σ H Q I ⟨Hf, f2, o2, q⟩⟩
theorem ws_imp' {sts : List Stmt} {M M' : Ctx → Prop} (h : WS X n sts Γ { p with nx := M }) (k : ∀ Γ', M Γ' → M' Γ') : WS X n sts Γ { p with nx := M' } :=
  ⟨fun pins s σ H D I ⟨Hf, fps, ok, g⟩ => h.run pins s σ H D I ⟨Hf, fps, ok, fun Γ' σ' Hf' H' fps' m => g.nx Γ' σ' Hf' H' fps' (k Γ' m), g.rt, g.xr⟩⟩
/-- while -/
theorem ws_whileS {c : Expr} (J : Nat → S → Prop) (C : S → Ctx) (m : Nat) (s0 : S) (h0 : J m s0) (hs0 : Sub Γ (C s0)) (hb : ∀ m s, J m s → ∃ t, DT X c (C s) t ∧ (t = true → WS X n body (C s) { p with nx := fun Γ' => ∃ m' s', m' < m ∧ J m' s' ∧ Sub Γ' (C s') }) ∧ (t = false → WS X n rest (C s) p))
    (hp : PassesOwn (model X.prog X.w) X.A X.env X.xe := by exact PassesOwn.never) : WS X n (.While c body [] pos :: rest) Γ p :=
  ws_while (fun m Γ' => ∃ s, J m s ∧ Sub Γ' (C s)) m ⟨s0, h0, hs0⟩ (fun m Γ' ⟨s, hj, e⟩ => by
    obtain ⟨t, h1, h2, h3⟩ := hb m s hj
    exact ⟨t, dt_weak e h1, fun ht => ws_weak e (ws_imp' (h2 ht) fun Γ2 ⟨m', s', a, b, c⟩ => ⟨m', a, s', b, c⟩), fun ht => ws_weak e (h3 ht)⟩) hp
end

section
variable {X : Cx} {n : Nat} {Γ : Ctx} {p : Po} {rest : List Stmt} {e : Expr} {pos p1 p2 p3 : Pos} {x y : Str} {d1 d2 : PyData}
/-- x, y = e -/
theorem ws_pair {tn : Nat} (i j : Nat) (he : DP X e Γ (.tuple [d1, d2])) (hr : WS X n rest ((Γ.set i (some (dat d1))).set j (some (dat d2))) p) (nd : X.N.Nodup := by assumption) (hN : X.N[i]? = some x := by rfl) (hN2 : X.N[j]? = some y := by rfl) (hx : VisT X x := by first | exact Or.inl rfl | exact Or.inr rfl) (hf : FnL X x := by first | exact .inl rfl | exact .inr rfl) (hy : VisT X y := by first | exact Or.inl rfl | exact Or.inr rfl) (hf2 : FnL X y := by first | exact .inl rfl | exact .inr rfl) (hl : n ≤ i := by decide) (hl2 : n ≤ j := by decide) (hc : X.calm = true := by rfl)
    (hs : swapsWithSole [.Tuple [.Name x p1, .Name y p2] tn p3] e pos.line X.env = pure false := by rfl) (hw : swappedStores [.Tuple [.Name x p1, .Name y p2] tn p3] e X.env = pure none := by rfl)
    (h1 : (assignEach [.Tuple [.Name x p1, .Name y p2] tn p3] X.env).map (·.2) = [assign (.Tuple [.Name x p1, .Name y p2] tn p3) X.env] := by rfl) : WS X n (.Assign [.Tuple [.Name x p1, .Name y p2] tn p3] e pos :: rest) Γ p :=
  ws_of (pss_cons (ps_asg he (dg_pg (DG.pair (d := d1) (e := d2) hc nd hN hx hf hN2 hy hf2)) hs hw h1) hr) fun D σ H Hf fps ok g => tD_run ok fun v Hf1 H1 g1 hv => by
    have o1 := ok.growG g1
    refine ⟨Hf1, hv, o1.sub, fun σ' k1 _ k3 => ?_⟩
    obtain ⟨fps2, o2, w2⟩ := k1 Γ fps o1
    refine ⟨Hf1, fps2, o2, g.step ((Rch.of g1.step).trans ⟨Step.refl.imp w2, fun l hl3 => k3 l fun q hq => ?_⟩)⟩
    rcases List.mem_cons.mp hq with e | hq
    · rw [e]; show i ≠ l; omega
    · rw [List.mem_singleton.mp hq]; show j ≠ l; omega
end

/-! ### short words -/
section
variable {X : Cx} {Γ : Ctx} {d : PyData} {ds : List PyData} {pos : Pos} {x : Str}
theorem v (i : Nat) (hN : X.N[i]? = some x := by rfl) (hg : Γ[i]? = some (some (dat d)) := by rfl) (hv : Vis X.env.scope x := by first | exact Or.inl rfl | exact Or.inr (Or.inl rfl) | exact Or.inr (Or.inr rfl)) (hd : (x == ("__debug__" : Str)) = false := by decide) (hcd : (x == ("__classdict__" : Str)) = false := by decide) : DP X (.Name x pos) Γ d := dp_var hN hv hg hd hcd
theorem vl (i : Nat) (hN : X.N[i]? = some x := by rfl) (hg : Γ[i]? = some (some (.b (.ol ds))) := by rfl) (hv : Vis X.env.scope x := by first | exact Or.inl rfl | exact Or.inr (Or.inl rfl) | exact Or.inr (Or.inr rfl)) (hd : (x == ("__debug__" : Str)) = false := by decide) (hcd : (x == ("__classdict__" : Str)) = false := by decide) : DLs X (.Name x pos) Γ ds := dl_own hN hv hg hd hcd
theorem vd (i : Nat) (hN : X.N[i]? = some x := by rfl) (hg : Γ[i]? = some (some (dat (.list ds))) := by rfl) (hv : Vis X.env.scope x := by first | exact Or.inl rfl | exact Or.inr (Or.inl rfl) | exact Or.inr (Or.inr rfl)) (hd : (x == ("__debug__" : Str)) = false := by decide) (hcd : (x == ("__classdict__" : Str)) = false := by decide) : DLs X (.Name x pos) Γ ds := dl_dat (dp_var hN hv hg hd hcd)
theorem vk (i : Nat) {kvs : List (Key × PyData)} (hN : X.N[i]? = some x := by rfl) (hg : Γ[i]? = some (some (.b (.okd kvs))) := by rfl) (hv : Vis X.env.scope x := by first | exact Or.inl rfl | exact Or.inr (Or.inl rfl) | exact Or.inr (Or.inr rfl)) (hd : (x == ("__debug__" : Str)) = false := by decide) (hcd : (x == ("__classdict__" : Str)) = false := by decide) : DK X (.Name x pos) Γ kvs := dk_own hN hv hg hd hcd
theorem vt (i : Nat) {kvs : List (List Key × PyData)} (hN : X.N[i]? = some x := by rfl) (hg : Γ[i]? = some (some (.b (.otd kvs))) := by rfl) (hv : Vis X.env.scope x := by first | exact Or.inl rfl | exact Or.inr (Or.inl rfl) | exact Or.inr (Or.inr rfl)) (hd : (x == ("__debug__" : Str)) = false := by decide) (hcd : (x == ("__classdict__" : Str)) = false := by decide) : DKT X (.Name x pos) Γ kvs := dt_own hN hv hg hd hcd
/-- the thing is moved out -/
theorem mv (i : Nat) {s : Sl} (hN : X.N[i]? = some x := by rfl) (hg : Γ[i]? = some (some s) := by rfl) (hv : Vis X.env.scope x := by first | exact Or.inl rfl | exact Or.inr (Or.inl rfl) | exact Or.inr (Or.inr rfl)) (hd : (x == ("__debug__" : Str)) = false := by decide) (hcd : (x == ("__classdict__" : Str)) = false := by decide) : DE X (.Name x pos) Γ (Γ.set i none) s := de_move hN hv hg hd hcd
end
theorem sz {n : Nat} (h : n ≤ 1000000) : n ≤ sizeLine := Nat.le_trans h (by rw [sizeLine_eq]; decide)
theorem szl {n : Nat} (h : n ≤ 1000000) : n < sizeLine := Nat.lt_of_le_of_lt h (by rw [sizeLine_eq]; decide)

/-! ### comprehensions over lists of values -/
def kbF : Option NameKind → Bool
  | some .free => true
  | some .cell => true
  | _ => false
def blkB (N : List Str) (sc scope : Scope) (own : List (Str × Nat)) : Bool :=
  decide (scope.kind = .function) && (scope.names.all (fun y => decide (scope.names.lookup y.1 = some y.2)) && (own.all (fun p => decide (N[p.2]? = some p.1)) &&
  (scope.names.all (fun y => !decide (y.2 = .free) || kbF (sc.names.lookup y.1)) && scope.names.all (fun y => !(decide (y.2 = .local) || decide (y.2 = .cell)) || (own.any (fun p => decide (p.1 = y.1)) || !decide (y.1 ∈ N))))))
theorem blk_of {N : List Str} {sc scope : Scope} {own : List (Str × Nat)} (h : blkB N sc scope own = true) : BlkOk N sc scope own := by
  unfold blkB at h
  rw [Bool.and_eq_true, Bool.and_eq_true, Bool.and_eq_true, Bool.and_eq_true] at h
  obtain ⟨h1, h2, h3, h4, h5⟩ := h
  rw [List.all_eq_true] at h2 h3 h4 h5
  refine ⟨of_decide_eq_true h1, fun y hy => of_decide_eq_true (h2 y hy), fun p hp => of_decide_eq_true (h3 p hp), fun y hy e => ?_, fun y hy e => ?_⟩
  · have := h4 y hy
    rw [decide_eq_true e] at this
    have k : kbF (sc.names.lookup y.1) = true := by simpa using this
    cases q : sc.names.lookup y.1 with
    | none => rw [q] at k; cases k
    | some z =>
      rw [q] at k
      cases z <;> first | exact .inl rfl | exact .inr rfl | cases k
  · have := h5 y hy
    have z : (decide (y.2 = .local) || decide (y.2 = .cell)) = true := by
      rcases e with e | e <;> rw [e] <;> rfl
    rw [z] at this
    have k : own.any (fun p => decide (p.1 = y.1)) = true ∨ y.1 ∉ N := by simpa using this
    rcases k with k | k
    · obtain ⟨p, hp, e⟩ := List.any_eq_true.mp k
      refine .inl (List.mem_map.mpr ⟨p, hp, of_decide_eq_true e⟩)
    · exact .inr k
section
variable {X : Cx} {Γ : Ctx} {pos p1 p2 p3 : Pos} {x y : Str} {elt iter : Expr} {ifs : List Expr} {scope : Scope} {α : Type} {xs : List α} {t : α → Bool}
/-- [elt for x in iter if ..] -/
theorem lcN (i : Nat) (enc : α → PyData) (t : α → Bool) (f : α → PyData) (it : DI X true (.Name x p1) iter Γ (xs.map enc)) (ts : ∀ a ∈ xs, Blk X scope fun Y => DTs Y ifs ((Γ.set i none).set i (some (dat (enc a)))) (t a)) (el : ∀ a ∈ xs, t a = true → Blk X scope fun Y => DP Y elt ((Γ.set i none).set i (some (dat (enc a)))) (f a)) (sz : xs.length < sizeLine)
    (nd : X.N.Nodup := by assumption) (blk : blkB X.N X.env.scope scope [(x, i)] = true := by rfl) (hN : X.N[i]? = some x := by rfl) (hx : Loc (relabel scope X.env) x := by first | exact Or.inl rfl | exact Or.inr rfl) (hf : (scope.names.lookup x == some .cell) = true ∨ (relabel scope X.env).names.lookup x = some .local := by first | exact .inl rfl | exact .inr rfl) (calm : X.calm = true := by rfl) (hs : ∀ x, foldedSetIterable iter X.env x = pure x := by intro _; rfl) :
    DP X (.ListComp elt [⟨.Name x p1, iter, ifs, 0⟩] scope pos) Γ (.list ((xs.filter t).map f)) :=
  lcG (l := lN i) nd it (blk_of blk) (fun a _ s H C cl fp => DG.name nd hN hx hf) ts el (fun a _ q hq => by rw [List.mem_singleton.mp hq]; exact List.mem_singleton.mpr rfl) sz calm hs
/-- [elt for x, y in iter if ..] -/
theorem lcP {tn : Nat} (i j : Nat) (e1 e2 : α → PyData) (t : α → Bool) (f : α → PyData) (it : DI X true (.Tuple [.Name x p1, .Name y p2] tn p3) iter Γ (xs.map fun a => .tuple [e1 a, e2 a])) (ts : ∀ a ∈ xs, Blk X scope fun Y => DTs Y ifs ((((Γ.set j none).set i none).set i (some (dat (e1 a)))).set j (some (dat (e2 a)))) (t a)) (el : ∀ a ∈ xs, t a = true → Blk X scope fun Y => DP Y elt ((((Γ.set j none).set i none).set i (some (dat (e1 a)))).set j (some (dat (e2 a)))) (f a)) (sz : xs.length < sizeLine)
    (nd : X.N.Nodup := by assumption) (blk : blkB X.N X.env.scope scope [(x, i), (y, j)] = true := by rfl) (hN : X.N[i]? = some x := by rfl) (hx : Loc (relabel scope X.env) x := by first | exact Or.inl rfl | exact Or.inr rfl) (hf : (scope.names.lookup x == some .cell) = true ∨ (relabel scope X.env).names.lookup x = some .local := by first | exact .inl rfl | exact .inr rfl) (hN2 : X.N[j]? = some y := by rfl) (hy : Loc (relabel scope X.env) y := by first | exact Or.inl rfl | exact Or.inr rfl) (hf2 : (scope.names.lookup y == some .cell) = true ∨ (relabel scope X.env).names.lookup y = some .local := by first | exact .inl rfl | exact .inr rfl) (calm : X.calm = true := by rfl) (hs : ∀ x, foldedSetIterable iter X.env x = pure x := by intro _; rfl) :
    DP X (.ListComp elt [⟨.Tuple [.Name x p1, .Name y p2] tn p3, iter, ifs, 0⟩] scope pos) Γ (.list ((xs.filter t).map f)) :=
  lcG (l := lP i j) (enc := fun a => .tuple [e1 a, e2 a]) nd it (blk_of blk) (fun a _ s H C cl fp => DG.pair calm nd hN hx hf hN2 hy hf2) ts el (fun a _ q hq => by
    rcases List.mem_cons.mp hq with e | hq
    · rw [e]; exact List.mem_cons_self
    · rw [List.mem_singleton.mp hq]; exact List.mem_cons_of_mem _ List.mem_cons_self) sz calm hs
/-- y = [elt for x in iter if ..] -/
theorem ws_setLcN {n : Nat} {p : Po} {rest : List Stmt} {p4 : Pos} (k i : Nat) (enc : α → PyData) (t : α → Bool) (f : α → PyData) (it : DI X true (.Name x p1) iter Γ (xs.map enc)) (ts : ∀ a ∈ xs, Blk X scope fun Y => DTs Y ifs ((Γ.set i none).set i (some (dat (enc a)))) (t a)) (el : ∀ a ∈ xs, t a = true → Blk X scope fun Y => DP Y elt ((Γ.set i none).set i (some (dat (enc a)))) (f a)) (sz : xs.length < sizeLine)
    (hr : WS X n rest (Γ.set k (some (dat (.list ((xs.filter t).map f))))) p) (nd : X.N.Nodup := by assumption) (hNk : X.N[k]? = some y := by rfl) (hyl : X.env.scope.names.lookup y = some .local := by rfl) (hsw : swapsWith (.ListComp elt [⟨.Name x p1, iter, ifs, 0⟩] scope pos) (some (.Name y p2)) p4.line X.env = pure true := by exact sw_true rfl rfl rfl rfl) (hnk : n ≤ k := by decide) (blk : blkB X.N X.env.scope scope [(x, i)] = true := by rfl) (hN : X.N[i]? = some x := by rfl) (hx : Loc (relabel scope X.env) x := by first | exact Or.inl rfl | exact Or.inr rfl) (hf : (scope.names.lookup x == some .cell) = true ∨ (relabel scope X.env).names.lookup x = some .local := by first | exact .inl rfl | exact .inr rfl) (calm : X.calm = true := by rfl) (hs : ∀ x, foldedSetIterable iter X.env x = pure x := by intro _; rfl) :
    WS X n (.Assign [.Name y p2] (.ListComp elt [⟨.Name x p1, iter, ifs, 0⟩] scope pos) p4 :: rest) Γ p :=
  ws_setLcG (l := lN i) (own := [(x, i)]) nd hNk hyl hsw hnk it (blk_of blk) (fun a _ s H C cl fp => DG.name nd hN hx hf) ts el (fun a _ q hq => by rw [List.mem_singleton.mp hq]; exact List.mem_singleton.mpr rfl) sz calm hs hr
/-- z = [elt for x, y in iter if ..] -/
theorem ws_setLcP {n : Nat} {p : Po} {rest : List Stmt} {p4 p5 : Pos} {z : Str} {tn : Nat} (k i j : Nat) (e1 e2 : α → PyData) (t : α → Bool) (f : α → PyData) (it : DI X true (.Tuple [.Name x p1, .Name y p2] tn p3) iter Γ (xs.map fun a => .tuple [e1 a, e2 a])) (ts : ∀ a ∈ xs, Blk X scope fun Y => DTs Y ifs ((((Γ.set j none).set i none).set i (some (dat (e1 a)))).set j (some (dat (e2 a)))) (t a)) (el : ∀ a ∈ xs, t a = true → Blk X scope fun Y => DP Y elt ((((Γ.set j none).set i none).set i (some (dat (e1 a)))).set j (some (dat (e2 a)))) (f a)) (sz : xs.length < sizeLine)
    (hr : WS X n rest (Γ.set k (some (dat (.list ((xs.filter t).map f))))) p) (nd : X.N.Nodup := by assumption) (hNk : X.N[k]? = some z := by rfl) (hyl : X.env.scope.names.lookup z = some .local := by rfl) (hsw : swapsWith (.ListComp elt [⟨.Tuple [.Name x p1, .Name y p2] tn p3, iter, ifs, 0⟩] scope pos) (some (.Name z p4)) p5.line X.env = pure true := by exact sw_true rfl rfl rfl rfl) (hnk : n ≤ k := by decide) (blk : blkB X.N X.env.scope scope [(x, i), (y, j)] = true := by rfl) (hN : X.N[i]? = some x := by rfl) (hx : Loc (relabel scope X.env) x := by first | exact Or.inl rfl | exact Or.inr rfl) (hf : (scope.names.lookup x == some .cell) = true ∨ (relabel scope X.env).names.lookup x = some .local := by first | exact .inl rfl | exact .inr rfl) (hN2 : X.N[j]? = some y := by rfl) (hy : Loc (relabel scope X.env) y := by first | exact Or.inl rfl | exact Or.inr rfl) (hf2 : (scope.names.lookup y == some .cell) = true ∨ (relabel scope X.env).names.lookup y = some .local := by first | exact .inl rfl | exact .inr rfl) (calm : X.calm = true := by rfl) (hs : ∀ x, foldedSetIterable iter X.env x = pure x := by intro _; rfl) :
    WS X n (.Assign [.Name z p4] (.ListComp elt [⟨.Tuple [.Name x p1, .Name y p2] tn p3, iter, ifs, 0⟩] scope pos) p5 :: rest) Γ p :=
  ws_setLcG (l := lP i j) (own := [(x, i), (y, j)]) (enc := fun a => .tuple [e1 a, e2 a]) nd hNk hyl hsw hnk it (blk_of blk) (fun a _ s H C cl fp => DG.pair calm nd hN hx hf hN2 hy hf2) ts el (fun a _ q hq => by
    rcases List.mem_cons.mp hq with e | hq
    · rw [e]; exact List.mem_cons_self
    · rw [List.mem_singleton.mp hq]; exact List.mem_cons_of_mem _ List.mem_cons_self) sz calm hs hr
/-- no condition -/
theorem flt_true (xs : List α) : xs.filter (fun _ => true) = xs := by simp
end
theorem u9 {k : Nat} {A : Around} (r : Room k A) : A.units + 9 < cLine := by have := r.un; omega
theorem u1 {k : Nat} {A : Around} (r : Room k A) : A.units + 1 < cLine := by have := r.un; omega
section
variable {X : Cx} {a b c : Expr} {Γ : Ctx} {d : PyData} {kvs : List (Key × PyData)} {k : Key} {apos cpos : Pos}
theorem dg1 (hu : X.A.units + 1 < cLine) (ha : DK X a Γ kvs) (hb : DP X b Γ (kD k)) (m : M1 X a "get" apos b cpos := by exact ⟨rfl, rfl, rfl, rfl⟩) : DP X (.Call (.Attribute a "get" apos) [b] [] cpos) Γ ((valD kvs k).getD .none) := dp_get1 hu ha hb m
theorem dg2 (hu : X.A.units + 1 < cLine) (ha : DK X a Γ kvs) (hb : DP X b Γ (kD k)) (hc : DP X c Γ d) (m : M2 X a "get" apos b c cpos := by exact ⟨rfl, rfl, rfl, rfl⟩) : DP X (.Call (.Attribute a "get" apos) [b, c] [] cpos) Γ ((valD kvs k).getD d) := dp_get2 hu ha hb hc m
end
theorem un2 {k : Nat} {A : Around} (r : Room k A) {a : Nat} (h : a ≤ 64) : A.units + a < cLine := by have := r.un; omega
theorem un3 {k : Nat} {A : Around} (r : Room k A) {a b : Nat} (h : a + b ≤ 64) : A.units + a + b < cLine := by have := r.un; omega
section
variable {X : Cx} {a b e : Expr} {Γ : Ctx} {ds ds' : List PyData} {d : PyData} {pos p1 : Pos} {x f : Str} {C : Addr} {fs : List (Str × Bs)}
/-- list + list, as a list of one's own -/
theorem de_catL (hz : ds.length + ds'.length ≤ sizeLine) (ha : DLs X a Γ ds) (hb : DLs X b Γ ds') : DE X (.BinOp a .Add b pos) Γ Γ (.b (.ol (ds ++ ds'))) :=
  de_of (pe_op op_catQ ha hb) fun σ H Hf fps ok Q q => tL_run ok fun p xs Hf1 H1 g1 h1 h2 => tL_run (ok.growG g1) fun p' xs' Hf2 H2 g2 h1' h2' => by
    refine ⟨p, p', xs, xs', rfl, rfl, Same.seq g2.all h1, h1', by rw [h2.len, h2'.len]; exact hz, fun l hl => ?_⟩
    obtain ⟨o, r, st⟩ := ((ok.growG g1).growG g2).hand (u := .lst (xs ++ xs')) (y := .ol (ds ++ ds')) hl ⟨l, _, rfl, rfl, upd_same, (DvAll.up g2.mono _ h2).app h2'⟩
    exact q _ _ _ _ _ o r ((g1.trans g2).step.trans st)
/-- self.f: data, a list -/
theorem vf (i : Nat) (cl : Cls X.K C) (na : NoAttr X.K C f) (hl : fs.lookup f = some (.dat d)) (hN : X.N[i]? = some x := by rfl) (hg : Γ[i]? = some (some (.o C fs)) := by rfl) (hv : Vis X.env.scope x := by first | exact Or.inl rfl | exact Or.inr (Or.inl rfl) | exact Or.inr (Or.inr rfl)) (hb : attributeBase (.Name x p1) f X.env (eval (.Name x p1) X.env) = eval (.Name x p1) X.env := by rfl) (hd : (x == ("__debug__" : Str)) = false := by decide) (hcd : (x == ("__classdict__" : Str)) = false := by decide) : DP X (.Attribute (.Name x p1) f pos) Γ d := dp_fld cl na hN hv hg hl hb hd hcd
theorem vfl (i : Nat) (cl : Cls X.K C) (na : NoAttr X.K C f) (hl : fs.lookup f = some (.ol ds)) (hN : X.N[i]? = some x := by rfl) (hg : Γ[i]? = some (some (.o C fs)) := by rfl) (hv : Vis X.env.scope x := by first | exact Or.inl rfl | exact Or.inr (Or.inl rfl) | exact Or.inr (Or.inr rfl)) (hb : attributeBase (.Name x p1) f X.env (eval (.Name x p1) X.env) = eval (.Name x p1) X.env := by rfl) (hd : (x == ("__debug__" : Str)) = false := by decide) (hcd : (x == ("__classdict__" : Str)) = false := by decide) : DLs X (.Attribute (.Name x p1) f pos) Γ ds := dl_fld cl na hN hv hg hl hb hd hcd
end
/-- -n -/
theorem dp_neg {X : Cx} {a : Expr} {Γ : Ctx} {n : Int} {pos : Pos} (ha : DP X a Γ (.int n)) : DP X (.UnaryOp .USub a pos) Γ (.int (-n)) :=
  dp_grow (pe_un un_neg ha) fun σ H Hf fps ok Q q => tD_run ok fun v Hf1 H1 g1 hv => by
    cases hv
    exact ⟨n, rfl, q _ Hf1 H1 g1 (.int _)⟩
/-- two lists -/
def rEqL (X : Cx) : R2 := fun x y H Q => ∃ a b xs ys ds es, x = .ref a ∧ y = .ref b ∧ SqL X.K H a xs ∧ SqL X.K H b ys ∧ DpAll X.K H xs ds ∧ DpAll X.K H ys es ∧ PyData.canLayAll0 ds = true ∧ PyData.canLayAll0 es = true ∧ X.A.units + 1 + min (PyData.depthAll ds) (PyData.depthAll es) < cLine ∧ Q (.bl (PyData.eqvAll ds es)) H
theorem op_eqL {X : Cx} : OpR X (compareOp .Eq) (rEqL X) := by
  intro pins s σ H x y v u Q I rx ry h
  obtain ⟨a, b, xs, ys, ds, es, rfl, rfl, h1, h2, h3, h4, c1, c2, hu, q⟩ := h
  obtain ⟨as, r1⟩ := Dp.reads I (.list ds) (.ref a) v (.lst h1 h3) rx
  obtain ⟨bs, r2⟩ := Dp.reads I (.list es) (.ref b) u (.lst h2 h4) ry
  refine SeqAt.compareEq_reads r1 r2 (by rw [PyData.canLay0]; exact c1) (by rw [PyData.canLay0]; exact c2) (by rw [PyData.depth, PyData.depth]; omega) ⟨.bl _, H, I, rfl, ?_⟩
  rw [PyData.eqv]
  exact q
theorem cm_eqL {X : Cx} {a b : Expr} {Γ : Ctx} {ds ds' : List PyData} (c1 : PyData.canLayAll0 ds = true) (c2 : PyData.canLayAll0 ds' = true) (hu : X.A.units + 1 + min (PyData.depthAll ds) (PyData.depthAll ds') < cLine) (ha : DLs X a Γ ds) (hb : DLs X b Γ ds') : CM X .Eq a b Γ (PyData.eqvAll ds ds') :=
  cm_grow (pc_op op_eqL ha hb) (nomark _) fun σ H Hf fps ok Q q => tL_run ok fun p xs Hf1 H1 g1 h1 h2 => tL_run (ok.growG g1) fun p' ys Hf2 H2 g2 h1' h2' =>
    ⟨p, p', xs, ys, ds, ds', rfl, rfl, Same.seq g2.all h1, h1', dpAll_up c1 ((ok.growG g1).growG g2).sub (DvAll.up g2.mono _ h2), dpAll_up c2 ((ok.growG g1).growG g2).sub h2', c1, c2, hu, q _ Hf2 H2 (g1.trans g2) (.bl _)⟩
/-- if of an expression that does something -/
theorem ws_ifE {X : Cx} {n : Nat} {c : Expr} {A rest : List Stmt} {Γ Γ1 : Ctx} {p : Po} {pos : Pos} {t : Bool} (hc : DE X c Γ Γ1 (dat (.bool t))) (ha : t = true → WS X n A Γ1 { p with nx := fun Γ' => WS X n rest Γ' p }) (hb : t = false → WS X n rest Γ1 p) (he : ∀ whole, isTrue c X.env whole = (do let v ← whole; standAt c.pos; holding [v] (truthy v)) := by intro _; rfl) : WS X n (.If c A [] pos :: rest) Γ p := by
  refine ws_c ?_
  cases t with
  | true =>
    refine w1_of (ps_if (pt_val hc he) (ha rfl) pss_never) fun D σ H Hf fps ok g => ⟨Hf, fps, ok, fun v Hf1 H1 fps1 f o1 r1 s1 => ?_⟩
    obtain ⟨rfl, hv⟩ := r1.dv
    cases hv
    refine ⟨true, rfl, ?_⟩
    show (if true = true then _ else _)
    rw [if_pos rfl]
    exact ⟨Hf1, fps1, o1, g.step (Rch.of (s1.imp fun _ h => .inl h))⟩
  | false =>
    refine w1_of (ps_if (pt_val hc he) pss_never (ws_nil (n := n) (Γ := Γ1) (p := { p with nx := fun Γ' => WS X n rest Γ' p }) (hb rfl))) fun D σ H Hf fps ok g => ⟨Hf, fps, ok, fun v Hf1 H1 fps1 f o1 r1 s1 => ?_⟩
    obtain ⟨rfl, hv⟩ := r1.dv
    cases hv
    refine ⟨false, rfl, ?_⟩
    show (if false = true then _ else _)
    rw [if_neg Bool.false_ne_true]
    exact ⟨Hf1, fps1, o1, g.step (Rch.of (s1.imp fun _ h => .inl h))⟩
theorem di_to {X : Cx} {o : Bool} {tg e : Expr} {Γ : Ctx} {ds ds' : List PyData} (h : DI X o tg e Γ ds) (q : ds = ds') : DI X o tg e Γ ds' := q ▸ h
end DL


set_option Elab.async false
set_option linter.all false
set_option maxRecDepth 100000
set_option maxHeartbeats 4000000
/-! W1: grammars looked at. -/
namespace DL
open PySem PySem.Spec PyProof.Rows L2

abbrev Rl := Str × List Str
abbrev Gr := List Rl
def encS (l : List Str) : List PyData := l.map .str
def encR (r : Rl) : PyData := .tuple [.str r.1, .tuple (encS r.2)]
def encG (g : Gr) : PyData := .list (g.map encR)
def isLetter (p : Str) : Bool := decide ((p.length : Int) = 1) && inStr p sLET
def isName1 (p : Str) : Bool := decide (p.length = 1) && inStr p sCAP
/-- names of one capital -/
structure Nm (p : Str) : Prop where
  len : p.length = 1
  ok : PyData.strOk p = true
  cap : inStr p sCAP = true
  nl : isLetter p = false
structure Lt (p : Str) : Prop where
  len : p.length = 1
  ok : PyData.strOk p = true
  lt : isLetter p = true
/-- what the law's grammars are -/
structure GG (g : Gr) : Prop where
  n1 : 1 ≤ g.length
  n2 : g.length ≤ 40
  nm : ∀ r ∈ g, Nm r.1
  pl : ∀ r ∈ g, r.2.length ≤ 6
  pt : ∀ r ∈ g, ∀ p ∈ r.2, Lt p ∨ Nm p
  nd : g.Nodup
  cl : ∀ r ∈ g, ∀ p ∈ r.2, Nm p → p ∈ g.map Prod.fst
theorem GG.len1 {g : Gr} (G : GG g) {r : Rl} (hr : r ∈ g) {p : Str} (hp : p ∈ r.2) : p.length = 1 := (G.pt r hr p hp).elim (·.len) (·.len)

theorem sgn_one {p : Str} (h : p.length = 1) : ∃ ch, p = ⟨#[ch]⟩ ∧ p.cps.toList = [ch] := by
  obtain ⟨⟨l⟩⟩ := p
  cases l with
  | nil => exact absurd (show (0 : Nat) = 1 from h) (by decide)
  | cons c r =>
    cases r with
    | nil => exact ⟨c, rfl, rfl⟩
    | cons _ _ =>
      have h : _ + 1 + 1 = 1 := h
      omega
section
variable {P : Program} {w : World} {K : PySem.W.Frag} {mg : Str → Option Value} {base : Heap}
/-! is_letter -/
def R_is_letter (ds : List PyData) (d : PyData) : Prop := ∃ p : Str, p.length ≤ 4000 ∧ ds = [.str p] ∧ d = .bool (isLetter p)
theorem sc_is_letter : FnScope ["part"] ["part"] (defScope KHead.s_is_letter) := ⟨rfl, rfl, rfl, by decide +kernel, rfl, by decide +kernel, by decide +kernel⟩
theorem ok_is_letter (T : Txt K mg) : DFn P w K mg base 1 "is_letter" ["part"] (spD K R_is_letter) := by
  refine T.fn 0 rfl rfl (fun _ _ _ _ _ _ us hl => match us, hl with | [_], _ => rfl) fun f fd F => fn_D F sc_is_letter (fun ds d ⟨_, _, h, _⟩ => by rw [h]; rfl) fun cdv A outer s H E ds d hr ⟨p, hp, e1, e2⟩ => ?_
  subst e1 e2
  refine ws_ret (de_pure (dp_to (dv_and (dcm (cm_eqS rfl (dp_lenS (y := p) (sz (by omega)) rfl (T.b_len) (v 0)) dp_int)) fun _ => dv_one (dcm (cm_inStr (v 0) (dp_gstr rfl (T.LETTERS))))) ?_)) rfl
  rfl
/-! is_name -/
def R_is_name (ds : List PyData) (d : PyData) : Prop := ∃ p : Str, Nm p ∧ ds = [.str p] ∧ d = .bool true
theorem sc_is_name : FnScope ["part", "sign"] ["part"] (defScope KHead.s_is_name) := ⟨rfl, rfl, rfl, by decide +kernel, rfl, by decide +kernel, by decide +kernel⟩
theorem ok_is_name (T : Txt K mg) : DFn P w K mg base 1 "is_name" ["part"] (spD K R_is_name) := by
  refine T.fn 1 rfl rfl (fun _ _ _ _ _ _ us hl => match us, hl with | [_], _ => rfl) fun f fd F => fn_D F sc_is_name (fun ds d ⟨_, _, h, _⟩ => by rw [h]; rfl) fun cdv A outer s H E ds d hr ⟨p, hp, e1, e2⟩ => ?_
  subst e1 e2
  have nd := sc_is_name.nd
  obtain ⟨ch, e, e'⟩ := sgn_one hp.len
  have hz : p.length ≤ sizeLine := by rw [hp.len, sizeLine_eq]; decide
  refine ws_if1 (t := false) (dt_to (PW.pt (dw_or (dt_not (dt_chainI op_le op_le dp_int (dp_lenS hz rfl (T.b_len) (v 0)) (dp_gint rfl (T.MOST_NAME)) rfl)) fun _ => dw_or1 (tcm (cm_notInStr (dp_ixS hz (ch := ch) (by rw [e']; rfl) (v 0) dp_int) (dp_gstr rfl (T.CAPITALS)))))) ?_) (fun h => by cases h) fun _ => ?_
  · rw [hp.len, ← e, show inStr p _ = true from hp.cap]
    rfl
  · refine ws_ret (de_pure (dp_to (dp_all (bs := p.cps.toList.map fun c => true) rfl rfl (T.b_all) (dl_dat (dp_to (lcN 1 (fun c : Nat => .str ⟨#[c]⟩) (fun _ => true) (fun _ => .bool true) (xs := p.cps.toList) (di_weak (di_str (v 0))) (fun a ha s H C cl fp => dts_nil) (fun a ha _ s H C cl fp => ?_) (szl ?_)) ?_))) ?_)) rfl
    · have ea : (⟨#[a]⟩ : Str) = p := by
        rw [e'] at ha
        rw [e, List.mem_singleton.mp ha]
      rw [ea]
      refine dp_to (dv_or (u := false) (dcm (cm_inStr (v 1) (dp_gstr rfl (T.CAPITALS)))) fun h => ?_) ?_
      · rw [hp.cap] at h; cases h
      · rw [hp.cap]; rfl
    · rw [e']; exact Nat.le_of_ble_eq_true rfl
    · rw [flt_true, List.map_map]; rfl
    · rw [e']; rfl
/-! is_rule -/
def R_is_rule (ds : List PyData) (d : PyData) : Prop := ∃ r : Rl, Nm r.1 ∧ r.2.length ≤ 6 ∧ (∀ p ∈ r.2, Lt p ∨ Nm p) ∧ ds = [encR r] ∧ d = .bool true
theorem sc_is_rule : FnScope ["rule", "name", "parts", "part"] ["rule"] (defScope KHead.s_is_rule) := ⟨rfl, rfl, rfl, by decide +kernel, rfl, by decide +kernel, by decide +kernel⟩
theorem ok_is_rule (T : Txt K mg) : DFn P w K mg base 2 "is_rule" ["rule"] (spD K R_is_rule) := by
  refine T.fn 2 rfl rfl (fun _ _ _ _ _ _ us hl => match us, hl with | [_], _ => rfl) fun f fd F => fn_D F sc_is_rule (fun ds d ⟨_, _, _, _, h, _⟩ => by rw [h]; rfl) fun cdv A outer s H E ds d hr ⟨r, h1, h2, h3, e1, e2⟩ => ?_
  subst e1 e2
  have nd := sc_is_rule.nd
  refine ws_pair (d1 := .str r.1) (d2 := .tuple (encS r.2)) 1 2 (v 0) ?_
  refine ws_if1 (t := false) (dt_to (PW.pt (dw_or (dt_not (dt_val (dp_call (ok_is_name T) hr ⟨r.1, h1, rfl, rfl⟩ (da_cons (v 1) da_nil)))) fun _ => dw_or1 (tcm (cm_gt (dp_lenT rfl T.b_len (v 2)) (dp_gint rfl T.MOST_PARTS))))) ?_) (fun h => by cases h) fun _ => ?_
  · simp [encS]; omega
  · refine ws_ret (de_pure (dp_to (dp_all (bs := r.2.map fun c => true) rfl rfl T.b_all (dl_dat (dp_to (lcN 3 (fun c : Str => .str c) (fun _ => true) (fun _ => .bool true) (xs := r.2) (di_weak (di_tup (v 2))) (fun a ha s H C cl fp => dts_nil) (fun a ha _ s H C cl fp => ?_) (szl (by omega))) ?_))) ?_)) rfl
    · have hl : a.length ≤ 4000 := by rcases h3 a ha with q | q <;> rw [q.len] <;> decide
      refine dp_to (dv_or (u := true) (dp_call (ok_is_letter T) hr ⟨a, hl, rfl, rfl⟩ (da_cons (v 3) da_nil)) fun h => ?_) (by rw [Bool.or_true])
      rcases h3 a ha with q | q
      · rw [q.lt] at h; cases h
      · exact dv_one (dp_call (ok_is_name T) hr ⟨a, q, rfl, rfl⟩ (da_cons (v 3) da_nil))
    · rw [flt_true, List.map_map]; rfl
    · simp
/-! is_grammar -/
def R_is_grammar (ds : List PyData) (d : PyData) : Prop := ∃ g : Gr, GG g ∧ ds = [encG g] ∧ d = .bool true
def keyR (r : Rl) : NestedKey := .tup [.text r.1, .tup (r.2.map .text)]
theorem nkDs_text : ∀ l : List Str, nkDs (l.map NestedKey.text) = encS l
  | [] => rfl
  | x :: l => by
    show nkD (.text x) :: nkDs (l.map NestedKey.text) = _
    rw [nkDs_text l]
    rfl
theorem keyR_D (r : Rl) : nkD (keyR r) = encR r := by
  show PyData.tuple [.str r.1, .tuple (nkDs (r.2.map .text))] = _
  rw [nkDs_text]
  rfl
theorem text_inj : ∀ {l m : List Str}, l.map NestedKey.text = m.map NestedKey.text → l = m
  | [], [], _ => rfl
  | [], _ :: _, h => by simp at h
  | _ :: _, [], h => by simp at h
  | x :: l, y :: m, h => by
    simp only [List.map_cons, List.cons.injEq, NestedKey.text.injEq] at h
    rw [h.1, text_inj h.2]
theorem keyR_inj {r q : Rl} (h : keyR r = keyR q) : r = q := by
  unfold keyR at h
  simp only [NestedKey.tup.injEq, List.cons.injEq, NestedKey.text.injEq, and_true] at h
  obtain ⟨h1, h2⟩ := h
  exact Prod.ext h1 (text_inj h2)
theorem depth_text : ∀ l : List Str, NestedKey.depthAll (l.map NestedKey.text) = 0
  | [] => rfl
  | x :: l => by
    show max 0 (NestedKey.depthAll (l.map NestedKey.text)) = 0
    rw [depth_text l]; rfl
theorem val_keys {α κ : Type} [DecidableEq κ] {f : α → κ} (hf : ∀ a b, f a = f b → a = b) {v : V} {k : α} : ∀ l : List α, k ∉ l → valV (l.map fun a => (f a, v)) (f k) = none
  | [], _ => rfl
  | a :: l, h => by
    have e : ¬ f a = f k := fun z => h (by rw [hf _ _ z]; exact List.mem_cons_self)
    rw [List.map_cons, valV_neg (p := (f a, v)) e]
    exact val_keys hf l fun z => h (List.mem_cons_of_mem _ z)
theorem sc_is_grammar : FnScope ["grammar", "known", "rule", "ruled", "part"] ["grammar"] (defScope KHead.s_is_grammar) := ⟨rfl, rfl, rfl, by decide +kernel, rfl, by decide +kernel, by decide +kernel⟩
theorem ok_is_grammar (T : Txt K mg) : DFn P w K mg base 3 "is_grammar" ["grammar"] (spD K R_is_grammar) := by
  refine T.fn 3 rfl rfl (fun _ _ _ _ _ _ us hl => match us, hl with | [_], _ => rfl) fun f fd F => fn_D F sc_is_grammar (fun ds d ⟨_, _, h, _⟩ => by rw [h]; rfl) fun cdv A outer s H E ds d hr ⟨g, G, e1, e2⟩ => ?_
  subst e1 e2
  have nd := sc_is_grammar.nd
  have hu := hr.units
  refine ws_if1 (t := false) (dt_to (dt_not (dt_chainI op_le op_le dp_int (dp_lenL rfl T.b_len (vd 0)) (dp_gint rfl T.MOST_RULES) rfl)) ?_) (fun h => by cases h) fun _ => ?_
  · have h1 := G.n1
    have h2 := G.n2
    have e1 : decide ((1 : Int) ≤ ((g.map encR).length : Int)) = true := decide_eq_true (by rw [List.length_map]; omega)
    have e2 : decide (((g.map encR).length : Int) ≤ 40) = true := decide_eq_true (by rw [List.length_map]; omega)
    rw [e1, e2]; rfl
  refine ws_set 1 de_dictN ?_
  refine ws_forN (S := List Rl) (xs := g) 2 encR (fun l acc => acc ++ l = g) (fun acc => [some (dat (encG g)), some (.b (.ond (acc.map fun r => (keyR r, V.bl true)))), none, none, none]) [] (di_dat (v 0)) rfl (by exact Sub.refl _) ?_ ?_
  · intro r l acc hr' hj
    have hlen : acc.length ≤ 40 := by have := congrArg List.length hj; rw [List.length_append] at this; have := G.n2; omega
    have hn : r ∉ acc := fun z => by
      have := G.nd
      rw [← hj] at this
      exact (List.nodup_append.mp this).2.2 r z r List.mem_cons_self rfl
    have ev : valV (acc.map fun r => (keyR r, V.bl true)) (keyR r) = none := val_keys (fun _ _ => keyR_inj) acc hn
    have hd : (keyR r).depth ≤ 8 := by
      show max 0 (max (NestedKey.depthAll (r.2.map .text) + 1) 0) + 1 ≤ 8
      rw [depth_text]; decide
    refine ws_if1 (t := false) (dt_to (PW.pt (dw_or (dt_not (dt_val (dp_call (ok_is_rule T) hr ⟨r, G.nm r hr', G.pl r hr', G.pt r hr', rfl, rfl⟩ (da_cons (v 2) da_nil)))) fun _ => dw_or1 (tcm (cm_inN (k := keyR r) (u9 hr) hd ⟨_, rfl⟩ (by rw [keyR_D]; exact v 2) (vn 1))))) ?_) (fun h => by cases h) fun _ => ?_
    · rw [ev]; rfl
    refine ws_dputN 1 (kvs := acc.map fun r => (keyR r, V.bl true)) (k := keyR r) (v0 := .bl true) (u9 hr) hd ⟨_, rfl⟩ (dp_bl (y := true)) (fun Hf v hv => by cases hv; rfl) (by rw [keyR_D]; exact v 2) (szl (by rw [List.length_map]; omega)) ?_
    refine ws_nil ⟨acc ++ [r], by rw [List.append_assoc]; exact hj, ?_⟩
    rw [putK_new _ ev, List.map_append]
    exact .same (.same (.drop (.same (.same .nil))))
  · intro acc hj
    refine ws_set 3 (de_pure (dp_to (lcN 2 encR (fun _ => true) (fun r : Rl => .str r.1) (xs := g) (di_weak (di_dat (v 0))) (fun a ha s H C cl fp => dts_nil) (fun a ha _ s H C cl fp => dp_ixT rfl (v 2) dp_int) (szl (by have := G.n2; omega))) (da := .list (encS (g.map Prod.fst))) ?_)) ?_
    · rw [flt_true]
      simp [encS]
    · refine ws_forN (S := Unit) (xs := g) 2 encR (fun l acc => True) (fun _ => [some (dat (encG g)), none, none, some (dat (.list (encS (g.map Prod.fst)))), none]) () (di_dat (v 0)) trivial (.same (.drop (.same (.same (.same .nil))))) ?_ ?_
      · intro r l _ hr' _
        refine ws_if1 (t := false) (dt_to (dt_not (dt_val (dp_all (bs := r.2.map fun c => true) rfl rfl T.b_all (dl_dat (dp_to (lcN 4 (fun c : Str => .str c) (fun _ => true) (fun _ => .bool true) (xs := r.2) (di_weak (di_tup (dp_ixT rfl (v 2) dp_int))) (fun a ha s H C cl fp => dts_nil) (fun a ha _ s H C cl fp => ?_) (szl (by have := G.pl r hr'; omega))) ?_))))) ?_) (fun h => by cases h) fun _ => ws_nil ⟨(), trivial, .same (.same (.drop (.same (.same .nil))))⟩
        · have hl : a.length ≤ 4000 := by rw [G.len1 hr' ha]; decide
          refine dp_to (dv_or (u := true) (dp_call (ok_is_letter T) (hr.mono (by decide)) ⟨a, hl, rfl, rfl⟩ (da_cons (v 4) da_nil)) fun h => dv_one ?_) (by rw [Bool.or_true])
          have hm : a ∈ g.map Prod.fst := by
            rcases G.pt r hr' a ha with q | q
            · rw [q.lt] at h; cases h
            · exact G.cl r hr' a ha q
          refine dp_to (dcm (cm_inS (v 4) (vd 3))) ?_
          rw [decide_eq_true hm]
        · rw [flt_true, List.map_map]; rfl
        · simp
      · intro _ _
        exact ws_ret (de_pure dp_bl) rfl
/-! must_be_grammar -/
def R_must_be_grammar (ds : List PyData) (d : PyData) : Prop := ∃ g : Gr, GG g ∧ ds = [encG g] ∧ d = .none
theorem sc_must_be_grammar : FnScope ["grammar"] ["grammar"] (defScope KHead.s_must_be_grammar) := ⟨rfl, rfl, rfl, by decide +kernel, rfl, by decide +kernel, by decide +kernel⟩
theorem ok_must_be_grammar (T : Txt K mg) : DFn P w K mg base 4 "must_be_grammar" ["grammar"] (spD K R_must_be_grammar) := by
  refine T.fn 4 rfl rfl (fun _ _ _ _ _ _ us hl => match us, hl with | [_], _ => rfl) fun f fd F => fn_D F sc_must_be_grammar (fun ds d ⟨_, _, h, _⟩ => by rw [h]; rfl) fun cdv A outer s H E ds d hr ⟨g, G, e1, e2⟩ => ?_
  subst e1 e2
  exact ws_if1 (t := false) (dt_not (dt_val (dp_call (ok_is_grammar T) hr ⟨g, G, rfl, rfl⟩ (da_cons (v 0) da_nil)))) (fun h => by cases h) fun _ => ws_nil rfl
/-! is_text, must_be_text -/
structure TxtOk (y : Str) : Prop where
  len : y.length ≤ 30
  sg : ∀ c ∈ y.cps.toList, inStr ⟨#[c]⟩ sLET = true
def R_is_text (ds : List PyData) (d : PyData) : Prop := ∃ y : Str, TxtOk y ∧ ds = [.str y] ∧ d = .bool true
theorem sc_is_text : FnScope ["text", "sign"] ["text"] (defScope KHead.s_is_text) := ⟨rfl, rfl, rfl, by decide +kernel, rfl, by decide +kernel, by decide +kernel⟩
theorem ok_is_text (T : Txt K mg) : DFn P w K mg base 1 "is_text" ["text"] (spD K R_is_text) := by
  refine T.fn 5 rfl rfl (fun _ _ _ _ _ _ us hl => match us, hl with | [_], _ => rfl) fun f fd F => fn_D F sc_is_text (fun ds d ⟨_, _, h, _⟩ => by rw [h]; rfl) fun cdv A outer s H E ds d hr ⟨y, Y, e1, e2⟩ => ?_
  subst e1 e2
  have nd := sc_is_text.nd
  have hl := Y.len
  have el : y.cps.toList.length = y.length := by simp [Str.length]
  refine ws_ret (de_pure (dp_to (dv_and (u := true) (dcm (cm_le (dp_lenS (y := y) (sz (by omega)) rfl T.b_len (v 0)) (dp_gint rfl T.MOST_TEXT))) fun _ => dv_one (dp_to (dp_all (bs := y.cps.toList.map fun c => true) rfl rfl T.b_all (dl_dat (dp_to (lcN 1 (fun c : Nat => .str ⟨#[c]⟩) (fun _ => true) (fun _ => .bool true) (xs := y.cps.toList) (di_weak (di_str (v 0))) (fun a ha s H C cl fp => dts_nil) (fun a ha _ s H C cl fp => dp_to (dcm (cm_inStr (v 1) (dp_gstr rfl T.LETTERS))) ?_) (szl (by omega))) ?_))) ?_)) ?_)) rfl
  · rw [Y.sg a ha]
  · rw [flt_true, List.map_map]; rfl
  · simp
  · rw [decide_eq_true (by omega)]; rfl
def R_must_be_text (ds : List PyData) (d : PyData) : Prop := ∃ y : Str, TxtOk y ∧ ds = [.str y] ∧ d = .none
theorem sc_must_be_text : FnScope ["text"] ["text"] (defScope KHead.s_must_be_text) := ⟨rfl, rfl, rfl, by decide +kernel, rfl, by decide +kernel, by decide +kernel⟩
theorem ok_must_be_text (T : Txt K mg) : DFn P w K mg base 2 "must_be_text" ["text"] (spD K R_must_be_text) := by
  refine T.fn 6 rfl rfl (fun _ _ _ _ _ _ us hl => match us, hl with | [_], _ => rfl) fun f fd F => fn_D F sc_must_be_text (fun ds d ⟨_, _, h, _⟩ => by rw [h]; rfl) fun cdv A outer s H E ds d hr ⟨y, Y, e1, e2⟩ => ?_
  subst e1 e2
  exact ws_if1 (t := false) (dt_not (dt_val (dp_call (ok_is_text T) hr ⟨y, Y, rfl, rfl⟩ (da_cons (v 0) da_nil)))) (fun h => by cases h) fun _ => ws_nil rfl
/-! names_by -/
def namesStep (acc : List Str) (r : Rl) : List Str := if r.1 ∈ acc then acc else acc ++ [r.1]
def namesBy (g : Gr) : List Str := g.foldl namesStep []
def R_names_by (ds : List PyData) (d : PyData) : Prop := ∃ g : Gr, g.length < 1000 ∧ ds = [encG g] ∧ d = .list (encS (namesBy g))
theorem sc_names_by : FnScope ["grammar", "found", "name", "parts"] ["grammar"] (defScope KHead.s_names_by) := ⟨rfl, rfl, rfl, by decide +kernel, rfl, by decide +kernel, by decide +kernel⟩
theorem ok_names_by (T : Txt K mg) : DFn P w K mg base 1 "names_by" ["grammar"] (spD K R_names_by) := by
  refine T.fn 7 rfl rfl (fun _ _ _ _ _ _ us hl => match us, hl with | [_], _ => rfl) fun f fd F => fn_D F sc_names_by (fun ds d ⟨g, _, h, _⟩ => by rw [h]; rfl) fun cdv A outer s H E ds d hr ⟨g, hg, e1, e2⟩ => ?_
  subst e1 e2
  have nd := sc_names_by.nd
  refine ws_set 1 (de_lst da_nil (Nat.zero_le _)) ?_
  refine ws_forP (S := List Str) (xs := g) 2 3 (fun r => .str r.1) (fun r => .tuple (encS r.2)) (fun l acc => l.foldl namesStep acc = namesBy g ∧ acc.length + l.length ≤ g.length) (fun acc => [some (dat (encG g)), some (.b (.ol (encS acc))), none, none]) [] (di_dat (v 0)) ⟨rfl, Nat.le_of_eq (Nat.zero_add _)⟩ (by exact Sub.refl _) ?_ ?_
  · intro r l acc hr ⟨h1, h2⟩
    refine ws_if1 (tcm (cm_notInS (v 2) (vl 1))) (fun h => ?_) (fun h => ?_)
    · have hn : r.1 ∉ acc := by simpa using h
      refine ws_exp (de_append 1 rfl (de_pure (v 2)) rfl ?_) (ws_nil (ws_nil ?_))
      · exact szl (by simp [encS] at h2 ⊢; omega)
      · refine ⟨acc ++ [r.1], ⟨?_, ?_⟩, ?_⟩
        · rw [← h1, List.foldl_cons]
          simp [namesStep, hn]
        · simp at h2 ⊢; omega
        · simp only [encS, List.map_append]
          exact .same (.same (.drop (.drop .nil)))
    · have hn : r.1 ∈ acc := by simpa using h
      refine ws_nil ⟨acc, ⟨?_, ?_⟩, ?_⟩
      · rw [← h1, List.foldl_cons]
        simp [namesStep, hn]
      · simp at h2; omega
      · exact .same (.same (.drop (.drop .nil)))
  · intro acc ⟨h, _⟩
    have h : acc = namesBy g := h
    refine ws_ret (de_frzL (mv 1)) ?_
    rw [h]
end
end DL


set_option Elab.async false
set_option linter.all false
set_option maxRecDepth 100000
set_option maxHeartbeats 4000000
/-! W2: what can be told of names. -/
namespace DL
open PySem PySem.Spec PyProof.Rows L2

/-! ### growing sets of names -/
def stepK (cond : List Str → Rl → Bool) (a : List Str × Bool) (r : Rl) : List Str × Bool := if r.1 ∉ a.1 ∧ cond a.1 r = true then (a.1 ++ [r.1], true) else a
def passK (cond : List Str → Rl → Bool) (g : Gr) (k : List Str) : List Str × Bool := g.foldl (stepK cond) (k, false)
def fixK (cond : List Str → Rl → Bool) (g : Gr) : Nat → List Str → Option (List Str)
  | 0, _ => none
  | n + 1, k => if (passK cond g k).2 = true then fixK cond g n (passK cond g k).1 else some (passK cond g k).1
def fixd (cond : List Str → Rl → Bool) (g : Gr) : List Str := (fixK cond g (g.length + 1) []).getD []
structure Grown (g : Gr) (k : List Str) : Prop where
  nd : k.Nodup
  sub : ∀ x ∈ k, x ∈ g.map Prod.fst
theorem nodup_le {α : Type} [DecidableEq α] : ∀ {l m : List α}, l.Nodup → (∀ x ∈ l, x ∈ m) → l.length ≤ m.length
  | [], _, _, _ => Nat.zero_le _
  | a :: l, m, nd, h => by
    obtain ⟨h1, h2⟩ := List.nodup_cons.mp nd
    have ha : a ∈ m := h a List.mem_cons_self
    have := nodup_le (l := l) (m := m.erase a) h2 fun x hx => (List.mem_erase_of_ne (fun z => h1 (by rw [← z]; exact hx))).mpr (h x (List.mem_cons_of_mem _ hx))
    rw [List.length_erase_of_mem ha] at this
    have : 0 < m.length := List.length_pos_of_mem ha
    show l.length + 1 ≤ _
    omega
theorem Grown.len {g : Gr} {k : List Str} (h : Grown g k) : k.length ≤ g.length := by
  have := nodup_le h.nd h.sub
  rwa [List.length_map] at this
section
variable {cond : List Str → Rl → Bool} {g : Gr}
theorem Grown.step {k : List Str} {b : Bool} {r : Rl} (h : Grown g k) (hr : r ∈ g) : Grown g (stepK cond (k, b) r).1 := by
  unfold stepK
  split
  · rename_i c
    refine ⟨List.nodup_append.mpr ⟨h.nd, by simp, fun x hx y hy e => c.1 (by rw [← List.mem_singleton.mp hy, ← e]; exact hx)⟩, fun x hx => ?_⟩
    rcases List.mem_append.mp hx with z | z
    · exact h.sub x z
    · rw [List.mem_singleton.mp z]
      exact List.mem_map.mpr ⟨r, hr, rfl⟩
  · exact h
theorem pass_grown : ∀ (l : List Rl), (∀ r ∈ l, r ∈ g) → ∀ (a : List Str × Bool), Grown g a.1 → Grown g (l.foldl (stepK cond) a).1
  | [], _, a, h => h
  | r :: l, hl, a, h => pass_grown l (fun q hq => hl q (List.mem_cons_of_mem _ hq)) (stepK cond a r) (h.step (hl r List.mem_cons_self))
theorem pass_len : ∀ (l : List Rl) (a : List Str × Bool), a.1.length ≤ (l.foldl (stepK cond) a).1.length ∧ ((l.foldl (stepK cond) a).2 = true → a.2 = true ∨ a.1.length < (l.foldl (stepK cond) a).1.length)
  | [], a => ⟨Nat.le_refl _, fun h => .inl h⟩
  | r :: l, a => by
    obtain ⟨h1, h2⟩ := pass_len l (stepK cond a r)
    have h0 : a.1.length ≤ (stepK cond a r).1.length := by
      unfold stepK
      split
      · simp
      · exact Nat.le_refl _
    refine ⟨Nat.le_trans h0 h1, fun h => ?_⟩
    rcases h2 h with z | z
    · by_cases c : r.1 ∉ a.1 ∧ cond a.1 r = true
      · refine .inr ?_
        have e : stepK cond a r = (a.1 ++ [r.1], true) := if_pos c
        rw [e] at h1
        rw [List.foldl_cons, e]
        rw [List.length_append, List.length_singleton] at h1
        exact h1
      · have e : stepK cond a r = a := if_neg c
        rw [e] at z
        exact .inl z
    · refine .inr ?_
      rw [List.foldl_cons]
      omega
theorem fix_some : ∀ (n : Nat) (k : List Str), Grown g k → g.length < n + k.length → ∃ K, fixK cond g n k = some K ∧ Grown g K
  | 0, k, h, hn => by have := h.len; omega
  | n + 1, k, h, hn => by
    have hp := pass_grown (cond := cond) g (fun _ z => z) (k, false) h
    unfold fixK
    split
    · rename_i c
      refine fix_some n _ hp ?_
      rcases (pass_len (cond := cond) g (k, false)).2 c with z | z
      · cases z
      · have z : k.length < (passK cond g k).1.length := z
        omega
    · exact ⟨_, rfl, hp⟩
theorem fixd_eq : fixK cond g (g.length + 1) [] = some (fixd cond g) ∧ Grown g (fixd cond g) := by
  obtain ⟨K, h1, h2⟩ := fix_some (cond := cond) (g := g) (g.length + 1) [] ⟨List.nodup_nil, fun _ h => (List.not_mem_nil h).elim⟩ (by simp)
  unfold fixd
  rw [h1]
  exact ⟨rfl, h2⟩
end
theorem names_sub : ∀ (l : List Rl) (acc : List Str) (x : Str), x ∈ l.foldl namesStep acc → x ∈ acc ∨ x ∈ l.map Prod.fst
  | [], _, _, h => .inl h
  | r :: l, acc, x, h => by
    rcases names_sub l (namesStep acc r) x h with z | z
    · unfold namesStep at z
      split at z
      · exact .inl z
      · rcases List.mem_append.mp z with z | z
        · exact .inl z
        · exact .inr (by rw [List.mem_singleton.mp z]; exact List.mem_cons_self)
    · exact .inr (List.mem_cons_of_mem _ z)
theorem names_nodup : ∀ (l : List Rl) (acc : List Str), acc.Nodup → (l.foldl namesStep acc).Nodup
  | [], _, h => h
  | r :: l, acc, h => by
    refine names_nodup l _ ?_
    unfold namesStep
    split
    · exact h
    · rename_i c
      exact List.nodup_append.mpr ⟨h, by simp, fun x hx y hy e => c (by rw [← List.mem_singleton.mp hy, ← e]; exact hx)⟩
theorem names_has : ∀ (l : List Rl) (acc : List Str) (x : Str), (x ∈ acc ∨ x ∈ l.map Prod.fst) → x ∈ l.foldl namesStep acc
  | [], _, _, h => h.elim id fun z => (List.not_mem_nil z).elim
  | r :: l, acc, x, h => by
    refine names_has l _ x ?_
    unfold namesStep
    rcases h with h | h
    · split
      · exact .inl h
      · exact .inl (List.mem_append_left _ h)
    · rcases List.mem_cons.mp h with e | h
      · left
        split
        · rename_i c; rw [e]; exact c
        · rw [e]; exact List.mem_append_right _ List.mem_cons_self
      · exact .inr h
theorem mem_names {g : Gr} {x : Str} : x ∈ namesBy g ↔ x ∈ g.map Prod.fst := ⟨fun h => (names_sub g [] x h).elim (fun z => (List.not_mem_nil z).elim) id, fun h => names_has g [] x (.inr h)⟩
theorem names_nd (g : Gr) : (namesBy g).Nodup := names_nodup g [] List.nodup_nil
theorem names_len (g : Gr) : (namesBy g).length ≤ g.length := by
  have := nodup_le (names_nd g) fun x hx => mem_names.mp hx
  rwa [List.length_map] at this
def truK (k : List Str) : List (Key × PyData) := k.map fun x => (Sum.inr x, .bool true)
theorem tru_mem (x : Str) : ∀ k : List Str, (valD (truK k) (Sum.inr x)).isSome = decide (x ∈ k)
  | [] => rfl
  | y :: k => by
    have ih := tru_mem x k
    by_cases h : y = x
    · have e : valD (truK (y :: k)) (Sum.inr x) = some (.bool true) := by simp [valD, truK, List.find?_cons, h]
      rw [e, h]
      simp
    · have e : valD (truK (y :: k)) (Sum.inr x) = valD (truK k) (Sum.inr x) := by simp [valD, truK, List.find?_cons, h]
      rw [e, ih]
      have : (x ∈ y :: k) ↔ x ∈ k := by simp [Ne.symm h]
      exact decide_eq_decide.mpr this.symm
theorem tru_put {x : Str} {k : List Str} (h : x ∉ k) : putD (truK k) (Sum.inr x) (.bool true) = truK (k ++ [x]) := by
  have hn : ((truK k).any fun kv => decide (kv.1 = (Sum.inr x : Key))) = false := by
    unfold truK
    rw [List.any_map, List.any_eq_false]
    intro y hy
    have : ¬ (Sum.inr y : Key) = Sum.inr x := fun z => h (by rw [← Sum.inr.inj z]; exact hy)
    simpa using this
  unfold putD
  rw [hn]
  simp [truK]
def okParts (made : List Str) (l : List Str) : Bool := (l.map fun p => isLetter p || decide (p ∈ made)).all fun b => b
def inParts (made : List Str) (l : List Str) : Bool := (l.map fun p => decide (p ∈ made)).all fun b => b
def makesBy (g : Gr) : List Str := (namesBy g).filter fun x => decide (x ∈ fixd (fun k r => okParts k r.2) g)
def emptiesBy (g : Gr) : List Str := (namesBy g).filter fun x => decide (x ∈ fixd (fun k r => inParts k r.2) g)
def usefulBy (g : Gr) : Gr := g.filter fun r => okParts (makesBy g) r.2
section
variable {P : Program} {w : World} {K : PySem.W.Frag} {mg : Str → Option Value} {base : Heap}
def R_makes_by (ds : List PyData) (d : PyData) : Prop := ∃ g : Gr, GG g ∧ ds = [encG g] ∧ d = .list (encS (makesBy g))
theorem sc_makes_by : FnScope ["grammar", "known", "grown", "name", "parts", "part"] ["grammar"] (defScope KHead.s_makes_by) := ⟨rfl, rfl, rfl, by decide +kernel, rfl, by decide +kernel, by decide +kernel⟩
/-- the state of such a loop -/
def JK (cond : List Str → Rl → Bool) (g : Gr) (m : Nat) (s : List Str × Bool) : Prop := Grown g s.1 ∧ (s.2 = true → fixK cond g m s.1 = some (fixd cond g)) ∧ (s.2 = false → s.1 = fixd cond g)
theorem ok_makes_by (T : Txt K mg) : DFn P w K mg base 3 "makes_by" ["grammar"] (spD K R_makes_by) := by
  refine T.fn 8 rfl rfl (fun _ _ _ _ _ _ us hl => match us, hl with | [_], _ => rfl) fun f fd F => fn_D F sc_makes_by (fun ds d ⟨g, _, h, _⟩ => by rw [h]; rfl) fun cdv A outer s H E ds d hr ⟨g, G, e1, e2⟩ => ?_
  subst e1 e2
  have nd := sc_makes_by.nd
  have hg := G.n2
  refine ws_set 1 de_dictK (ws_set 2 (de_pure dp_bl) ?_)
  refine ws_whileS (S := List Str × Bool) (JK (fun k r => okParts k r.2) g) (fun s => [some (dat (encG g)), some (.b (.okd (truK s.1))), some (dat (.bool s.2)), none, none, none]) (g.length + 1) ([], true) ⟨⟨List.nodup_nil, fun _ h => (List.not_mem_nil h).elim⟩, fun _ => fixd_eq.1, fun h => by cases h⟩ (Sub.refl _) ?_
  rintro m ⟨k, b⟩ ⟨hG, hT, hF⟩
  refine ⟨b, dt_val (v 2), fun hb => ?_, fun hb => ?_⟩
  · have hT := hT hb
    obtain ⟨m, rfl⟩ : ∃ m', m = m' + 1 := by
      cases m with
      | zero => cases hT
      | succ m' => exact ⟨m', rfl⟩
    refine ws_set 2 (de_pure dp_bl) ?_
    refine ws_forP (S := List Str × Bool) (xs := g) 3 4 (fun r => .str r.1) (fun r => .tuple (encS r.2)) (fun l a => l.foldl (stepK fun k r => okParts k r.2) a = passK (fun k r => okParts k r.2) g k ∧ Grown g a.1) (fun a => [some (dat (encG g)), some (.b (.okd (truK a.1))), some (dat (.bool a.2)), none, none, none]) (k, false) (di_dat (v 0)) ⟨rfl, hG⟩ (by exact Sub.refl _) ?_ ?_
    · rintro r l ⟨k1, b1⟩ hr' ⟨h1, h2⟩
      have hk : k1.length ≤ g.length := h2.len
      rw [List.foldl_cons] at h1
      have hu := u1 hr
      refine ws_if1 (t := decide (r.1 ∉ k1) && okParts k1 r.2) (PW.pt (dw_and (t := decide (r.1 ∉ k1)) (dt_to (tcm (cm_notInK (k := Sum.inr r.1) hu (v 3) (vk 1))) ?_) fun _ => dw_and1 (dt_val (dp_all (bs := r.2.map fun p => isLetter p || decide (p ∈ k1)) rfl rfl T.b_all (dl_dat (dp_to (lcN 5 (fun c : Str => .str c) (fun _ => true) (fun c => .bool (isLetter c || decide (c ∈ k1))) (xs := r.2) (di_weak (di_tup (v 4))) (fun a ha s H C cl fp => dts_nil) (fun a ha _ s H C cl fp => ?_) (szl (by have := G.pl r hr'; omega))) ?_)))))) (fun h => ?_) fun h => ?_
      · rw [tru_mem]
        simp
      · have hl : a.length ≤ 4000 := by rw [G.len1 hr' ha]; decide
        exact dv_or (dp_call (ok_is_letter T) (hr.mono (by decide)) ⟨a, hl, rfl, rfl⟩ (da_cons (v 5) da_nil)) fun h => dv_one (dp_to (dcm (cm_inK (k := Sum.inr a) hu (v 5) (vk 1))) (by rw [tru_mem]))
      · rw [flt_true, List.map_map]; rfl
      · have hc : r.1 ∉ k1 ∧ okParts k1 r.2 = true := by simpa using h
        have e : stepK (fun k r => okParts k r.2) (k1, b1) r = (k1 ++ [r.1], true) := if_pos hc
        refine ws_dput 1 (kvs := truK k1) (k := Sum.inr r.1) (de_pure (dp_bl (y := true))) rfl (v 3) (szl (by simp [truK]; omega)) hu ?_
        refine ws_set 2 (de_pure dp_bl) (ws_nil (ws_nil ⟨(k1 ++ [r.1], true), ⟨by rw [← h1, e], by rw [← e]; exact h2.step hr'⟩, ?_⟩))
        rw [tru_put hc.1]
        exact .same (.same (.same (.drop (.drop (.same .nil)))))
      · have hc : ¬ (r.1 ∉ k1 ∧ okParts k1 r.2 = true) := by simpa using h
        have e : stepK (fun k r => okParts k r.2) (k1, b1) r = (k1, b1) := if_neg hc
        exact ws_nil ⟨(k1, b1), ⟨by rw [← h1, e], h2⟩, .same (.same (.same (.drop (.drop (.same .nil)))))⟩
    · rintro ⟨k1, b1⟩ ⟨h1, h2⟩
      have h1 : (k1, b1) = passK (fun k r => okParts k r.2) g k := h1
      refine ws_nil ⟨m, (k1, b1), Nat.lt_succ_self m, ⟨h2, fun hb1 => ?_, fun hb1 => ?_⟩, Sub.refl _⟩
      · have e : fixK (fun k r => okParts k r.2) g (m + 1) k = fixK (fun k r => okParts k r.2) g m k1 := by
          show (if (passK _ g k).2 = true then _ else _) = _
          rw [← h1, if_pos hb1]
        rw [← e]; exact hT
      · have e : fixK (fun k r => okParts k r.2) g (m + 1) k = some k1 := by
          show (if (passK _ g k).2 = true then _ else _) = _
          rw [← h1, if_neg (by rw [show b1 = false from hb1]; exact Bool.false_ne_true)]
        rw [e] at hT
        exact Option.some.inj hT
  · have hk : k = fixd (fun k r => okParts k r.2) g := hF hb
    refine ws_ret (de_pure (dp_to (lcN 3 (fun c : Str => .str c) (fun x => decide (x ∈ k)) (fun c => .str c) (xs := namesBy g) (di_weak (di_dat (dp_call (ok_names_by T) (hr.mono (by decide)) ⟨g, by omega, rfl, rfl⟩ (da_cons (v 0) da_nil)))) (fun a ha s H C cl fp => dts_one (dt_to (tcm (cm_inK (k := Sum.inr a) (u1 hr) (v 3) (vk 1))) (by rw [tru_mem]))) (fun a ha _ s H C cl fp => v 3) (szl (by have := names_len g; omega))) ?_)) rfl
    rw [hk]
    rfl
def R_empties_by (ds : List PyData) (d : PyData) : Prop := ∃ g : Gr, GG g ∧ ds = [encG g] ∧ d = .list (encS (emptiesBy g))
theorem sc_empties_by : FnScope ["grammar", "known", "grown", "name", "parts", "part"] ["grammar"] (defScope KHead.s_empties_by) := ⟨rfl, rfl, rfl, by decide +kernel, rfl, by decide +kernel, by decide +kernel⟩
theorem ok_empties_by (T : Txt K mg) : DFn P w K mg base 3 "empties_by" ["grammar"] (spD K R_empties_by) := by
  refine T.fn 9 rfl rfl (fun _ _ _ _ _ _ us hl => match us, hl with | [_], _ => rfl) fun f fd F => fn_D F sc_empties_by (fun ds d ⟨g, _, h, _⟩ => by rw [h]; rfl) fun cdv A outer s H E ds d hr ⟨g, G, e1, e2⟩ => ?_
  subst e1 e2
  have nd := sc_empties_by.nd
  have hg := G.n2
  refine ws_set 1 de_dictK (ws_set 2 (de_pure dp_bl) ?_)
  refine ws_whileS (S := List Str × Bool) (JK (fun k r => inParts k r.2) g) (fun s => [some (dat (encG g)), some (.b (.okd (truK s.1))), some (dat (.bool s.2)), none, none, none]) (g.length + 1) ([], true) ⟨⟨List.nodup_nil, fun _ h => (List.not_mem_nil h).elim⟩, fun _ => fixd_eq.1, fun h => by cases h⟩ (Sub.refl _) ?_
  rintro m ⟨k, b⟩ ⟨hG, hT, hF⟩
  refine ⟨b, dt_val (v 2), fun hb => ?_, fun hb => ?_⟩
  · have hT := hT hb
    obtain ⟨m, rfl⟩ : ∃ m', m = m' + 1 := by
      cases m with
      | zero => cases hT
      | succ m' => exact ⟨m', rfl⟩
    refine ws_set 2 (de_pure dp_bl) ?_
    refine ws_forP (S := List Str × Bool) (xs := g) 3 4 (fun r => .str r.1) (fun r => .tuple (encS r.2)) (fun l a => l.foldl (stepK fun k r => inParts k r.2) a = passK (fun k r => inParts k r.2) g k ∧ Grown g a.1) (fun a => [some (dat (encG g)), some (.b (.okd (truK a.1))), some (dat (.bool a.2)), none, none, none]) (k, false) (di_dat (v 0)) ⟨rfl, hG⟩ (by exact Sub.refl _) ?_ ?_
    · rintro r l ⟨k1, b1⟩ hr' ⟨h1, h2⟩
      have hk : k1.length ≤ g.length := h2.len
      rw [List.foldl_cons] at h1
      have hu := u1 hr
      refine ws_if1 (t := decide (r.1 ∉ k1) && inParts k1 r.2) (PW.pt (dw_and (t := decide (r.1 ∉ k1)) (dt_to (tcm (cm_notInK (k := Sum.inr r.1) hu (v 3) (vk 1))) ?_) fun _ => dw_and1 (dt_val (dp_all (bs := r.2.map fun p => decide (p ∈ k1)) rfl rfl T.b_all (dl_dat (dp_to (lcN 5 (fun c : Str => .str c) (fun _ => true) (fun c => .bool (decide (c ∈ k1))) (xs := r.2) (di_weak (di_tup (v 4))) (fun a ha s H C cl fp => dts_nil) (fun a ha _ s H C cl fp => ?_) (szl (by have := G.pl r hr'; omega))) ?_)))))) (fun h => ?_) fun h => ?_
      · rw [tru_mem]
        simp
      · exact dp_to (dcm (cm_inK (k := Sum.inr a) hu (v 5) (vk 1))) (by rw [tru_mem])
      · rw [flt_true, List.map_map]; rfl
      · have hc : r.1 ∉ k1 ∧ inParts k1 r.2 = true := by simpa using h
        have e : stepK (fun k r => inParts k r.2) (k1, b1) r = (k1 ++ [r.1], true) := if_pos hc
        refine ws_dput 1 (kvs := truK k1) (k := Sum.inr r.1) (de_pure (dp_bl (y := true))) rfl (v 3) (szl (by simp [truK]; omega)) hu ?_
        refine ws_set 2 (de_pure dp_bl) (ws_nil (ws_nil ⟨(k1 ++ [r.1], true), ⟨by rw [← h1, e], by rw [← e]; exact h2.step hr'⟩, ?_⟩))
        rw [tru_put hc.1]
        exact .same (.same (.same (.drop (.drop (.same .nil)))))
      · have hc : ¬ (r.1 ∉ k1 ∧ inParts k1 r.2 = true) := by simpa using h
        have e : stepK (fun k r => inParts k r.2) (k1, b1) r = (k1, b1) := if_neg hc
        exact ws_nil ⟨(k1, b1), ⟨by rw [← h1, e], h2⟩, .same (.same (.same (.drop (.drop (.same .nil)))))⟩
    · rintro ⟨k1, b1⟩ ⟨h1, h2⟩
      have h1 : (k1, b1) = passK (fun k r => inParts k r.2) g k := h1
      refine ws_nil ⟨m, (k1, b1), Nat.lt_succ_self m, ⟨h2, fun hb1 => ?_, fun hb1 => ?_⟩, Sub.refl _⟩
      · have e : fixK (fun k r => inParts k r.2) g (m + 1) k = fixK (fun k r => inParts k r.2) g m k1 := by
          show (if (passK _ g k).2 = true then _ else _) = _
          rw [← h1, if_pos hb1]
        rw [← e]; exact hT
      · have e : fixK (fun k r => inParts k r.2) g (m + 1) k = some k1 := by
          show (if (passK _ g k).2 = true then _ else _) = _
          rw [← h1, if_neg (by rw [show b1 = false from hb1]; exact Bool.false_ne_true)]
        rw [e] at hT
        exact Option.some.inj hT
  · have hk : k = fixd (fun k r => inParts k r.2) g := hF hb
    refine ws_ret (de_pure (dp_to (lcN 3 (fun c : Str => .str c) (fun x => decide (x ∈ k)) (fun c => .str c) (xs := namesBy g) (di_weak (di_dat (dp_call (ok_names_by T) (hr.mono (by decide)) ⟨g, by omega, rfl, rfl⟩ (da_cons (v 0) da_nil)))) (fun a ha s H C cl fp => dts_one (dt_to (tcm (cm_inK (k := Sum.inr a) (u1 hr) (v 3) (vk 1))) (by rw [tru_mem]))) (fun a ha _ s H C cl fp => v 3) (szl (by have := names_len g; omega))) ?_)) rfl
    rw [hk]
    rfl
/-! useful_rules -/
def R_useful_rules (ds : List PyData) (d : PyData) : Prop := ∃ g : Gr, GG g ∧ ds = [encG g] ∧ d = encG (usefulBy g)
theorem sc_useful_rules : FnScope ["grammar", "made", "rule", "part"] ["grammar"] (defScope KHead.s_useful_rules) := ⟨rfl, rfl, rfl, by decide +kernel, rfl, by decide +kernel, by decide +kernel⟩
theorem ok_useful_rules (T : Txt K mg) : DFn P w K mg base 4 "useful_rules" ["grammar"] (spD K R_useful_rules) := by
  refine T.fn 10 rfl rfl (fun _ _ _ _ _ _ us hl => match us, hl with | [_], _ => rfl) fun f fd F => fn_D F sc_useful_rules (fun ds d ⟨g, _, h, _⟩ => by rw [h]; rfl) fun cdv A outer s H E ds d hr ⟨g, G, e1, e2⟩ => ?_
  subst e1 e2
  have nd := sc_useful_rules.nd
  have hg := G.n2
  refine ws_set 1 (de_pure (dp_call (ok_makes_by T) hr ⟨g, G, rfl, rfl⟩ (da_cons (v 0) da_nil))) ?_
  refine ws_ret (de_pure (lcN 2 encR (fun r : Rl => okParts (makesBy g) r.2) encR (xs := g) (di_weak (di_dat (v 0))) (fun r hr' s H C cl fp => dts_one (dt_val (dp_all (bs := r.2.map fun p => isLetter p || decide (p ∈ makesBy g)) rfl rfl T.b_all (dl_dat (dp_to (lcN 3 (fun c : Str => .str c) (fun _ => true) (fun c => .bool (isLetter c || decide (c ∈ makesBy g))) (xs := r.2) (di_weak (di_tup (dp_ixT rfl (v 2) dp_int))) (fun a ha s H C cl fp => dts_nil) (fun a ha _ s H C cl fp => ?_) (szl (by have := G.pl r hr'; omega))) ?_))))) (fun r _ _ s H C cl fp => v 2) (szl (by omega)))) rfl
  · have hl : a.length ≤ 4000 := by rw [G.len1 hr' ha]; decide
    exact dv_or (dp_call (ok_is_letter T) (hr.mono (by decide)) ⟨a, hl, rfl, rfl⟩ (da_cons (v 3) da_nil)) fun h => dv_one (dcm (cm_inS (v 3) (vd 1)))
  · rw [flt_true, List.map_map]; rfl
/-! begins_with -/
def beginsGo (kvs : List (Str × List Str)) (hollow : List Str) : List Str → List Str → List Str
  | [], found => found
  | p :: ps, found => if isLetter p = true then found ++ [p] else if p ∈ hollow then beginsGo kvs hollow ps (found ++ (kkAt kvs p).getD []) else found ++ (kkAt kvs p).getD []
def beginsBy (kvs : List (Str × List Str)) (hollow parts : List Str) : List Str := beginsGo kvs hollow parts []
/-- what begins_with may be given -/
structure BgOk (kvs : List (Str × List Str)) (parts : List Str) : Prop where
  len : parts.length ≤ 40
  p1 : ∀ p ∈ parts, p.length = 1
  kn : ∀ p ∈ parts, isLetter p = false → ∃ ls, kkAt kvs p = some ls ∧ ls.length ≤ 240
def R_begins_with (ds : List PyData) (d : PyData) : Prop := ∃ parts kvs hollow, BgOk kvs parts ∧ ds = [.tuple (encS parts), kkD kvs, .list (encS hollow)] ∧ d = .list (encS (beginsBy kvs hollow parts))
theorem kk_valD {kvs : List (Str × List Str)} {p : Str} {ls : List Str} (h : kkAt kvs p = some ls) : valD (kvs.map fun q => ((Sum.inr q.1 : Key), dictD (truD q.2))) (Sum.inr p) = some (dictD (truD ls)) := by
  induction kvs with
  | nil => simp [kkAt] at h
  | cons q kvs ih =>
    by_cases z : q.1 = p
    · have e : kkAt (q :: kvs) p = some q.2 := by simp [kkAt, List.find?_cons, z]
      rw [e] at h
      cases h
      simp [valD, List.find?_cons, z]
    · have e : kkAt (q :: kvs) p = kkAt kvs p := by simp [kkAt, List.find?_cons, z]
      rw [e] at h
      rw [← ih h]
      simp [valD, List.find?_cons, z]
theorem truD_keys (ls : List Str) : (truD ls).map (fun kv => kD kv.1) = encS ls := by
  unfold truD encS
  rw [List.map_map]
  rfl
theorem sc_begins_with : FnScope ["parts", "known", "hollow", "found", "part"] ["parts", "known", "hollow"] (defScope KHead.s_begins_with) := ⟨rfl, rfl, rfl, by decide +kernel, rfl, by decide +kernel, by decide +kernel⟩
theorem ok_begins_with (T : Txt K mg) : DFn P w K mg base 2 "begins_with" ["parts", "known", "hollow"] (spD K R_begins_with) := by
  refine T.fn 12 rfl rfl (fun _ _ _ _ _ _ us hl => match us, hl with | [_, _, _], _ => rfl) fun f fd F => fn_D F sc_begins_with (fun ds d ⟨_, _, _, _, h, _⟩ => by rw [h]; rfl) fun cdv A outer s H E ds d hr ⟨parts, kvs, hollow, B, e1, e2⟩ => ?_
  subst e1 e2
  have nd := sc_begins_with.nd
  have hu := u1 hr
  refine ws_set 3 (de_pure (dp_lst da_nil (Nat.zero_le _))) ?_
  refine ws_forN (S := List Str) (xs := parts) 4 (fun c : Str => .str c) (fun l found => beginsGo kvs hollow l found = beginsBy kvs hollow parts ∧ found.length + l.length * 240 ≤ 9600) (fun found => [some (dat (.tuple (encS parts))), some (dat (kkD kvs)), some (dat (.list (encS hollow))), some (dat (.list (encS found))), none]) [] (di_tup (v 0)) ⟨rfl, by have := B.len; simp; omega⟩ (by exact Sub.refl _) ?_ ?_
  · intro p l found hp ⟨h1, h2⟩
    have hl : p.length ≤ 4000 := by rw [B.p1 p hp]; decide
    have h2 : found.length + (l.length + 1) * 240 ≤ 9600 := h2
    refine ws_if1 (dt_val (dp_call (ok_is_letter T) hr ⟨p, hl, rfl, rfl⟩ (da_cons (v 4) da_nil))) (fun h => ?_) fun h => ?_
    · refine ws_ret (de_pure (dp_catL (ds := encS found) (ds' := encS [p]) (sz (by simp [encS]; omega)) (vd 3) (dl_dat (dp_lst (da_cons (v 4) da_nil) (Nat.le_of_ble_eq_true rfl))))) ?_
      have e : beginsGo kvs hollow (p :: l) found = found ++ [p] := if_pos h
      rw [← h1, e]
      simp [encS]
    · obtain ⟨ls, k1, k2⟩ := B.kn p hp h
      have e : beginsGo kvs hollow (p :: l) found = if p ∈ hollow then beginsGo kvs hollow l (found ++ ls) else found ++ ls := by
        show (if isLetter p = true then _ else if p ∈ hollow then beginsGo kvs hollow l (found ++ (kkAt kvs p).getD []) else found ++ (kkAt kvs p).getD []) = _
        rw [if_neg (by rw [h]; exact Bool.false_ne_true), k1]
        rfl
      rw [e] at h1
      refine ws_set 3 (de_pure (dp_to (dp_catL (ds := encS found) (ds' := encS ls) (sz (by simp [encS]; omega)) (vd 3) (dl_dat (dp_to (dp_listK (kvs := truD ls) rfl rfl T.b_list (dk_dat (dp_dget hu (kk_valD k1) (dk_dat (v 1)) (v 4)))) (by rw [truD_keys])))) (da := .list (encS (found ++ ls))) (by simp [encS]))) ?_
      refine ws_if1 (tcm (cm_notInS (v 4) (vd 2))) (fun h3 => ?_) fun h3 => ?_
      · have h3 : p ∉ hollow := by simpa using h3
        rw [if_neg h3] at h1
        refine ws_ret (de_pure (v 3)) ?_
        rw [← h1]
      · have h3 : p ∈ hollow := by simpa using h3
        rw [if_pos h3] at h1
        exact ws_nil ⟨found ++ ls, ⟨h1, by rw [List.length_append]; omega⟩, .same (.same (.same (.same (.drop .nil))))⟩
  · intro found ⟨h, _⟩
    refine ws_ret (de_pure (v 3)) ?_
    have h : found = beginsBy kvs hollow parts := h
    rw [h]
/-! firsts_by -/
def addL (name : Str) (a : List (Str × List Str) × Bool) (y : Str) : List (Str × List Str) × Bool := if y ∈ (kkAt a.1 name).getD [] then a else (kkSet a.1 name ((kkAt a.1 name).getD [] ++ [y]), true)
def stepF (hollow : List Str) (a : List (Str × List Str) × Bool) (r : Rl) : List (Str × List Str) × Bool := (beginsBy a.1 hollow r.2).foldl (addL r.1) a
def passF (rules : Gr) (hollow : List Str) (kvs : List (Str × List Str)) : List (Str × List Str) × Bool := rules.foldl (stepF hollow) (kvs, false)
def fixF (rules : Gr) (hollow : List Str) : Nat → List (Str × List Str) → Option (List (Str × List Str))
  | 0, _ => none
  | n + 1, k => if (passF rules hollow k).2 = true then fixF rules hollow n (passF rules hollow k).1 else some (passF rules hollow k).1
def lettersOf (g : Gr) : List Str := (g.flatMap fun r => r.2).filter isLetter
structure WfF (g : Gr) (kvs : List (Str × List Str)) : Prop where
  keys : kvs.map Prod.fst = namesBy g
  nd : ∀ p ∈ kvs, p.2.Nodup
  sub : ∀ p ∈ kvs, ∀ y ∈ p.2, y ∈ lettersOf g
def tot (kvs : List (Str × List Str)) : Nat := (kvs.map fun p => p.2.length).sum
theorem kkAt_mem {kvs : List (Str × List Str)} {k : Str} {ls : List Str} (h : kkAt kvs k = some ls) : (k, ls) ∈ kvs := by
  unfold kkAt at h
  obtain ⟨p, hp, rfl⟩ := Option.map_eq_some_iff.mp h
  have e : p.1 = k := by simpa using List.find?_some hp
  have := List.mem_of_find?_eq_some hp
  rw [← e]
  exact this
theorem kkAt_has : ∀ {kvs : List (Str × List Str)} {k : Str}, k ∈ kvs.map Prod.fst → ∃ ls, kkAt kvs k = some ls
  | [], _, h => by cases h
  | p :: kvs, k, h => by
    by_cases z : p.1 = k
    · exact ⟨p.2, by simp [kkAt, List.find?_cons, z]⟩
    · rcases List.mem_cons.mp h with e | h
      · exact absurd e.symm z
      · obtain ⟨ls, e⟩ := kkAt_has h
        exact ⟨ls, by rw [← e]; simp [kkAt, List.find?_cons, z]⟩
theorem kkSet_keys (kvs : List (Str × List Str)) (k : Str) (ls : List Str) : (kkSet kvs k ls).map Prod.fst = kvs.map Prod.fst := by
  unfold kkSet
  rw [List.map_map]
  refine List.map_congr_left fun p _ => ?_
  show (if p.1 = k then (p.1, ls) else p).1 = p.1
  split <;> rfl
theorem kkSet_mem {kvs : List (Str × List Str)} {k : Str} {ls : List Str} {p : Str × List Str} (h : p ∈ kkSet kvs k ls) : p ∈ kvs ∨ p = (k, ls) := by
  obtain ⟨q, hq, e⟩ := List.mem_map.mp h
  by_cases z : q.1 = k
  · rw [if_pos z, z] at e
    exact .inr e.symm
  · rw [if_neg z] at e
    exact .inl (by rw [← e]; exact hq)
theorem kkSet_tot : ∀ {kvs : List (Str × List Str)} {k : Str} {ls ls' : List Str}, kkAt kvs k = some ls → ls.length < ls'.length → (kvs.map Prod.fst).Nodup → tot kvs < tot (kkSet kvs k ls')
  | [], _, _, _, h, _, _ => by simp [kkAt] at h
  | p :: kvs, k, ls, ls', h, hl, nd => by
    rw [List.map_cons] at nd
    obtain ⟨n1, n2⟩ := List.nodup_cons.mp nd
    by_cases z : p.1 = k
    · have e : kkAt (p :: kvs) k = some p.2 := by simp [kkAt, List.find?_cons, z]
      rw [e] at h
      cases h
      have same : kkSet kvs k ls' = kvs := by
        unfold kkSet
        have : ∀ q ∈ kvs, (if q.1 = k then (q.1, ls') else q) = q := fun q hq => if_neg fun w => n1 (by rw [z, ← w]; exact List.mem_map.mpr ⟨q, hq, rfl⟩)
        rw [List.map_congr_left this, List.map_id']
      have hs : kkSet (p :: kvs) k ls' = (p.1, ls') :: kkSet kvs k ls' := by
        show (if p.1 = k then _ else _) :: _ = _
        rw [if_pos z]; rfl
      rw [hs, same]
      simp [tot]
      omega
    · have e : kkAt (p :: kvs) k = kkAt kvs k := by simp [kkAt, List.find?_cons, z]
      rw [e] at h
      have ih := kkSet_tot h hl n2
      have hs : kkSet (p :: kvs) k ls' = p :: kkSet kvs k ls' := by
        show (if p.1 = k then _ else _) :: _ = _
        rw [if_neg z]; rfl
      rw [hs]
      simp only [tot, List.map_cons, List.sum_cons] at ih ⊢
      omega
section
variable {g : Gr}
theorem letters_len (G : GG g) : (lettersOf g).length ≤ 240 := by
  refine Nat.le_trans (List.length_filter_le _ _) ?_
  have h : ∀ l : List Rl, (∀ r ∈ l, r.2.length ≤ 6) → (l.flatMap fun r => r.2).length ≤ l.length * 6 := fun l => by
    induction l with
    | nil => intro _; simp
    | cons r l ih =>
      intro h
      rw [List.flatMap_cons, List.length_append, List.length_cons]
      have h1 := h r List.mem_cons_self
      have h2 := ih fun q hq => h q (List.mem_cons_of_mem _ hq)
      omega
  have := h g G.pl
  have := G.n2
  omega
theorem WfF.lsl {kvs : List (Str × List Str)} (W : WfF g kvs) (G : GG g) {k : Str} {ls : List Str} (h : kkAt kvs k = some ls) : ls.length ≤ 240 := by
  have hm := kkAt_mem h
  have h1 : ls.length ≤ _ := nodup_le (W.nd _ hm) (W.sub _ hm)
  have := letters_len G
  omega
theorem begins_sub {kvs : List (Str × List Str)} {hollow : List Str} (W : WfF g kvs) : ∀ (l found : List Str), (∀ p ∈ l, isLetter p = true → p ∈ lettersOf g) → (∀ y ∈ found, y ∈ lettersOf g) → ∀ y ∈ beginsGo kvs hollow l found, y ∈ lettersOf g
  | [], found, _, h => h
  | p :: l, found, hp, h => by
    have hk : ∀ y ∈ found ++ (kkAt kvs p).getD [], y ∈ lettersOf g := fun y hy => by
      rcases List.mem_append.mp hy with z | z
      · exact h y z
      · cases e : kkAt kvs p with
        | none => rw [e] at z; cases z
        | some ls =>
          rw [e] at z
          exact W.sub _ (kkAt_mem e) y z
    intro y hy
    unfold beginsGo at hy
    split at hy
    · rename_i c
      rcases List.mem_append.mp hy with z | z
      · exact h y z
      · rw [List.mem_singleton.mp z]
        exact hp p List.mem_cons_self c
    · split at hy
      · exact begins_sub W l _ (fun q hq => hp q (List.mem_cons_of_mem _ hq)) hk y hy
      · exact hk y hy
theorem WfF.add {a : List (Str × List Str) × Bool} {name y : Str} (W : WfF g a.1) (hy : y ∈ lettersOf g) (hn : name ∈ namesBy g) : WfF g (addL name a y).1 := by
  unfold addL
  split
  · exact W
  · rename_i c
    obtain ⟨ls, e⟩ := kkAt_has (kvs := a.1) (k := name) (by rw [W.keys]; exact hn)
    rw [e] at c ⊢
    refine ⟨by rw [kkSet_keys]; exact W.keys, fun p hp => ?_, fun p hp z hz => ?_⟩
    · rcases kkSet_mem hp with q | q
      · exact W.nd p q
      · rw [q]
        exact List.nodup_append.mpr ⟨W.nd _ (kkAt_mem e), by simp, fun u hu v hv w => c (by rw [← List.mem_singleton.mp hv, ← w]; exact hu)⟩
    · rcases kkSet_mem hp with q | q
      · exact W.sub p q z hz
      · rw [q] at hz
        rcases List.mem_append.mp hz with w | w
        · exact W.sub _ (kkAt_mem e) z w
        · rw [List.mem_singleton.mp w]; exact hy
theorem WfF.adds {name : Str} (hn : name ∈ namesBy g) : ∀ (l : List Str) {a : List (Str × List Str) × Bool}, (∀ y ∈ l, y ∈ lettersOf g) → WfF g a.1 → WfF g (l.foldl (addL name) a).1
  | [], _, _, W => W
  | y :: l, a, h, W => WfF.adds hn l (fun z hz => h z (List.mem_cons_of_mem _ hz)) (W.add (h y List.mem_cons_self) hn)
theorem part_letter {r : Rl} (hr : r ∈ g) {p : Str} (hp : p ∈ r.2) (hl : isLetter p = true) : p ∈ lettersOf g := List.mem_filter.mpr ⟨List.mem_flatMap.mpr ⟨r, hr, hp⟩, hl⟩
theorem WfF.step {hollow : List Str} {a : List (Str × List Str) × Bool} {r : Rl} (W : WfF g a.1) (hr : r ∈ g) : WfF g (stepF hollow a r).1 :=
  WfF.adds (mem_names.mpr (List.mem_map.mpr ⟨r, hr, rfl⟩)) _ (begins_sub W r.2 [] (fun p hp hl => part_letter hr hp hl) fun _ h => (List.not_mem_nil h).elim) W
theorem WfF.pass {hollow : List Str} : ∀ (l : List Rl) {a : List (Str × List Str) × Bool}, (∀ r ∈ l, r ∈ g) → WfF g a.1 → WfF g (l.foldl (stepF hollow) a).1
  | [], _, _, W => W
  | r :: l, a, h, W => WfF.pass l (fun z hz => h z (List.mem_cons_of_mem _ hz)) (W.step (h r List.mem_cons_self))
/-- less or nothing new -/
def Mo (a b : List (Str × List Str) × Bool) : Prop := tot a.1 ≤ tot b.1 ∧ (b.2 = true → a.2 = true ∨ tot a.1 < tot b.1)
theorem Mo.refl {a : List (Str × List Str) × Bool} : Mo a a := ⟨Nat.le_refl _, .inl⟩
theorem Mo.trans {a b c : List (Str × List Str) × Bool} (h : Mo a b) (k : Mo b c) : Mo a c := ⟨Nat.le_trans h.1 k.1, fun e => by
  rcases k.2 e with z | z
  · rcases h.2 z with w | w
    · exact .inl w
    · exact .inr (Nat.lt_of_lt_of_le w k.1)
  · exact .inr (Nat.lt_of_le_of_lt h.1 z)⟩
theorem mo_add {a : List (Str × List Str) × Bool} {name y : Str} (W : WfF g a.1) (hn : name ∈ namesBy g) : Mo a (addL name a y) := by
  unfold addL
  split
  · exact .refl
  · obtain ⟨ls, e⟩ := kkAt_has (kvs := a.1) (k := name) (by rw [W.keys]; exact hn)
    have h := kkSet_tot (ls' := ls ++ [y]) e (by simp) (by rw [W.keys]; exact names_nd g)
    rw [e]
    exact ⟨Nat.le_of_lt h, fun _ => .inr h⟩
theorem mo_adds {name : Str} (hn : name ∈ namesBy g) : ∀ (l : List Str) {a : List (Str × List Str) × Bool}, (∀ y ∈ l, y ∈ lettersOf g) → WfF g a.1 → Mo a (l.foldl (addL name) a)
  | [], _, _, _ => .refl
  | y :: l, a, h, W => (mo_add W hn).trans (mo_adds hn l (fun z hz => h z (List.mem_cons_of_mem _ hz)) (W.add (h y List.mem_cons_self) hn))
theorem mo_pass {hollow : List Str} : ∀ (l : List Rl) {a : List (Str × List Str) × Bool}, (∀ r ∈ l, r ∈ g) → WfF g a.1 → Mo a (l.foldl (stepF hollow) a)
  | [], _, _, _ => .refl
  | r :: l, a, h, W => by
    have hr := h r List.mem_cons_self
    refine Mo.trans (b := stepF hollow a r) ?_ (mo_pass l (fun z hz => h z (List.mem_cons_of_mem _ hz)) (W.step hr))
    exact mo_adds (mem_names.mpr (List.mem_map.mpr ⟨r, hr, rfl⟩)) _ (begins_sub W r.2 [] (fun p hp hl => part_letter hr hp hl) fun _ h => (List.not_mem_nil h).elim) W
theorem tot_le {kvs : List (Str × List Str)} (W : WfF g kvs) (G : GG g) : tot kvs ≤ 9600 := by
  have h : ∀ l : List (Str × List Str), (∀ p ∈ l, p.2.length ≤ 240) → tot l ≤ l.length * 240 := fun l => by
    induction l with
    | nil => intro _; simp [tot]
    | cons p l ih =>
      intro h
      have h1 := h p List.mem_cons_self
      have h2 := ih fun q hq => h q (List.mem_cons_of_mem _ hq)
      simp only [tot, List.map_cons, List.sum_cons, List.length_cons] at h2 ⊢
      omega
  have h1 := h kvs fun p hp => by
    have := nodup_le (W.nd p hp) (W.sub p hp)
    have := letters_len G
    omega
  have h2 : kvs.length ≤ g.length := by
    have := names_len g
    rw [← W.keys, List.length_map] at this
    exact this
  have := G.n2
  omega
theorem fixF_some (G : GG g) {rules : Gr} {hollow : List Str} (hr : ∀ r ∈ rules, r ∈ g) : ∀ (n : Nat) (k : List (Str × List Str)), WfF g k → 9600 < n + tot k → ∃ K, fixF rules hollow n k = some K ∧ WfF g K
  | 0, k, W, hn => by have := tot_le W G; omega
  | n + 1, k, W, hn => by
    have hp : WfF g (passF rules hollow k).1 := WfF.pass (hollow := hollow) rules hr (a := (k, false)) W
    unfold fixF
    split
    · rename_i c
      refine fixF_some G hr n _ hp ?_
      rcases (mo_pass (hollow := hollow) rules hr (a := (k, false)) W).2 c with z | z
      · cases z
      · have z : tot k < tot (passF rules hollow k).1 := z
        omega
    · exact ⟨_, rfl, hp⟩
end
def beginF (g : Gr) : List (Str × List Str) := (namesBy g).map fun x => (x, [])
def firstsBy (g : Gr) : List (Str × List Str) := (fixF (usefulBy g) (emptiesBy g) 9601 (beginF g)).getD []
theorem beginF_wf (g : Gr) : WfF g (beginF g) := ⟨by
  unfold beginF
  rw [List.map_map]
  exact List.map_id' _, fun p hp => by
  obtain ⟨x, _, rfl⟩ := List.mem_map.mp hp
  exact List.nodup_nil, fun p hp y hy => by
  obtain ⟨x, _, rfl⟩ := List.mem_map.mp hp
  exact (List.not_mem_nil hy).elim⟩
theorem useful_sub (g : Gr) : ∀ r ∈ usefulBy g, r ∈ g := fun r h => (List.mem_filter.mp h).1
theorem firsts_eq {g : Gr} (G : GG g) : fixF (usefulBy g) (emptiesBy g) 9601 (beginF g) = some (firstsBy g) ∧ WfF g (firstsBy g) := by
  obtain ⟨K, h1, h2⟩ := fixF_some G (hollow := emptiesBy g) (useful_sub g) 9601 (beginF g) (beginF_wf g) (by omega)
  unfold firstsBy
  rw [h1]
  exact ⟨rfl, h2⟩
theorem noDs_strs : ∀ l : List Str, noDs (encS l) = true
  | [] => by simp [encS, noDs]
  | x :: l => by
    show noDs (.str x :: encS l) = true
    rw [noDs, noDs_strs l]
    rfl
theorem lay_strL (l : List Str) : noD (.list (encS l)) = true := by
  rw [noD]
  exact noDs_strs l
def R_firsts_by (ds : List PyData) (d : PyData) : Prop := ∃ g : Gr, GG g ∧ ds = [encG g] ∧ d = kkD (firstsBy g)
def JF (g : Gr) (m : Nat) (s : List (Str × List Str) × Bool) : Prop := WfF g s.1 ∧ (s.2 = true → fixF (usefulBy g) (emptiesBy g) m s.1 = some (firstsBy g)) ∧ (s.2 = false → s.1 = firstsBy g)
theorem sc_firsts_by : FnScope ["grammar", "rules", "hollow", "found", "name", "grown", "parts", "letter"] ["grammar"] (defScope KHead.s_firsts_by) := ⟨rfl, rfl, rfl, by decide +kernel, rfl, by decide +kernel, by decide +kernel⟩
theorem ok_firsts_by (T : Txt K mg) : DFn P w K mg base 5 "firsts_by" ["grammar"] (spD K R_firsts_by) := by
  refine T.fn 11 rfl rfl (fun _ _ _ _ _ _ us hl => match us, hl with | [_], _ => rfl) fun f fd F => fn_D F sc_firsts_by (fun ds d ⟨g, _, h, _⟩ => by rw [h]; rfl) fun cdv A outer s H E ds d hr ⟨g, G, e1, e2⟩ => ?_
  subst e1 e2
  have nd := sc_firsts_by.nd
  have hg := G.n2
  have hu := u1 hr
  refine ws_set 1 (de_pure (dp_call (ok_useful_rules T) hr ⟨g, G, rfl, rfl⟩ (da_cons (v 0) da_nil))) ?_
  refine ws_set 2 (de_pure (dp_call (ok_empties_by T) (hr.mono (by decide)) ⟨g, G, rfl, rfl⟩ (da_cons (v 0) da_nil))) ?_
  refine ws_set 3 de_dictKK ?_
  refine ws_forN (S := List Str) (xs := namesBy g) 4 (fun c : Str => .str c) (fun l acc => acc ++ l = namesBy g) (fun acc => [some (dat (encG g)), some (dat (encG (usefulBy g))), some (dat (.list (encS (emptiesBy g)))), some (.b (.okk (acc.map fun x => (x, [])))), none, none, none, none]) [] (di_dat (dp_call (ok_names_by T) (hr.mono (by decide)) ⟨g, by omega, rfl, rfl⟩ (da_cons (v 0) da_nil))) rfl (by exact Sub.refl _) ?_ ?_
  · intro x l acc hx hj
    have hn : x ∉ acc := fun z => by
      have := names_nd g
      rw [← hj] at this
      exact (List.nodup_append.mp this).2.2 x z x List.mem_cons_self rfl
    have hl : acc.length ≤ 40 := by
      have := congrArg List.length hj
      have := names_len g
      rw [List.length_append] at *
      omega
    refine ws_dputKK 3 (kvs := acc.map fun x => (x, [])) de_dictK rfl (v 4) (fun z => ?_) (szl (by rw [List.length_map]; omega)) hu (ws_nil ⟨acc ++ [x], by rw [List.append_assoc]; exact hj, ?_⟩)
    · rw [List.map_map] at z
      obtain ⟨y, hy, e⟩ := List.mem_map.mp z
      exact hn (by rw [← show y = x from e]; exact hy)
    · rw [List.map_append]
      exact .same (.same (.same (.same (.drop (.same (.same (.same .nil)))))))
  · intro acc hj
    have hj : acc = namesBy g := by have : acc ++ [] = namesBy g := hj; rwa [List.append_nil] at this
    refine ws_set 5 (de_pure dp_bl) ?_
    refine ws_whileS (S := List (Str × List Str) × Bool) (JF g) (fun s => [some (dat (encG g)), some (dat (encG (usefulBy g))), some (dat (.list (encS (emptiesBy g)))), some (.b (.okk s.1)), none, some (dat (.bool s.2)), none, none]) 9601 (beginF g, true) ⟨beginF_wf g, fun _ => (firsts_eq G).1, fun h => by cases h⟩ ?_ ?_
    · rw [hj]
      exact Sub.refl _
    rintro m ⟨k, b⟩ ⟨hW, hT, hF⟩
    refine ⟨b, dt_val (v 5), fun hb => ?_, fun hb => ?_⟩
    · have hT := hT hb
      obtain ⟨m, rfl⟩ : ∃ m', m = m' + 1 := by
        cases m with
        | zero => cases hT
        | succ m' => exact ⟨m', rfl⟩
      refine ws_set 5 (de_pure dp_bl) ?_
      refine ws_forP (S := List (Str × List Str) × Bool) (xs := usefulBy g) 4 6 (fun r => .str r.1) (fun r => .tuple (encS r.2)) (fun l a => l.foldl (stepF (emptiesBy g)) a = passF (usefulBy g) (emptiesBy g) k ∧ WfF g a.1) (fun a => [some (dat (encG g)), some (dat (encG (usefulBy g))), some (dat (.list (encS (emptiesBy g)))), some (.b (.okk a.1)), none, some (dat (.bool a.2)), none, none]) (k, false) (di_dat (v 1)) ⟨rfl, hW⟩ (by exact Sub.refl _) ?_ ?_
      · rintro r l ⟨k1, b1⟩ hr' ⟨h1, h2⟩
        have hrg := useful_sub g r hr'
        have hnm : r.1 ∈ namesBy g := mem_names.mpr (List.mem_map.mpr ⟨r, hrg, rfl⟩)
        have B : BgOk k1 r.2 := ⟨by have := G.pl r hrg; omega, fun p hp => G.len1 hrg hp, fun p hp hl => by
          obtain ⟨ls, e⟩ := kkAt_has (kvs := k1) (k := p) (by
            rw [show k1.map Prod.fst = namesBy g from h2.keys]
            refine mem_names.mpr (G.cl r hrg p hp ?_)
            rcases G.pt r hrg p hp with q | q
            · rw [q.lt] at hl; cases hl
            · exact q)
          exact ⟨ls, e, WfF.lsl h2 G e⟩⟩
        refine ws_forN (S := List (Str × List Str) × Bool) (xs := beginsBy k1 (emptiesBy g) r.2) 7 (fun c : Str => .str c) (fun l' a => l'.foldl (addL r.1) a = stepF (emptiesBy g) (k1, b1) r ∧ WfF g a.1) (fun a => [some (dat (encG g)), some (dat (encG (usefulBy g))), some (dat (.list (encS (emptiesBy g)))), some (.b (.okk a.1)), some (dat (.str r.1)), some (dat (.bool a.2)), some (dat (.tuple (encS r.2))), none]) (k1, b1) (di_dat (dp_borrow 3 rfl (lay_strL _) (dp_call (ok_begins_with T) (hr.mono (by decide)) ⟨r.2, k1, emptiesBy g, B, rfl, rfl⟩ (da_cons (v 6) (da_cons (v 3) (da_cons (v 2) da_nil)))))) ⟨rfl, h2⟩ (by exact Sub.refl _) ?_ ?_
        · rintro y l' ⟨k2, b2⟩ hy ⟨h3, h4⟩
          have hyl : y ∈ lettersOf g := begins_sub h2 r.2 [] (fun p hp hl => part_letter hrg hp hl) (fun _ h => (List.not_mem_nil h).elim) y hy
          obtain ⟨ls, e⟩ := kkAt_has (kvs := k2) (k := r.1) (by rw [show k2.map Prod.fst = namesBy g from h4.keys]; exact hnm)
          have hls := WfF.lsl h4 G e
          rw [List.foldl_cons] at h3
          refine ws_if1 (t := decide (y ∉ ls)) (dt_to (tcm (cm_notInK (k := Sum.inr y) hu (v 7) (dk_subKK 3 e (v 4) hu))) ?_) (fun h => ?_) fun h => ?_
          · rw [show truD ls = truK ls from rfl, tru_mem]
            simp
          · have hn : y ∉ ls := of_decide_eq_true h
            have ea : addL r.1 (k2, b2) y = (kkSet k2 r.1 (ls ++ [y]), true) := by
              unfold addL
              rw [show (kkAt (k2, b2).1 r.1) = some ls from e]
              exact if_neg hn
            refine ws_dputKK2 3 rfl dp_bl (v 4) (v 7) e hn (by rw [show k2.map (fun x => x.1) = namesBy g from h4.keys]; exact names_nd g) (szl (by omega)) hu ?_
            refine ws_set 5 (de_pure dp_bl) (ws_nil (ws_nil ⟨(kkSet k2 r.1 (ls ++ [y]), true), ⟨by rw [← h3, ea], by rw [← ea]; exact h4.add hyl hnm⟩, ?_⟩))
            exact .same (.same (.same (.same (.same (.same (.same (.drop .nil)))))))
          · have hn : ¬ y ∉ ls := of_decide_eq_false h
            have ea : addL r.1 (k2, b2) y = (k2, b2) := by
              unfold addL
              rw [show (kkAt (k2, b2).1 r.1) = some ls from e]
              exact if_pos (Classical.not_not.mp hn)
            exact ws_nil ⟨(k2, b2), ⟨by rw [← h3, ea], h4⟩, .same (.same (.same (.same (.same (.same (.same (.drop .nil)))))))⟩
        · rintro ⟨k2, b2⟩ ⟨h3, h4⟩
          have h3 : (k2, b2) = stepF (emptiesBy g) (k1, b1) r := h3
          exact ws_nil ⟨(k2, b2), ⟨by rw [← h1, h3]; rfl, h4⟩, .same (.same (.same (.same (.drop (.same (.drop (.same .nil)))))))⟩
      · rintro ⟨k1, b1⟩ ⟨h1, h2⟩
        have h1 : (k1, b1) = passF (usefulBy g) (emptiesBy g) k := h1
        refine ws_nil ⟨m, (k1, b1), Nat.lt_succ_self m, ⟨h2, fun hb1 => ?_, fun hb1 => ?_⟩, Sub.refl _⟩
        · have e : fixF (usefulBy g) (emptiesBy g) (m + 1) k = fixF (usefulBy g) (emptiesBy g) m k1 := by
            show (if (passF _ _ k).2 = true then _ else _) = _
            rw [← h1, if_pos hb1]
          rw [← e]; exact hT
        · have e : fixF (usefulBy g) (emptiesBy g) (m + 1) k = some k1 := by
            show (if (passF _ _ k).2 = true then _ else _) = _
            rw [← h1, if_neg (by rw [show b1 = false from hb1]; exact Bool.false_ne_true)]
          rw [e] at hT
          exact Option.some.inj hT
    · have hk : k = firstsBy g := hF hb
      refine ws_frzKK 3 rfl (ws_ret (de_pure (v 3)) ?_)
      rw [hk]
end
end DL


set_option Elab.async false
set_option linter.all false
set_option maxRecDepth 100000
set_option maxHeartbeats 4000000
/-! W3: items. -/
namespace DL
open PySem PySem.Spec PyProof.Rows L2

theorem atI_nat {α : Type} {l : List α} {n : Int} (h0 : 0 ≤ n) : atI l n = l[n.toNat]? := by
  unfold atI ixN
  rw [if_pos h0]
  by_cases h : n < l.length
  · rw [if_pos h]; rfl
  · rw [if_neg h, List.getElem?_eq_none (by omega)]; rfl
theorem cut_from {ds : List PyData} {k : Int} (h : 0 ≤ k) : cutD ds (some k) none = ds.drop k.toNat := by
  obtain ⟨n, rfl⟩ := Int.eq_ofNat_of_zero_le h
  unfold cutD
  rw [HT.sIx_nat, HT.sIx_none, Int.toNat_natCast]
  by_cases hle : n ≤ ds.length
  · rw [Nat.min_eq_left hle, List.take_of_length_le (by rw [List.length_drop]; exact Nat.le_refl _)]
  · rw [Nat.min_eq_right (by omega), List.drop_of_length_le (Nat.le_refl _), List.drop_of_length_le (by omega)]
    simp
theorem cut_to {ds : List PyData} {k : Int} (h : 0 ≤ k) : cutD ds none (some k) = ds.take k.toNat := by
  obtain ⟨n, rfl⟩ := Int.eq_ofNat_of_zero_le h
  unfold cutD
  rw [HT.sIx_nat, HT.sIx_none, Int.toNat_natCast, List.drop_zero, Nat.sub_zero]
  by_cases hle : n ≤ ds.length
  · rw [Nat.min_eq_left hle]
  · rw [Nat.min_eq_right (by omega), List.take_of_length_le (Nat.le_refl _), List.take_of_length_le (by omega)]
/-! ### enumerate -/
def enumL {α : Type} : Nat → List α → List (Nat × α)
  | _, [] => []
  | n, a :: l => (n, a) :: enumL (n + 1) l
theorem enumD_map {α : Type} (enc : α → PyData) : ∀ (l : List α) (n : Nat), enumD n (l.map enc) = (enumL n l).map fun p => .tuple [.int (p.1 : Int), enc p.2]
  | [], _ => rfl
  | a :: l, n => by
    show .tuple [.int (n : Int), enc a] :: enumD (n + 1) (l.map enc) = _
    rw [enumD_map enc l (n + 1)]
    rfl
theorem enumL_mem {α : Type} : ∀ {l : List α} {n : Nat} {p : Nat × α}, p ∈ enumL n l → n ≤ p.1 ∧ l[p.1 - n]? = some p.2
  | [], _, _, h => by cases h
  | a :: l, n, p, h => by
    rcases List.mem_cons.mp h with e | h
    · rw [e]; simp
    · obtain ⟨h1, h2⟩ := enumL_mem h
      refine ⟨by omega, ?_⟩
      have e : p.1 - n = (p.1 - (n + 1)) + 1 := by omega
      rw [e, List.getElem?_cons_succ]
      exact h2
theorem enumL_len {α : Type} : ∀ (l : List α) (n : Nat), (enumL n l).length = l.length
  | [], _ => rfl
  | _ :: l, n => congrArg Nat.succ (enumL_len l (n + 1))
/-! ### items -/
abbrev It3 := Int × Int × Str
def encI (it : It3) : PyData := .tuple [.int it.1, .int it.2.1, .str it.2.2]
def keyI (it : It3) : List Key := [.inl it.1, .inl it.2.1, .inr it.2.2]
theorem keyI_inj {a b : It3} (h : keyI a = keyI b) : a = b := by
  obtain ⟨a1, a2, a3⟩ := a
  obtain ⟨b1, b2, b3⟩ := b
  simp [keyI] at h
  obtain ⟨h1, h2, h3⟩ := h
  rw [h1, h2, h3]
def encO : Option Str → PyData
  | none => .none
  | some x => .str x
def ruleAt (g : Gr) (n : Int) : Rl := (g[n.toNat]?).getD (⟨#[]⟩, [])
def partsOf (g : Gr) (n : Int) : List Str := if n = -1 then [(ruleAt g 0).1] else (ruleAt g n).2
def RuOk (g : Gr) (n : Int) : Prop := n = -1 ∨ (0 ≤ n ∧ n < g.length)
structure ItOk (g : Gr) (it : It3) : Prop where
  ru : RuOk g it.1
  pl : 0 ≤ it.2.1
  sg : PyData.strOk it.2.2 = true
def nextPart (g : Gr) (it : It3) : Option Str := (partsOf g it.1)[it.2.1.toNat]?
theorem rule_at {g : Gr} {n : Int} (h : 0 ≤ n) (h1 : n < g.length) : g[n.toNat]? = some (ruleAt g n) := by
  unfold ruleAt
  rw [List.getElem?_eq_getElem (show n.toNat < g.length by omega)]
  rfl
theorem rule_mem {g : Gr} {n : Int} (h : 0 ≤ n) (h1 : n < g.length) : ruleAt g n ∈ g := List.mem_of_getElem? (rule_at h h1)
theorem parts_ok {g : Gr} (G : GG g) {n : Int} (h : RuOk g n) : (partsOf g n).length ≤ 6 ∧ ∀ p ∈ partsOf g n, (Lt p ∨ Nm p) ∧ (Nm p → p ∈ g.map Prod.fst) := by
  unfold partsOf
  have h1 := G.n1
  rcases h with h | ⟨h2, h3⟩
  · rw [if_pos h]
    have hm : ruleAt g 0 ∈ g := rule_mem (by decide) (by omega)
    refine ⟨by simp, fun p hp => ?_⟩
    rw [List.mem_singleton.mp hp]
    exact ⟨.inr (G.nm _ hm), fun _ => List.mem_map.mpr ⟨_, hm, rfl⟩⟩
  · rw [if_neg (by omega)]
    have hm := rule_mem h2 h3
    exact ⟨G.pl _ hm, fun p hp => ⟨G.pt _ hm p hp, G.cl _ hm p hp⟩⟩
theorem next_ok {g : Gr} (G : GG g) {it : It3} (h : ItOk g it) {p : Str} (e : nextPart g it = some p) : (Lt p ∨ Nm p) ∧ (Nm p → p ∈ g.map Prod.fst) := (parts_ok G h.ru).2 p (List.mem_of_getElem? e)
/-! ### what is told of a grammar -/
structure Lore where
  ru : List (Str × List Nat)
  fi : List (Str × List Str)
  em : List Str
def encN (l : List Nat) : List PyData := l.map fun n : Nat => .int (n : Int)
def encRu (ru : List (Str × List Nat)) : List (Key × PyData) := ru.map fun p => (Sum.inr p.1, .list (encN p.2))
def encLore (L : Lore) : PyData := .tuple [dictD (encRu L.ru), kkD L.fi, .list (encS L.em)]
def ruGet (ru : List (Str × List Nat)) (x : Str) : List Nat := ((ru.find? fun p => decide (p.1 = x)).map (·.2)).getD []
def ruPut (ru : List (Str × List Nat)) (x : Str) (l : List Nat) : List (Str × List Nat) := if (ru.any fun p => decide (p.1 = x)) = true then ru.map (fun p => if p.1 = x then (p.1, l) else p) else ru ++ [(x, l)]
theorem ru_get (ru : List (Str × List Nat)) (x : Str) : (valD (encRu ru) (Sum.inr x)).getD (.list []) = .list (encN (ruGet ru x)) := by
  induction ru with
  | nil => rfl
  | cons p ru ih =>
    by_cases h : p.1 = x
    · simp [valD, encRu, ruGet, List.find?_cons, h]
    · have e1 : valD (encRu (p :: ru)) (Sum.inr x) = valD (encRu ru) (Sum.inr x) := by simp [valD, encRu, List.find?_cons, h]
      have e2 : ruGet (p :: ru) x = ruGet ru x := by simp [ruGet, List.find?_cons, h]
      rw [e1, e2, ih]
theorem ru_put (ru : List (Str × List Nat)) (x : Str) (l : List Nat) : putD (encRu ru) (Sum.inr x) (.list (encN l)) = encRu (ruPut ru x l) := by
  have e : ((encRu ru).any fun kv => decide (kv.1 = (Sum.inr x : Key))) = ru.any fun p => decide (p.1 = x) := by
    unfold encRu
    rw [List.any_map]
    congr 1
    funext p
    show decide ((Sum.inr p.1 : Key) = Sum.inr x) = decide (p.1 = x)
    exact decide_eq_decide.mpr ⟨Sum.inr.inj, fun z => by rw [z]⟩
  unfold putD ruPut
  rw [e]
  split
  · unfold encRu
    rw [List.map_map, List.map_map]
    refine List.map_congr_left fun p _ => ?_
    show (if (Sum.inr p.1 : Key) = Sum.inr x then ((Sum.inr p.1 : Key), PyData.list (encN l)) else _) = _
    by_cases h : p.1 = x
    · rw [if_pos (by rw [h])]
      show _ = (fun p : Str × List Nat => ((Sum.inr p.1 : Key), PyData.list (encN p.2))) (if p.1 = x then (p.1, l) else p)
      rw [if_pos h]
    · rw [if_neg fun z => h (Sum.inr.inj z)]
      show _ = (fun p : Str × List Nat => ((Sum.inr p.1 : Key), PyData.list (encN p.2))) (if p.1 = x then (p.1, l) else p)
      rw [if_neg h]
  · simp [encRu]
structure LoOk (g : Gr) (L : Lore) : Prop where
  ru : ∀ p ∈ L.ru, p.2.length ≤ 40 ∧ ∀ n ∈ p.2, n < g.length
  fi : ∀ x ∈ g.map Prod.fst, ∃ ls, kkAt L.fi x = some ls ∧ ls.length ≤ 240
  lt : ∀ p ∈ L.fi, ∀ y ∈ p.2, y ∈ lettersOf g
theorem ruGet_ok {g : Gr} {L : Lore} (O : LoOk g L) (x : Str) : (ruGet L.ru x).length ≤ 40 ∧ ∀ n ∈ ruGet L.ru x, n < g.length := by
  unfold ruGet
  cases e : L.ru.find? fun p => decide (p.1 = x) with
  | none => exact ⟨Nat.zero_le _, fun n h => (List.not_mem_nil h).elim⟩
  | some p => exact O.ru p (List.mem_of_find?_eq_some e)
def countingBy (g : Gr) : List Nat := ((enumL 0 g).filter fun p => okParts (makesBy g) p.2.2).map Prod.fst
def loreStep (g : Gr) (ru : List (Str × List Nat)) (n : Nat) : List (Str × List Nat) := ruPut ru (ruleAt g n).1 (ruGet ru (ruleAt g n).1 ++ [n])
def loreOf (g : Gr) : Lore := ⟨(countingBy g).foldl (loreStep g) [], firstsBy g, emptiesBy g⟩
theorem counting_lt {g : Gr} {n : Nat} (h : n ∈ countingBy g) : n < g.length := by
  obtain ⟨p, hp, rfl⟩ := List.mem_map.mp h
  obtain ⟨_, h2⟩ := enumL_mem (List.mem_filter.mp hp).1
  have := (List.getElem?_eq_some_iff.mp h2).1
  omega
theorem counting_len (g : Gr) : (countingBy g).length ≤ g.length := by
  unfold countingBy
  rw [List.length_map]
  refine Nat.le_trans (List.length_filter_le _ _) ?_
  rw [enumL_len]
  exact Nat.le_refl _
theorem ruPut_ok {Q : List Nat → Prop} {ru : List (Str × List Nat)} {x : Str} {l : List Nat} (h : ∀ p ∈ ru, Q p.2) (hl : Q l) : ∀ p ∈ ruPut ru x l, Q p.2 := by
  unfold ruPut
  intro p hp
  split at hp
  · obtain ⟨q, hq, e⟩ := List.mem_map.mp hp
    by_cases z : q.1 = x
    · rw [if_pos z] at e; rw [← e]; exact hl
    · rw [if_neg z] at e; rw [← e]; exact h q hq
  · rcases List.mem_append.mp hp with z | z
    · exact h p z
    · rw [List.mem_singleton.mp z]; exact hl
theorem ruGet_any {Q : List Nat → Prop} {ru : List (Str × List Nat)} {x : Str} (h : ∀ p ∈ ru, Q p.2) (h0 : Q []) : Q (ruGet ru x) := by
  unfold ruGet
  cases e : ru.find? fun p => decide (p.1 = x) with
  | none => exact h0
  | some p => exact h p (List.mem_of_find?_eq_some e)
theorem lore_fold {g : Gr} : ∀ (l : List Nat) (ru : List (Str × List Nat)) (m : Nat), (∀ n ∈ l, n < g.length) → (∀ p ∈ ru, p.2.length ≤ m ∧ ∀ n ∈ p.2, n < g.length) → ∀ p ∈ l.foldl (loreStep g) ru, p.2.length ≤ m + l.length ∧ ∀ n ∈ p.2, n < g.length
  | [], ru, m, _, h => h
  | n :: l, ru, m, hl, h => by
    have h1 : ∀ p ∈ loreStep g ru n, p.2.length ≤ m + 1 ∧ ∀ k ∈ p.2, k < g.length := by
      have hg := ruGet_any (Q := fun l => l.length ≤ m ∧ ∀ k ∈ l, k < g.length) (x := (ruleAt g n).1) h ⟨Nat.zero_le _, fun _ z => (List.not_mem_nil z).elim⟩
      refine ruPut_ok (Q := fun l => l.length ≤ m + 1 ∧ ∀ k ∈ l, k < g.length) (fun p hp => ⟨Nat.le_succ_of_le (h p hp).1, (h p hp).2⟩) ⟨by rw [List.length_append, List.length_singleton]; exact Nat.succ_le_succ hg.1, fun k hk => ?_⟩
      rcases List.mem_append.mp hk with z | z
      · exact hg.2 k z
      · rw [List.mem_singleton.mp z]; exact hl n List.mem_cons_self
    have h2 := lore_fold l (loreStep g ru n) (m + 1) (fun k hk => hl k (List.mem_cons_of_mem _ hk)) h1
    intro p hp
    obtain ⟨a, b⟩ := h2 p hp
    exact ⟨by rw [List.length_cons]; omega, b⟩
theorem lore_ok {g : Gr} (G : GG g) : LoOk g (loreOf g) := by
  obtain ⟨_, W⟩ := firsts_eq G
  refine ⟨fun p hp => ?_, fun x hx => ?_, W.sub⟩
  · obtain ⟨a, b⟩ := lore_fold (countingBy g) [] 0 (fun n hn => counting_lt hn) (fun _ z => (List.not_mem_nil z).elim) p hp
    have := counting_len g
    have := G.n2
    exact ⟨by omega, b⟩
  · obtain ⟨ls, e⟩ := kkAt_has (kvs := firstsBy g) (k := x) (by rw [W.keys]; exact mem_names.mpr hx)
    exact ⟨ls, e, W.lsl G e⟩
/-! ### calls -/
def restOf (g : Gr) (it : It3) : List Str := (partsOf g it.1).drop (it.2.1.toNat + 1)
def signsBehind (g : Gr) (L : Lore) (it : It3) : List Str := beginsBy L.fi L.em (restOf g it) ++ (if inParts L.em (restOf g it) = true then [it.2.2] else [])
def callsBy (g : Gr) (L : Lore) (it : It3) : List It3 := match nextPart g it with
  | none => []
  | some p => if isLetter p = true then [] else (ruGet L.ru p).flatMap fun n : Nat => (signsBehind g L it).map fun s => ((n : Int), (0 : Int), s)
theorem begins_len {kvs : List (Str × List Str)} {hollow : List Str} {parts : List Str} (B : BgOk kvs parts) : ∀ (l found : List Str), (∀ p ∈ l, p ∈ parts) → (beginsGo kvs hollow l found).length ≤ found.length + l.length * 240
  | [], found, _ => by unfold beginsGo; simp
  | p :: l, found, h => by
    unfold beginsGo
    split
    · rw [List.length_append]; simp; omega
    · rename_i c
      obtain ⟨ls, e, hl⟩ := B.kn p (h p List.mem_cons_self) (by simpa using c)
      rw [e]
      split
      · have := begins_len B (hollow := hollow) l (found ++ ls) fun q hq => h q (List.mem_cons_of_mem _ hq)
        rw [List.length_append] at this
        show (beginsGo kvs hollow l (found ++ ls)).length ≤ _
        rw [List.length_cons]
        omega
      · show (found ++ ls).length ≤ _
        rw [List.length_append, List.length_cons]
        omega
theorem rest_bg {g : Gr} (G : GG g) {L : Lore} (O : LoOk g L) {it : It3} (h : ItOk g it) : BgOk L.fi (restOf g it) := by
  obtain ⟨h1, h2⟩ := parts_ok G h.ru
  have hm : ∀ p ∈ restOf g it, p ∈ partsOf g it.1 := fun p hp => List.mem_of_mem_drop hp
  refine ⟨?_, fun p hp => ?_, fun p hp hl => ?_⟩
  · unfold restOf
    rw [List.length_drop]
    omega
  · rcases (h2 p (hm p hp)).1 with q | q <;> exact q.len
  · obtain ⟨q, k⟩ := h2 p (hm p hp)
    rcases q with q | q
    · rw [q.lt] at hl; cases hl
    · exact O.fi p (k q)
theorem signs_len {g : Gr} (G : GG g) {L : Lore} (O : LoOk g L) {it : It3} (h : ItOk g it) : (signsBehind g L it).length ≤ 1441 := by
  have B := rest_bg G O h
  have h1 := begins_len B (hollow := L.em) (restOf g it) [] fun _ z => z
  have h2 : (restOf g it).length ≤ 6 := by
    have := (parts_ok G h.ru).1
    unfold restOf
    rw [List.length_drop]
    omega
  unfold signsBehind
  rw [List.length_append]
  have h3 : (if inParts L.em (restOf g it) = true then [it.2.2] else []).length ≤ 1 := by split <;> simp
  have h1 : (beginsBy L.fi L.em (restOf g it)).length ≤ 0 + (restOf g it).length * 240 := h1
  omega
section
variable {P : Program} {w : World} {K : PySem.W.Frag} {mg : Str → Option Value} {base : Heap}
/-! counting -/
def R_counting (ds : List PyData) (d : PyData) : Prop := ∃ g : Gr, GG g ∧ ds = [encG g] ∧ d = .list (encN (countingBy g))
theorem sc_counting : FnScope ["grammar", "made", "found", "number", "rule", "part"] ["grammar"] (defScope KHead.s_counting) := ⟨rfl, rfl, rfl, by decide +kernel, rfl, by decide +kernel, by decide +kernel⟩
theorem ok_counting (T : Txt K mg) : DFn P w K mg base 4 "counting" ["grammar"] (spD K R_counting) := by
  refine T.fn 13 rfl rfl (fun _ _ _ _ _ _ us hl => match us, hl with | [_], _ => rfl) fun f fd F => fn_D F sc_counting (fun ds d ⟨g, _, h, _⟩ => by rw [h]; rfl) fun cdv A outer s H E ds d hr ⟨g, G, e1, e2⟩ => ?_
  subst e1 e2
  have nd := sc_counting.nd
  have hg := G.n2
  refine ws_set 1 (de_pure (dp_call (ok_makes_by T) hr ⟨g, G, rfl, rfl⟩ (da_cons (v 0) da_nil))) (ws_set 2 (de_lst da_nil (Nat.zero_le _)) ?_)
  refine ws_forP (S := List Nat) (xs := enumL 0 g) 3 4 (fun p : Nat × Rl => .int (p.1 : Int)) (fun p => encR p.2) (fun l acc => acc ++ (l.filter fun p => okParts (makesBy g) p.2.2).map Prod.fst = countingBy g ∧ acc.length + l.length ≤ 40) (fun acc => [some (dat (encG g)), some (dat (.list (encS (makesBy g)))), some (.b (.ol (encN acc))), none, none, none]) [] (by rw [← enumD_map]; exact di_enum rfl T.b_enumerate (v 0)) ⟨rfl, by rw [enumL_len]; simpa using hg⟩ (by exact Sub.refl _) ?_ ?_
  · rintro ⟨n, r⟩ l acc hp ⟨h1, h2⟩
    obtain ⟨_, hr1⟩ := enumL_mem hp
    have hrg : r ∈ g := List.mem_of_getElem? hr1
    have h2 : acc.length + (l.length + 1) ≤ 40 := h2
    refine ws_if1 (t := okParts (makesBy g) r.2) (dt_val (dp_all (bs := r.2.map fun p => isLetter p || decide (p ∈ makesBy g)) rfl rfl T.b_all (dl_dat (dp_to (lcN 5 (fun c : Str => .str c) (fun _ => true) (fun c => .bool (isLetter c || decide (c ∈ makesBy g))) (xs := r.2) (di_weak (di_tup (dp_ixT rfl (v 4) dp_int))) (fun a ha s H C cl fp => dts_nil) (fun a ha _ s H C cl fp => ?_) (szl (by have := G.pl r hrg; omega))) ?_)))) (fun h => ?_) fun h => ?_
    · have hl : a.length ≤ 4000 := by rw [G.len1 hrg ha]; decide
      exact dv_or (dp_call (ok_is_letter T) (hr.mono (by decide)) ⟨a, hl, rfl, rfl⟩ (da_cons (v 5) da_nil)) fun h => dv_one (dcm (cm_inS (v 5) (vd 1)))
    · rw [flt_true, List.map_map]; rfl
    · refine ws_exp (de_append 2 (ds := encN acc) rfl (de_pure (v 3)) rfl (szl (by simp [encN]; omega))) (ws_nil (ws_nil ⟨acc ++ [n], ⟨?_, by rw [List.length_append, List.length_singleton]; omega⟩, ?_⟩))
      · rw [← h1, List.filter_cons, if_pos h]
        simp
      · simp only [encN, List.map_append]
        exact .same (.same (.same (.drop (.drop (.same .nil)))))
    · refine ws_nil ⟨acc, ⟨?_, by omega⟩, .same (.same (.same (.drop (.drop (.same .nil)))))⟩
      rw [← h1, List.filter_cons, if_neg (by rw [h]; exact Bool.false_ne_true)]
  · intro acc ⟨h, _⟩
    have h : acc = countingBy g := by have : acc ++ [] = countingBy g := h; rwa [List.append_nil] at this
    refine ws_ret (de_frzL (mv 2)) ?_
    rw [h]
/-! lore_of -/
def R_lore_of (ds : List PyData) (d : PyData) : Prop := ∃ g : Gr, GG g ∧ ds = [encG g] ∧ d = encLore (loreOf g)
theorem sc_lore_of : FnScope ["grammar", "rules", "number", "name"] ["grammar"] (defScope KHead.s_lore_of) := ⟨rfl, rfl, rfl, by decide +kernel, rfl, by decide +kernel, by decide +kernel⟩
theorem ok_lore_of (T : Txt K mg) : DFn P w K mg base 6 "lore_of" ["grammar"] (spD K R_lore_of) := by
  refine T.fn 14 rfl rfl (fun _ _ _ _ _ _ us hl => match us, hl with | [_], _ => rfl) fun f fd F => fn_D F sc_lore_of (fun ds d ⟨g, _, h, _⟩ => by rw [h]; rfl) fun cdv A outer s H E ds d hr ⟨g, G, e1, e2⟩ => ?_
  subst e1 e2
  have nd := sc_lore_of.nd
  have hg := G.n2
  have hu := u1 hr
  refine ws_set 1 de_dictK ?_
  refine ws_forN (S := List (Str × List Nat)) (xs := countingBy g) 2 (fun n : Nat => .int (n : Int)) (fun l ru => l.foldl (loreStep g) ru = (loreOf g).ru ∧ ru.length + l.length ≤ 40 ∧ (∀ p ∈ ru, p.2.length + l.length ≤ 40)) (fun ru => [some (dat (encG g)), some (.b (.okd (encRu ru))), none, none]) [] (di_dat (dp_call (ok_counting T) (hr.mono (by decide)) ⟨g, G, rfl, rfl⟩ (da_cons (v 0) da_nil))) ⟨rfl, by have := counting_len g; simp; omega, fun _ z => (List.not_mem_nil z).elim⟩ (by exact Sub.refl _) ?_ ?_
  · intro n l ru hn ⟨h1, h2, h3⟩
    have hn' := counting_lt hn
    have h2 : ru.length + (l.length + 1) ≤ 40 := h2
    have hm : ruleAt g n ∈ g := rule_mem (n := (n : Int)) (by omega) (by omega)
    have hx := ruGet_any (Q := fun q => q.length + (l.length + 1) ≤ 40) (x := (ruleAt g n).1) h3 (by show 0 + (l.length + 1) ≤ 40; omega)
    refine ws_set 3 (de_pure (dp_ixT (ds := [.str (ruleAt g n).1, .tuple (encS (ruleAt g n).2)]) rfl (dp_ixL (ds := g.map encR) (n := (n : Int)) (d := encR (ruleAt g n)) (by rw [atI_nat (by omega), List.getElem?_map, rule_at (by omega) (by omega)]; rfl) (vd 0) (v 2)) dp_int)) ?_
    refine ws_dput 1 (kvs := encRu ru) (k := Sum.inr (ruleAt g n).1) (d := .list (encN (ruGet ru (ruleAt g n).1 ++ [n]))) (de_pure (dp_to (dp_catL (ds := encN (ruGet ru (ruleAt g n).1)) (ds' := encN [n]) (sz (by simp [encN]; omega)) (dl_dat (dp_to (dg2 (kvs := encRu ru) (k := Sum.inr (ruleAt g n).1) (d := .list []) hu (vk 1) (v 3) (dp_lst da_nil (Nat.zero_le _))) (ru_get _ _))) (dl_dat (dp_lst (da_cons (v 2) da_nil) (Nat.le_of_ble_eq_true rfl)))) (by simp [encN]))) rfl (v 3) (szl (by simp [encRu]; omega)) hu ?_
    refine ws_nil ⟨loreStep g ru n, ⟨h1, ?_, ?_⟩, ?_⟩
    · have : (loreStep g ru n).length ≤ ru.length + 1 := by
        unfold loreStep ruPut
        split
        · rw [List.length_map]; omega
        · rw [List.length_append]; exact Nat.le_refl _
      omega
    · exact ruPut_ok (Q := fun q => q.length + l.length ≤ 40) (fun p hp => by have := h3 p hp; rw [List.length_cons] at this; omega) (by rw [List.length_append, List.length_singleton]; omega)
    · rw [ru_put]
      exact .same (.same (.drop (.drop .nil)))
  · intro ru ⟨h1, _⟩
    have h1 : ru = (loreOf g).ru := h1
    subst h1
    refine ws_frzK (i := 1) rfl (ws_ret (de_pure (dp_tup (da_cons (v 1) (da_cons (dp_call (ok_firsts_by T) hr ⟨g, G, rfl, rfl⟩ (da_cons (v 0) da_nil)) (da_cons (dp_call (ok_empties_by T) (hr.mono (by decide)) ⟨g, G, rfl, rfl⟩ (da_cons (v 0) da_nil)) da_nil))) (Nat.le_of_ble_eq_true rfl))) rfl)
/-! parts_of, next_part -/
def R_parts_of (ds : List PyData) (d : PyData) : Prop := ∃ g n, GG g ∧ RuOk g n ∧ ds = [encG g, .int n] ∧ d = .tuple (encS (partsOf g n))
theorem sc_parts_of : FnScope ["grammar", "number"] ["grammar", "number"] (defScope KHead.s_parts_of) := ⟨rfl, rfl, rfl, by decide +kernel, rfl, by decide +kernel, by decide +kernel⟩
theorem ok_parts_of (T : Txt K mg) : DFn P w K mg base 1 "parts_of" ["grammar", "number"] (spD K R_parts_of) := by
  refine T.fn 15 rfl rfl (fun _ _ _ _ _ _ us hl => match us, hl with | [_, _], _ => rfl) fun f fd F => fn_D F sc_parts_of (fun ds d ⟨g, _, _, _, h, _⟩ => by rw [h]; rfl) fun cdv A outer s H E ds d hr ⟨g, n, G, hn, e1, e2⟩ => ?_
  subst e1 e2
  have h1 := G.n1
  refine ws_if1 (t := decide (n = -1)) (dt_to (tcm (cm_eqS rfl (v 1) (dp_gint rfl T.WHOLE))) rfl) (fun h => ?_) fun h => ?_
  · have h : n = -1 := of_decide_eq_true h
    refine ws_ret (de_pure (dp_tup (da_cons (dp_ixT (ds := [.str (ruleAt g 0).1, .tuple (encS (ruleAt g 0).2)]) (d := .str (ruleAt g 0).1) rfl (dp_ixL (ds := g.map encR) (n := 0) (d := encR (ruleAt g 0)) (by rw [atI_nat (by decide), List.getElem?_map, rule_at (by decide) (by omega)]; rfl) (vd 0) dp_int) dp_int) da_nil) (Nat.le_of_ble_eq_true rfl))) ?_
    show dat _ = dat _
    rw [show partsOf g n = [(ruleAt g 0).1] from if_pos h]
    rfl
  · have h : ¬ n = -1 := of_decide_eq_false h
    obtain ⟨h2, h3⟩ := hn.resolve_left h
    refine ws_ret (de_pure (dp_ixT (ds := [.str (ruleAt g n).1, .tuple (encS (ruleAt g n).2)]) (d := .tuple (encS (ruleAt g n).2)) rfl (dp_ixL (ds := g.map encR) (n := n) (d := encR (ruleAt g n)) (by rw [atI_nat h2, List.getElem?_map, rule_at h2 h3]; rfl) (vd 0) (v 1)) dp_int)) ?_
    show dat _ = dat _
    rw [show partsOf g n = (ruleAt g n).2 from if_neg h]
def R_next_part (ds : List PyData) (d : PyData) : Prop := ∃ g it, GG g ∧ ItOk g it ∧ ds = [encG g, encI it] ∧ d = encO (nextPart g it)
theorem sc_next_part : FnScope ["grammar", "item", "parts"] ["grammar", "item"] (defScope KHead.s_next_part) := ⟨rfl, rfl, rfl, by decide +kernel, rfl, by decide +kernel, by decide +kernel⟩
theorem ok_next_part (T : Txt K mg) : DFn P w K mg base 2 "next_part" ["grammar", "item"] (spD K R_next_part) := by
  refine T.fn 16 rfl rfl (fun _ _ _ _ _ _ us hl => match us, hl with | [_, _], _ => rfl) fun f fd F => fn_D F sc_next_part (fun ds d ⟨g, _, _, _, h, _⟩ => by rw [h]; rfl) fun cdv A outer s H E ds d hr ⟨g, it, G, hI, e1, e2⟩ => ?_
  subst e1 e2
  have nd := sc_next_part.nd
  have hp := hI.pl
  refine ws_set 2 (de_pure (dp_call (ok_parts_of T) hr ⟨g, it.1, G, hI.ru, rfl, rfl⟩ (da_cons (v 0) (da_cons (dp_ixT rfl (v 1) dp_int) da_nil)))) ?_
  refine ws_if1 (tcm (cm_lt (dp_ixT (d := .int it.2.1) rfl (v 1) dp_int) (dp_lenT rfl T.b_len (v 2)))) (fun h => ?_) fun h => ?_
  · have h : it.2.1 < (partsOf g it.1).length := by
      have := of_decide_eq_true h
      rwa [encS, List.length_map] at this
    have e : nextPart g it = some ((partsOf g it.1)[it.2.1.toNat]'(by omega)) := List.getElem?_eq_getElem (by omega)
    refine ws_ret (de_pure (dp_ixT (ds := encS (partsOf g it.1)) (n := it.2.1) (d := .str ((partsOf g it.1)[it.2.1.toNat]'(by omega))) ?_ (v 2) (dp_ixT rfl (v 1) dp_int))) ?_
    · rw [atI_nat hp, encS, List.getElem?_map, List.getElem?_eq_getElem (by omega)]
      rfl
    · rw [e]
      rfl
  · have h : ¬ it.2.1 < (partsOf g it.1).length := by
      have := of_decide_eq_false h
      rwa [encS, List.length_map] at this
    refine ws_ret (de_pure dp_non) ?_
    rw [show nextPart g it = none from List.getElem?_eq_none (by omega)]
    rfl
/-! signs_behind -/
def R_signs_behind (ds : List PyData) (d : PyData) : Prop := ∃ g it L, GG g ∧ ItOk g it ∧ LoOk g L ∧ ds = [encG g, encI it, encLore L] ∧ d = .list (encS (signsBehind g L it))
theorem sc_signs_behind : FnScope ["grammar", "item", "lore", "rest", "found", "part"] ["grammar", "item", "lore"] (defScope KHead.s_signs_behind) := ⟨rfl, rfl, rfl, by decide +kernel, rfl, by decide +kernel, by decide +kernel⟩
theorem ok_signs_behind (T : Txt K mg) : DFn P w K mg base 3 "signs_behind" ["grammar", "item", "lore"] (spD K R_signs_behind) := by
  refine T.fn 17 rfl rfl (fun _ _ _ _ _ _ us hl => match us, hl with | [_, _, _], _ => rfl) fun f fd F => fn_D F sc_signs_behind (fun ds d ⟨g, _, _, _, _, _, h, _⟩ => by rw [h]; rfl) fun cdv A outer s H E ds d hr ⟨g, it, L, G, hI, O, e1, e2⟩ => ?_
  subst e1 e2
  have nd := sc_signs_behind.nd
  have hp := hI.pl
  have B := rest_bg G O hI
  have hsl := signs_len G O hI
  refine ws_set 3 (de_pure (dp_to (dp_sliceT (ds := encS (partsOf g it.1)) (m := some (it.2.1 + 1)) (n := none) (dp_call (ok_parts_of T) (hr.mono (by decide)) ⟨g, it.1, G, hI.ru, rfl, rfl⟩ (da_cons (v 0) (da_cons (dp_ixT rfl (v 1) dp_int) da_nil))) (.som (dp_add (dp_ixT rfl (v 1) dp_int) dp_int)) .non) (da := .tuple (encS (restOf g it))) ?_)) ?_
  · rw [cut_from (by omega)]
    unfold restOf encS
    rw [List.map_drop]
    congr 2
    omega
  refine ws_set 4 (de_pure (dp_call (ok_begins_with T) hr ⟨restOf g it, L.fi, L.em, B, rfl, rfl⟩ (da_cons (v 3) (da_cons (dp_ixT rfl (v 2) dp_int) (da_cons (dp_ixT rfl (v 2) dp_int) da_nil))))) ?_
  refine ws_if1 (t := inParts L.em (restOf g it)) (dt_val (dp_all (bs := (restOf g it).map fun p => decide (p ∈ L.em)) rfl rfl T.b_all (dl_dat (dp_to (lcN 5 (fun c : Str => .str c) (fun _ => true) (fun c => .bool (decide (c ∈ L.em))) (xs := restOf g it) (di_weak (di_tup (v 3))) (fun a ha s H C cl fp => dts_nil) (fun a ha _ s H C cl fp => dcm (cm_inS (v 5) (dl_dat (dp_ixT rfl (v 2) dp_int)))) (szl (by have := B.len; omega))) ?_)))) (fun h => ?_) fun h => ?_
  · rw [flt_true, List.map_map]; rfl
  · have hl : (beginsBy L.fi L.em (restOf g it)).length ≤ 1441 := by
      unfold signsBehind at hsl
      rw [List.length_append] at hsl
      omega
    refine ws_set 4 (de_pure (dp_catL (ds := encS (beginsBy L.fi L.em (restOf g it))) (ds' := encS [it.2.2]) (sz (by simp [encS]; omega)) (vd 4) (dl_dat (dp_lst (da_cons (dp_ixT rfl (v 1) dp_int) da_nil) (Nat.le_of_ble_eq_true rfl))))) (ws_nil (ws_ret (de_pure (v 4)) ?_))
    show dat _ = dat _
    unfold signsBehind
    rw [if_pos h]
    simp [encS]
  · refine ws_ret (de_pure (v 4)) ?_
    show dat _ = dat _
    unfold signsBehind
    rw [if_neg (by rw [h]; exact Bool.false_ne_true), List.append_nil]
end
end DL


set_option Elab.async false
set_option linter.all false
set_option maxRecDepth 100000
set_option maxHeartbeats 4000000
/-! W4: stands. -/
namespace DL
open PySem PySem.Spec PyProof.Rows L2

/-! ### what is equal -/
theorem eqv_encI (a b : It3) : PyData.eqv (encI a) (encI b) = decide (a = b) := by
  obtain ⟨a1, a2, a3⟩ := a
  obtain ⟨b1, b2, b3⟩ := b
  simp only [encI, PyData.eqv, PyData.eqvAll]
  by_cases h1 : a1 = b1 <;> by_cases h2 : a2 = b2 <;> by_cases h3 : a3 = b3 <;> simp [h1, h2, h3]
inductive Deed where
  | done
  | go
  | rule (n : Int)
deriving DecidableEq
def sDone : Str := "done"
def sGo : Str := "go"
def sRule : Str := "rule"
def encD : Deed → PyData
  | .done => .tuple [.str sDone]
  | .go => .tuple [.str sGo]
  | .rule n => .tuple [.str sRule, .int n]
theorem eqv_encD (a b : Deed) : PyData.eqv (encD a) (encD b) = decide (a = b) := by
  have h1 : ¬ Str.ofString "done" = Str.ofString "go" := by decide +kernel
  have h2 : ¬ Str.ofString "go" = Str.ofString "done" := by decide +kernel
  have h3 : ∀ m n : Int, (m == n) = decide (m = n) := fun m n => by
    by_cases h : m = n <;> simp [h]
  cases a <;> cases b <;> simp [encD, PyData.eqv, PyData.eqvAll, sDone, sGo, sRule, h1, h2, h3]
def encP : Option (Str × Deed) → PyData
  | none => .none
  | some p => .tuple [.str p.1, encD p.2]
/-! ### sorted items, sorted deeds -/
def leI (a b : It3) : Bool := PySem.W.dataLe false id (encI a) (encI b)
def sortI (l : List It3) : List It3 := l.mergeSort leI
def leDd (a b : Deed) : Bool := PySem.W.dataLe false id (encD a) (encD b)
def sortDd (l : List Deed) : List Deed := l.mergeSort leDd
theorem sort_encI (l : List It3) : sortD (l.map encI) = (sortI l).map encI := (List.map_mergeSort (r := leI) (s := PySem.W.dataLe false id) (f := encI) fun a _ b _ => rfl).symm
theorem sort_encD (l : List Deed) : sortD (l.map encD) = (sortDd l).map encD := (List.map_mergeSort (r := leDd) (s := PySem.W.dataLe false id) (f := encD) fun a _ b _ => rfl).symm
theorem alike_encI (l : List It3) : PySem.W.AllAlike (l.map encI) := fun d hd d' hd' => by
  obtain ⟨a, _, rfl⟩ := List.mem_map.mp hd
  obtain ⟨b, _, rfl⟩ := List.mem_map.mp hd'
  simp [encI, PySem.W.alike, PySem.W.alikeAll]
theorem alike_encD (l : List Deed) : PySem.W.AllAlike (l.map encD) := fun d hd d' hd' => by
  obtain ⟨a, _, rfl⟩ := List.mem_map.mp hd
  obtain ⟨b, _, rfl⟩ := List.mem_map.mp hd'
  cases a <;> cases b <;> simp [encD, PySem.W.alike, PySem.W.alikeAll]
theorem sortable_encI (l : List It3) : PySem.W.Sortable (l.map encI) := .inl fun d hd => by
  obtain ⟨a, _, rfl⟩ := List.mem_map.mp hd
  exact ⟨_, _, rfl⟩
theorem sortable_encD (l : List Deed) : PySem.W.Sortable (l.map encD) := .inl fun d hd => by
  obtain ⟨a, _, rfl⟩ := List.mem_map.mp hd
  cases a <;> exact ⟨_, _, rfl⟩
theorem lay_encI {it : It3} (h : PyData.strOk it.2.2 = true) : PyData.canLay0 (encI it) = true := by simp [encI, PyData.canLay0, PyData.canLayAll0, h]
theorem lay_encIs : ∀ {l : List It3}, (∀ it ∈ l, PyData.strOk it.2.2 = true) → PyData.canLayAll0 (l.map encI) = true
  | [], _ => by simp [PyData.canLayAll0]
  | a :: l, h => by
    rw [List.map_cons, PyData.canLayAll0, lay_encI (h a List.mem_cons_self), lay_encIs fun it hi => h it (List.mem_cons_of_mem _ hi)]
    rfl
theorem lay_encD (a : Deed) : PyData.canLay0 (encD a) = true := by
  have h1 : PyData.strOk sDone = true := by decide +kernel
  have h2 : PyData.strOk sGo = true := by decide +kernel
  have h3 : PyData.strOk sRule = true := by decide +kernel
  cases a <;> simp [encD, PyData.canLay0, PyData.canLayAll0, h1, h2, h3]
theorem lay_encDs : ∀ l : List Deed, PyData.canLayAll0 (l.map encD) = true
  | [] => by simp [PyData.canLayAll0]
  | a :: l => by
    rw [List.map_cons, PyData.canLayAll0, lay_encD, lay_encDs l]
    rfl
theorem depth_encI (it : It3) : PyData.depth (encI it) = 1 := by simp [encI, PyData.depth, PyData.depthAll]
theorem depth_encD (a : Deed) : PyData.depth (encD a) = 1 := by cases a <;> simp [encD, PyData.depth, PyData.depthAll]
theorem depthAll_le {α : Type} {f : α → PyData} {n : Nat} : ∀ {l : List α}, (∀ a ∈ l, (f a).depth ≤ n) → PyData.depthAll (l.map f) ≤ n
  | [], _ => by simp [PyData.depthAll]
  | a :: l, h => by
    rw [List.map_cons, PyData.depthAll]
    have h1 := h a List.mem_cons_self
    have h2 := depthAll_le (l := l) fun b hb => h b (List.mem_cons_of_mem _ hb)
    omega
theorem sortI_perm (l : List It3) : (sortI l).Perm l := List.mergeSort_perm l leI
theorem sortI_mem {l : List It3} {it : It3} : it ∈ sortI l ↔ it ∈ l := (sortI_perm l).mem_iff
/-! ### closing -/
def addI (found : List It3) (it : It3) : List It3 := if it ∈ found then found else found ++ [it]
def itAt (l : List It3) (n : Nat) : It3 := (l[n]?).getD (0, 0, ⟨#[]⟩)
def closeGo (g : Gr) (L : Lore) : Nat → List It3 → Nat → Option (List It3)
  | 0, found, at_ => if at_ < found.length then none else some found
  | n + 1, found, at_ => if at_ < found.length then closeGo g L n ((callsBy g L (itAt found at_)).foldl addI found) (at_ + 1) else some found
def FUEL : Nat := 1000
def closedBy (g : Gr) (L : Lore) (items : List It3) : List It3 := (closeGo g L FUEL items 0).getD []
/-- the closing ends, within bounds -/
structure ClOk (g : Gr) (L : Lore) (items : List It3) : Prop where
  nd : items.Nodup
  ok : ∀ it ∈ items, ItOk g it
  go : closeGo g L FUEL items 0 = some (closedBy g L items)
  len : (closedBy g L items).length ≤ 1000
theorem adds_len : ∀ (l found : List It3), found.length ≤ (l.foldl addI found).length
  | [], _ => Nat.le_refl _
  | it :: l, found => by
    refine Nat.le_trans ?_ (adds_len l (addI found it))
    unfold addI
    split
    · exact Nat.le_refl _
    · rw [List.length_append]; omega
theorem adds_nd : ∀ (l : List It3) {found : List It3}, found.Nodup → (l.foldl addI found).Nodup
  | [], _, h => h
  | it :: l, found, h => by
    refine adds_nd l ?_
    unfold addI
    split
    · exact h
    · rename_i c
      exact List.nodup_append.mpr ⟨h, by simp, fun x hx y hy e => c (by rw [← List.mem_singleton.mp hy, ← e]; exact hx)⟩
theorem adds_mem : ∀ (l : List It3) {found : List It3} {x : It3}, x ∈ l.foldl addI found ↔ x ∈ found ∨ x ∈ l
  | [], _, _ => ⟨.inl, fun h => h.elim id fun z => (List.not_mem_nil z).elim⟩
  | it :: l, found, x => by
    rw [List.foldl_cons, adds_mem l]
    unfold addI
    constructor
    · rintro (h | h)
      · split at h
        · exact .inl h
        · rcases List.mem_append.mp h with z | z
          · exact .inl z
          · exact .inr (by rw [List.mem_singleton.mp z]; exact List.mem_cons_self)
      · exact .inr (List.mem_cons_of_mem _ h)
    · rintro (h | h)
      · left
        split
        · exact h
        · exact List.mem_append_left _ h
      · rcases List.mem_cons.mp h with e | h
        · left
          split
          · rename_i c; rw [e]; exact c
          · rw [e]; exact List.mem_append_right _ List.mem_cons_self
        · exact .inr h
theorem close_len {g : Gr} {L : Lore} : ∀ {n : Nat} {found : List It3} {at_ : Nat} {res : List It3}, closeGo g L n found at_ = some res → found.length ≤ res.length
  | 0, found, at_, res, h => by
    unfold closeGo at h
    split at h
    · cases h
    · cases h; exact Nat.le_refl _
  | n + 1, found, at_, res, h => by
    unfold closeGo at h
    split at h
    · exact Nat.le_trans (adds_len _ _) (close_len h)
    · cases h; exact Nat.le_refl _
theorem calls_ok {g : Gr} (G : GG g) {L : Lore} (O : LoOk g L) {it : It3} (h : ItOk g it) : (callsBy g L it).length ≤ 60000 ∧ ∀ x ∈ callsBy g L it, 0 ≤ x.1 ∧ x.1 < g.length ∧ x.2.1 = 0 ∧ (Lt x.2.2 ∨ x.2.2 = it.2.2) := by
  unfold callsBy
  split
  · exact ⟨Nat.zero_le _, fun x hx => (List.not_mem_nil hx).elim⟩
  · rename_i p hp
    split
    · exact ⟨Nat.zero_le _, fun x hx => (List.not_mem_nil hx).elim⟩
    · have hs := signs_len G O h
      obtain ⟨h1, h2⟩ := ruGet_ok O p
      constructor
      · have : ∀ l : List Nat, (l.flatMap fun n : Nat => (signsBehind g L it).map fun s => ((n : Int), (0 : Int), s)).length = l.length * (signsBehind g L it).length := fun l => by
          induction l with
          | nil => simp
          | cons a l ih => rw [List.flatMap_cons, List.length_append, ih, List.length_map, List.length_cons, Nat.succ_mul]; omega
        rw [this]
        have : (ruGet L.ru p).length * (signsBehind g L it).length ≤ 40 * 1441 := Nat.mul_le_mul h1 hs
        omega
      · intro x hx
        obtain ⟨n, hn, hx⟩ := List.mem_flatMap.mp hx
        obtain ⟨s, hs', rfl⟩ := List.mem_map.mp hx
        have hn := h2 n hn
        refine ⟨by show (0 : Int) ≤ (n : Int); omega, by show (n : Int) < _; omega, rfl, ?_⟩
        unfold signsBehind at hs'
        rcases List.mem_append.mp hs' with z | z
        · left
          have W : ∀ y ∈ beginsGo L.fi L.em (restOf g it) [], Lt y := by
            have hb : ∀ (l found : List Str), (∀ q ∈ l, q ∈ restOf g it) → (∀ y ∈ found, Lt y) → ∀ y ∈ beginsGo L.fi L.em l found, Lt y := by
              intro l
              induction l with
              | nil => exact fun found _ h => h
              | cons q l ih =>
                intro found hq hf y hy
                have hk : ∀ y ∈ found ++ (kkAt L.fi q).getD [], Lt y := fun y hy => by
                  rcases List.mem_append.mp hy with z | z
                  · exact hf y z
                  · cases e : kkAt L.fi q with
                    | none => rw [e] at z; cases z
                    | some ls =>
                      rw [e] at z
                      have hl := O.lt _ (kkAt_mem e) y z
                      obtain ⟨m1, m2⟩ := List.mem_filter.mp hl
                      obtain ⟨r, hr, hm⟩ := List.mem_flatMap.mp m1
                      rcases G.pt r hr y hm with q | q
                      · exact q
                      · rw [q.nl] at m2; cases m2
                unfold beginsGo at hy
                split at hy
                · rename_i c
                  rcases List.mem_append.mp hy with z | z
                  · exact hf y z
                  · rw [List.mem_singleton.mp z]
                    have hm := List.mem_of_mem_drop (hq q List.mem_cons_self)
                    rcases ((parts_ok G h.ru).2 q hm).1 with w | w
                    · exact w
                    · rw [w.nl] at c; cases c
                · split at hy
                  · exact ih _ (fun q' hq' => hq q' (List.mem_cons_of_mem _ hq')) hk y hy
                  · exact hk y hy
            exact hb _ _ (fun _ z => z) fun _ z => (List.not_mem_nil z).elim
          exact W s z
        · right
          split at z
          · exact List.mem_singleton.mp z
          · cases z
theorem calls_it {g : Gr} (G : GG g) {L : Lore} (O : LoOk g L) {it : It3} (h : ItOk g it) {x : It3} (hx : x ∈ callsBy g L it) : ItOk g x := by
  obtain ⟨h1, h2, h3, h4⟩ := (calls_ok G O h).2 x hx
  refine ⟨.inr ⟨h1, h2⟩, by omega, ?_⟩
  rcases h4 with q | q
  · exact q.ok
  · rw [q]; exact h.sg
section
variable {P : Program} {w : World} {K : PySem.W.Frag} {mg : Str → Option Value} {base : Heap}
/-! calls -/
def R_calls (ds : List PyData) (d : PyData) : Prop := ∃ g it L, GG g ∧ ItOk g it ∧ LoOk g L ∧ ds = [encG g, encI it, encLore L] ∧ d = .list ((callsBy g L it).map encI)
theorem sc_calls : FnScope ["grammar", "item", "lore", "part", "found", "signs", "number", "sign"] ["grammar", "item", "lore"] (defScope KHead.s_calls) := ⟨rfl, rfl, rfl, by decide +kernel, rfl, by decide +kernel, by decide +kernel⟩
theorem ok_calls (T : Txt K mg) : DFn P w K mg base 4 "calls" ["grammar", "item", "lore"] (spD K R_calls) := by
  refine T.fn 18 rfl rfl (fun _ _ _ _ _ _ us hl => match us, hl with | [_, _, _], _ => rfl) fun f fd F => fn_D F sc_calls (fun ds d ⟨g, _, _, _, _, _, h, _⟩ => by rw [h]; rfl) fun cdv A outer s H E ds d hr ⟨g, it, L, G, hI, O, e1, e2⟩ => ?_
  subst e1 e2
  have nd := sc_calls.nd
  have hu := u1 hr
  have hsl := signs_len G O hI
  refine ws_set 3 (de_pure (dp_call (ok_next_part T) (hr.mono (by decide)) ⟨g, it, G, hI, rfl, rfl⟩ (da_cons (v 0) (da_cons (v 1) da_nil)))) (ws_set 4 (de_lst da_nil (Nat.zero_le _)) ?_)
  cases hn : nextPart g it with
  | none =>
    have e : callsBy g L it = [] := by unfold callsBy; rw [hn]
    refine ws_if1 (t := false) (dt_to (PW.pt (dw_and (t := false) (u := false) (dt_to (tcm (cm_notN (v 3))) (by rw [show encO none = PyData.none from rfl]; rfl)) (fun h => by cases h))) rfl) (fun h => by cases h) fun _ => ws_ret (de_frzL (mv 4)) ?_
    rw [e]; rfl
  | some p =>
    have hpl : p.length ≤ 4000 := by rcases (next_ok G hI hn).1 with q | q <;> rw [q.len] <;> decide
    refine ws_if1 (t := !isLetter p) (dt_to (PW.pt (dw_and (t := true) (u := !isLetter p) (dt_to (tcm (cm_notN (v 3))) rfl) fun _ => dw_and1 (dt_not (dt_val (dp_call (ok_is_letter T) (hr.mono (by decide)) ⟨p, hpl, rfl, rfl⟩ (da_cons (v 3) da_nil)))))) (Bool.true_and _)) (fun h => ?_) fun h => ?_
    · have hl : ¬ isLetter p = true := by simpa using h
      obtain ⟨r1, r2⟩ := ruGet_ok O p
      refine ws_set 5 (de_pure (dp_call (ok_signs_behind T) hr ⟨g, it, L, G, hI, O, rfl, rfl⟩ (da_cons (v 0) (da_cons (v 1) (da_cons (v 2) da_nil))))) ?_
      refine ws_forN (S := List It3) (xs := ruGet L.ru p) 6 (fun n : Nat => .int (n : Int)) (fun l acc => acc ++ (l.flatMap fun n : Nat => (signsBehind g L it).map fun s => ((n : Int), (0 : Int), s)) = callsBy g L it ∧ acc.length + l.length * 1441 ≤ 60000) (fun acc => [some (dat (encG g)), some (dat (encI it)), some (dat (encLore L)), some (dat (.str p)), some (.b (.ol (acc.map encI))), some (dat (.list (encS (signsBehind g L it)))), none, none]) [] (di_dat (dp_to (dg2 (kvs := encRu L.ru) (k := Sum.inr p) (d := .list []) hu (dk_dat (dp_ixT rfl (v 2) dp_int)) (v 3) (dp_lst da_nil (Nat.zero_le _))) (ru_get _ _))) ⟨?_, ?_⟩ (by exact Sub.refl _) ?_ ?_
      · unfold callsBy
        rw [hn]
        show _ = if isLetter p = true then [] else _
        rw [if_neg hl]
        rfl
      · show 0 + _ ≤ _
        omega
      · intro n l acc _ ⟨h1, h2⟩
        have h2 : acc.length + (l.length + 1) * 1441 ≤ 60000 := h2
        refine ws_exp (de_extend 4 (ds := acc.map encI) (ds' := ((signsBehind g L it).map fun s => ((n : Int), (0 : Int), s)).map encI) rfl (dp_to (lcN 7 (fun c : Str => .str c) (fun _ => true) (fun c => encI ((n : Int), 0, c)) (xs := signsBehind g L it) (di_weak (di_dat (v 5))) (fun a ha s H C cl fp => dts_nil) (fun a ha _ s H C cl fp => dp_tup (da_cons (v 6) (da_cons dp_int (da_cons (v 7) da_nil))) (Nat.le_of_ble_eq_true rfl)) (szl (by omega))) (by rw [flt_true, List.map_map]; rfl)) (sz (by simp; omega))) (ws_nil ⟨acc ++ (signsBehind g L it).map (fun s => ((n : Int), (0 : Int), s)), ⟨?_, ?_⟩, ?_⟩)
        · rw [← h1, List.flatMap_cons, List.append_assoc]
        · rw [List.length_append, List.length_map]; omega
        · rw [List.map_append]
          exact .same (.same (.same (.same (.same (.same (.drop (.same .nil)))))))
      · intro acc ⟨h1, _⟩
        have h1 : acc = callsBy g L it := by have : acc ++ [] = callsBy g L it := h1; rwa [List.append_nil] at this
        refine ws_nil (ws_ret (de_frzL (mv 4)) ?_)
        rw [h1]
    · have hl : isLetter p = true := by simpa using h
      have e : callsBy g L it = [] := by
        unfold callsBy
        rw [hn]
        show (if isLetter p = true then _ else _) = _
        rw [if_pos hl]
      refine ws_ret (de_frzL (mv 4)) ?_
      rw [e]; rfl
/-! closed -/
def kwI (l : List It3) : List (List Key × PyData) := l.map fun it => (keyI it, .bool true)
theorem kwI_mem (x : It3) : ∀ l : List It3, (valG (kwI l) (keyI x)).isSome = decide (x ∈ l)
  | [] => rfl
  | y :: l => by
    have ih := kwI_mem x l
    by_cases h : y = x
    · have e : valG (kwI (y :: l)) (keyI x) = some (.bool true) := by simp [valG, kwI, List.find?_cons, h]
      rw [e, h]
      simp
    · have hk : ¬ keyI y = keyI x := fun z => h (keyI_inj z)
      have e : valG (kwI (y :: l)) (keyI x) = valG (kwI l) (keyI x) := by simp [valG, kwI, List.find?_cons, hk]
      rw [e, ih]
      exact decide_eq_decide.mpr (by simp [Ne.symm h])
theorem kwI_put {x : It3} {l : List It3} (h : x ∉ l) : putD (kwI l) (keyI x) (.bool true) = kwI (l ++ [x]) := by
  have hn : ((kwI l).any fun kv => decide (kv.1 = keyI x)) = false := by
    unfold kwI
    rw [List.any_map, List.any_eq_false]
    intro y hy
    have : ¬ keyI y = keyI x := fun z => h (by rw [← keyI_inj z]; exact hy)
    simpa using this
  unfold putD
  rw [hn]
  simp [kwI]
def R_closed (ds : List PyData) (d : PyData) : Prop := ∃ g items L, GG g ∧ LoOk g L ∧ ClOk g L items ∧ ds = [encG g, .list (items.map encI), encLore L] ∧ d = .list ((closedBy g L items).map encI)
theorem sc_closed : FnScope ["grammar", "items", "lore", "found", "known", "at", "item"] ["grammar", "items", "lore"] (defScope KHead.s_closed) := ⟨rfl, rfl, rfl, by decide +kernel, rfl, by decide +kernel, by decide +kernel⟩
theorem ok_closed (T : Txt K mg) : DFn P w K mg base 5 "closed" ["grammar", "items", "lore"] (spD K R_closed) := by
  refine T.fn 19 rfl rfl (fun _ _ _ _ _ _ us hl => match us, hl with | [_, _, _], _ => rfl) fun f fd F => fn_D F sc_closed (fun ds d ⟨g, _, _, _, _, _, h, _⟩ => by rw [h]; rfl) fun cdv A outer s H E ds d hr ⟨g, items, L, G, O, C, e1, e2⟩ => ?_
  subst e1 e2
  have nd := sc_closed.nd
  have hu := u1 hr
  have hlen := C.len
  have hil := close_len C.go
  refine ws_set 3 (de_listL rfl T.b_list (vd 1)) ?_
  refine ws_set 4 (de_dictPT (kvs := kwI items) (by
    unfold kwI
    rw [List.map_map]
    exact C.nd.map _ fun _ _ h => by simpa using fun z => h (keyI_inj z)) (u9 hr) (dp_to (lcN 6 encI (fun _ => true) (fun it : It3 => .tuple [encI it, .bool true]) (xs := items) (di_weak (di_dat (v 1))) (fun a ha s H C cl fp => dts_nil) (fun a ha _ s H C cl fp => dp_tup (da_cons (v 6) (da_cons dp_bl da_nil)) (Nat.le_of_ble_eq_true rfl)) (szl (by omega))) (by
      rw [flt_true, pairsT, kwI, List.map_map]
      rfl)) rfl T.b_dict) ?_
  refine ws_set 5 (de_pure dp_int) ?_
  refine ws_whileS (S := List It3 × Nat) (fun m s => closeGo g L m s.1 s.2 = some (closedBy g L items) ∧ (∀ it ∈ s.1, ItOk g it) ∧ s.1.Nodup) (fun s => [some (dat (encG g)), some (dat (.list (items.map encI))), some (dat (encLore L)), some (.b (.ol (s.1.map encI))), some (.b (.otd (kwI s.1))), some (dat (.int (s.2 : Int))), none]) FUEL (items, 0) ⟨C.go, C.ok, C.nd⟩ (Sub.refl _) ?_
  rintro m ⟨found, at_⟩ ⟨h1, h2, h3⟩
  have hfl : found.length ≤ _ := close_len h1
  refine ⟨decide (at_ < found.length), dt_to (tcm (cm_lt (v 5) (dp_lenL rfl T.b_len (vl 3)))) (decide_eq_decide.mpr (by show (at_ : Int) < ((found.map encI).length : Int) ↔ at_ < found.length; rw [List.length_map]; omega)), fun hb => ?_, fun hb => ?_⟩
  · have hlt : at_ < found.length := of_decide_eq_true hb
    obtain ⟨m, rfl⟩ : ∃ m', m = m' + 1 := by
      cases m with
      | zero =>
        unfold closeGo at h1
        rw [if_pos hlt] at h1
        cases h1
      | succ m' => exact ⟨m', rfl⟩
    have h1 : closeGo g L m ((callsBy g L (itAt found at_)).foldl addI found) (at_ + 1) = some (closedBy g L items) := by
      have : (if at_ < found.length then closeGo g L m ((callsBy g L (itAt found at_)).foldl addI found) (at_ + 1) else some found) = some (closedBy g L items) := h1
      rwa [if_pos hlt] at this
    have hat : found[at_]? = some (itAt found at_) := by unfold itAt; rw [List.getElem?_eq_getElem hlt]; rfl
    have hIt : ItOk g (itAt found at_) := h2 _ (List.mem_of_getElem? hat)
    have hfl2 := close_len h1
    obtain ⟨c1, c2⟩ := calls_ok G O hIt
    refine ws_forN (S := List It3) (xs := callsBy g L (itAt found at_)) 6 encI (fun l acc => l.foldl addI acc = (callsBy g L (itAt found at_)).foldl addI found ∧ (∀ it ∈ acc, ItOk g it) ∧ acc.Nodup) (fun acc => [some (dat (encG g)), some (dat (.list (items.map encI))), some (dat (encLore L)), some (.b (.ol (acc.map encI))), some (.b (.otd (kwI acc))), some (dat (.int (at_ : Int))), none]) found (di_dat (dp_call (ok_calls T) hr ⟨g, itAt found at_, L, G, hIt, O, rfl, rfl⟩ (da_cons (v 0) (da_cons (dp_ixL (ds := found.map encI) (n := (at_ : Int)) (d := encI (itAt found at_)) (by rw [atI_nat (by omega), List.getElem?_map, Int.toNat_natCast, hat]; rfl) (vl 3) (v 5)) (da_cons (v 2) da_nil))))) ⟨rfl, h2, h3⟩ (by exact Sub.refl _) ?_ ?_
    · intro it l acc hit ⟨j1, j2, j3⟩
      have hal : acc.length ≤ 1000 := by
        have := adds_len (it :: l) acc
        rw [j1] at this
        omega
      refine ws_if1 (t := decide (it ∉ acc)) (dt_to (tcm (cm_notInT (k := keyI it) hu (v 6) (vt 4))) ?_) (fun h => ?_) fun h => ?_
      · rw [kwI_mem]
        simp
      · have hn : it ∉ acc := of_decide_eq_true h
        refine ws_dputT 4 (kvs := kwI acc) (k := keyI it) (de_pure (dp_bl (y := true))) rfl (v 6) (szl (by simp [kwI]; omega)) hu ?_
        refine ws_exp (de_append 3 (ds := acc.map encI) (ds0 := acc.map encI) rfl (de_pure (v 6)) rfl (szl (by simp; omega))) (ws_nil (ws_nil ⟨acc ++ [it], ⟨?_, fun x hx => ?_, ?_⟩, ?_⟩))
        · rw [← j1, List.foldl_cons]
          unfold addI
          rw [if_neg hn]
        · rcases List.mem_append.mp hx with z | z
          · exact j2 x z
          · rw [List.mem_singleton.mp z]; exact calls_it G O hIt hit
        · exact List.nodup_append.mpr ⟨j3, by simp, fun x hx y hy e => hn (by rw [← List.mem_singleton.mp hy, ← e]; exact hx)⟩
        · rw [kwI_put hn, List.map_append]
          exact .same (.same (.same (.same (.same (.same (.drop .nil))))))
      · have hn : ¬ it ∉ acc := of_decide_eq_false h
        refine ws_nil ⟨acc, ⟨?_, j2, j3⟩, .same (.same (.same (.same (.same (.same (.drop .nil))))))⟩
        rw [← j1, List.foldl_cons]
        unfold addI
        rw [if_pos (Classical.not_not.mp hn)]
    · intro acc ⟨j1, j2, j3⟩
      have j1 : acc = (callsBy g L (itAt found at_)).foldl addI found := j1
      refine ws_set 5 (de_pure (dp_add (v 5) dp_int)) (ws_nil ⟨m, (acc, at_ + 1), Nat.lt_succ_self m, ⟨by rw [j1]; exact h1, j2, j3⟩, ?_⟩)
      have e : ((at_ : Int) + 1) = ((at_ + 1 : Nat) : Int) := by omega
      rw [e]
      exact .same (.same (.same (.same (.same (.same (.same .nil))))))
  · have hlt : ¬ at_ < found.length := of_decide_eq_false hb
    have e : found = closedBy g L items := by
      cases m with
      | zero =>
        unfold closeGo at h1
        rw [if_neg hlt] at h1
        exact Option.some.inj h1
      | succ m' =>
        unfold closeGo at h1
        rw [if_neg hlt] at h1
        exact Option.some.inj h1
    refine ws_ret (de_frzL (mv 3)) ?_
    rw [e]
/-! starting_by -/
def item0 : It3 := (-1, 0, sEND)
def startBy (g : Gr) (L : Lore) : List It3 := closedBy g L [item0]
def R_starting_by (ds : List PyData) (d : PyData) : Prop := ∃ g L, GG g ∧ LoOk g L ∧ ClOk g L [item0] ∧ ds = [encG g, encLore L] ∧ d = .list ((startBy g L).map encI)
theorem sc_starting_by : FnScope ["grammar", "lore"] ["grammar", "lore"] (defScope KHead.s_starting_by) := ⟨rfl, rfl, rfl, by decide +kernel, rfl, by decide +kernel, by decide +kernel⟩
theorem ok_starting_by (T : Txt K mg) : DFn P w K mg base 6 "starting_by" ["grammar", "lore"] (spD K R_starting_by) := by
  refine T.fn 20 rfl rfl (fun _ _ _ _ _ _ us hl => match us, hl with | [_, _], _ => rfl) fun f fd F => fn_D F sc_starting_by (fun ds d ⟨g, _, _, _, _, h, _⟩ => by rw [h]; rfl) fun cdv A outer s H E ds d hr ⟨g, L, G, O, C, e1, e2⟩ => ?_
  subst e1 e2
  exact ws_ret (de_pure (dp_call (ok_closed T) hr ⟨g, [item0], L, G, O, C, rfl, rfl⟩ (da_cons (v 0) (da_cons (dp_lst (da_cons (dp_tup (da_cons (dp_gint rfl T.WHOLE) (da_cons dp_int (da_cons (dp_gstr rfl T.END) da_nil))) (Nat.le_of_ble_eq_true rfl)) da_nil) (Nat.le_of_ble_eq_true rfl)) (da_cons (v 1) da_nil))))) rfl
end
end DL


set_option Elab.async false
set_option linter.all false
set_option maxRecDepth 100000
set_option maxHeartbeats 4000000
/-! W5: stands moved, deeds. -/
namespace DL
open PySem PySem.Spec PyProof.Rows L2

def isNext (g : Gr) (p : Str) (it : It3) : Bool := decide (nextPart g it = some p)
def advBy (g : Gr) (stand : List It3) (p : Str) : List It3 := sortI ((stand.filter (isNext g p)).map fun it => (it.1, it.2.1 + 1, it.2.2))
def movedBy (g : Gr) (L : Lore) (stand : List It3) (p : Str) : List It3 := closedBy g L (advBy g stand p)
/-- a stand's items -/
def StOk (g : Gr) (stand : List It3) : Prop := stand.length ≤ 1000 ∧ ∀ it ∈ stand, ItOk g it
def deedOf (g : Gr) (it : It3) : Option (Str × Deed) := match nextPart g it with
  | none => if it = (-1, 1, sEND) then some (sEND, .done) else if it.1 = -1 then none else some (it.2.2, .rule it.1)
  | some p => if isLetter p = true then some (p, .go) else none
abbrev NB := List (Str × List Deed)
def nbGet (nb : NB) (x : Str) : List Deed := ((nb.find? fun p => decide (p.1 = x)).map (·.2)).getD []
def nbPut (nb : NB) (x : Str) (l : List Deed) : NB := if (nb.any fun p => decide (p.1 = x)) = true then nb.map (fun p => if p.1 = x then (p.1, l) else p) else nb ++ [(x, l)]
def encDs (l : List Deed) : PyData := .list (l.map encD)
def encNB (nb : NB) : List (Key × PyData) := nb.map fun p => (Sum.inr p.1, encDs p.2)
def nbStep (nb : NB) (o : Option (Str × Deed)) : NB := match o with
  | none => nb
  | some p => if p.2 ∈ nbGet nb p.1 then nb else nbPut nb p.1 (sortDd (nbGet nb p.1 ++ [p.2]))
def namedBy (g : Gr) (stand : List It3) : NB := stand.foldl (fun nb it => nbStep nb (deedOf g it)) []
theorem nb_get (nb : NB) (x : Str) : (valD (encNB nb) (Sum.inr x)).getD (.list []) = encDs (nbGet nb x) := by
  induction nb with
  | nil => rfl
  | cons p nb ih =>
    by_cases h : p.1 = x
    · simp [valD, encNB, nbGet, List.find?_cons, h]
    · have e1 : valD (encNB (p :: nb)) (Sum.inr x) = valD (encNB nb) (Sum.inr x) := by simp [valD, encNB, List.find?_cons, h]
      have e2 : nbGet (p :: nb) x = nbGet nb x := by simp [nbGet, List.find?_cons, h]
      rw [e1, e2, ih]
theorem nb_put (nb : NB) (x : Str) (l : List Deed) : putD (encNB nb) (Sum.inr x) (encDs l) = encNB (nbPut nb x l) := by
  have e : ((encNB nb).any fun kv => decide (kv.1 = (Sum.inr x : Key))) = nb.any fun p => decide (p.1 = x) := by
    unfold encNB
    rw [List.any_map]
    congr 1
    funext p
    show decide ((Sum.inr p.1 : Key) = Sum.inr x) = decide (p.1 = x)
    exact decide_eq_decide.mpr ⟨Sum.inr.inj, fun z => by rw [z]⟩
  unfold putD nbPut
  rw [e]
  split
  · unfold encNB
    rw [List.map_map, List.map_map]
    refine List.map_congr_left fun p _ => ?_
    show (if (Sum.inr p.1 : Key) = Sum.inr x then ((Sum.inr p.1 : Key), encDs l) else _) = _
    by_cases h : p.1 = x
    · rw [if_pos (by rw [h])]
      show _ = (fun p : Str × List Deed => ((Sum.inr p.1 : Key), encDs p.2)) (if p.1 = x then (p.1, l) else p)
      rw [if_pos h]
    · rw [if_neg fun z => h (Sum.inr.inj z)]
      show _ = (fun p : Str × List Deed => ((Sum.inr p.1 : Key), encDs p.2)) (if p.1 = x then (p.1, l) else p)
      rw [if_neg h]
  · simp [encNB]
theorem nbPut_ok {Q : List Deed → Prop} {nb : NB} {x : Str} {l : List Deed} (h : ∀ p ∈ nb, Q p.2) (hl : Q l) : ∀ p ∈ nbPut nb x l, Q p.2 := by
  unfold nbPut
  intro p hp
  split at hp
  · obtain ⟨q, hq, e⟩ := List.mem_map.mp hp
    by_cases z : q.1 = x
    · rw [if_pos z] at e; rw [← e]; exact hl
    · rw [if_neg z] at e; rw [← e]; exact h q hq
  · rcases List.mem_append.mp hp with z | z
    · exact h p z
    · rw [List.mem_singleton.mp z]; exact hl
theorem nbGet_any {Q : List Deed → Prop} {nb : NB} {x : Str} (h : ∀ p ∈ nb, Q p.2) (h0 : Q []) : Q (nbGet nb x) := by
  unfold nbGet
  cases e : nb.find? fun p => decide (p.1 = x) with
  | none => exact h0
  | some p => exact h p (List.mem_of_find?_eq_some e)
theorem nbPut_len (nb : NB) (x : Str) (l : List Deed) : (nbPut nb x l).length ≤ nb.length + 1 := by
  unfold nbPut
  split
  · rw [List.length_map]; omega
  · rw [List.length_append]; exact Nat.le_refl _
theorem sortDd_len (l : List Deed) : (sortDd l).length = l.length := (List.mergeSort_perm l leDd).length_eq
theorem eqd_encO (o : Option Str) (p : Str) : scD (encO o) (.str p) = true ∧ eqD (encO o) (.str p) = decide (o = some p) := by
  cases o with
  | none => exact ⟨rfl, by simp [encO, eqD]⟩
  | some q => exact ⟨rfl, by simp [encO, eqD]⟩
section
variable {P : Program} {w : World} {K : PySem.W.Frag} {mg : Str → Option Value} {base : Heap}
/-! advanced -/
def R_advanced (ds : List PyData) (d : PyData) : Prop := ∃ g stand p, GG g ∧ StOk g stand ∧ ds = [encG g, .list (stand.map encI), .str p] ∧ d = .list ((advBy g stand p).map encI)
theorem sc_advanced : FnScope ["grammar", "stand", "part", "item"] ["grammar", "stand", "part"] (defScope KHead.s_advanced) := ⟨rfl, rfl, rfl, by decide +kernel, rfl, by decide +kernel, by decide +kernel⟩
theorem ok_advanced (T : Txt K mg) : DFn P w K mg base 3 "advanced" ["grammar", "stand", "part"] (spD K R_advanced) := by
  refine T.fn 21 rfl rfl (fun _ _ _ _ _ _ us hl => match us, hl with | [_, _, _], _ => rfl) fun f fd F => fn_D F sc_advanced (fun ds d ⟨g, _, _, _, _, h, _⟩ => by rw [h]; rfl) fun cdv A outer s H E ds d hr ⟨g, stand, p, G, S, e1, e2⟩ => ?_
  subst e1 e2
  have nd := sc_advanced.nd
  have hz := S.1
  refine ws_ret (de_pure (dp_to (dp_sorted (ds := ((stand.filter (isNext g p)).map fun it => ((it.1, it.2.1 + 1, it.2.2) : It3)).map encI) (lay_encIs fun it hi => ?_) (alike_encI _) (sortable_encI _) (fun d hd => ?_) rfl T.b_sorted (dl_dat (dp_to (lcN 3 encI (isNext g p) (fun it : It3 => encI (it.1, it.2.1 + 1, it.2.2)) (xs := stand) (di_weak (di_dat (v 1))) (fun it hit s H C cl fp => dts_one (dt_to (tcm (cm_eqS (eqd_encO _ _).1 (dp_call (ok_next_part T) hr ⟨g, it, G, S.2 it hit, rfl, rfl⟩ (da_cons (v 0) (da_cons (v 3) da_nil))) (v 2))) (eqd_encO _ _).2)) (fun it hit _ s H C cl fp => dp_tup (da_cons (dp_ixT rfl (v 3) dp_int) (da_cons (dp_add (dp_ixT rfl (v 3) dp_int) dp_int) (da_cons (dp_ixT rfl (v 3) dp_int) da_nil))) (Nat.le_of_ble_eq_true rfl)) (szl (by omega))) ?_))) ?_)) rfl
  · obtain ⟨it', hi', rfl⟩ := List.mem_map.mp hi
    exact (S.2 it' (List.mem_filter.mp hi').1).sg
  · obtain ⟨it', hi', rfl⟩ := List.mem_map.mp hd
    rw [depth_encI]
    exact un3 hr (by decide)
  · rw [List.map_map]; rfl
  · rw [sort_encI]; rfl
/-! moved_by -/
def R_moved_by (ds : List PyData) (d : PyData) : Prop := ∃ g stand p L, GG g ∧ StOk g stand ∧ LoOk g L ∧ ClOk g L (advBy g stand p) ∧ ds = [encG g, .list (stand.map encI), .str p, encLore L] ∧ d = .list ((movedBy g L stand p).map encI)
theorem sc_moved_by : FnScope ["grammar", "stand", "part", "lore"] ["grammar", "stand", "part", "lore"] (defScope KHead.s_moved_by) := ⟨rfl, rfl, rfl, by decide +kernel, rfl, by decide +kernel, by decide +kernel⟩
theorem ok_moved_by (T : Txt K mg) : DFn P w K mg base 6 "moved_by" ["grammar", "stand", "part", "lore"] (spD K R_moved_by) := by
  refine T.fn 22 rfl rfl (fun _ _ _ _ _ _ us hl => match us, hl with | [_, _, _, _], _ => rfl) fun f fd F => fn_D F sc_moved_by (fun ds d ⟨g, _, _, _, _, _, _, _, h, _⟩ => by rw [h]; rfl) fun cdv A outer s H E ds d hr ⟨g, stand, p, L, G, S, O, C, e1, e2⟩ => ?_
  subst e1 e2
  exact ws_ret (de_pure (dp_call (ok_closed T) hr ⟨g, advBy g stand p, L, G, O, C, rfl, rfl⟩ (da_cons (v 0) (da_cons (dp_call (ok_advanced T) (hr.mono (by decide)) ⟨g, stand, p, G, S, rfl, rfl⟩ (da_cons (v 0) (da_cons (v 1) (da_cons (v 2) da_nil)))) (da_cons (v 3) da_nil))))) rfl
/-! deed_of -/
def R_deed_of (ds : List PyData) (d : PyData) : Prop := ∃ g it, GG g ∧ ItOk g it ∧ ds = [encG g, encI it] ∧ d = encP (deedOf g it)
theorem sc_deed_of : FnScope ["grammar", "item", "part"] ["grammar", "item"] (defScope KHead.s_deed_of) := ⟨rfl, rfl, rfl, by decide +kernel, rfl, by decide +kernel, by decide +kernel⟩
theorem ok_deed_of (T : Txt K mg) : DFn P w K mg base 3 "deed_of" ["grammar", "item"] (spD K R_deed_of) := by
  refine T.fn 23 rfl rfl (fun _ _ _ _ _ _ us hl => match us, hl with | [_, _], _ => rfl) fun f fd F => fn_D F sc_deed_of (fun ds d ⟨g, _, _, _, h, _⟩ => by rw [h]; rfl) fun cdv A outer s H E ds d hr ⟨g, it, G, hI, e1, e2⟩ => ?_
  subst e1 e2
  have nd := sc_deed_of.nd
  have hu := hr.units
  have l2 : (2 : Nat) ≤ sizeLine := Nat.le_of_ble_eq_true rfl
  have l1 : (1 : Nat) ≤ sizeLine := Nat.le_of_ble_eq_true rfl
  refine ws_set 2 (de_pure (dp_call (ok_next_part T) hr ⟨g, it, G, hI, rfl, rfl⟩ (da_cons (v 0) (da_cons (v 1) da_nil)))) ?_
  cases hn : nextPart g it with
  | none =>
    refine ws_if1 (t := true) (dt_to (tcm (cm_isN (v 2))) rfl) (fun _ => ?_) (fun h => by cases h)
    refine ws_if1 (t := decide (it = (-1, 1, sEND))) (dt_to (tcm (cm_eqG (da := encI it) (db := encI (-1, 1, sEND)) (lay_encI hI.sg) (lay_encI (by decide +kernel)) (by rw [depth_encI, depth_encI]; exact un2 hr (by decide)) (v 1) (dp_tup (da_cons (dp_gint rfl T.WHOLE) (da_cons dp_int (da_cons (dp_gstr rfl T.END) da_nil))) (Nat.le_of_ble_eq_true rfl)))) (eqv_encI _ _)) (fun h => ?_) fun h => ?_
    · have h := of_decide_eq_true h
      refine ws_ret (de_pure (dp_tup (da_cons (dp_gstr rfl T.END) (da_cons (dp_tup (da_cons dp_str da_nil) l1) da_nil)) l2)) ?_
      show dat _ = dat (encP (deedOf g it))
      unfold deedOf
      rw [hn]
      show _ = dat (encP (if it = (-1, 1, sEND) then _ else _))
      rw [if_pos h]
      rfl
    · have h := of_decide_eq_false h
      refine ws_if1 (t := !decide (it.1 = -1)) (dt_to (tcm (cm_neS rfl (dp_ixT (d := .int it.1) rfl (v 1) dp_int) (dp_gint rfl T.WHOLE))) rfl) (fun h2 => ?_) fun h2 => ?_
      · have h2 : ¬ it.1 = -1 := by simpa using h2
        refine ws_ret (de_pure (dp_tup (da_cons (dp_ixT (d := .str it.2.2) rfl (v 1) dp_int) (da_cons (dp_tup (da_cons dp_str (da_cons (dp_ixT (d := .int it.1) rfl (v 1) dp_int) da_nil)) l2) da_nil)) l2)) ?_
        show dat _ = dat (encP (deedOf g it))
        unfold deedOf
        rw [hn]
        show _ = dat (encP (if it = (-1, 1, sEND) then _ else if it.1 = -1 then _ else _))
        rw [if_neg h, if_neg h2]
        rfl
      · have h2 : it.1 = -1 := by simpa using h2
        refine ws_ret (de_pure dp_non) ?_
        show dat _ = dat (encP (deedOf g it))
        unfold deedOf
        rw [hn]
        show _ = dat (encP (if it = (-1, 1, sEND) then _ else if it.1 = -1 then _ else _))
        rw [if_neg h, if_pos h2]
        rfl
  | some p =>
    have hpl : p.length ≤ 4000 := by rcases (next_ok G hI hn).1 with q | q <;> rw [q.len] <;> decide
    refine ws_if1 (t := false) (dt_to (tcm (cm_isN (v 2))) rfl) (fun h => by cases h) fun _ => ?_
    refine ws_if1 (dt_val (dp_call (ok_is_letter T) (hr.mono (by decide)) ⟨p, hpl, rfl, rfl⟩ (da_cons (v 2) da_nil))) (fun h => ?_) fun h => ?_
    · refine ws_ret (de_pure (dp_tup (da_cons (v 2) (da_cons (dp_tup (da_cons dp_str da_nil) l1) da_nil)) l2)) ?_
      show dat _ = dat (encP (deedOf g it))
      unfold deedOf
      rw [hn]
      show _ = dat (encP (if isLetter p = true then _ else _))
      rw [if_pos h]
      rfl
    · refine ws_ret (de_pure dp_non) ?_
      show dat _ = dat (encP (deedOf g it))
      unfold deedOf
      rw [hn]
      show _ = dat (encP (if isLetter p = true then _ else _))
      rw [if_neg (by rw [h]; exact Bool.false_ne_true)]
      rfl
/-! named_by -/
def R_named_by (ds : List PyData) (d : PyData) : Prop := ∃ g stand, GG g ∧ StOk g stand ∧ ds = [encG g, .list (stand.map encI)] ∧ d = dictD (encNB (namedBy g stand))
theorem sc_named_by : FnScope ["grammar", "stand", "found", "item", "pair"] ["grammar", "stand"] (defScope KHead.s_named_by) := ⟨rfl, rfl, rfl, by decide +kernel, rfl, by decide +kernel, by decide +kernel⟩
theorem ok_named_by (T : Txt K mg) : DFn P w K mg base 4 "named_by" ["grammar", "stand"] (spD K R_named_by) := by
  refine T.fn 24 rfl rfl (fun _ _ _ _ _ _ us hl => match us, hl with | [_, _], _ => rfl) fun f fd F => fn_D F sc_named_by (fun ds d ⟨g, _, _, _, h, _⟩ => by rw [h]; rfl) fun cdv A outer s H E ds d hr ⟨g, stand, G, S, e1, e2⟩ => ?_
  subst e1 e2
  have nd := sc_named_by.nd
  have hz := S.1
  have hu := u1 hr
  have hun := hr.units
  refine ws_set 2 de_dictK ?_
  refine ws_forN (S := NB) (xs := stand) 3 encI (fun l nb => l.foldl (fun nb it => nbStep nb (deedOf g it)) nb = namedBy g stand ∧ nb.length + l.length ≤ 1000 ∧ (∀ p ∈ nb, p.2.length + l.length ≤ 1000)) (fun nb => [some (dat (encG g)), some (dat (.list (stand.map encI))), some (.b (.okd (encNB nb))), none, none]) [] (di_dat (v 1)) ⟨rfl, by simpa using hz, fun _ z => (List.not_mem_nil z).elim⟩ (by exact Sub.refl _) ?_ ?_
  · intro it l nb hit ⟨h1, h2, h3⟩
    have h2 : nb.length + (l.length + 1) ≤ 1000 := h2
    rw [List.foldl_cons] at h1
    refine ws_set 4 (de_pure (dp_call (ok_deed_of T) hr ⟨g, it, G, S.2 it hit, rfl, rfl⟩ (da_cons (v 0) (da_cons (v 3) da_nil)))) ?_
    cases hd : deedOf g it with
    | none =>
      rw [hd] at h1
      refine ws_if1 (t := false) (dt_to (PW.pt (dw_and (t := false) (u := false) (dt_to (tcm (cm_notN (v 4))) rfl) (fun h => by cases h))) rfl) (fun h => by cases h) fun _ => ws_nil ⟨nb, ⟨h1, by omega, fun p hp => by have := h3 p hp; rw [List.length_cons] at this; omega⟩, .same (.same (.same (.drop (.drop .nil))))⟩
    | some q =>
      rw [hd] at h1
      have hx := nbGet_any (Q := fun y => y.length + (l.length + 1) ≤ 1000) (x := q.1) h3 (by show 0 + (l.length + 1) ≤ 1000; omega)
      refine ws_if1 (t := decide (q.2 ∉ nbGet nb q.1)) (dt_to (PW.pt (dw_and (t := true) (u := decide (q.2 ∉ nbGet nb q.1)) (dt_to (tcm (cm_notN (v 4))) rfl) fun _ => dw_and1 (dt_to (tcm (cm_notInG (da := encD q.2) (ds := (nbGet nb q.1).map encD) (lay_encD _) (lay_encDs _) ?_ (dp_ixT rfl (v 4) dp_int) (dl_dat (dp_to (dg2 (kvs := encNB nb) (k := Sum.inr q.1) (d := .list []) hu (vk 2) (dp_ixT (d := .str q.1) rfl (v 4) dp_int) (dp_lst da_nil (Nat.zero_le _))) (nb_get _ _))))) ?_))) (Bool.true_and _)) (fun h => ?_) fun h => ?_
      · rw [depth_encD]
        exact un3 hr (by omega)
      · rw [List.any_map]
        have e : ((fun z => PyData.eqv z (encD q.2)) ∘ encD) = fun a => decide (a = q.2) := funext fun a => eqv_encD a q.2
        rw [e]
        by_cases hm : q.2 ∈ nbGet nb q.1
        · have : (nbGet nb q.1).any (fun a => decide (a = q.2)) = true := List.any_eq_true.mpr ⟨q.2, hm, decide_eq_true rfl⟩
          rw [this]
          simp [hm]
        · have : (nbGet nb q.1).any (fun a => decide (a = q.2)) = false := List.any_eq_false.mpr fun a ha => by
            simp
            intro e
            exact hm (by rw [← e]; exact ha)
          rw [this]
          simp [hm]
      · have hm : q.2 ∉ nbGet nb q.1 := of_decide_eq_true h
        have es : nbStep nb (some q) = nbPut nb q.1 (sortDd (nbGet nb q.1 ++ [q.2])) := if_neg hm
        refine ws_dput 2 (kvs := encNB nb) (k := Sum.inr q.1) (d := encDs (sortDd (nbGet nb q.1 ++ [q.2]))) (de_pure (dp_to (dp_sorted (ds := (nbGet nb q.1 ++ [q.2]).map encD) (lay_encDs _) (alike_encD _) (sortable_encD _) (fun d hd => ?_) rfl T.b_sorted (dl_dat (dp_to (dp_catL (ds := (nbGet nb q.1).map encD) (ds' := [encD q.2]) (sz (by simp; omega)) (dl_dat (dp_to (dg2 (kvs := encNB nb) (k := Sum.inr q.1) (d := .list []) hu (vk 2) (dp_ixT (d := .str q.1) rfl (v 4) dp_int) (dp_lst da_nil (Nat.zero_le _))) (nb_get _ _))) (dl_dat (dp_lst (da_cons (dp_ixT rfl (v 4) dp_int) da_nil) (Nat.le_of_ble_eq_true rfl)))) (by simp)))) (by rw [sort_encD]; rfl))) rfl (dp_ixT (d := .str q.1) rfl (v 4) dp_int) (szl (by simp [encNB]; omega)) hu ?_
        · obtain ⟨a, _, rfl⟩ := List.mem_map.mp hd
          rw [depth_encD]
          exact un3 hr (by decide)
        · rw [es] at h1
          refine ws_nil (ws_nil ⟨nbPut nb q.1 (sortDd (nbGet nb q.1 ++ [q.2])), ⟨h1, by have := nbPut_len nb q.1 (sortDd (nbGet nb q.1 ++ [q.2])); omega, nbPut_ok (Q := fun y => y.length + l.length ≤ 1000) (fun p hp => by have := h3 p hp; rw [List.length_cons] at this; omega) (by rw [sortDd_len, List.length_append, List.length_singleton]; omega)⟩, ?_⟩)
          rw [nb_put]
          exact .same (.same (.same (.drop (.drop .nil))))
      · have hm : ¬ q.2 ∉ nbGet nb q.1 := of_decide_eq_false h
        have es : nbStep nb (some q) = nb := if_pos (Classical.not_not.mp hm)
        rw [es] at h1
        exact ws_nil ⟨nb, ⟨h1, by omega, fun p hp => by have := h3 p hp; rw [List.length_cons] at this; omega⟩, .same (.same (.same (.drop (.drop .nil))))⟩
  · intro nb ⟨h1, _⟩
    have h1 : nb = namedBy g stand := h1
    refine ws_ret (de_frzK (mv 2)) ?_
    rw [h1]
/-! is_item -/
structure ItemIs (g : Gr) (counted : List Nat) (it : It3) : Prop where
  ok : ItOk g it
  ct : it.1 = -1 ∨ it.1 ∈ counted.map (fun n : Nat => (n : Int))
  pl : it.2.1 ≤ (partsOf g it.1).length
  sg : it.2.2 = sEND ∨ Lt it.2.2
def R_is_item (ds : List PyData) (d : PyData) : Prop := ∃ g it counted, GG g ∧ ItemIs g counted it ∧ ds = [encG g, encI it, .list (encN counted)] ∧ d = .bool true
theorem sc_is_item : FnScope ["grammar", "item", "counted"] ["grammar", "item", "counted"] (defScope KHead.s_is_item) := ⟨rfl, rfl, rfl, by decide +kernel, rfl, by decide +kernel, by decide +kernel⟩
theorem ok_is_item (T : Txt K mg) : DFn P w K mg base 2 "is_item" ["grammar", "item", "counted"] (spD K R_is_item) := by
  refine T.fn 25 rfl rfl (fun _ _ _ _ _ _ us hl => match us, hl with | [_, _, _], _ => rfl) fun f fd F => fn_D F sc_is_item (fun ds d ⟨g, _, _, _, _, h, _⟩ => by rw [h]; rfl) fun cdv A outer s H E ds d hr ⟨g, it, counted, G, I, e1, e2⟩ => ?_
  subst e1 e2
  have hp := I.ok.pl
  have hpl := I.pl
  have en : encN counted = (counted.map fun n : Nat => (n : Int)).map .int := by unfold encN; rw [List.map_map]; rfl
  refine ws_if1 (t := false) (dt_to (PW.pt (dw_and (t := !decide (it.1 = -1)) (u := !decide (it.1 ∈ counted.map (fun n : Nat => (n : Int)))) (dt_to (tcm (cm_neS rfl (dp_ixT (d := .int it.1) rfl (v 1) dp_int) (dp_gint rfl T.WHOLE))) rfl) fun _ => dw_and1 (tcm (cm_notInI (dp_ixT (d := .int it.1) rfl (v 1) dp_int) (by rw [← en]; exact vd 2))))) ?_) (fun h => by cases h) fun _ => ?_
  · rcases I.ct with c | c
    · rw [decide_eq_true c]; rfl
    · rw [decide_eq_true c]; simp
  refine ws_if1 (t := false) (dt_to (dt_not (dt_chainI op_le op_le dp_int (dp_ixT (d := .int it.2.1) rfl (v 1) dp_int) (dp_lenT (ds := encS (partsOf g it.1)) rfl T.b_len (dp_call (ok_parts_of T) hr ⟨g, it.1, G, I.ok.ru, rfl, rfl⟩ (da_cons (v 0) (da_cons (dp_ixT rfl (v 1) dp_int) da_nil)))) rfl)) ?_) (fun h => by cases h) fun _ => ?_
  · have e1 : decide ((0 : Int) ≤ it.2.1) = true := decide_eq_true hp
    have e2 : decide (it.2.1 ≤ ((encS (partsOf g it.1)).length : Int)) = true := decide_eq_true (by rw [encS, List.length_map]; exact hpl)
    rw [e1, e2]; rfl
  have hsl : it.2.2.length ≤ 4000 := by
    rcases I.sg with c | c
    · rw [c]; decide +kernel
    · rw [c.len]; decide
  refine ws_ret (de_pure (dp_to (dv_or (t := decide (it.2.2 = sEND)) (dp_to (dcm (cm_eqS rfl (dp_ixT (d := .str it.2.2) rfl (v 1) dp_int) (dp_gstr rfl T.END))) rfl) fun _ => dv_one (dp_call (ok_is_letter T) hr ⟨it.2.2, hsl, rfl, rfl⟩ (da_cons (dp_ixT rfl (v 1) dp_int) da_nil))) ?_)) rfl
  rcases I.sg with c | c
  · rw [decide_eq_true c]; rfl
  · rw [c.lt, Bool.or_true]
end
end DL


set_option Elab.async false
set_option linter.all false
set_option maxRecDepth 100000
set_option maxHeartbeats 4000000
/-! W6: tables looked at. -/
namespace DL
open PySem PySem.Spec PyProof.Rows L2

/-- what stands in a row -/
inductive TD where
  | done
  | goto (j : Int)
  | rule (n : Int)
deriving DecidableEq
def encT : TD → PyData
  | .done => .tuple [.str sDone]
  | .goto j => .tuple [.str sGo, .int j]
  | .rule n => .tuple [.str sRule, .int n]
abbrev Row := List (Str × TD)
def encRow (r : Row) : List (Key × PyData) := r.map fun p => (Sum.inr p.1, encT p.2)
def encTab (t : List Row) : PyData := .list (t.map fun r => dictD (encRow r))
def isDone : TD → Bool
  | .done => true
  | _ => false
theorem ne_words : ¬ Str.ofString "done" = Str.ofString "go" ∧ ¬ Str.ofString "go" = Str.ofString "done" ∧ ¬ Str.ofString "rule" = Str.ofString "done" ∧ ¬ Str.ofString "rule" = Str.ofString "go" ∧ ¬ Str.ofString "done" = Str.ofString "rule" ∧ ¬ Str.ofString "go" = Str.ofString "rule" := by decide +kernel
theorem eqv_done (a : TD) : PyData.eqv (encT a) (.tuple [.str sDone]) = isDone a := by
  obtain ⟨h1, h2, h3, _⟩ := ne_words
  cases a <;> simp [encT, PyData.eqv, PyData.eqvAll, sDone, sGo, sRule, isDone]
theorem lay_encT (a : TD) : PyData.canLay0 (encT a) = true := by
  have h1 : PyData.strOk sDone = true := by decide +kernel
  have h2 : PyData.strOk sGo = true := by decide +kernel
  have h3 : PyData.strOk sRule = true := by decide +kernel
  cases a <;> simp [encT, PyData.canLay0, PyData.canLayAll0, h1, h2, h3]
theorem depth_encT (a : TD) : PyData.depth (encT a) = 1 := by cases a <;> simp [encT, PyData.depth, PyData.depthAll]
def KeyOk (g : Gr) (k : Str) : Prop := k = sEND ∨ Lt k ∨ (Nm k ∧ k ∈ namesBy g)
def TDok (g : Gr) (n : Nat) (k : Str) : TD → Prop
  | .done => k = sEND
  | .goto j => k ≠ sEND ∧ 0 ≤ j ∧ j < n
  | .rule m => (k = sEND ∨ Lt k) ∧ 0 ≤ m ∧ m < g.length
structure RowOk (g : Gr) (n : Nat) (r : Row) : Prop where
  nd : (r.map Prod.fst).Nodup
  len : r.length ≤ 1000
  key : ∀ p ∈ r, KeyOk g p.1
  td : ∀ p ∈ r, TDok g n p.1 p.2
structure TabOk (g : Gr) (t : List Row) : Prop where
  n1 : 1 ≤ t.length
  n2 : t.length ≤ 200
  row : ∀ r ∈ t, RowOk g t.length r
theorem KeyOk.len {g : Gr} {k : Str} (h : KeyOk g k) : k.length = 1 := by
  rcases h with h | h | h
  · rw [h]; decide +kernel
  · exact h.len
  · exact h.1.len
theorem end_nl : isLetter sEND = false := by decide +kernel
section
variable {P : Program} {w : World} {K : PySem.W.Frag} {mg : Str → Option Value} {base : Heap}
def R_is_deed (ds : List PyData) (d : PyData) : Prop := ∃ g n k td, GG g ∧ n ≤ 200 ∧ KeyOk g k ∧ TDok g n k td ∧ ds = [encG g, .int (n : Int), .str k, encT td] ∧ d = .bool true
theorem sc_is_deed : FnScope ["grammar", "rows", "key", "deed"] ["grammar", "rows", "key", "deed"] (defScope KHead.s_is_deed) := ⟨rfl, rfl, rfl, by decide +kernel, rfl, by decide +kernel, by decide +kernel⟩
theorem ok_is_deed (T : Txt K mg) : DFn P w K mg base 2 "is_deed" ["grammar", "rows", "key", "deed"] (spD K R_is_deed) := by
  refine T.fn 26 rfl rfl (fun _ _ _ _ _ _ us hl => match us, hl with | [_, _, _, _], _ => rfl) fun f fd F => fn_D F sc_is_deed (fun ds d ⟨g, _, _, _, _, _, _, _, h, _⟩ => by rw [h]; rfl) fun cdv A outer s H E ds d hr ⟨g, n, k, td, G, hn, hk, ht, e1, e2⟩ => ?_
  subst e1 e2
  have hkl : k.length ≤ 4000 := by rw [hk.len]; decide
  have hd : PyData.canLay0 (PyData.tuple [.str sDone]) = true := lay_encT .done
  refine ws_if1 (t := isDone td) (dt_to (tcm (cm_eqG (da := encT td) (db := .tuple [.str sDone]) (lay_encT td) hd (by rw [depth_encT]; exact un2 hr (by omega)) (v 3) (dp_tup (da_cons dp_str da_nil) (Nat.le_of_ble_eq_true rfl)))) (eqv_done td)) (fun h => ?_) fun h => ?_
  · refine ws_ret (de_pure (dp_to (dcm (cm_eqS (da := .str k) (db := .str sEND) rfl (v 2) (dp_gstr rfl T.END))) ?_)) rfl
    cases td with
    | done => rw [show k = sEND from ht]; rfl
    | goto j => cases h
    | rule m => cases h
  cases td with
  | done => cases h
  | goto j =>
    obtain ⟨h1, h2, h3⟩ := ht
    refine ws_if1 (t := false) (dt_to (tcm (cm_neS (da := .int 2) (db := .int 2) rfl (dp_lenT (ds := [.str sGo, .int j]) rfl T.b_len (v 3)) dp_int)) rfl) (fun h => by cases h) fun _ => ?_
    refine ws_if1 (t := true) (dt_to (tcm (cm_eqS (da := .str sGo) (db := .str sGo) rfl (dp_ixT (ds := [.str sGo, .int j]) (d := .str sGo) rfl (v 3) dp_int) dp_str)) (by simp [eqD])) (fun _ => ?_) fun h => by cases h
    refine ws_ret (de_pure (dp_to (dv_and (t := true) (u := true) (dp_to (dcm (cm_neS (da := .str k) (db := .str sEND) rfl (v 2) (dp_gstr rfl T.END))) (by simp [eqD, h1])) fun _ => dv_one (dp_to (dp_chainI op_le op_lt dp_int (dp_ixT (ds := [.str sGo, .int j]) (d := .int j) rfl (v 3) dp_int) (v 1) rfl) ?_)) rfl)) rfl
    rw [decide_eq_true h2, decide_eq_true h3]
    rfl
  | rule m =>
    obtain ⟨h1, h2, h3⟩ := ht
    refine ws_if1 (t := false) (dt_to (tcm (cm_neS (da := .int 2) (db := .int 2) rfl (dp_lenT (ds := [.str sRule, .int m]) rfl T.b_len (v 3)) dp_int)) rfl) (fun h => by cases h) fun _ => ?_
    refine ws_if1 (t := false) (dt_to (tcm (cm_eqS (da := .str sRule) (db := .str sGo) rfl (dp_ixT (ds := [.str sRule, .int m]) (d := .str sRule) rfl (v 3) dp_int) dp_str)) (by simp only [eqD]; exact decide_eq_false ne_words.2.2.2.1)) (fun h => by cases h) fun _ => ?_
    refine ws_ret (de_pure (dp_to (dv_and (t := true) (u := true) (dp_to (dcm (cm_eqS (da := .str sRule) (db := .str sRule) rfl (dp_ixT (ds := [.str sRule, .int m]) (d := .str sRule) rfl (v 3) dp_int) dp_str)) (by simp [eqD])) fun _ => dp_to (dv_and (t := true) (u := true) (dp_to (dv_or (t := decide (k = sEND)) (dp_to (dcm (cm_eqS (da := .str k) (db := .str sEND) rfl (v 2) (dp_gstr rfl T.END))) rfl) fun _ => dv_one (dp_call (ok_is_letter T) hr ⟨k, hkl, rfl, rfl⟩ (da_cons (v 2) da_nil))) ?_) fun _ => dv_one (dp_to (dp_chainI op_le op_lt dp_int (dp_ixT (ds := [.str sRule, .int m]) (d := .int m) rfl (v 3) dp_int) (dp_lenL (ds := g.map encR) rfl T.b_len (vd 0)) rfl) ?_)) rfl) rfl)) rfl
    · rcases h1 with c | c
      · rw [decide_eq_true c]; rfl
      · rw [c.lt, Bool.or_true]
    · rw [decide_eq_true h2, List.length_map, decide_eq_true h3]
      rfl
def R_is_table_by (ds : List PyData) (d : PyData) : Prop := ∃ g t, GG g ∧ TabOk g t ∧ ds = [encG g, encTab t] ∧ d = .bool true
theorem sc_is_table_by : FnScope ["grammar", "table", "keys", "row", "key", "deed"] ["grammar", "table"] (defScope KHead.s_is_table_by) := ⟨rfl, rfl, rfl, by decide +kernel, rfl, by decide +kernel, by decide +kernel⟩
theorem items_row (r : Row) : itemsD (encRow r) = r.map fun p => .tuple [.str p.1, encT p.2] := by
  unfold itemsD encRow
  rw [List.map_map]
  rfl
theorem ok_is_table_by (T : Txt K mg) : DFn P w K mg base 3 "is_table_by" ["grammar", "table"] (spD K R_is_table_by) := by
  refine T.fn 27 rfl rfl (fun _ _ _ _ _ _ us hl => match us, hl with | [_, _], _ => rfl) fun f fd F => fn_D F sc_is_table_by (fun ds d ⟨g, _, _, _, h, _⟩ => by rw [h]; rfl) fun cdv A outer s H E ds d hr ⟨g, t, G, B, e1, e2⟩ => ?_
  subst e1 e2
  have nd := sc_is_table_by.nd
  have h1 := B.n1
  have h2 := B.n2
  refine ws_if1 (t := false) (dt_to (dt_not (dt_chainI op_le op_le dp_int (dp_lenL (ds := t.map fun r => dictD (encRow r)) rfl T.b_len (vd 1)) (dp_gint rfl T.MOST_ROWS) rfl)) ?_) (fun h => by cases h) fun _ => ?_
  · have e1 : decide ((1 : Int) ≤ ((t.map fun r => dictD (encRow r)).length : Int)) = true := decide_eq_true (by rw [List.length_map]; omega)
    have e2 : decide (((t.map fun r => dictD (encRow r)).length : Int) ≤ 200) = true := decide_eq_true (by rw [List.length_map]; omega)
    rw [e1, e2]; rfl
  refine ws_set 2 (de_pure (dp_call (ok_names_by T) (hr.mono (by decide)) ⟨g, by have := G.n2; omega, rfl, rfl⟩ (da_cons (v 0) da_nil))) ?_
  refine ws_forN (S := Unit) (xs := t) 3 (fun r : Row => dictD (encRow r)) (fun _ _ => True) (fun _ => [some (dat (encG g)), some (dat (encTab t)), some (dat (.list (encS (namesBy g)))), none, none, none]) () (di_dat (v 1)) trivial (by exact Sub.refl _) ?_ ?_
  · intro r l _ hrt _
    have RO := B.row r hrt
    refine ws_forP (S := Unit) (xs := r) 4 5 (fun p : Str × TD => .str p.1) (fun p => encT p.2) (fun _ _ => True) (fun _ => [some (dat (encG g)), some (dat (encTab t)), some (dat (.list (encS (namesBy g)))), some (dat (dictD (encRow r))), none, none]) () (by rw [← items_row]; exact di_items (v 3)) trivial (by exact Sub.refl _) ?_ ?_
    · intro p l' _ hp _
      have hk := RO.key p hp
      have hkl : p.1.length ≤ 4000 := by rw [hk.len]; decide
      refine ws_if1 (t := false) (dt_to (PW.pt (dw_and (t := !decide (p.1 = sEND)) (u := (!isLetter p.1) && !decide (p.1 ∈ namesBy g)) (dt_to (tcm (cm_neS (da := .str p.1) (db := .str sEND) rfl (v 4) (dp_gstr rfl T.END))) rfl) fun _ => dw_and (t := !isLetter p.1) (u := !decide (p.1 ∈ namesBy g)) (dt_not (dt_val (dp_call (ok_is_letter T) (hr.mono (by decide)) ⟨p.1, hkl, rfl, rfl⟩ (da_cons (v 4) da_nil)))) fun _ => dw_and1 (tcm (cm_notInS (v 4) (vd 2))))) ?_) (fun h => by cases h) fun _ => ?_
      · rcases hk with c | c | c
        · rw [decide_eq_true c]; rfl
        · rw [c.lt]; simp
        · rw [decide_eq_true c.2]; simp
      · refine ws_if1 (t := false) (dt_to (dt_not (dt_val (dp_call (ok_is_deed T) hr ⟨g, t.length, p.1, p.2, G, h2, hk, RO.td p hp, rfl, rfl⟩ (da_cons (v 0) (da_cons (dp_to (dp_lenL (ds := t.map fun r => dictD (encRow r)) rfl T.b_len (vd 1)) (by rw [List.length_map])) (da_cons (v 4) (da_cons (v 5) da_nil))))))) rfl) (fun h => by cases h) fun _ => ws_nil ⟨(), trivial, .same (.same (.same (.same (.drop (.drop .nil)))))⟩
    · intro _ _
      exact ws_nil ⟨(), trivial, .same (.same (.same (.drop (.same (.same .nil)))))⟩
  · intro _ _
    exact ws_ret (de_pure dp_bl) rfl
def R_must_be_table (ds : List PyData) (d : PyData) : Prop := ∃ g t, GG g ∧ TabOk g t ∧ ds = [encG g, encTab t] ∧ d = .none
theorem sc_must_be_table : FnScope ["grammar", "table"] ["grammar", "table"] (defScope KHead.s_must_be_table) := ⟨rfl, rfl, rfl, by decide +kernel, rfl, by decide +kernel, by decide +kernel⟩
theorem ok_must_be_table (T : Txt K mg) : DFn P w K mg base 4 "must_be_table" ["grammar", "table"] (spD K R_must_be_table) := by
  refine T.fn 28 rfl rfl (fun _ _ _ _ _ _ us hl => match us, hl with | [_, _], _ => rfl) fun f fd F => fn_D F sc_must_be_table (fun ds d ⟨g, _, _, _, h, _⟩ => by rw [h]; rfl) fun cdv A outer s H E ds d hr ⟨g, t, G, B, e1, e2⟩ => ?_
  subst e1 e2
  exact ws_if1 (t := false) (dt_not (dt_val (dp_call (ok_is_table_by T) hr ⟨g, t, G, B, rfl, rfl⟩ (da_cons (v 0) (da_cons (v 1) da_nil))))) (fun h => by cases h) fun _ => ws_nil rfl
end
end DL


set_option Elab.async false
set_option linter.all false
set_option maxRecDepth 100000
set_option maxHeartbeats 4000000
/-! W7: piles. -/
namespace DL
open PySem PySem.Spec PyProof.Rows L2

/-- what a pile holds -/
structure Pl where
  st : List Int
  hd : List Str
  tr : List PyData
  pl : Nat
  fo : List (List Str)
def fText (y : Str) : List Str := y.cps.toList.map fun c => ⟨#[c]⟩
def encF (l : List Str) : PyData := .tuple (encS l)
def pileF (g : Gr) (t : List Row) (y : Str) (p : Pl) : List (Str × Bs) :=
  [("grammar", .dat (encG g)), ("table", .dat (encTab t)), ("text", .dat (.str y)), ("states", .ol (p.st.map .int)), ("heads", .ol (encS p.hd)), ("trees", .ol p.tr), ("place", .dat (.int (p.pl : Int))), ("forms", .ol (p.fo.map encF))]
def pile0 (y : Str) : Pl := ⟨[0], [], [], 0, [fText y]⟩
/-- a pile is well -/
structure PlOk (t : List Row) (y : Str) (p : Pl) : Prop where
  s1 : p.st.length = p.hd.length + 1
  s2 : p.tr.length = p.hd.length
  s3 : ∀ j ∈ p.st, 0 ≤ j ∧ j < t.length
  s4 : p.hd.length ≤ 10000
  s5 : p.pl ≤ y.length
  s6 : p.fo.length ≤ 10000
  s7 : y.length ≤ 30
  s8 : ∀ h ∈ p.hd, PyData.strOk h = true
abbrev CP (K : PySem.W.Frag) : Addr := He.ga K "Pile"
theorem signs_S (y : Str) : signsD y = encS (fText y) := by
  unfold signsD encS fText
  rw [List.map_map]
  rfl
def signAt (y : Str) (n : Nat) : Str := if n < y.length then ((fText y)[n]?).getD ⟨#[]⟩ else sEND
theorem fText_len (y : Str) : (fText y).length = y.length := by simp [fText, Str.length]
theorem txt_at {y : Str} {n : Nat} (h : n < y.length) : ∃ ch, atI y.cps.toList (n : Int) = some ch ∧ signAt y n = ⟨#[ch]⟩ := by
  have hl : n < y.cps.toList.length := by simpa [Str.length] using h
  refine ⟨y.cps.toList[n], ?_, ?_⟩
  · rw [atI_nat (by omega), Int.toNat_natCast, List.getElem?_eq_getElem hl]
  · unfold signAt
    rw [if_pos h]
    unfold fText
    rw [List.getElem?_map, List.getElem?_eq_getElem hl]
    rfl
section
variable {P : Program} {w : World} {K : PySem.W.Frag} {mg : Str → Option Value} {base : Heap}
/-! Pile.__init__ -/
def R_Pile_init (C : Addr) (ds1 : List PyData) (s : Sl) (ds2 : List PyData) (s' : Sl) (d : PyData) : Prop := ∃ g t y, y.length ≤ 30 ∧ ds1 = [] ∧ s = .o C [] ∧ ds2 = [encG g, encTab t, .str y] ∧ s' = .o C (pileF g t y (pile0 y)) ∧ d = .none
theorem sc_Pile_init : FnScope ["self", "grammar", "table", "text"] ["self", "grammar", "table", "text"] (defScope KHead.s_Pile_init) := ⟨rfl, rfl, rfl, by decide +kernel, rfl, by decide +kernel, by decide +kernel⟩
theorem ok_Pile_init (T : Txt K mg) : DMk P w K mg base 1 "Pile" (CP K) ["self", "grammar", "table", "text"] (spO P w K (R_Pile_init (CP K))) := by
  refine T.mkr 29 66 64 rfl rfl rfl (fun _ _ _ _ _ _ us hl => match us, hl with | [_, _, _, _], _ => rfl) fun f fd F => fn_O F sc_Pile_init (fun ds1 s ds2 s' d ⟨_, _, _, _, h1, _, h2, _⟩ => by rw [h1, h2]; rfl) fun cdv A outer s H E ds1 t0 ds2 t' d hr ⟨g, t, y, hy, e1, e2, e3, e4, e5⟩ => ?_
  subst e1 e2 e3 e4 e5
  have cl := T.cl 65
  refine ws_fld 0 cl (T.na 70) (de_pure (v 1)) rfl (Nat.le_of_ble_eq_true rfl) ?_
  refine ws_fld 0 cl (T.na 71) (de_pure (v 2)) rfl (Nat.le_of_ble_eq_true rfl) ?_
  refine ws_fld 0 cl (T.na 72) (de_pure (v 3)) rfl (Nat.le_of_ble_eq_true rfl) ?_
  refine ws_fld 0 cl (T.na 73) (de_lst (da_cons dp_int da_nil) (Nat.le_of_ble_eq_true rfl)) rfl (Nat.le_of_ble_eq_true rfl) ?_
  refine ws_fld 0 cl (T.na 74) (de_lst da_nil (Nat.zero_le _)) rfl (Nat.le_of_ble_eq_true rfl) ?_
  refine ws_fld 0 cl (T.na 75) (de_lst da_nil (Nat.zero_le _)) rfl (Nat.le_of_ble_eq_true rfl) ?_
  refine ws_fld 0 cl (T.na 76) (de_pure dp_int) rfl (Nat.le_of_ble_eq_true rfl) ?_
  refine ws_fld 0 cl (T.na 77) (de_lst (da_cons (dp_tupleL rfl T.b_tuple (dl_dat (dp_to (dp_listS (z := y) (sz (by omega)) (v 3) rfl T.b_list) (by rw [signs_S])))) da_nil) (Nat.le_of_ble_eq_true rfl)) rfl (Nat.le_of_ble_eq_true rfl) ?_
  exact ws_nil ⟨rfl, rfl⟩
/-! sign, row -/
def rowAt (t : List Row) (j : Int) : Row := (t[j.toNat]?).getD []
def topSt (p : Pl) : Int := (p.st.getLast?).getD 0
def R_sign (C : Addr) (s : Sl) (d : PyData) : Prop := ∃ g t y p, PlOk t y p ∧ s = .o C (pileF g t y p) ∧ d = .str (signAt y p.pl)
theorem sc_sign : FnScope ["self"] ["self"] (defScope KHead.s_Pile_sign) := ⟨rfl, rfl, rfl, by decide +kernel, rfl, by decide +kernel, by decide +kernel⟩
theorem ok_sign (T : Txt K mg) : DMe P w K mg base 1 (CP K) "sign" ["self"] (spRd P w K (R_sign (CP K))) := by
  refine T.me 30 57 65 rfl rfl rfl (fun _ _ _ _ _ _ us hl => match us, hl with | [_], _ => rfl) fun f fd F => fn_Rd F sc_sign fun cdv A outer s H E t0 d hr ⟨g, t, y, p, O, e1, e2⟩ => ?_
  subst e1 e2
  have cl := T.cl 65
  have hy := O.s7
  refine wp_if (t := decide (p.pl < y.length)) (dt_to (tcm (cm_lt (vf 0 cl (T.na 76) (d := .int (p.pl : Int)) rfl) (dp_lenS (y := y) (sz (by omega)) rfl T.b_len (vf 0 cl (T.na 72) (d := .str y) rfl)))) (decide_eq_decide.mpr (by omega))) (fun h => ?_) fun h => ?_
  · obtain ⟨ch, h1, h2⟩ := txt_at (of_decide_eq_true h)
    rw [h2]
    exact wp_ret (dp_ixS (y := y) (sz (by omega)) h1 (vf 0 cl (T.na 72) (d := .str y) rfl) (vf 0 cl (T.na 76) (d := .int (p.pl : Int)) rfl))
  · rw [show signAt y p.pl = sEND from if_neg (of_decide_eq_false h)]
    exact wp_ret (dp_gstr rfl T.END)
theorem atI_last {α : Type} {l : List α} (h : l ≠ []) : atI l (-1) = l.getLast? := by
  have hl : 0 < l.length := List.length_pos_iff.mpr h
  unfold atI ixN
  rw [if_neg (by decide), if_pos (by omega), List.getLast?_eq_getElem?]
  show l[(-1 + (l.length : Int)).toNat]? = _
  congr 1
  omega
theorem PlOk.ne {t : List Row} {y : Str} {p : Pl} (O : PlOk t y p) : p.st ≠ [] := fun h => by have := O.s1; rw [h] at this; simp at this
theorem PlOk.top {t : List Row} {y : Str} {p : Pl} (O : PlOk t y p) : p.st.getLast? = some (topSt p) ∧ 0 ≤ topSt p ∧ topSt p < t.length := by
  unfold topSt
  cases e : p.st.getLast? with
  | none => exact absurd (List.getLast?_eq_none_iff.mp e) O.ne
  | some j => exact ⟨rfl, O.s3 j (List.mem_of_getLast? e)⟩
theorem row_at {t : List Row} {j : Int} (h : 0 ≤ j) (h1 : j < t.length) : t[j.toNat]? = some (rowAt t j) := by
  unfold rowAt
  rw [List.getElem?_eq_getElem (show j.toNat < t.length by omega)]
  rfl
def R_row (C : Addr) (s : Sl) (d : PyData) : Prop := ∃ g t y p, PlOk t y p ∧ s = .o C (pileF g t y p) ∧ d = dictD (encRow (rowAt t (topSt p)))
theorem sc_row : FnScope ["self"] ["self"] (defScope KHead.s_Pile_row) := ⟨rfl, rfl, rfl, by decide +kernel, rfl, by decide +kernel, by decide +kernel⟩
theorem ok_row (T : Txt K mg) : DMe P w K mg base 1 (CP K) "row" ["self"] (spRd P w K (R_row (CP K))) := by
  refine T.me 31 58 65 rfl rfl rfl (fun _ _ _ _ _ _ us hl => match us, hl with | [_], _ => rfl) fun f fd F => fn_Rd F sc_row fun cdv A outer s H E t0 d hr ⟨g, t, y, p, O, e1, e2⟩ => ?_
  subst e1 e2
  have cl := T.cl 65
  obtain ⟨h1, h2, h3⟩ := O.top
  exact wp_ret (dp_ixL (ds := t.map fun r => dictD (encRow r)) (n := topSt p) (by rw [atI_nat h2, List.getElem?_map, row_at h2 h3]; rfl) (dl_dat (vf 0 cl (T.na 71) (d := encTab t) rfl)) (dp_ixL (ds := p.st.map .int) (n := -1) (d := .int (topSt p)) (by rw [atI_last (by simpa using O.ne), List.getLast?_map, h1]; rfl) (vfl 0 cl (T.na 73) rfl) (dp_neg dp_int)))
/-! go -/
def goPl (y : Str) (p : Pl) (j : Int) : Pl := ⟨p.st ++ [j], p.hd ++ [signAt y p.pl], p.tr ++ [.str (signAt y p.pl)], p.pl + 1, p.fo⟩
def R_go (C : Addr) (ds1 : List PyData) (s : Sl) (ds2 : List PyData) (s' : Sl) (d : PyData) : Prop := ∃ g t y p j, PlOk t y p ∧ p.pl < y.length ∧ ds1 = [] ∧ s = .o C (pileF g t y p) ∧ ds2 = [.int j] ∧ s' = .o C (pileF g t y (goPl y p j)) ∧ d = .none
theorem sc_go : FnScope ["self", "state"] ["self", "state"] (defScope KHead.s_Pile_go) := ⟨rfl, rfl, rfl, by decide +kernel, rfl, by decide +kernel, by decide +kernel⟩
theorem ok_go (T : Txt K mg) : DMe P w K mg base 1 (CP K) "go" ["self", "state"] (spO P w K (R_go (CP K))) := by
  refine T.me 32 59 65 rfl rfl rfl (fun _ _ _ _ _ _ us hl => match us, hl with | [_, _], _ => rfl) fun f fd F => fn_O F sc_go (fun ds1 s ds2 s' d ⟨_, _, _, _, _, _, _, h1, _, h2, _⟩ => by rw [h1, h2]; rfl) fun cdv A outer s H E ds1 t0 ds2 t' d hr ⟨g, t, y, p, j, O, hp, e1, e2, e3, e4, e5⟩ => ?_
  subst e1 e2 e3 e4 e5
  have cl := T.cl 65
  have hy := O.s7
  have h4 := O.s4
  have h1 := O.s1
  have h2 := O.s2
  obtain ⟨ch, k1, k2⟩ := txt_at hp
  refine ws_exp (de_appendF 0 cl (T.na 73) (ds := p.st.map .int) rfl rfl (v 1) (szl (by rw [List.length_map]; omega))) ?_
  refine ws_exp (de_appendF 0 cl (T.na 74) (ds := encS p.hd) (d := .str (signAt y p.pl)) rfl rfl (by rw [k2]; exact dp_ixS (y := y) (sz (by omega)) k1 (vf 0 cl (T.na 72) (d := .str y) rfl) (vf 0 cl (T.na 76) (d := .int (p.pl : Int)) rfl)) (szl (by rw [encS, List.length_map]; omega))) ?_
  refine ws_exp (de_appendF 0 cl (T.na 75) (ds := p.tr) (d := .str (signAt y p.pl)) rfl rfl (by rw [k2]; exact dp_ixS (y := y) (sz (by omega)) k1 (vf 0 cl (T.na 72) (d := .str y) rfl) (vf 0 cl (T.na 76) (d := .int (p.pl : Int)) rfl)) (szl (by omega))) ?_
  refine ws_fld 0 cl (T.na 76) (de_pure (dp_add (vf 0 cl (T.na 76) (d := .int (p.pl : Int)) rfl) dp_int)) rfl (Nat.le_of_ble_eq_true rfl) ?_
  refine ws_nil ⟨rfl, ?_⟩
  show some (some (Sl.o (CP K) _)) = some (some (Sl.o (CP K) _))
  congr 3
  show _ = pileF g t y (goPl y p j)
  unfold pileF goPl encS
  rw [List.map_append, List.map_append]
  rfl
end
/-! fold -/
def rowGet (r : Row) (k : Str) : Option TD := (r.find? fun p => decide (p.1 = k)).map (·.2)
def encTo : Option TD → PyData
  | none => .none
  | some x => encT x
theorem row_get (r : Row) (k : Str) : (valD (encRow r) (Sum.inr k)).getD .none = encTo (rowGet r k) := by
  induction r with
  | nil => rfl
  | cons p r ih =>
    by_cases h : p.1 = k
    · simp [valD, encRow, rowGet, List.find?_cons, h, encTo]
    · have e1 : valD (encRow (p :: r)) (Sum.inr k) = valD (encRow r) (Sum.inr k) := by simp [valD, encRow, List.find?_cons, h]
      have e2 : rowGet (p :: r) k = rowGet r k := by simp [rowGet, List.find?_cons, h]
      rw [e1, e2, ih]
theorem rowGet_mem {r : Row} {k : Str} {x : TD} (h : rowGet r k = some x) : (k, x) ∈ r := by
  unfold rowGet at h
  obtain ⟨p, hp, rfl⟩ := Option.map_eq_some_iff.mp h
  have e : p.1 = k := by simpa using List.find?_some hp
  have := List.mem_of_find?_eq_some hp
  rw [← e]
  exact this
theorem end_nn : ¬ Nm sEND := fun h => by
  have := h.cap
  revert this
  decide +kernel
theorem name_goto {g : Gr} {n : Nat} {k : Str} {x : TD} (h : TDok g n k x) (hk : Nm k) : ∃ j, x = .goto j ∧ 0 ≤ j ∧ j < n := by
  cases x with
  | done => exact absurd (by rw [show k = sEND from h] at hk; exact hk) end_nn
  | goto j => exact ⟨j, rfl, h.2⟩
  | rule m =>
    rcases h.1 with c | c
    · exact absurd (by rw [c] at hk; exact hk) end_nn
    · have := hk.nl
      rw [c.lt] at this
      cases this
theorem eqv_strs : ∀ a b : List Str, PyData.eqvAll (encS a) (encS b) = decide (a = b)
  | [], [] => by simp [encS, PyData.eqvAll]
  | [], _ :: _ => by simp [encS, PyData.eqvAll]
  | _ :: _, [] => by simp [encS, PyData.eqvAll]
  | x :: a, y :: b => by
    show PyData.eqvAll (.str x :: encS a) (.str y :: encS b) = _
    rw [PyData.eqvAll, eqv_strs a b, PyData.eqv]
    by_cases h1 : x = y <;> by_cases h2 : a = b <;> simp [h1, h2]
theorem lay_S : ∀ {l : List Str}, (∀ x ∈ l, PyData.strOk x = true) → PyData.canLayAll0 (encS l) = true
  | [], _ => by simp [encS, PyData.canLayAll0]
  | x :: l, h => by
    show PyData.canLayAll0 (.str x :: encS l) = true
    rw [PyData.canLayAll0, lay_S fun y hy => h y (List.mem_cons_of_mem _ hy), PyData.canLay0, h x List.mem_cons_self]
    rfl
theorem depth_S (l : List Str) : PyData.depthAll (encS l) = 0 := by
  have := depthAll_le (f := PyData.str) (n := 0) (l := l) fun a _ => by simp [PyData.depth]
  unfold encS
  omega
def foldPl (g : Gr) (t : List Row) (y : Str) (p : Pl) (n : Int) : Option Pl :=
  if (p.hd.length : Int) - ((ruleAt g n).2.length : Int) < 0 ∨ p.hd.drop (p.hd.length - (ruleAt g n).2.length) ≠ (ruleAt g n).2 then none else
  match rowGet (rowAt t ((p.st[p.hd.length - (ruleAt g n).2.length]?).getD 0)) (ruleAt g n).1 with
  | some (.goto j) => some ⟨p.st.take (p.hd.length - (ruleAt g n).2.length + 1) ++ [j], p.hd.take (p.hd.length - (ruleAt g n).2.length) ++ [(ruleAt g n).1], p.tr.take (p.hd.length - (ruleAt g n).2.length) ++ [.tuple [.int n, .tuple (p.tr.drop (p.hd.length - (ruleAt g n).2.length))]], p.pl,
      p.fo ++ [p.hd.take (p.hd.length - (ruleAt g n).2.length) ++ [(ruleAt g n).1] ++ (fText y).drop p.pl]⟩
  | _ => none
section
variable {P : Program} {w : World} {K : PySem.W.Frag} {mg : Str → Option Value} {base : Heap}
theorem cut_text {y : Str} {n : Nat} : signsD (cutS y (some (n : Int)) none) = encS ((fText y).drop n) := by
  have hl : y.length = y.cps.toList.length := by simp [Str.length]
  have e : (cutS y (some (n : Int)) none).cps.toList = y.cps.toList.drop n := by
    unfold cutS
    rw [HT.sIx_nat, HT.sIx_none, hl]
    by_cases hle : n ≤ y.cps.toList.length
    · rw [Nat.min_eq_left hle, List.take_of_length_le (by rw [List.length_drop]; exact Nat.le_refl _)]
    · rw [Nat.min_eq_right (by omega), List.drop_of_length_le (Nat.le_refl _), List.drop_of_length_le (by omega)]
      simp
  unfold signsD encS fText
  rw [e, ← List.map_drop, List.map_map]
  rfl
def R_fold (C : Addr) (ds1 : List PyData) (s : Sl) (ds2 : List PyData) (s' : Sl) (d : PyData) : Prop := ∃ (g : Gr) (t : List Row) (y : Str) (p : Pl) (n : Int), GG g ∧ TabOk g t ∧ PlOk t y p ∧ 0 ≤ n ∧ n < g.length ∧ ds1 = [] ∧ s = .o C (pileF g t y p) ∧ ds2 = [.int n] ∧ s' = .o C (pileF g t y ((foldPl g t y p n).getD p)) ∧ d = .bool (foldPl g t y p n).isSome
theorem sc_fold : FnScope ["self", "number", "name", "parts", "begin", "going", "tree"] ["self", "number"] (defScope KHead.s_Pile_fold) := ⟨rfl, rfl, rfl, by decide +kernel, rfl, by decide +kernel, by decide +kernel⟩
theorem ok_fold (T : Txt K mg) : DMe P w K mg base 1 (CP K) "fold" ["self", "number"] (spO P w K (R_fold (CP K))) := by
  refine T.me 33 60 65 rfl rfl rfl (fun _ _ _ _ _ _ us hl => match us, hl with | [_, _], _ => rfl) fun f fd F => fn_O F sc_fold (fun ds1 s ds2 s' d ⟨_, _, _, _, _, _, _, _, _, _, h1, _, h2, _⟩ => by rw [h1, h2]; rfl) fun cdv A outer s H E ds1 t0 ds2 t' d hr ⟨g, t, y, p, n, G, B, O, hn0, hn1, e1, e2, e3, e4, e5⟩ => ?_
  subst e1 e2 e3 e4 e5
  have nd := sc_fold.nd
  have cl := T.cl 65
  have hu := u1 hr
  have hy := O.s7
  have h4 := O.s4
  have h1 := O.s1
  have h2 := O.s2
  have h6 := O.s6
  have h5 := O.s5
  have hrm : ruleAt g n ∈ g := rule_mem hn0 hn1
  have hpl := G.pl _ hrm
  have hnm := G.nm _ hrm
  refine ws_pair (d1 := .str (ruleAt g n).1) (d2 := .tuple (encS (ruleAt g n).2)) 2 3 (dp_ixL (ds := g.map encR) (n := n) (d := encR (ruleAt g n)) (by rw [atI_nat hn0, List.getElem?_map, rule_at hn0 hn1]; rfl) (dl_dat (vf 0 cl (T.na 70) (d := encG g) rfl)) (v 1)) ?_
  refine ws_set 4 (de_pure (dp_sub (dp_lenL (ds := encS p.hd) rfl T.b_len (vfl 0 cl (T.na 74) rfl)) (dp_lenT (ds := encS (ruleAt g n).2) rfl T.b_len (v 3)))) ?_
  have eb : ((encS p.hd).length : Int) - ((encS (ruleAt g n).2).length : Int) = (p.hd.length : Int) - ((ruleAt g n).2.length : Int) := by rw [encS, encS, List.length_map, List.length_map]
  rw [eb]
  generalize hr0 : ruleAt g n = r at hrm hpl hnm
  have hbi : ¬ (p.hd.length : Int) - (r.2.length : Int) < 0 → (p.hd.length : Int) - (r.2.length : Int) = ((p.hd.length - r.2.length : Nat) : Int) := fun h => by omega
  generalize hb : p.hd.length - r.2.length = b at hbi
  have hbl : b ≤ p.hd.length := by omega
  refine ws_if1 (t := decide ((p.hd.length : Int) - (r.2.length : Int) < 0) || !decide (p.hd.drop b = r.2)) (PW.pt (dw_or (t := decide ((p.hd.length : Int) - (r.2.length : Int) < 0)) (tcm (cm_lt (v 4) dp_int)) fun hge => dw_or1 (dt_to (tcm (cm_neG (da := .tuple (encS (p.hd.drop b))) (db := .tuple (encS r.2)) ?_ ?_ ?_ (dp_tupleL (ds := encS (p.hd.drop b)) rfl T.b_tuple (dl_dat (dp_to (dp_sliceL (ds := encS p.hd) (m := some ((p.hd.length : Int) - (r.2.length : Int))) (n := none) (vfl 0 cl (T.na 74) rfl) (.som (v 4)) .non) ?_))) (v 3))) ?_))) (fun h => ?_) fun h => ?_
  · rw [PyData.canLay0]
    exact lay_S fun x hx => O.s8 x (List.mem_of_mem_drop hx)
  · rw [PyData.canLay0]
    exact lay_S fun x hx => by rcases G.pt _ hrm x hx with q | q <;> exact q.ok
  · rw [PyData.depth, PyData.depth, depth_S, depth_S]
    exact un2 hr (by decide)
  · rw [hbi (of_decide_eq_false hge), cut_from (by omega), Int.toNat_natCast, encS, encS, List.map_drop]
  · rw [PyData.eqv, eqv_strs]
  · have hc : (p.hd.length : Int) - (r.2.length : Int) < 0 ∨ p.hd.drop b ≠ r.2 := by simpa using h
    have en : foldPl g t y p n = none := by
      unfold foldPl
      rw [hr0, hb]
      exact if_pos hc
    exact ws_ret (de_pure dp_bl) ⟨by rw [en]; rfl, by rw [en]; rfl⟩
  have hc : ¬ ((p.hd.length : Int) - (r.2.length : Int) < 0 ∨ p.hd.drop b ≠ r.2) := by
    intro z
    have : (decide ((p.hd.length : Int) - (r.2.length : Int) < 0) || !decide (p.hd.drop b = r.2)) = true := by simpa using z
    rw [h] at this
    cases this
  have hge : ¬ (p.hd.length : Int) - (r.2.length : Int) < 0 := fun z => hc (.inl z)
  have ebn := hbi hge
  have hst : p.st[b]? = some ((p.st[b]?).getD 0) := by
    rw [List.getElem?_eq_getElem (show b < p.st.length by omega)]
    rfl
  generalize hj0 : (p.st[b]?).getD 0 = j0 at hst
  obtain ⟨j1, j2⟩ := O.s3 j0 (List.mem_of_getElem? hst)
  rw [ebn]
  refine ws_set 5 (de_pure (dp_to (dg1 (kvs := encRow (rowAt t j0)) (k := Sum.inr r.1) hu (dk_dat (dp_ixL (ds := t.map fun r => dictD (encRow r)) (n := j0) (by rw [atI_nat j1, List.getElem?_map, row_at j1 j2]; rfl) (dl_dat (vf 0 cl (T.na 71) (d := encTab t) rfl)) (dp_ixL (ds := p.st.map .int) (n := (b : Int)) (d := .int j0) (by rw [atI_nat (by omega), Int.toNat_natCast, List.getElem?_map, hst]; rfl) (vfl 0 cl (T.na 73) rfl) (v 4)))) (v 2)) (row_get _ _))) ?_
  have eu : foldPl g t y p n = match rowGet (rowAt t j0) r.1 with
      | some (.goto j) => some ⟨p.st.take (b + 1) ++ [j], p.hd.take b ++ [r.1], p.tr.take b ++ [.tuple [.int n, .tuple (p.tr.drop b)]], p.pl, p.fo ++ [p.hd.take b ++ [r.1] ++ (fText y).drop p.pl]⟩
      | _ => none := by
    unfold foldPl
    rw [hr0, hb, hj0]
    exact if_neg hc
  cases hg : rowGet (rowAt t j0) r.1 with
  | none =>
    rw [hg] at eu
    have en : foldPl g t y p n = none := eu
    exact ws_if1 (t := true) (dt_to (tcm (cm_isN (v 5))) rfl) (fun _ => ws_ret (de_pure dp_bl) ⟨by rw [en]; rfl, by rw [en]; rfl⟩) fun h => by cases h
  | some x =>
    have hmem := rowGet_mem hg
    have hrow : rowAt t j0 ∈ t := List.mem_of_getElem? (row_at j1 j2)
    obtain ⟨j, rfl, j3, j4⟩ := name_goto ((B.row _ hrow).td _ hmem) hnm
    rw [hg] at eu
    have en : foldPl g t y p n = some ⟨p.st.take (b + 1) ++ [j], p.hd.take b ++ [r.1], p.tr.take b ++ [.tuple [.int n, .tuple (p.tr.drop b)]], p.pl, p.fo ++ [p.hd.take b ++ [r.1] ++ (fText y).drop p.pl]⟩ := eu
    refine ws_if1 (t := false) (dt_to (tcm (cm_isN (v 5))) rfl) (fun h => by cases h) fun _ => ?_
    have l2 : (2 : Nat) ≤ sizeLine := Nat.le_of_ble_eq_true rfl
    refine ws_set 6 (de_pure (dp_tup (ds := [.int n, .tuple (p.tr.drop b)]) (da_cons (v 1) (da_cons (dp_tupleL (ds := p.tr.drop b) rfl T.b_tuple (dl_dat (dp_to (dp_sliceL (ds := p.tr) (m := some (b : Int)) (n := none) (vfl 0 cl (T.na 75) rfl) (.som (v 4)) .non) (by rw [cut_from (by omega), Int.toNat_natCast])))) da_nil)) l2)) ?_
    refine ws_fld 0 cl (T.na 73) (z := .ol ((p.st.take (b + 1)).map .int ++ [.int j])) (de_catL (ds := (p.st.take (b + 1)).map .int) (ds' := [.int j]) (sz (by simp; omega)) (dl_dat (dp_to (dp_sliceL (ds := p.st.map .int) (m := none) (n := some ((b : Int) + 1)) (vfl 0 cl (T.na 73) rfl) .non (.som (dp_add (v 4) dp_int))) (by rw [cut_to (by omega), List.map_take, show ((b : Int) + 1).toNat = b + 1 by omega]))) (dl_dat (dp_lst (da_cons (dp_ixT (ds := [.str sGo, .int j]) (d := .int j) rfl (v 5) dp_int) da_nil) (Nat.le_of_ble_eq_true rfl)))) rfl (Nat.le_of_ble_eq_true rfl) ?_
    refine ws_fld 0 cl (T.na 74) (z := .ol (encS (p.hd.take b) ++ [.str r.1])) (de_catL (ds := encS (p.hd.take b)) (ds' := [.str r.1]) (sz (by simp [encS]; omega)) (dl_dat (dp_to (dp_sliceL (ds := encS p.hd) (m := none) (n := some (b : Int)) (vfl 0 cl (T.na 74) rfl) .non (.som (v 4))) (by rw [cut_to (by omega), encS, encS, List.map_take, Int.toNat_natCast]))) (dl_dat (dp_lst (da_cons (v 2) da_nil) (Nat.le_of_ble_eq_true rfl)))) rfl (Nat.le_of_ble_eq_true rfl) ?_
    refine ws_fld 0 cl (T.na 75) (z := .ol (p.tr.take b ++ [.tuple [.int n, .tuple (p.tr.drop b)]])) (de_catL (ds := p.tr.take b) (ds' := [.tuple [.int n, .tuple (p.tr.drop b)]]) (sz (by simp; omega)) (dl_dat (dp_to (dp_sliceL (ds := p.tr) (m := none) (n := some (b : Int)) (vfl 0 cl (T.na 75) rfl) .non (.som (v 4))) (by rw [cut_to (by omega), Int.toNat_natCast]))) (dl_dat (dp_lst (da_cons (v 6) da_nil) (Nat.le_of_ble_eq_true rfl)))) rfl (Nat.le_of_ble_eq_true rfl) ?_
    refine ws_exp (de_appendF 0 cl (T.na 77) (ds := p.fo.map encF) (d := .tuple ((encS (p.hd.take b) ++ [PyData.str r.1]) ++ encS ((fText y).drop p.pl))) rfl rfl (dp_catT (ds := encS (p.hd.take b) ++ [PyData.str r.1]) (ds' := encS ((fText y).drop p.pl)) (sz (by have := fText_len y; simp [encS]; omega)) (dp_tupleL rfl T.b_tuple (vfl 0 cl (T.na 74) rfl)) (dp_tupleL rfl T.b_tuple (dl_dat (dp_to (dp_listS (z := cutS y (some (p.pl : Int)) none) ?_ (dp_sliceS (y := y) (m := some (p.pl : Int)) (n := none) (sz (by omega)) (vf 0 cl (T.na 72) (d := .str y) rfl) (.som (vf 0 cl (T.na 76) (d := .int (p.pl : Int)) rfl)) .non) rfl T.b_list) (by rw [cut_text]))))) (szl (by simp; omega))) ?_
    · have : signsD (cutS y (some (p.pl : Int)) none) = encS ((fText y).drop p.pl) := cut_text
      have := congrArg List.length this
      rw [signsD_len, encS, List.length_map, List.length_drop, fText_len] at this
      exact sz (by omega)
    refine ws_ret (de_pure dp_bl) ⟨by rw [en]; rfl, ?_⟩
    rw [en]
    show some (some (Sl.o (CP K) _)) = some (some (Sl.o (CP K) _))
    congr 3
    show _ = pileF g t y _
    unfold pileF encF encS
    simp only [List.map_append, List.map_cons, List.map_nil, Option.getD_some]
    rfl
end
end DL


set_option Elab.async false
set_option linter.all false
set_option maxRecDepth 100000
set_option maxHeartbeats 4000000
/-! W8: texts read. -/
namespace DL
open PySem PySem.Spec PyProof.Rows L2

def tornD (n : Nat) : PyData := .tuple [.str "torn", .int (n : Int)]
def treeD (d : PyData) : PyData := .tuple [.str "tree", d]
def stopD (n : Nat) (l : List Str) : PyData := .tuple [.str "stop", .int (n : Int), .list (encS l)]
def doPl (g : Gr) (t : List Row) (y : Str) (p : Pl) : TD → Pl × PyData
  | .goto j => (goPl y p j, .none)
  | .done => (p, if p.hd = [(ruleAt g 0).1] then treeD ((p.tr[0]?).getD .none) else tornD p.pl)
  | .rule n => match foldPl g t y p n with
    | some q => (q, .none)
    | none => (p, tornD p.pl)
theorem sort_encS (l : List Str) : sortD (encS l) = encS (sortS l) := (List.map_mergeSort (r := leS) (s := PySem.W.dataLe false id) (f := PyData.str) fun a _ b _ => rfl).symm
theorem alike_S (l : List Str) : PySem.W.AllAlike (encS l) := fun d hd d' hd' => by
  obtain ⟨a, _, rfl⟩ := List.mem_map.mp hd
  obtain ⟨b, _, rfl⟩ := List.mem_map.mp hd'
  simp [PySem.W.alike]
theorem sortable_S (l : List Str) : PySem.W.Sortable (encS l) := .inr fun d hd => by
  obtain ⟨a, _, rfl⟩ := List.mem_map.mp hd
  exact ⟨fun h => (nomatch h), fun xs h => nomatch h⟩
def endOrLetter (k : Str) : Bool := decide (k = sEND) || isLetter k
def signsOf (r : Row) : List Str := sortS ((r.map Prod.fst).filter endOrLetter)
theorem KeyOk.sok {g : Gr} {k : Str} (h : KeyOk g k) : PyData.strOk k = true := by
  rcases h with h | h | h
  · rw [h]; decide +kernel
  · exact h.ok
  · exact h.1.ok
def readGo (g : Gr) (t : List Row) (y : Str) : Nat → Pl → Pl × PyData
  | 0, p => (p, .none)
  | k + 1, p => match rowGet (rowAt t (topSt p)) (signAt y p.pl) with
    | none => (p, stopD p.pl (signsOf (rowAt t (topSt p))))
    | some td => if k = 0 then (p, tornD p.pl) else if isNon (doPl g t y p td).2 = true then readGo g t y k (doPl g t y p td).1 else doPl g t y p td
/-- a pile that is well, with room -/
structure PlR (t : List Row) (y : Str) (k : Nat) (p : Pl) : Prop where
  ok : PlOk t y p
  h : p.hd.length + k ≤ 1000
  f : p.fo.length + k ≤ 1000
theorem pl0_ok {t : List Row} {y : Str} (h1 : 1 ≤ t.length) (hy : y.length ≤ 30) : PlR t y 300 (pile0 y) := ⟨⟨rfl, rfl, fun j hj => by
  rw [List.mem_singleton.mp hj]
  omega, by simp [pile0], Nat.zero_le _, by simp [pile0], hy, fun h hh => (List.not_mem_nil hh).elim⟩, by simp [pile0], by simp [pile0]⟩
theorem sign_ok {y : Str} (Y : TxtOk y) {n : Nat} (h : n < y.length) : ∃ ch, ch ∈ y.cps.toList ∧ signAt y n = ⟨#[ch]⟩ := by
  obtain ⟨ch, h1, h2⟩ := txt_at h
  rw [atI_nat (by omega)] at h1
  exact ⟨ch, List.mem_of_getElem? h1, h2⟩
theorem PlR.go {g : Gr} {t : List Row} {y : Str} {k : Nat} {p : Pl} (O : PlR t y (k + 1) p) (Y : TxtOk y) (Ys : ∀ c ∈ y.cps.toList, PyData.strOk ⟨#[c]⟩ = true) (h : p.pl < y.length) {j : Int} (h0 : 0 ≤ j) (h1 : j < t.length) : PlR t y k (goPl y p j) := by
  obtain ⟨⟨s1, s2, s3, s4, s5, s6, s7, s8⟩, hh, ff⟩ := O
  obtain ⟨ch, c1, c2⟩ := sign_ok Y h
  refine ⟨⟨by simp [goPl]; omega, by simp [goPl]; omega, fun i hi => ?_, by simp [goPl]; omega, h, s6, s7, fun x hx => ?_⟩, by simp [goPl]; omega, by simp [goPl]; omega⟩
  · rcases List.mem_append.mp hi with z | z
    · exact s3 i z
    · rw [List.mem_singleton.mp z]; exact ⟨h0, h1⟩
  · rcases List.mem_append.mp hx with z | z
    · exact s8 x z
    · rw [List.mem_singleton.mp z, c2]; exact Ys ch c1
theorem PlR.fold {g : Gr} {t : List Row} {y : Str} {k : Nat} {p q : Pl} (G : GG g) (B : TabOk g t) (O : PlR t y (k + 1) p) {n : Int} (h0 : 0 ≤ n) (h1 : n < g.length) (h : foldPl g t y p n = some q) : PlR t y k q := by
  obtain ⟨⟨s1, s2, s3, s4, s5, s6, s7, s8⟩, hh, ff⟩ := O
  have hm := rule_mem h0 h1
  unfold foldPl at h
  generalize ruleAt g n = r at h hm
  split at h
  · cases h
  · rename_i hc
    generalize hb : p.hd.length - r.2.length = b at h hc
    have hbl : b ≤ p.hd.length := by omega
    split at h
    · rename_i j hj
      cases h
      have hst : p.st[b]? = some ((p.st[b]?).getD 0) := by
        rw [List.getElem?_eq_getElem (show b < p.st.length by omega)]
        rfl
      obtain ⟨j1, j2⟩ := s3 _ (List.mem_of_getElem? hst)
      obtain ⟨j', e, j3, j4⟩ := name_goto ((B.row _ (List.mem_of_getElem? (row_at j1 j2))).td _ (rowGet_mem hj)) (G.nm _ hm)
      cases e
      refine ⟨⟨by simp; omega, by simp; omega, fun i hi => ?_, by simp; omega, s5, by simp; omega, s7, fun x hx => ?_⟩, by simp; omega, by simp; omega⟩
      · rcases List.mem_append.mp hi with z | z
        · exact s3 i (List.mem_of_mem_take z)
        · rw [List.mem_singleton.mp z]; exact ⟨j3, j4⟩
      · rcases List.mem_append.mp hx with z | z
        · exact s8 x (List.mem_of_mem_take z)
        · rw [List.mem_singleton.mp z]; exact (G.nm _ hm).ok
    · cases h
theorem PlR.weak {t : List Row} {y : Str} {k : Nat} {p : Pl} (O : PlR t y (k + 1) p) : PlR t y k p := ⟨O.ok, by have := O.h; omega, by have := O.f; omega⟩
/-- what may be done -/
def DoOk (g : Gr) (t : List Row) (y : Str) (p : Pl) : TD → Prop
  | .goto j => p.pl < y.length ∧ 0 ≤ j ∧ j < t.length
  | .done => True
  | .rule n => 0 ≤ n ∧ n < g.length
theorem do_ok {g : Gr} {t : List Row} {y : Str} {p : Pl} {td : TD} (B : TabOk g t) (O : PlOk t y p) (h : rowGet (rowAt t (topSt p)) (signAt y p.pl) = some td) : DoOk g t y p td := by
  obtain ⟨_, h2, h3⟩ := O.top
  have ht := (B.row _ (List.mem_of_getElem? (row_at h2 h3))).td _ (rowGet_mem h)
  cases td with
  | done => trivial
  | goto j =>
    refine ⟨Nat.lt_of_not_le fun hc => ht.1 ?_, ht.2⟩
    show signAt y p.pl = sEND
    exact if_neg (by omega)
  | rule n => exact ht.2
theorem do_none {g : Gr} {t : List Row} {y : Str} {p : Pl} {n : Int} (e : foldPl g t y p n = none) : doPl g t y p (.rule n) = (p, tornD p.pl) := by
  show (match foldPl g t y p n with
    | some q => (q, PyData.none)
    | none => (p, tornD p.pl)) = _
  rw [e]
theorem do_some {g : Gr} {t : List Row} {y : Str} {p q : Pl} {n : Int} (e : foldPl g t y p n = some q) : doPl g t y p (.rule n) = (q, .none) := by
  show (match foldPl g t y p n with
    | some q => (q, PyData.none)
    | none => (p, tornD p.pl)) = _
  rw [e]
theorem PlR.do {g : Gr} {t : List Row} {y : Str} {k : Nat} {p : Pl} {td : TD} (G : GG g) (B : TabOk g t) (O : PlR t y (k + 1) p) (Y : TxtOk y) (Ys : ∀ c ∈ y.cps.toList, PyData.strOk ⟨#[c]⟩ = true) (h : DoOk g t y p td) : PlR t y k (doPl g t y p td).1 := by
  cases td with
  | goto j => exact O.go (g := g) Y Ys h.1 h.2.1 h.2.2
  | done => exact O.weak
  | rule n =>
    cases e : foldPl g t y p n with
    | none =>
      rw [do_none e]
      exact O.weak
    | some q =>
      rw [do_some e]
      exact O.fold G B h.1 h.2 e
section
variable {P : Program} {w : World} {K : PySem.W.Frag} {mg : Str → Option Value} {base : Heap}
/-! do -/
def R_do (C : Addr) (ds1 : List PyData) (s : Sl) (ds2 : List PyData) (s' : Sl) (d : PyData) : Prop := ∃ (g : Gr) (t : List Row) (y : Str) (p : Pl) (td : TD), GG g ∧ TabOk g t ∧ PlOk t y p ∧ DoOk g t y p td ∧ ds1 = [] ∧ s = .o C (pileF g t y p) ∧ ds2 = [encT td] ∧ s' = .o C (pileF g t y (doPl g t y p td).1) ∧ d = (doPl g t y p td).2
theorem sc_do : FnScope ["self", "deed"] ["self", "deed"] (defScope KHead.s_Pile_do) := ⟨rfl, rfl, rfl, by decide +kernel, rfl, by decide +kernel, by decide +kernel⟩
theorem ok_do (T : Txt K mg) : DMe P w K mg base 2 (CP K) "do" ["self", "deed"] (spO P w K (R_do (CP K))) := by
  refine T.me 34 61 65 rfl rfl rfl (fun _ _ _ _ _ _ us hl => match us, hl with | [_, _], _ => rfl) fun f fd F => fn_O F sc_do (fun ds1 s ds2 s' d ⟨_, _, _, _, _, _, _, _, _, h1, _, h2, _⟩ => by rw [h1, h2]; rfl) fun cdv A outer s H E ds1 t0 ds2 t' d hr ⟨g, t, y, p, td, G, B, O, D, e1, e2, e3, e4, e5⟩ => ?_
  subst e1 e2 e3 e4 e5
  have cl := T.cl 65
  have h1 := O.s1
  have h2 := O.s2
  have h4 := O.s4
  have l2 : (2 : Nat) ≤ sizeLine := Nat.le_of_ble_eq_true rfl
  obtain ⟨w1, w2, w3, w4, w5, w6⟩ := ne_words
  cases td with
  | goto j =>
    refine ws_if1 (t := true) (dt_to (tcm (cm_eqS (da := .str sGo) (db := .str sGo) rfl (dp_ixT (ds := [.str sGo, .int j]) (d := .str sGo) rfl (v 1) dp_int) dp_str)) (by simp [eqD])) (fun _ => ?_) fun h => by cases h
    exact ws_exp (de_meth 0 (ok_go T) (hr.mono (by decide)) ⟨g, t, y, p, j, O, D.1, rfl, rfl, rfl, rfl, rfl⟩ rfl rfl (da_cons (dp_ixT (ds := [.str sGo, .int j]) (d := .int j) rfl (v 1) dp_int) da_nil)) (ws_ret (de_pure dp_non) ⟨rfl, rfl⟩)
  | done =>
    refine ws_if1 (t := false) (dt_to (tcm (cm_eqS (da := .str sDone) (db := .str sGo) rfl (dp_ixT (ds := [.str sDone]) (d := .str sDone) rfl (v 1) dp_int) dp_str)) (by simp only [eqD]; exact decide_eq_false w1)) (fun h => by cases h) fun _ => ?_
    refine ws_if1 (t := true) (dt_to (tcm (cm_eqS (da := .str sDone) (db := .str sDone) rfl (dp_ixT (ds := [.str sDone]) (d := .str sDone) rfl (v 1) dp_int) dp_str)) (by simp [eqD])) (fun _ => ?_) fun h => by cases h
    have hg1 := G.n1
    have hm : ruleAt g 0 ∈ g := rule_mem (by decide) (by omega)
    refine ws_if1 (t := decide (p.hd = [(ruleAt g 0).1])) (dt_to (tcm (cm_eqL (ds := encS p.hd) (ds' := encS [(ruleAt g 0).1]) (lay_S O.s8) (lay_S fun x hx => by rw [List.mem_singleton.mp hx]; exact (G.nm _ hm).ok) (by rw [depth_S, depth_S]; exact un3 hr (by decide)) (vfl 0 cl (T.na 74) rfl) (dl_dat (dp_lst (da_cons (dp_ixT (ds := [.str (ruleAt g 0).1, .tuple (encS (ruleAt g 0).2)]) (d := .str (ruleAt g 0).1) rfl (dp_ixL (ds := g.map encR) (n := 0) (d := encR (ruleAt g 0)) (by rw [atI_nat (by decide), List.getElem?_map, rule_at (by decide) (by omega)]; rfl) (dl_dat (vf 0 cl (T.na 70) (d := encG g) rfl)) dp_int) dp_int) da_nil) (Nat.le_of_ble_eq_true rfl))))) (eqv_strs _ _)) (fun h => ?_) fun h => ?_
    · have h := of_decide_eq_true h
      have ht : 0 < p.tr.length := by rw [h2, h]; exact Nat.one_pos
      refine ws_ret (de_pure (dp_tup (da_cons dp_str (da_cons (dp_ixL (ds := p.tr) (n := 0) (d := (p.tr[0]?).getD .none) (by rw [atI_nat (by decide)]; show p.tr[0]? = _; rw [List.getElem?_eq_getElem ht]; rfl) (vfl 0 cl (T.na 75) rfl) dp_int) da_nil)) l2)) ⟨?_, rfl⟩
      show dat _ = dat (if p.hd = [(ruleAt g 0).1] then _ else _)
      rw [if_pos h]
      rfl
    · have h := of_decide_eq_false h
      refine ws_ret (de_pure (dp_tup (da_cons dp_str (da_cons (vf 0 cl (T.na 76) (d := .int (p.pl : Int)) rfl) da_nil)) l2)) ⟨?_, rfl⟩
      show dat _ = dat (if p.hd = [(ruleAt g 0).1] then _ else _)
      rw [if_neg h]
      rfl
  | rule n =>
    refine ws_if1 (t := false) (dt_to (tcm (cm_eqS (da := .str sRule) (db := .str sGo) rfl (dp_ixT (ds := [.str sRule, .int n]) (d := .str sRule) rfl (v 1) dp_int) dp_str)) (by simp only [eqD]; exact decide_eq_false w4)) (fun h => by cases h) fun _ => ?_
    refine ws_if1 (t := false) (dt_to (tcm (cm_eqS (da := .str sRule) (db := .str sDone) rfl (dp_ixT (ds := [.str sRule, .int n]) (d := .str sRule) rfl (v 1) dp_int) dp_str)) (by simp only [eqD]; exact decide_eq_false w3)) (fun h => by cases h) fun _ => ?_
    refine ws_ifE (t := (foldPl g t y p n).isSome) (Γ1 := [some (.o (CP K) (pileF g t y ((foldPl g t y p n).getD p))), some (dat (encT (.rule n)))]) (de_meth 0 (ok_fold T) (hr.mono (by decide)) ⟨g, t, y, p, n, G, B, O, D.1, D.2, rfl, rfl, rfl, rfl, rfl⟩ rfl rfl (da_cons (dp_ixT (ds := [.str sRule, .int n]) (d := .int n) rfl (v 1) dp_int) da_nil)) (fun h => ?_) fun h => ?_
    · obtain ⟨q, e⟩ := Option.isSome_iff_exists.mp h
      refine ws_ret (de_pure dp_non) ⟨?_, ?_⟩
      · rw [do_some e]
      · rw [do_some e, e]
        rfl
    · have e : foldPl g t y p n = none := by
        cases q : foldPl g t y p n with
        | none => rfl
        | some z => rw [q] at h; cases h
      refine ws_ret (de_pure (dp_tup (da_cons dp_str (da_cons (vf 0 cl (T.na 76) (d := .int (((foldPl g t y p n).getD p).pl : Int)) rfl) da_nil)) l2)) ⟨?_, ?_⟩
      · rw [do_none e, e]
        rfl
      · rw [do_none e, e]
        rfl
/-! signs_of -/
def R_signs_of (ds : List PyData) (d : PyData) : Prop := ∃ (g : Gr) (n : Nat) (r : Row), RowOk g n r ∧ ds = [dictD (encRow r)] ∧ d = .list (encS (signsOf r))
theorem sc_signs_of : FnScope ["row", "key"] ["row"] (defScope KHead.s_signs_of) := ⟨rfl, rfl, rfl, by decide +kernel, rfl, by decide +kernel, by decide +kernel⟩
theorem ok_signs_of (T : Txt K mg) : DFn P w K mg base 2 "signs_of" ["row"] (spD K R_signs_of) := by
  refine T.fn2 35 29 rfl rfl (fun _ _ _ _ _ _ us hl => match us, hl with | [_], _ => rfl) fun f fd F => fn_D F sc_signs_of (fun ds d ⟨_, _, _, _, h, _⟩ => by rw [h]; rfl) fun cdv A outer s H E ds d hr ⟨g, n, r, O, e1, e2⟩ => ?_
  subst e1 e2
  have nd := sc_signs_of.nd
  have hl := O.len
  have ek : (encRow r).map (fun kv => kD kv.1) = (r.map Prod.fst).map PyData.str := by
    unfold encRow
    rw [List.map_map, List.map_map]
    rfl
  refine ws_ret (de_pure (dp_to (dp_sorted (ds := encS ((r.map Prod.fst).filter endOrLetter)) (lay_S fun x hx => ?_) (alike_S _) (sortable_S _) (fun d hd => ?_) rfl T.b_sorted (dl_dat (dp_to (lcN 1 (fun k : Str => .str k) endOrLetter (fun k => .str k) (xs := r.map Prod.fst) (di_weak (by rw [← ek]; exact di_keys (v 0))) (fun k hk s H C cl fp => dts_one (PW.pt (dw_or (t := decide (k = sEND)) (u := isLetter k) (dt_to (tcm (cm_eqS (da := .str k) (db := .str sEND) rfl (v 1) (dp_gstr rfl T.END))) rfl) fun _ => dw_or1 (dt_val (dp_call (ok_is_letter T) hr ⟨k, ?_, rfl, rfl⟩ (da_cons (v 1) da_nil)))))) (fun k hk _ s H C cl fp => v 1) (szl (by rw [List.length_map]; omega))) rfl))) (by rw [sort_encS]; rfl))) rfl
  · obtain ⟨p, hp, rfl⟩ := List.mem_map.mp (List.mem_filter.mp hx).1
    exact (O.key p hp).sok
  · obtain ⟨x, _, rfl⟩ := List.mem_map.mp hd
    rw [PyData.depth]
    exact un3 hr (by decide)
  · obtain ⟨p, hp, rfl⟩ := List.mem_map.mp hk
    rw [(O.key p hp).len]
    decide
/-! read_to_end -/
structure RdOk (g : Gr) (t : List Row) (y : Str) : Prop where
  gg : GG g
  tt : TabOk g t
  yy : TxtOk y
  ys : ∀ c ∈ y.cps.toList, PyData.strOk ⟨#[c]⟩ = true
def R_read_to_end (C : Addr) (ds1 : List PyData) (s : Sl) (ds2 : List PyData) (s' : Sl) (d : PyData) : Prop := ∃ (g : Gr) (t : List Row) (y : Str), RdOk g t y ∧ ds1 = [] ∧ s = .o C (pileF g t y (pile0 y)) ∧ ds2 = [] ∧ s' = .o C (pileF g t y (readGo g t y 300 (pile0 y)).1) ∧ d = (readGo g t y 300 (pile0 y)).2
theorem sc_read_to_end : FnScope ["pile", "turn", "deed", "told"] ["pile"] (defScope KHead.s_read_to_end) := ⟨rfl, rfl, rfl, by decide +kernel, rfl, by decide +kernel, by decide +kernel⟩
theorem isNon_enc (td : TD) : isNon (encT td) = false := by cases td <;> rfl
theorem ok_read_to_end (T : Txt K mg) : DFn P w K mg base 3 "read_to_end" ["pile"] (spO P w K (R_read_to_end (CP K))) := by
  refine T.fn2 36 30 rfl rfl (fun _ _ _ _ _ _ us hl => match us, hl with | [_], _ => rfl) fun f fd F => fn_O F sc_read_to_end (fun ds1 s ds2 s' d ⟨_, _, _, _, h1, _, h2, _⟩ => by rw [h1, h2]; rfl) fun cdv A outer s H E ds1 t0 ds2 t' d hr ⟨g, t, y, O, e1, e2, e3, e4, e5⟩ => ?_
  subst e1 e2 e3 e4 e5
  have nd := sc_read_to_end.nd
  have cl := T.cl 65
  have G := O.gg
  have B := O.tt
  have hu := u1 hr
  have l3 : (3 : Nat) ≤ sizeLine := Nat.le_of_ble_eq_true rfl
  have l2 : (2 : Nat) ≤ sizeLine := Nat.le_of_ble_eq_true rfl
  generalize hfin : readGo g t y 300 (pile0 y) = fin
  refine ws_forN (S := Pl) (xs := List.range 300) 1 (fun i : Nat => .int (0 + (i : Int))) (fun l p => l = (List.range 300).drop (300 - l.length) ∧ l.length ≤ 300 ∧ readGo g t y l.length p = fin ∧ PlR t y l.length p) (fun p => [some (.o (CP K) (pileF g t y p)), none, none, none]) (pile0 y) (di_to (di_range1 (n := 299 + 1) (by decide) (by decide) rfl T.b_range (dp_add (dp_gint rfl T.MOST_DEEDS) dp_int)) rfl) ⟨by simp, by simp, by simpa using hfin, by simpa using pl0_ok B.n1 O.yy.len⟩ (by exact Sub.refl _) ?_ ?_
  · intro i l p _ ⟨h1, h2, h3, h4⟩
    have hi : i = 300 - (l.length + 1) := by
      have hk : ((List.range 300).drop (300 - (l.length + 1)))[0]? = some i := by
        have : (i :: l)[0]? = some i := rfl
        rw [h1] at this
        exact this
      rw [List.getElem?_drop, List.getElem?_range (by simp at h2; omega)] at hk
      simpa using hk.symm
    have h1' : l = (List.range 300).drop (300 - l.length) := by
      have : l = (i :: l).drop 1 := rfl
      rw [h1, List.drop_drop] at this
      simp at h2
      rw [show 300 - (i :: l).length + 1 = 300 - l.length by simp; omega] at this
      exact this
    have h2' : l.length ≤ 300 := by simp at h2; omega
    have PO := h4.ok
    obtain ⟨_, s2, s3⟩ := PO.top
    have RO := B.row _ (List.mem_of_getElem? (row_at s2 s3))
    have h3 : readGo g t y (l.length + 1) p = fin := h3
    have h4 : PlR t y (l.length + 1) p := h4
    refine ws_set 2 (de_pure (dp_to (dg1 (kvs := encRow (rowAt t (topSt p))) (k := Sum.inr (signAt y p.pl)) hu (dk_dat (dp_meth0 0 (ok_row T) (hr.mono (by decide)) ⟨g, t, y, p, PO, rfl, rfl⟩ rfl rfl)) (dp_meth0 0 (ok_sign T) (hr.mono (by decide)) ⟨g, t, y, p, PO, rfl, rfl⟩ rfl rfl)) (row_get _ _))) ?_
    cases hg : rowGet (rowAt t (topSt p)) (signAt y p.pl) with
    | none =>
      have e : readGo g t y (l.length + 1) p = (p, stopD p.pl (signsOf (rowAt t (topSt p)))) := by
        unfold readGo
        rw [hg]
      rw [e] at h3
      subst h3
      refine ws_if1 (t := true) (dt_to (tcm (cm_isN (v 2))) rfl) (fun _ => ?_) fun h => by cases h
      exact ws_ret (de_pure (dp_tup (da_cons dp_str (da_cons (vf 0 cl (T.na 76) (d := .int (p.pl : Int)) rfl) (da_cons (dp_call (ok_signs_of T) hr ⟨g, t.length, rowAt t (topSt p), RO, rfl, rfl⟩ (da_cons (dp_meth0 0 (ok_row T) (hr.mono (by decide)) ⟨g, t, y, p, PO, rfl, rfl⟩ rfl rfl) da_nil)) da_nil))) l3)) ⟨rfl, rfl⟩
    | some td =>
      have hdo := do_ok B PO hg
      refine ws_if1 (t := false) (dt_to (tcm (cm_isN (v 2))) (isNon_enc td)) (fun h => by cases h) fun _ => ?_
      have e : readGo g t y (l.length + 1) p = if l.length = 0 then (p, tornD p.pl) else if isNon (doPl g t y p td).2 = true then readGo g t y l.length (doPl g t y p td).1 else doPl g t y p td := by
        show (match rowGet (rowAt t (topSt p)) (signAt y p.pl) with
          | none => _
          | some td => _) = _
        rw [hg]
      rw [e] at h3
      refine ws_if1 (t := decide (l.length = 0)) (dt_to (tcm (cm_eqS (da := .int (0 + (i : Int))) (db := .int 299) rfl (v 1) (dp_gint rfl T.MOST_DEEDS))) ?_) (fun h => ?_) fun h => ?_
      · simp only [eqD]
        exact decide_eq_decide.mpr ⟨fun z => by omega, fun z => by omega⟩
      · rw [if_pos (of_decide_eq_true h)] at h3
        subst h3
        exact ws_ret (de_pure (dp_tup (da_cons dp_str (da_cons (vf 0 cl (T.na 76) (d := .int (p.pl : Int)) rfl) da_nil)) l2)) ⟨rfl, rfl⟩
      · rw [if_neg (of_decide_eq_false h)] at h3
        refine ws_set 3 (de_meth 0 (ok_do T) hr ⟨g, t, y, p, td, G, B, PO, hdo, rfl, rfl, rfl, rfl, rfl⟩ rfl rfl (da_cons (v 2) da_nil)) ?_
        refine ws_if1 (t := !isNon (doPl g t y p td).2) (tcm (cm_notN (v 3))) (fun h => ?_) fun h => ?_
        · have hn : ¬ isNon (doPl g t y p td).2 = true := by simpa using h
          rw [if_neg hn] at h3
          subst h3
          exact ws_ret (de_pure (v 3)) ⟨rfl, rfl⟩
        · have hn : isNon (doPl g t y p td).2 = true := by simpa using h
          rw [if_pos hn] at h3
          exact ws_nil ⟨(doPl g t y p td).1, ⟨h1', h2', h3, h4.do G B O.yy O.ys hdo⟩, .same (.drop (.drop (.drop .nil)))⟩
  · intro p ⟨_, _, h3, _⟩
    have h3 : readGo g t y 0 p = fin := h3
    subst h3
    exact ws_ret (de_pure dp_non) ⟨rfl, rfl⟩
/-! pile_of, read_by, folding -/
def R_pile_of (C : Addr) (ds : List PyData) (s : Sl) : Prop := ∃ (g : Gr) (t : List Row) (y : Str), RdOk g t y ∧ ds = [encG g, encTab t, .str y] ∧ s = .o C (pileF g t y (pile0 y))
theorem sc_pile_of : FnScope ["grammar", "table", "text"] ["grammar", "table", "text"] (defScope KHead.s_pile_of) := ⟨rfl, rfl, rfl, by decide +kernel, rfl, by decide +kernel, by decide +kernel⟩
theorem ok_pile_of (T : Txt K mg) : DFn P w K mg base 5 "pile_of" ["grammar", "table", "text"] (spR P w K (R_pile_of (CP K))) := by
  refine T.fn2 37 31 rfl rfl (fun _ _ _ _ _ _ us hl => match us, hl with | [_, _, _], _ => rfl) fun f fd F => fn_R F sc_pile_of (fun ds s ⟨_, _, _, _, h, _⟩ => by rw [h]; rfl) fun cdv A outer s H E ds t0 hr ⟨g, t, y, O, e1, e2⟩ => ?_
  subst e1 e2
  have G := O.gg
  have B := O.tt
  refine ws_exp (de_pure (dp_call (ok_must_be_grammar T) hr ⟨g, G, rfl, rfl⟩ (da_cons (v 0) da_nil))) ?_
  refine ws_exp (de_pure (dp_call (ok_must_be_table T) hr ⟨g, t, G, B, rfl, rfl⟩ (da_cons (v 0) (da_cons (v 1) da_nil)))) ?_
  refine ws_exp (de_pure (dp_call (ok_must_be_text T) (hr.mono (by decide)) ⟨y, O.yy, rfl, rfl⟩ (da_cons (v 2) da_nil))) ?_
  exact ws_ret (de_make (ok_Pile_init T) (hr.mono (by decide)) ⟨g, t, y, O.yy.len, rfl, rfl, rfl, rfl, rfl⟩ (da_cons (v 0) (da_cons (v 1) (da_cons (v 2) da_nil)))) rfl
def R_read_by (ds : List PyData) (d : PyData) : Prop := ∃ (g : Gr) (t : List Row) (y : Str), RdOk g t y ∧ ds = [encG g, encTab t, .str y] ∧ d = (readGo g t y 300 (pile0 y)).2
theorem sc_read_by : FnScope ["grammar", "table", "text"] ["grammar", "table", "text"] (defScope KHead.s_read_by) := ⟨rfl, rfl, rfl, by decide +kernel, rfl, by decide +kernel, by decide +kernel⟩
theorem ok_read_by (T : Txt K mg) : DFn P w K mg base 6 "read_by" ["grammar", "table", "text"] (spD K R_read_by) := by
  refine T.fn2 38 32 rfl rfl (fun _ _ _ _ _ _ us hl => match us, hl with | [_, _, _], _ => rfl) fun f fd F => fn_D F sc_read_by (fun ds s ⟨_, _, _, _, h, _⟩ => by rw [h]; rfl) fun cdv A outer s H E ds t0 hr ⟨g, t, y, O, e1, e2⟩ => ?_
  subst e1 e2
  exact ws_ret (de_callH (ok_read_to_end T) (hr.mono (by decide)) ⟨g, t, y, O, rfl, rfl, rfl, rfl, rfl⟩ (de_callR (ok_pile_of T) hr ⟨g, t, y, O, rfl, rfl⟩ (da_cons (v 0) (da_cons (v 1) (da_cons (v 2) da_nil))))) rfl
def R_folding (ds : List PyData) (d : PyData) : Prop := ∃ (g : Gr) (t : List Row) (y : Str), RdOk g t y ∧ ds = [encG g, encTab t, .str y] ∧ d = .list ((readGo g t y 300 (pile0 y)).1.fo.map encF)
theorem sc_folding : FnScope ["grammar", "table", "text", "pile"] ["grammar", "table", "text"] (defScope KHead.s_folding) := ⟨rfl, rfl, rfl, by decide +kernel, rfl, by decide +kernel, by decide +kernel⟩
theorem ok_folding (T : Txt K mg) : DFn P w K mg base 6 "folding" ["grammar", "table", "text"] (spD K R_folding) := by
  refine T.fn2 39 33 rfl rfl (fun _ _ _ _ _ _ us hl => match us, hl with | [_, _, _], _ => rfl) fun f fd F => fn_D F sc_folding (fun ds s ⟨_, _, _, _, h, _⟩ => by rw [h]; rfl) fun cdv A outer s H E ds t0 hr ⟨g, t, y, O, e1, e2⟩ => ?_
  subst e1 e2
  have nd := sc_folding.nd
  have cl := T.cl 65
  refine ws_set 3 (de_callR (ok_pile_of T) hr ⟨g, t, y, O, rfl, rfl⟩ (da_cons (v 0) (da_cons (v 1) (da_cons (v 2) da_nil)))) ?_
  refine ws_exp (de_callO (ok_read_to_end T) (hr.mono (by decide)) ⟨g, t, y, O, rfl, rfl, rfl, rfl, rfl⟩ (dao_here 3 da_nil rfl) rfl) ?_
  refine ws_frzF 3 rfl (f := "forms") (ds := (readGo g t y 300 (pile0 y)).1.fo.map encF) rfl ?_
  exact ws_ret (de_pure (vf 3 cl (T.na 77) rfl)) rfl
end
end DL


set_option Elab.async false
set_option linter.all false
set_option maxRecDepth 100000
set_option maxHeartbeats 4000000
/-! W9: parts_next, clash_of, row_of. -/
namespace DL
open PySem PySem.Spec PyProof.Rows L2

def partsNext (g : Gr) (stand : List It3) : List Str := sortS (dis (stand.filterMap (nextPart g)))
theorem nexts_eq (g : Gr) : ∀ stand : List It3, (stand.filter fun it => (nextPart g it).isSome).map (fun it => encO (nextPart g it)) = (stand.filterMap (nextPart g)).map PyData.str
  | [] => rfl
  | it :: l => by
    cases h : nextPart g it with
    | none =>
      rw [List.filter_cons_of_neg (by simp [h]), List.filterMap_cons_none h]
      exact nexts_eq g l
    | some p =>
      rw [List.filter_cons_of_pos (by simp [h]), List.filterMap_cons_some h, List.map_cons, List.map_cons, nexts_eq g l, h]
      rfl
def encC : Option (Str × List Deed) → PyData
  | none => .none
  | some p => .tuple [.str p.1, encDs p.2]
def clashOf (g : Gr) (stand : List It3) : Option (Str × List Deed) := ((sortS ((namedBy g stand).map Prod.fst)).find? fun s => decide (1 < (nbGet (namedBy g stand) s).length)).map fun s => (s, nbGet (namedBy g stand) s)
def tdOf : Deed → TD
  | .done => .done
  | .go => .goto 0
  | .rule n => .rule n
def rput (r : Row) (k : Str) (x : TD) : Row := if (r.any fun p => decide (p.1 = k)) = true then r.map (fun p => if p.1 = k then (p.1, x) else p) else r ++ [(k, x)]
def rowStep1 (r : Row) (p : Str × List Deed) : Row := if (p.2[0]?).getD .go = .go then r else rput r p.1 (tdOf ((p.2[0]?).getD .go))
def rowStep2 (r : Row) (p : Str × Nat) : Row := rput r p.1 (.goto p.2)
def rowOf (g : Gr) (stand : List It3) (going : List (Str × Nat)) : Row := going.foldl rowStep2 ((namedBy g stand).foldl rowStep1 [])
def encGo (l : List (Str × Nat)) : List (Key × PyData) := l.map fun p => (Sum.inr p.1, .int (p.2 : Int))
theorem rput_enc (r : Row) (k : Str) (x : TD) : putD (encRow r) (Sum.inr k) (encT x) = encRow (rput r k x) := by
  have e : ((encRow r).any fun kv => decide (kv.1 = (Sum.inr k : Key))) = r.any fun p => decide (p.1 = k) := by
    unfold encRow
    rw [List.any_map]
    congr 1
    funext p
    exact decide_eq_decide.mpr ⟨Sum.inr.inj, fun z => congrArg Sum.inr z⟩
  unfold putD rput
  rw [e]
  split
  · unfold encRow
    rw [List.map_map, List.map_map]
    refine List.map_congr_left fun p _ => ?_
    show (if (Sum.inr p.1 : Key) = Sum.inr k then ((Sum.inr p.1 : Key), encT x) else _) = (fun p : Str × TD => ((Sum.inr p.1 : Key), encT p.2)) (if p.1 = k then (p.1, x) else p)
    by_cases h : p.1 = k
    · rw [if_pos (by rw [h]), if_pos h]
    · rw [if_neg fun z => h (Sum.inr.inj z), if_neg h]
  · simp [encRow]
theorem rput_len (r : Row) (k : Str) (x : TD) : (rput r k x).length ≤ r.length + 1 := by
  unfold rput
  split
  · rw [List.length_map]; omega
  · rw [List.length_append]; exact Nat.le_refl _
theorem nb_val {nb : NB} {x : Str} (h : x ∈ nb.map Prod.fst) : valD (encNB nb) (Sum.inr x) = some (encDs (nbGet nb x)) := by
  induction nb with
  | nil => cases h
  | cons p nb ih =>
    by_cases e : p.1 = x
    · simp [valD, encNB, nbGet, List.find?_cons, e]
    · have e1 : valD (encNB (p :: nb)) (Sum.inr x) = valD (encNB nb) (Sum.inr x) := by simp [valD, encNB, List.find?_cons, e]
      have e2 : nbGet (p :: nb) x = nbGet nb x := by simp [nbGet, List.find?_cons, e]
      rw [e1, e2]
      rcases List.mem_cons.mp h with z | z
      · exact absurd z.symm e
      · exact ih z
/-- named deeds: every list has one at least; their number -/
theorem nbPut_all {Q : Str × List Deed → Prop} {nb : NB} {x : Str} {l : List Deed} (h : ∀ p ∈ nb, Q p) (hl : Q (x, l)) : ∀ p ∈ nbPut nb x l, Q p := by
  unfold nbPut
  intro p hp
  split at hp
  · obtain ⟨q, hq, e⟩ := List.mem_map.mp hp
    by_cases z : q.1 = x
    · rw [if_pos z, z] at e; rw [← e]; exact hl
    · rw [if_neg z] at e; rw [← e]; exact h q hq
  · rcases List.mem_append.mp hp with z | z
    · exact h p z
    · rw [List.mem_singleton.mp z]; exact hl
theorem nbStep_all {Q : Str × List Deed → Prop} {nb : NB} {o : Option (Str × Deed)} (h : ∀ p ∈ nb, Q p) (hl : ∀ x d, o = some (x, d) → Q (x, sortDd (nbGet nb x ++ [d]))) : ∀ p ∈ nbStep nb o, Q p := by
  unfold nbStep
  cases o with
  | none => exact h
  | some q =>
    show ∀ p ∈ (if q.2 ∈ nbGet nb q.1 then nb else nbPut nb q.1 (sortDd (nbGet nb q.1 ++ [q.2]))), Q p
    split
    · exact h
    · exact nbPut_all h (hl q.1 q.2 rfl)
theorem named_ne (g : Gr) (stand : List It3) : ∀ p ∈ namedBy g stand, p.2 ≠ [] := by
  have key : ∀ (l : List It3) (nb : NB), (∀ p ∈ nb, p.2 ≠ []) → ∀ p ∈ l.foldl (fun nb it => nbStep nb (deedOf g it)) nb, p.2 ≠ [] := by
    intro l
    induction l with
    | nil => intro nb h; exact h
    | cons it l ih =>
      intro nb h
      refine ih _ (nbStep_all h fun x d _ e => ?_)
      have := congrArg List.length (show sortDd (nbGet nb x ++ [d]) = [] from e)
      rw [sortDd_len, List.length_append] at this
      simp at this
  exact key stand [] fun p hp => (List.not_mem_nil hp).elim
theorem nbStep_len (nb : NB) (o : Option (Str × Deed)) : (nbStep nb o).length ≤ nb.length + 1 := by
  unfold nbStep
  cases o with
  | none => exact Nat.le_succ _
  | some q =>
    show (if q.2 ∈ nbGet nb q.1 then nb else nbPut nb q.1 (sortDd (nbGet nb q.1 ++ [q.2]))).length ≤ _
    split
    · exact Nat.le_succ _
    · exact nbPut_len ..
theorem named_len (g : Gr) (stand : List It3) : (namedBy g stand).length ≤ stand.length := by
  have key : ∀ (l : List It3) (nb : NB), (l.foldl (fun nb it => nbStep nb (deedOf g it)) nb).length ≤ nb.length + l.length := by
    intro l
    induction l with
    | nil => intro nb; exact Nat.le_refl _
    | cons it l ih =>
      intro nb
      have h1 := ih (nbStep nb (deedOf g it))
      have h2 := nbStep_len nb (deedOf g it)
      rw [List.foldl_cons, List.length_cons]
      omega
  have := key stand []
  simpa [namedBy] using this
section
variable {P : Program} {w : World} {K : PySem.W.Frag} {mg : Str → Option Value} {base : Heap}
/-! parts_next -/
def R_parts_next (ds : List PyData) (d : PyData) : Prop := ∃ g stand, GG g ∧ StOk g stand ∧ ds = [encG g, .list (stand.map encI)] ∧ d = .list (encS (partsNext g stand))
theorem sc_parts_next : FnScope ["grammar", "stand", "some", "item", "part"] ["grammar", "stand"] (defScope KHead.s_parts_next) := ⟨rfl, rfl, rfl, by decide +kernel, rfl, by decide +kernel, by decide +kernel⟩
theorem ok_parts_next (T : Txt K mg) : DFn P w K mg base 3 "parts_next" ["grammar", "stand"] (spD K R_parts_next) := by
  refine T.fn2 40 34 rfl rfl (fun _ _ _ _ _ _ us hl => match us, hl with | [_, _], _ => rfl) fun f fd F => fn_D F sc_parts_next (fun ds d ⟨g, _, _, _, h, _⟩ => by rw [h]; rfl) fun cdv A outer s H E ds d hr ⟨g, stand, G, S, e1, e2⟩ => ?_
  subst e1 e2
  have nd := sc_parts_next.nd
  have hz := S.1
  refine ws_setLcN 2 3 encI (fun _ => true) (fun it => encO (nextPart g it)) (xs := stand) (di_weak (di_dat (v 1))) (fun it hit s H C cl fp => dts_nil) (fun it hit _ s H C cl fp => dp_call (ok_next_part T) hr ⟨g, it, G, S.2 it hit, rfl, rfl⟩ (da_cons (v 0) (da_cons (v 3) da_nil))) (szl (by omega)) ?_
  rw [flt_true]
  refine ws_ret (de_pure (dp_sortSet (xs := stand.filterMap (nextPart g)) rfl (by have := List.length_filterMap_le (nextPart g) stand; unfold scanBound; omega) (un2 hr (by decide)) rfl T.b_sorted rfl T.b_set (dl_dat (dp_to (lcN 4 (fun it => encO (nextPart g it)) (fun it => (nextPart g it).isSome) (fun it => encO (nextPart g it)) (xs := stand) (di_weak (di_dat (v 2))) (fun it hit s H C cl fp => dts_one (dt_to (tcm (cm_notN (v 4))) ?_)) (fun it hit _ s H C cl fp => v 4) (szl (by omega))) ?_)))) rfl
  · cases nextPart g it <;> rfl
  · rw [nexts_eq]
/-! clash_of -/
theorem nb_keys (nb : NB) : (encNB nb).map (fun kv => kD kv.1) = encS (nb.map Prod.fst) := by
  unfold encNB encS
  rw [List.map_map, List.map_map]
  rfl
def R_clash_of (ds : List PyData) (d : PyData) : Prop := ∃ g stand, GG g ∧ StOk g stand ∧ (∀ s ∈ (namedBy g stand).map Prod.fst, PyData.strOk s = true) ∧ ds = [encG g, .list (stand.map encI)] ∧ d = encC (clashOf g stand)
theorem sc_clash_of : FnScope ["grammar", "stand", "deeds", "sign"] ["grammar", "stand"] (defScope KHead.s_clash_of) := ⟨rfl, rfl, rfl, by decide +kernel, rfl, by decide +kernel, by decide +kernel⟩
theorem ok_clash_of (T : Txt K mg) : DFn P w K mg base 5 "clash_of" ["grammar", "stand"] (spD K R_clash_of) := by
  refine T.fn2 41 35 rfl rfl (fun _ _ _ _ _ _ us hl => match us, hl with | [_, _], _ => rfl) fun f fd F => fn_D F sc_clash_of (fun ds d ⟨g, _, _, _, _, h, _⟩ => by rw [h]; rfl) fun cdv A outer s H E ds d hr ⟨g, stand, G, S, ks, e1, e2⟩ => ?_
  subst e1 e2
  have nd := sc_clash_of.nd
  have hu := u1 hr
  refine ws_set 2 (de_pure (dp_call (ok_named_by T) hr ⟨g, stand, G, S, rfl, rfl⟩ (da_cons (v 0) (da_cons (v 1) da_nil)))) ?_
  have hc : clashOf g stand = ((sortS ((namedBy g stand).map Prod.fst)).find? fun s => decide (1 < (nbGet (namedBy g stand) s).length)).map fun s => (s, nbGet (namedBy g stand) s) := rfl
  rw [hc]
  generalize namedBy g stand = nb at ks
  refine ws_forN (S := Unit) (xs := sortS (nb.map Prod.fst)) 3 PyData.str (fun l _ => l.find? (fun s => decide (1 < (nbGet nb s).length)) = (sortS (nb.map Prod.fst)).find? fun s => decide (1 < (nbGet nb s).length))
    (fun _ => [some (dat (encG g)), some (dat (.list (stand.map encI))), some (dat (dictD (encNB nb))), none]) () (di_to (di_dat (dp_sorted (ds := encS (nb.map Prod.fst)) (lay_S ks) (alike_S _) (sortable_S _) (fun d hd => ?_) rfl T.b_sorted (dl_dat (dp_to (dp_listK (kvs := encNB nb) rfl rfl T.b_list (dk_dat (v 2))) (by rw [nb_keys]))))) (sort_encS _)) rfl (Sub.refl _) ?_ ?_
  · obtain ⟨a, _, rfl⟩ := List.mem_map.mp hd
    exact un2 hr (a := 2 + 0) (by decide)
  · intro s l _ hs hj
    have hs' : s ∈ nb.map Prod.fst := (List.mergeSort_perm _ leS).mem_iff.mp hs
    have hv := nb_val hs'
    refine ws_if1 (t := decide (1 < (nbGet nb s).length)) (dt_to (tcm (cm_gt (dp_lenL (ds := (nbGet nb s).map encD) rfl T.b_len (dl_dat (dp_dget (kvs := encNB nb) (k := Sum.inr s) hu hv (dk_dat (v 2)) (v 3)))) dp_int)) (by rw [List.length_map]; exact decide_eq_decide.mpr (by omega))) (fun h => ?_) fun h => ?_
    · rw [List.find?_cons_of_pos (p := fun s => decide (1 < (nbGet nb s).length)) h] at hj
      refine ws_ret (de_pure (dp_tup (da_cons (v 3) (da_cons (dp_dget (kvs := encNB nb) (k := Sum.inr s) hu hv (dk_dat (v 2)) (v 3)) da_nil)) (Nat.le_of_ble_eq_true rfl))) ?_
      show dat _ = dat (encC _)
      rw [← hj]
      rfl
    · rw [List.find?_cons_of_neg (p := fun s => decide (1 < (nbGet nb s).length)) (by rw [h]; exact Bool.false_ne_true)] at hj
      exact ws_nil ⟨(), hj, .same (.same (.same (.drop .nil)))⟩
  · intro _ hj
    refine ws_ret (de_pure dp_non) ?_
    show dat _ = dat (encC _)
    rw [← show List.find? _ [] = _ from hj]
    rfl
/-! row_of -/
theorem items_nb (nb : NB) : itemsD (encNB nb) = nb.map fun p => .tuple [.str p.1, encDs p.2] := by
  unfold itemsD encNB
  rw [List.map_map]
  rfl
theorem items_go (l : List (Str × Nat)) : itemsD (encGo l) = l.map fun p => .tuple [.str p.1, .int (p.2 : Int)] := by
  unfold itemsD encGo
  rw [List.map_map]
  rfl
theorem tdOf_enc {d : Deed} (h : d ≠ .go) : encD d = encT (tdOf d) := by
  cases d with
  | done => rfl
  | go => exact absurd rfl h
  | rule n => rfl
def R_row_of (ds : List PyData) (d : PyData) : Prop := ∃ g stand going, GG g ∧ StOk g stand ∧ going.length ≤ 1000 ∧ ds = [encG g, .list (stand.map encI), dictD (encGo going)] ∧ d = dictD (encRow (rowOf g stand going))
theorem sc_row_of : FnScope ["grammar", "stand", "goings", "found", "sign", "deeds", "part", "state"] ["grammar", "stand", "goings"] (defScope KHead.s_row_of) := ⟨rfl, rfl, rfl, by decide +kernel, rfl, by decide +kernel, by decide +kernel⟩
theorem ok_row_of (T : Txt K mg) : DFn P w K mg base 5 "row_of" ["grammar", "stand", "goings"] (spD K R_row_of) := by
  refine T.fn2 42 36 rfl rfl (fun _ _ _ _ _ _ us hl => match us, hl with | [_, _, _], _ => rfl) fun f fd F => fn_D F sc_row_of (fun ds d ⟨g, _, _, _, _, _, h, _⟩ => by rw [h]; rfl) fun cdv A outer s H E ds d hr ⟨g, stand, going, G, S, hg, e1, e2⟩ => ?_
  subst e1 e2
  have nd := sc_row_of.nd
  have hu := u1 hr
  have hu0 := hr.units
  have hn := named_len g stand
  have hne := named_ne g stand
  have hs := S.1
  have hrow : rowOf g stand going = going.foldl rowStep2 ((namedBy g stand).foldl rowStep1 []) := rfl
  refine ws_set 3 de_dictK ?_
  refine ws_forP (S := Row) (xs := namedBy g stand) 4 5 (fun p => .str p.1) (fun p => encDs p.2) (fun l r => l.foldl rowStep1 r = (namedBy g stand).foldl rowStep1 [] ∧ r.length + l.length ≤ 1000)
    (fun r => [some (dat (encG g)), some (dat (.list (stand.map encI))), some (dat (dictD (encGo going))), some (.b (.okd (encRow r))), none, none, none, none]) []
    (di_to (di_items (dp_call (ok_named_by T) hr ⟨g, stand, G, S, rfl, rfl⟩ (da_cons (v 0) (da_cons (v 1) da_nil)))) (items_nb _)) ⟨rfl, by show 0 + _ ≤ 1000; omega⟩ (Sub.refl _) ?_ ?_
  · intro p l r hp ⟨h1, h2⟩
    have h2 : r.length + (l.length + 1) ≤ 1000 := h2
    rw [List.foldl_cons] at h1
    obtain ⟨d, ds, hd⟩ := List.exists_cons_of_ne_nil (hne p hp)
    have h0 : (p.2[0]?).getD .go = d := by rw [hd]; rfl
    have at0 : atI (p.2.map encD) 0 = some (encD d) := by rw [hd, atI_nat (Int.le_refl 0)]; rfl
    refine ws_if1 (t := !decide (d = .go)) (dt_to (tcm (cm_neG (da := encD d) (db := encD .go) (lay_encD _) (lay_encD _) (by rw [depth_encD, depth_encD]; exact un2 hr (by decide)) (dp_ixL (ds := p.2.map encD) at0 (dl_dat (v 5)) dp_int) (dp_tup (da_cons dp_str da_nil) (Nat.le_of_ble_eq_true rfl)))) (by rw [eqv_encD])) (fun h => ?_) fun h => ?_
    · have hd' : d ≠ .go := by simpa using h
      have es : rowStep1 r p = rput r p.1 (tdOf d) := by unfold rowStep1; rw [h0, if_neg hd']
      rw [es] at h1
      refine ws_dput 3 (kvs := encRow r) (k := Sum.inr p.1) (d := encT (tdOf d)) (de_pure (dp_to (dp_ixL (ds := p.2.map encD) at0 (dl_dat (v 5)) dp_int) (tdOf_enc hd'))) rfl (v 4) (szl (by simp [encRow]; omega)) hu ?_
      refine ws_nil (ws_nil ⟨rput r p.1 (tdOf d), ⟨h1, by have := rput_len r p.1 (tdOf d); omega⟩, ?_⟩)
      rw [rput_enc]
      exact .same (.same (.same (.same (.drop (.drop (.same (.same .nil)))))))
    · have hd' : d = .go := by simpa using h
      have es : rowStep1 r p = r := by unfold rowStep1; rw [h0, if_pos hd']
      rw [es] at h1
      exact ws_nil ⟨r, ⟨h1, by omega⟩, .same (.same (.same (.same (.drop (.drop (.same (.same .nil)))))))⟩
  · intro r0 ⟨h1, h2⟩
    have h1 : r0 = (namedBy g stand).foldl rowStep1 [] := h1
    have h2 : r0.length + 0 ≤ 1000 := h2
    rw [hrow, ← h1]
    refine ws_forP (S := Row) (xs := going) 6 7 (fun p => .str p.1) (fun p => .int (p.2 : Int)) (fun l r => l.foldl rowStep2 r = going.foldl rowStep2 r0 ∧ r.length + l.length ≤ 2000)
      (fun r => [some (dat (encG g)), some (dat (.list (stand.map encI))), some (dat (dictD (encGo going))), some (.b (.okd (encRow r))), none, none, none, none]) r0
      (di_to (di_items (v 2)) (items_go _)) ⟨rfl, by omega⟩ (Sub.refl _) ?_ ?_
    · intro p l r hp ⟨h1, h2⟩
      have h2 : r.length + (l.length + 1) ≤ 2000 := h2
      rw [List.foldl_cons] at h1
      refine ws_dput 3 (kvs := encRow r) (k := Sum.inr p.1) (d := encT (.goto p.2)) (de_pure (dp_tup (da_cons dp_str (da_cons (v 7) da_nil)) (Nat.le_of_ble_eq_true rfl))) rfl (v 6) (szl (by simp [encRow]; omega)) hu ?_
      refine ws_nil ⟨rput r p.1 (.goto p.2), ⟨h1, by have := rput_len r p.1 (.goto p.2); omega⟩, ?_⟩
      rw [rput_enc]
      exact .same (.same (.same (.same (.same (.same (.drop (.drop .nil)))))))
    · intro r ⟨h1, h2⟩
      have h1 : r = going.foldl rowStep2 r0 := h1
      refine ws_ret (de_frzK (mv 3)) ?_
      rw [h1]
end
end DL


set_option Elab.async false
set_option linter.all false
set_option maxRecDepth 100000
set_option maxHeartbeats 4000000
/-! W10: webs. -/
namespace DL
open PySem PySem.Spec PyProof.Rows L2

/-! ### stands as keys -/
def itN (it : It3) : NestedKey := .tup [.num it.1, .num it.2.1, .text it.2.2]
def keyN (l : List It3) : NestedKey := .tup (l.map itN)
theorem nkDs_map (l : List It3) : nkDs (l.map itN) = l.map encI := by
  induction l with
  | nil => simp [nkDs]
  | cons it l ih =>
    rw [List.map_cons, nkDs, ih]
    simp [itN, nkD, nkDs, encI]
theorem nkD_keyN (l : List It3) : nkD (keyN l) = .tuple (l.map encI) := by
  unfold keyN
  rw [nkD, nkDs_map]
theorem depth_keyN (l : List It3) : (keyN l).depth ≤ 8 := by
  have : NestedKey.depthAll (l.map itN) ≤ 1 := by
    induction l with
    | nil => simp [NestedKey.depthAll]
    | cons it l ih =>
      rw [List.map_cons, NestedKey.depthAll]
      have : (itN it).depth = 1 := by simp [itN, NestedKey.depth, NestedKey.depthAll]
      omega
  unfold keyN
  rw [NestedKey.depth]
  omega
theorem itN_inj {x y : It3} (e : itN x = itN y) : x = y := by
  obtain ⟨x1, x2, x3⟩ := x
  obtain ⟨y1, y2, y3⟩ := y
  simpa [itN] using e
theorem map_inj {α β : Type} {f : α → β} (h : ∀ x y, f x = f y → x = y) : ∀ {a b : List α}, a.map f = b.map f → a = b
  | [], [], _ => rfl
  | [], _ :: _, e => by cases e
  | _ :: _, [], e => by cases e
  | x :: a, y :: b, e => by
    injection e with e1 e2
    rw [h _ _ e1, map_inj h e2]
theorem keyN_inj {a b : List It3} (h : keyN a = keyN b) : a = b := by
  unfold keyN at h
  injection h with h
  exact map_inj (fun _ _ => itN_inj) h
/-! ### webs -/
structure Wb where
  st : List (List It3)
  fo : List (List Str)
  nu : List (List It3 × Nat)
  go : List (List (Str × Nat))
def encSt (l : List It3) : PyData := .list (l.map encI)
def nuV (nu : List (List It3 × Nat)) : List (NestedKey × V) := nu.map fun p => (keyN p.1, V.int (p.2 : Int))
def webF (g : Gr) (wb : Wb) : List (Str × Bs) :=
  [("grammar", .dat (encG g)), ("lore", .dat (encLore (loreOf g))), ("stands", .ol (wb.st.map encSt)), ("forms", .ol (wb.fo.map encF)), ("numbers", .ond (nuV wb.nu)), ("goings", .ol (wb.go.map fun l => dictD (encGo l)))]
def nuGet (nu : List (List It3 × Nat)) (k : List It3) : Option Nat := (nu.find? fun p => decide (p.1 = k)).map (·.2)
theorem nu_val (nu : List (List It3 × Nat)) (k : List It3) : valV (nuV nu) (keyN k) = (nuGet nu k).map fun n => V.int (n : Int) := by
  induction nu with
  | nil => rfl
  | cons p nu ih =>
    by_cases e : p.1 = k
    · simp [valV, nuV, nuGet, List.find?_cons, e]
    · have ne : ¬ keyN p.1 = keyN k := fun z => e (keyN_inj z)
      have e1 : valV (nuV (p :: nu)) (keyN k) = valV (nuV nu) (keyN k) := by simp [valV, nuV, List.find?_cons, ne]
      have e2 : nuGet (p :: nu) k = nuGet nu k := by simp [nuGet, List.find?_cons, e]
      rw [e1, e2, ih]
theorem nu_put {nu : List (List It3 × Nat)} {k : List It3} {n : Nat} (h : nuGet nu k = none) : putK (nuV nu) (keyN k) (V.int (n : Int)) = nuV (nu ++ [(k, n)]) := by
  have e : ((nuV nu).any fun kv => decide (kv.1 = keyN k)) = false := by
    rw [List.any_eq_false]
    intro q hq
    obtain ⟨p, hp, rfl⟩ := List.mem_map.mp hq
    have hn : nu.find? (fun p => decide (p.1 = k)) = none := by
      unfold nuGet at h
      cases z : nu.find? fun p => decide (p.1 = k) with
      | none => rfl
      | some x => rw [z] at h; cases h
    have := List.find?_eq_none.mp hn p hp
    intro z
    exact this (decide_eq_true (keyN_inj (of_decide_eq_true z)))
  unfold putK
  rw [e]
  simp [nuV]
def stateOf (wb : Wb) (stand : List It3) (form : List Str) : Wb × Nat := match nuGet wb.nu (sortI stand) with
  | some n => (wb, n)
  | none => (⟨wb.st ++ [stand], wb.fo ++ [form], wb.nu ++ [(sortI stand, wb.st.length)], wb.go⟩, wb.st.length)
structure WbL (n : Nat) (wb : Wb) : Prop where
  st : wb.st.length ≤ n
  fo : wb.fo.length = wb.st.length
  nu : wb.nu.length = wb.st.length
  go : wb.go.length ≤ n
theorem stateOf_len {n : Nat} {wb : Wb} (h : WbL n wb) (stand : List It3) (form : List Str) : WbL (n + 1) (stateOf wb stand form).1 := by
  obtain ⟨h1, h2, h3, h4⟩ := h
  unfold stateOf
  split
  · exact ⟨by show wb.st.length ≤ _; omega, h2, h3, by show wb.go.length ≤ _; omega⟩
  · exact ⟨by simp; omega, by simp; omega, by simp; omega, by show wb.go.length ≤ _; omega⟩
abbrev CW (K : PySem.W.Frag) : Addr := He.ga K "Web"
section
variable {P : Program} {w : World} {K : PySem.W.Frag} {mg : Str → Option Value} {base : Heap}
/-! state_of -/
def R_state_of (C : Addr) (ds1 : List PyData) (s : Sl) (ds2 : List PyData) (s' : Sl) (d : PyData) : Prop := ∃ (g : Gr) (wb : Wb) (stand : List It3) (form : List Str), WbL 900000 wb ∧ StOk g stand ∧ ds1 = [] ∧ s = .o C (webF g wb) ∧ ds2 = [encSt stand, encF form] ∧ s' = .o C (webF g (stateOf wb stand form).1) ∧ d = .int ((stateOf wb stand form).2 : Int)
theorem sc_state_of : FnScope ["self", "stand", "form", "key"] ["self", "stand", "form"] (defScope KHead.s_Web_state_of) := ⟨rfl, rfl, rfl, by decide +kernel, rfl, by decide +kernel, by decide +kernel⟩
theorem ok_state_of (T : Txt K mg) : DMe P w K mg base 1 (CW K) "state_of" ["self", "stand", "form"] (spO P w K (R_state_of (CW K))) := by
  refine T.me 44 62 68 rfl rfl rfl (fun _ _ _ _ _ _ us hl => match us, hl with | [_, _, _], _ => rfl) fun f fd F => fn_O F sc_state_of (fun ds1 s ds2 s' d ⟨_, _, _, _, _, _, h1, _, h2, _⟩ => by rw [h1, h2]; rfl) fun cdv A outer s H E ds1 t0 ds2 t' d hr ⟨g, wb, stand, form, W, S, e1, e2, e3, e4, e5⟩ => ?_
  subst e1 e2 e3 e4 e5
  have nd := sc_state_of.nd
  have cl := T.cl 68
  have hu := u9 hr
  obtain ⟨w1, w2, w3, w4⟩ := W
  have hs := S.1
  refine ws_set 3 (de_pure (dp_to (dp_tupleL (ds := (sortI stand).map encI) rfl T.b_tuple (dl_dat (dp_to (dp_sorted (ds := stand.map encI) (lay_encIs fun it hi => (S.2 it hi).sg) (alike_encI _) (sortable_encI _) (fun d hd => ?_) rfl T.b_sorted (vd 1)) (by rw [sort_encI])))) (nkD_keyN (sortI stand)).symm)) ?_
  · obtain ⟨it', hi', rfl⟩ := List.mem_map.mp hd
    rw [depth_encI]
    exact un3 hr (by decide)
  have hv := nu_val wb.nu (sortI stand)
  have hk := depth_keyN (sortI stand)
  cases hn : nuGet wb.nu (sortI stand) with
  | some n =>
    rw [hn] at hv
    have es : stateOf wb stand form = (wb, n) := by unfold stateOf; rw [hn]
    refine ws_if1 (t := false) (dt_to (tcm (cm_notInN (k := keyN (sortI stand)) (kvs := nuV wb.nu) hu hk ⟨_, rfl⟩ (v 3) (vnF 0 cl (T.na 82) rfl))) (by rw [hv]; rfl)) (fun h => by cases h) fun _ => ?_
    refine ws_ret (de_pure (dp_getN (k := keyN (sortI stand)) (kvs := nuV wb.nu) (v0 := .int (n : Int)) (d := .int (n : Int)) hu hk ⟨_, rfl⟩ hv (fun Hf => .int _) (vnF 0 cl (T.na 82) rfl) (v 3))) ⟨by rw [es], by rw [es]; rfl⟩
  | none =>
    rw [hn] at hv
    have es : stateOf wb stand form = (⟨wb.st ++ [stand], wb.fo ++ [form], wb.nu ++ [(sortI stand, wb.st.length)], wb.go⟩, wb.st.length) := by unfold stateOf; rw [hn]
    refine ws_if1 (t := true) (dt_to (tcm (cm_notInN (k := keyN (sortI stand)) (kvs := nuV wb.nu) hu hk ⟨_, rfl⟩ (v 3) (vnF 0 cl (T.na 82) rfl))) (by rw [hv]; rfl)) (fun _ => ?_) fun h => by cases h
    refine ws_dputNF 0 (k := keyN (sortI stand)) (kvs := nuV wb.nu) (v0 := .int (wb.st.length : Int)) (d := .int (wb.st.length : Int)) cl (T.na 82) hu hk ⟨_, rfl⟩ (dp_to (dp_lenL (ds := wb.st.map encSt) rfl T.b_len (vfl 0 cl (T.na 80) rfl)) (by rw [List.length_map])) (fun Hf v hd => by cases hd; rfl) (v 3) (szl (by simp [nuV]; omega)) rfl ?_
    rw [nu_put hn]
    refine ws_exp (de_appendF 0 cl (T.na 80) (ds := wb.st.map encSt) rfl rfl (v 1) (szl (by rw [List.length_map]; omega))) ?_
    refine ws_exp (de_appendF 0 cl (T.na 81) (ds := wb.fo.map encF) rfl rfl (v 2) (szl (by rw [List.length_map]; omega))) ?_
    refine ws_nil ?_
    have hv2 : valV (nuV (wb.nu ++ [(sortI stand, wb.st.length)])) (keyN (sortI stand)) = some (.int (wb.st.length : Int)) := by
      rw [nu_val]
      have : nuGet (wb.nu ++ [(sortI stand, wb.st.length)]) (sortI stand) = some wb.st.length := by
        unfold nuGet
        rw [List.find?_append]
        have hn' : wb.nu.find? (fun p => decide (p.1 = sortI stand)) = none := by
          unfold nuGet at hn
          cases z : wb.nu.find? fun p => decide (p.1 = sortI stand) with
          | none => rfl
          | some x => rw [z] at hn; cases hn
        rw [hn']
        simp
      rw [this]
      rfl
    refine ws_ret (de_pure (dp_getN (k := keyN (sortI stand)) (kvs := nuV (wb.nu ++ [(sortI stand, wb.st.length)])) (v0 := .int (wb.st.length : Int)) (d := .int (wb.st.length : Int)) hu hk ⟨_, rfl⟩ hv2 (fun Hf => .int _) (vnF 0 cl (T.na 82) rfl) (v 3))) ⟨by rw [es], ?_⟩
    rw [es]
    show some (some (Sl.o (CW K) _)) = some (some (Sl.o (CW K) _))
    congr 3
    show _ = webF g _
    unfold webF
    rw [List.map_append, List.map_append]
    rfl
end
/-! ### what closing keeps -/
theorem close_all {g : Gr} {L : Lore} {Q : It3 → Prop} (hQ : ∀ x, Q x → ∀ y ∈ callsBy g L x, Q y) : ∀ {n : Nat} {found : List It3} {at_ : Nat} {res : List It3}, closeGo g L n found at_ = some res → (∀ x ∈ found, Q x) → ∀ x ∈ res, Q x
  | 0, found, at_, res, h, hf => by
    unfold closeGo at h
    split at h
    · cases h
    · cases h; exact hf
  | n + 1, found, at_, res, h, hf => by
    unfold closeGo at h
    split at h
    · rename_i hlt
      refine close_all hQ h fun x hx => ?_
      rcases (adds_mem _).mp hx with z | z
      · exact hf x z
      · have hat : found[at_]? = some (itAt found at_) := by unfold itAt; rw [List.getElem?_eq_getElem hlt]; rfl
        exact hQ _ (hf _ (List.mem_of_getElem? hat)) x z
    · cases h; exact hf
theorem ClOk.all {g : Gr} {L : Lore} {items : List It3} (G : GG g) (O : LoOk g L) (C : ClOk g L items) : StOk g (closedBy g L items) :=
  ⟨C.len, close_all (Q := ItOk g) (fun x hx y hy => calls_it G O hx hy) C.go C.ok⟩
/-! ### look -/
def stAt (wb : Wb) (i : Nat) : List It3 := (wb.st[i]?).getD []
def foAt (wb : Wb) (i : Nat) : List Str := (wb.fo[i]?).getD []
def lookStep (g : Gr) (st : List It3) (fo : List Str) (s : Wb × List (Str × Nat)) (p : Str) : Wb × List (Str × Nat) :=
  ((stateOf s.1 (movedBy g (loreOf g) st p) (fo ++ [p])).1, s.2 ++ [(p, (stateOf s.1 (movedBy g (loreOf g) st p) (fo ++ [p])).2)])
def lookGo (g : Gr) (wb : Wb) (i : Nat) : Wb × List (Str × Nat) := (partsNext g (stAt wb i)).foldl (lookStep g (stAt wb i) (foAt wb i)) (wb, [])
def lookW (g : Gr) (wb : Wb) (i : Nat) : Wb := { (lookGo g wb i).1 with go := (lookGo g wb i).1.go ++ [(lookGo g wb i).2] }
theorem parts_nd (g : Gr) (st : List It3) : (partsNext g st).Nodup := (List.mergeSort_perm _ leS).nodup_iff.mpr (dis_nodup _)
theorem parts_mem {g : Gr} {st : List It3} {p : Str} : p ∈ partsNext g st ↔ ∃ it ∈ st, nextPart g it = some p := by
  unfold partsNext sortS
  rw [(List.mergeSort_perm _ leS).mem_iff, dis_mem, List.mem_filterMap]
theorem parts_len (g : Gr) (st : List It3) : (partsNext g st).length ≤ st.length := by
  unfold partsNext sortS
  rw [(List.mergeSort_perm _ leS).length_eq]
  exact Nat.le_trans (dis_len _) (List.length_filterMap_le _ _)
theorem go_put {l : List (Str × Nat)} {p : Str} {n : Nat} (h : p ∉ l.map Prod.fst) : putD (encGo l) (Sum.inr p) (.int (n : Int)) = encGo (l ++ [(p, n)]) := by
  have e : ((encGo l).any fun kv => decide (kv.1 = (Sum.inr p : Key))) = false := by
    rw [List.any_eq_false]
    intro q hq
    obtain ⟨x, hx, rfl⟩ := List.mem_map.mp hq
    intro z
    exact h (List.mem_map.mpr ⟨x, hx, Sum.inr.inj (of_decide_eq_true z)⟩)
  unfold putD
  rw [e]
  simp [encGo]
theorem stateOf_at {wb : Wb} {stand : List It3} {form : List Str} {i : Nat} {x : List It3} (h : wb.st[i]? = some x) : (stateOf wb stand form).1.st[i]? = some x := by
  unfold stateOf
  split
  · exact h
  · show (wb.st ++ [stand])[i]? = some x
    rw [List.getElem?_append_left (List.getElem?_eq_some_iff.mp h).1]
    exact h
theorem stateOf_fo {wb : Wb} {stand : List It3} {form : List Str} {i : Nat} {x : List Str} (h : wb.fo[i]? = some x) : (stateOf wb stand form).1.fo[i]? = some x := by
  unfold stateOf
  split
  · exact h
  · show (wb.fo ++ [form])[i]? = some x
    rw [List.getElem?_append_left (List.getElem?_eq_some_iff.mp h).1]
    exact h
section
variable {P : Program} {w : World} {K : PySem.W.Frag} {mg : Str → Option Value} {base : Heap}
structure LkOk (g : Gr) (wb : Wb) (i : Nat) : Prop where
  len : WbL 800000 wb
  lt : i < wb.st.length
  st : StOk g (stAt wb i)
  fo : (foAt wb i).length ≤ 1000
  cl : ∀ p ∈ partsNext g (stAt wb i), ClOk g (loreOf g) (advBy g (stAt wb i) p)
def R_look (C : Addr) (ds1 : List PyData) (s : Sl) (ds2 : List PyData) (s' : Sl) (d : PyData) : Prop := ∃ (g : Gr) (wb : Wb) (i : Nat), GG g ∧ LkOk g wb i ∧ ds1 = [] ∧ s = .o C (webF g wb) ∧ ds2 = [.int (i : Int)] ∧ s' = .o C (webF g (lookW g wb i)) ∧ d = .none
theorem sc_look : FnScope ["self", "state", "going", "part", "stand"] ["self", "state"] (defScope KHead.s_Web_look) := ⟨rfl, rfl, rfl, by decide +kernel, rfl, by decide +kernel, by decide +kernel⟩
theorem ok_look (T : Txt K mg) : DMe P w K mg base 7 (CW K) "look" ["self", "state"] (spO P w K (R_look (CW K))) := by
  refine T.me 45 63 68 rfl rfl rfl (fun _ _ _ _ _ _ us hl => match us, hl with | [_, _], _ => rfl) fun f fd F => fn_O F sc_look (fun ds1 s ds2 s' d ⟨_, _, _, _, _, h1, _, h2, _⟩ => by rw [h1, h2]; rfl) fun cdv A outer s H E ds1 t0 ds2 t' d hr ⟨g, wb, i, G, W, e1, e2, e3, e4, e5⟩ => ?_
  subst e1 e2 e3 e4 e5
  have nd := sc_look.nd
  have cl := T.cl 68
  have hu := u1 hr
  have O : LoOk g (loreOf g) := lore_ok G
  have hst : wb.st[i]? = some (stAt wb i) := by unfold stAt; rw [List.getElem?_eq_getElem W.lt]; rfl
  have hfo : wb.fo[i]? = some (foAt wb i) := by unfold foAt; rw [List.getElem?_eq_getElem (by rw [W.len.fo]; exact W.lt)]; rfl
  have hw : lookW g wb i = { (lookGo g wb i).1 with go := (lookGo g wb i).1.go ++ [(lookGo g wb i).2] } := rfl
  have hgo : lookGo g wb i = (partsNext g (stAt wb i)).foldl (lookStep g (stAt wb i) (foAt wb i)) (wb, []) := rfl
  have S := W.st
  have hf := W.fo
  have hcl := W.cl
  have hlen := W.len
  have hpn := parts_nd g (stAt wb i)
  have hpl := parts_len g (stAt wb i)
  have hsl := S.1
  generalize stAt wb i = st at *
  generalize foAt wb i = fo at *
  have ixS : ∀ {wb' : Wb} {Γ : Ctx} {X : Cx} {e : Expr}, wb'.st[i]? = some st → (wb'.st.map encSt)[((i : Int)).toNat]? = some (encSt st) := fun h => by rw [Int.toNat_natCast, List.getElem?_map, h]; rfl
  refine ws_set 2 de_dictK ?_
  refine ws_forN (S := Wb × List (Str × Nat)) (xs := partsNext g st) 3 PyData.str (fun l s => l.foldl (lookStep g st fo) s = lookGo g wb i ∧ s.1.st[i]? = some st ∧ s.1.fo[i]? = some fo ∧ WbL (800000 + (1000 - l.length)) s.1 ∧ l.length ≤ 1000 ∧ s.2.map Prod.fst ++ l = partsNext g st)
    (fun s => [some (.o (CW K) (webF g s.1)), some (dat (.int (i : Int))), some (.b (.okd (encGo s.2))), none, none]) (wb, []) (di_to (di_dat (dp_call (ok_parts_next T) (hr.mono (by decide)) ⟨g, st, G, S, rfl, rfl⟩ (da_cons (vf 0 cl (T.na 78) (d := encG g) rfl) (da_cons (dp_ixL (ds := wb.st.map encSt) (n := (i : Int)) (d := encSt st) (by rw [atI_nat (by omega), Int.toNat_natCast, List.getElem?_map, hst]; rfl) (vfl 0 cl (T.na 80) rfl) (v 1)) da_nil)))) rfl) ⟨hgo.symm, hst, hfo, ⟨Nat.le_trans hlen.st (Nat.le_add_right _ _), hlen.fo, hlen.nu, Nat.le_trans hlen.go (Nat.le_add_right _ _)⟩, by omega, rfl⟩ (Sub.refl _) ?_ ?_
  · rintro p l ⟨wb', go⟩ hp ⟨h1, h2, h3, h4, h5, h6⟩
    have h5 : l.length + 1 ≤ 1000 := h5
    have h4 : WbL (800000 + (1000 - (l.length + 1))) wb' := h4
    rw [List.foldl_cons] at h1
    have C := hcl p hp
    have hnp : p ∉ go.map Prod.fst := fun z => by
      rw [← h6] at hpn
      exact (List.nodup_append.mp hpn).2.2 p z p List.mem_cons_self rfl
    refine ws_set 4 (de_pure (dp_call (ok_moved_by T) hr ⟨g, st, p, loreOf g, G, S, O, C, rfl, rfl⟩ (da_cons (vf 0 cl (T.na 78) (d := encG g) rfl) (da_cons (dp_ixL (ds := wb'.st.map encSt) (n := (i : Int)) (d := encSt st) (by rw [atI_nat (by omega), Int.toNat_natCast, List.getElem?_map, h2]; rfl) (vfl 0 cl (T.na 80) rfl) (v 1)) (da_cons (v 3) (da_cons (vf 0 cl (T.na 79) (d := encLore (loreOf g)) rfl) da_nil)))))) ?_
    have SM : StOk g (movedBy g (loreOf g) st p) := C.all G O
    refine ws_dput 2 (kvs := encGo go) (k := Sum.inr p) (d := .int ((stateOf wb' (movedBy g (loreOf g) st p) (fo ++ [p])).2 : Int)) (de_meth 0 (ok_state_of T) (hr.mono (by decide)) ⟨g, wb', movedBy g (loreOf g) st p, fo ++ [p], ⟨by have := h4.st; omega, h4.fo, h4.nu, by have := h4.go; omega⟩, SM, rfl, rfl, rfl, rfl, rfl⟩ rfl rfl
      (da_cons (v 4) (da_cons (dp_to (dp_catT (ds := encS fo) (ds' := [.str p]) (sz (by simp [encS]; omega)) (dp_ixL (ds := wb'.fo.map encF) (n := (i : Int)) (d := encF fo) (by rw [atI_nat (by omega), Int.toNat_natCast, List.getElem?_map, h3]; rfl) (vfl 0 cl (T.na 81) rfl) (v 1)) (dp_tup (da_cons (v 3) da_nil) (Nat.le_of_ble_eq_true rfl))) (by simp [encF, encS])) da_nil))) rfl (v 3) (szl (by have := congrArg List.length h6; simp [encGo] at this ⊢; omega)) hu ?_
    rw [go_put hnp]
    have hs := stateOf_len h4 (movedBy g (loreOf g) st p) (fo ++ [p])
    refine ws_nil ⟨lookStep g st fo (wb', go) p, ⟨h1, stateOf_at h2, stateOf_fo h3, ?_, by omega, ?_⟩, .same (.same (.same (.drop (.drop .nil))))⟩
    · have e : 800000 + (1000 - (l.length + 1)) + 1 = 800000 + (1000 - l.length) := by omega
      rw [← e]
      exact hs
    · show (go ++ [(p, _)]).map Prod.fst ++ l = _
      rw [List.map_append, List.append_assoc]
      exact h6
  · rintro ⟨wb', go⟩ ⟨h1, h2, h3, h4, h5, h6⟩
    have h1 : (wb', go) = lookGo g wb i := h1
    refine ws_frzK (i := 2) rfl ?_
    refine ws_exp (de_appendF 0 cl (T.na 83) (ds := wb'.go.map fun l => dictD (encGo l)) (d := dictD (encGo go)) rfl rfl (v 2) (szl (by have h4' : WbL 801000 wb' := h4; have := h4'.go; rw [List.length_map]; omega))) ?_
    refine ws_nil ⟨rfl, ?_⟩
    rw [hw, ← h1]
    show some (some (Sl.o (CW K) _)) = some (some (Sl.o (CW K) _))
    congr 3
    show _ = webF g _
    unfold webF
    rw [List.map_append]
    rfl
/-! Web.__init__ -/
def web0 (g : Gr) : Wb := (stateOf ⟨[], [], [], []⟩ (startBy g (loreOf g)) []).1
def R_Web_init (C : Addr) (ds1 : List PyData) (s : Sl) (ds2 : List PyData) (s' : Sl) (d : PyData) : Prop := ∃ g, GG g ∧ ClOk g (loreOf g) [item0] ∧ ds1 = [] ∧ s = .o C [] ∧ ds2 = [encG g] ∧ s' = .o C (webF g (web0 g)) ∧ d = .none
theorem sc_Web_init : FnScope ["self", "grammar"] ["self", "grammar"] (defScope KHead.s_Web_init) := ⟨rfl, rfl, rfl, by decide +kernel, rfl, by decide +kernel, by decide +kernel⟩
theorem ok_Web_init (T : Txt K mg) : DMk P w K mg base 8 "Web" (CW K) ["self", "grammar"] (spO P w K (R_Web_init (CW K))) := by
  refine T.mkr 43 69 67 rfl rfl rfl (fun _ _ _ _ _ _ us hl => match us, hl with | [_, _], _ => rfl) fun f fd F => fn_O F sc_Web_init (fun ds1 s ds2 s' d ⟨_, _, _, h1, _, h2, _⟩ => by rw [h1, h2]; rfl) fun cdv A outer s H E ds1 t0 ds2 t' d hr ⟨g, G, C, e1, e2, e3, e4, e5⟩ => ?_
  subst e1 e2 e3 e4 e5
  have cl := T.cl 68
  have O : LoOk g (loreOf g) := lore_ok G
  have S : StOk g (startBy g (loreOf g)) := C.all G O
  refine ws_fld 0 cl (T.na 78) (de_pure (v 1)) rfl (Nat.le_of_ble_eq_true rfl) ?_
  refine ws_fld 0 cl (T.na 79) (de_pure (dp_call (ok_lore_of T) (hr.mono (by decide)) ⟨g, G, rfl, rfl⟩ (da_cons (v 1) da_nil))) rfl (Nat.le_of_ble_eq_true rfl) ?_
  refine ws_fld 0 cl (T.na 80) (de_lst da_nil (Nat.zero_le _)) rfl (Nat.le_of_ble_eq_true rfl) ?_
  refine ws_fld 0 cl (T.na 81) (de_lst da_nil (Nat.zero_le _)) rfl (Nat.le_of_ble_eq_true rfl) ?_
  refine ws_fld 0 cl (T.na 82) de_dictN rfl (Nat.le_of_ble_eq_true rfl) ?_
  refine ws_fld 0 cl (T.na 83) (de_lst da_nil (Nat.zero_le _)) rfl (Nat.le_of_ble_eq_true rfl) ?_
  refine ws_exp (de_meth 0 (ok_state_of T) (hr.mono (by decide)) ⟨g, ⟨[], [], [], []⟩, startBy g (loreOf g), [], ⟨Nat.zero_le _, rfl, rfl, Nat.zero_le _⟩, S, rfl, rfl, rfl, rfl, rfl⟩ rfl rfl
      (da_cons (dp_call (ok_starting_by T) (hr.mono (by decide)) ⟨g, loreOf g, G, O, C, rfl, rfl⟩ (da_cons (v 1) (da_cons (vf 0 cl (T.na 79) (d := encLore (loreOf g)) rfl) da_nil))) (da_cons (dp_tup da_nil (Nat.zero_le _)) da_nil))) ?_
  exact ws_nil ⟨rfl, rfl⟩
end
end DL


set_option Elab.async false
set_option linter.all false
set_option maxRecDepth 100000
set_option maxHeartbeats 4000000
/-! W11: a def that lets an error out; made. -/
namespace DL
open PySem PySem.Spec PyProof.Rows L2

/-- from data to data, or out by an error of the class at S -/
def spDX (K : PySem.W.Frag) (S : Addr) (R : List PyData → Option PyData → Prop) : Sp := fun vs H Q E => ∃ Hf ds r, Same Hf H ∧ DvAll K Hf vs ds ∧ R ds r ∧ (∀ d, r = some d → ∀ v Hf' H', Grow Hf H Hf' H' → Dv K Hf' v d → Q v H') ∧ (r = none → ∀ Hf' H', Grow Hf H Hf' H' → E (.ref S) none H')
structure DFX (P : Program) (w : World) (K : PySem.W.Frag) (mg : Str → Option Value) (base : Heap) (k : Nat) (x : Str) (ps : List Str) (sp : Sp) : Prop where
  ex : ∃ f fd, FnOk P w K mg base (L2.CX P w) k f fd ps sp ∧ mg x = some (.ref f) ∧ PySem.W.keepIn K (.ref f) = true ∧ Binds K fd ps []
abbrev BXX (P : Program) (w : World) (K : PySem.W.Frag) (mg : Str → Option Value) (base : Heap) (N : List Str) (qual : Str) (scope : Scope) (f : Addr) (cdv : Value) (A : Around) (outer : List Env) (s : Shared) (H : Hp) (E : XK) : Cx := cxOf (L2.CX P w) P w K mg base N qual scope f cdv A outer s H E
section
variable {P : Program} {w : World} {K : PySem.W.Frag} {mg : Str → Option Value} {base : Heap} {x qual : Str} {params : Arguments} {body : List Stmt} {scope : Scope} {dvs : List V} {kws : List (Str × V)} {f : Addr} {fd : FuncData} {N ps : List Str} {k : Nat} {S : Addr} {R : List PyData → Option PyData → Prop}
theorem fn_DX (F : FunD K x qual params body scope dvs kws f fd) (Sc : FnScope N ps scope) (hl : ∀ ds d, R ds d → ds.length = ps.length)
    (hb : ∀ (cdv : Value) (A : Around) (outer : List Env) (s : Shared) (H : Hp) (E : XK) (ds : List PyData) (r : Option PyData), Room k (A.deeper (envOfC qual scope s.heap.objs.size f cdv)) → R ds r →
      WS (BXX P w K mg base N qual scope f cdv A outer s H E) ps.length body (ctx0 N ds) { nx := fun _ => r = some .none, rt := fun _ t => ∃ d, r = some d ∧ t = dat d, xr := fun H' => r = none → E (.ref S) none H' }) : FnOk P w K mg base (L2.CX P w) (k + 1) f fd ps (spDX K S R) := by
  refine F.ok Sc (fun vs H Q E h => ?_) fun cdv A outer s H vs Q E hr h => ?_
  · obtain ⟨Hf, ds, d, _, h2, h3, _⟩ := h
    rw [h2.len]
    exact hl ds d h3
  · obtain ⟨Hf, ds, r, h1, h2, h3, h4, h5⟩ := h
    refine ⟨_, hb cdv A outer s H E ds r hr h3, Hf, fun _ => [], ok_start h1 h2, ?_⟩
    have emp : ∀ {Hf' H' : Hp} {σ σ' : L2.St} {W' : Addr → Prop}, Rch ps.length Hf H σ (own fun _ => []) Hf' H' σ' W' → Same Hf' H' → Grow Hf H Hf' H' := fun r s => ⟨fun b o hb => r.st.keep b o (fun ⟨_, z⟩ => List.not_mem_nil z) hb, r.st.mono, fun _ => s, fun a ha hn => r.st.own a (fun ⟨_, z⟩ => List.not_mem_nil z) ha hn⟩
    refine ⟨fun Γ' σ' Hf' H' fps' e o r => ?_, fun Γ' s' v f' σ' Hf' H' fps' e o r0 r => ?_, fun Γ' σ' Hf' H' fps' o r e => h5 e Hf' H' (emp r o.sub)⟩
    · exact h4 .none e .non Hf' H' (emp r o.sub) .non
    · obtain ⟨d, e1, e2⟩ := (e : ∃ d, _ = some d ∧ s' = dat d)
      subst e2
      exact h4 d e1 v Hf' H' (emp r o.sub) r0.dv.2
theorem bxx_passes {cdv : Value} {A : Around} {outer : List Env} {s : Shared} {H : Hp} {E : XK} : PassesOwn (model P w) (BXX P w K mg base N qual scope f cdv A outer s H E).A (BXX P w K mg base N qual scope f cdv A outer s H E).env (BXX P w K mg base N qual scope f cdv A outer s H E).xe := passes_of (X := BXX P w K mg base N qual scope f cdv A outer s H E) rfl
theorem bxx_takes {cdv : Value} {A : Around} {outer : List Env} {s : Shared} {H : Hp} {E : XK} : L2.Takes (BXX P w K mg base N qual scope f cdv A outer s H E) (fun cls d _ H => E cls d H) := takes_of rfl rfl rfl rfl
end
section
variable {X : Cx} {n : Nat} {Γ : Ctx} {p : Po} {rest : List Stmt} {x m : Str} {S : Addr} {E : XK} {p1 p2 pos pos2 : Pos} {j : Nat}
/-- raise S('m') -/
theorem ws_raise (hc : X.calm = true) (tk : L2.Takes X (fun cls d _ H => E cls d H)) (q : PySem.W.excIn X.K S He.veBase "ValueError.__new__" = true ∧ PySem.W.keepIn X.K (.ref S) = true ∧ PySem.W.subIn X.K (.ref S) (.type "BaseException") = some true ∧ PySem.W.typeIn X.K (.ref S) = some (.type "type")) (gC : X.mg x = some (.ref S)) (hx : ∀ H', p.xr H' → E (.ref S) none H') (hg : Gl X x := by rfl)
    (hdb : (x == ("__debug__" : Str)) = false := by decide) : WS X n (.Raise (some (.Call (.Name x p1) [.Constant (.str m) j p2] [] pos)) none pos2 :: rest) Γ p :=
  ws_of (pss_cons (ps_raise hc tk (pmk_own F.excBase_ValueError q.1 gC q.2.1 (raises_own q.2.2.1 q.2.2.2) hg hdb)) pss_never) fun D σ H Hf fps ok g => hx H (g.xr Γ σ Hf H fps ok .refl)
end
section
variable {P : Program} {w : World} {K : PySem.W.Frag} {mg : Str → Option Value} {base : Heap}
theorem Txt.fnX (T : Txt K mg) (i j : Nat) {x : Str} {st : Stmt} {k : Nat} {ps : List Str} {sp : Sp} (hd : KHead.fn[i]? = some ⟨(x, none), x, x, defArgs st, defBody st, defScope st, [], []⟩) (hg : KHead.fa[j]? = some (.glo x))
    (hb : ∀ (kV doc pm : Value) (an : Option Addr) (cdv ct : Value) (us : List Value), us.length = ps.length → bindArgs (PySem.W.fnOf x x (defArgs st) (defBody st) (defScope st) .none kV doc pm an cdv ct) ⟨us, []⟩ = pure (ps.zip us))
    (hf : ∀ f fd, FnT K x st f fd → FnOk P w K mg base (L2.CX P w) k f fd ps sp) : DFX P w K mg base k x ps sp := by
  obtain ⟨h0, X, G⟩ := T.ex
  obtain ⟨fd, F⟩ := T.c.def_ i hd
  exact ⟨_, fd, hf _ fd F, He.glo_ok X G (T.c.fact j hg), F.kp, FunD.bindsN F hb⟩
theorem Txt.exc (T : Txt K mg) (i : Nat) {x : Str} (h : KHead.fa[i]? = some (.exc x) := by rfl) : PySem.W.excIn K (He.ga K x) He.veBase "ValueError.__new__" = true ∧ PySem.W.keepIn K (.ref (He.ga K x)) = true ∧ PySem.W.subIn K (.ref (He.ga K x)) (.type "BaseException") = some true ∧
    PySem.W.typeIn K (.ref (He.ga K x)) = some (.type "type") := He.exc_ok (T.c.fact i h)
theorem Txt.gl (T : Txt K mg) (i : Nat) {x : Str} (h : KHead.fa[i]? = some (.glo x) := by rfl) : mg x = some (.ref (He.ga K x)) := by
  obtain ⟨h0, X, G⟩ := T.ex
  exact He.glo_ok X G (T.c.fact i h)
end
end DL


set_option Elab.async false
set_option linter.all false
set_option maxRecDepth 100000
set_option maxHeartbeats 4000000
/-! W12: made. -/
namespace DL
open PySem PySem.Spec PyProof.Rows L2

inductive Made where
  | many
  | clash (form : List Str) (s : Str) (l : List Deed)
  | table (rows : List Row) (st : List (List It3))
def rowsOf (g : Gr) (wb : Wb) : List Row := (wb.st.zip wb.go).map fun p => rowOf g p.1 p.2
def madeGo (g : Gr) : Nat → Wb → Nat → Made
  | 0, _, _ => .many
  | n + 1, wb, i => if i < wb.st.length then (if i = 200 then .many else match clashOf g (stAt wb i) with
    | some c => .clash (foAt wb i) c.1 c.2
    | none => madeGo g n (lookW g wb i) (i + 1)) else .table (rowsOf g wb) wb.st
def madeBy (g : Gr) : Made := madeGo g 201 (web0 g) 0
def encM : Made → Option PyData
  | .many => none
  | .clash f s l => some (.tuple [.str "clash", encF f, .str s, encDs l])
  | .table r st => some (.tuple [.str "table", encTab r, .list (st.map encSt)])
/-- the stands that made meets -/
inductive Met (g : Gr) : List It3 → Prop
  | start : Met g (startBy g (loreOf g))
  | step {st : List It3} {p : Str} : Met g st → p ∈ partsNext g st → Met g (movedBy g (loreOf g) st p)
structure MdOk (g : Gr) : Prop where
  start : ClOk g (loreOf g) [item0]
  go : ∀ st, Met g st → ∀ p ∈ partsNext g st, ClOk g (loreOf g) (advBy g st p)
theorem MdOk.st {g : Gr} (G : GG g) (M : MdOk g) {st : List It3} (h : Met g st) : StOk g st := by
  cases h with
  | start => exact M.start.all G (lore_ok G)
  | step h hp => exact (M.go _ h _ hp).all G (lore_ok G)
theorem named_keys {g : Gr} (G : GG g) {st : List It3} (S : StOk g st) : ∀ s ∈ (namedBy g st).map Prod.fst, PyData.strOk s = true := by
  have key : ∀ (l : List It3) (nb : NB), (∀ it ∈ l, ItOk g it) → (∀ p ∈ nb, PyData.strOk p.1 = true) → ∀ p ∈ l.foldl (fun nb it => nbStep nb (deedOf g it)) nb, PyData.strOk p.1 = true := by
    intro l
    induction l with
    | nil => intro nb _ h; exact h
    | cons it l ih =>
      intro nb hl h
      refine ih _ (fun x hx => hl x (List.mem_cons_of_mem _ hx)) (nbStep_all (Q := fun p => PyData.strOk p.1 = true) h fun x d e => ?_)
      have hI := hl it List.mem_cons_self
      show PyData.strOk x = true
      unfold deedOf at e
      cases hn : nextPart g it with
      | none =>
        rw [hn] at e
        have e : (if it = (-1, 1, sEND) then some (sEND, Deed.done) else if it.1 = -1 then none else some (it.2.2, .rule it.1)) = some (x, d) := e
        split at e
        · cases e; decide +kernel
        · split at e
          · cases e
          · cases e; exact hI.sg
      | some p =>
        rw [hn] at e
        have e : (if isLetter p = true then some (p, Deed.go) else none) = some (x, d) := e
        split at e
        · cases e
          rcases (next_ok G hI hn).1 with q | q
          · exact q.ok
          · exact q.ok
        · cases e
  intro s hs
  obtain ⟨p, hp, rfl⟩ := List.mem_map.mp hs
  exact key st [] S.2 (fun p hp => (List.not_mem_nil hp).elim) p hp
/-- what holds of the web behind i looks -/
structure WbI (g : Gr) (i : Nat) (wb : Wb) : Prop where
  len : WbL (1 + i * 1001) wb
  st : ∀ s ∈ wb.st, Met g s
  fo : ∀ f ∈ wb.fo, f.length ≤ i
  go : ∀ l ∈ wb.go, l.length ≤ 1000
theorem stateOf_st {wb : Wb} {stand : List It3} {form : List Str} {s : List It3} (h : s ∈ (stateOf wb stand form).1.st) : s ∈ wb.st ∨ s = stand := by
  unfold stateOf at h
  split at h
  · exact .inl h
  · rcases List.mem_append.mp h with z | z
    · exact .inl z
    · exact .inr (List.mem_singleton.mp z)
theorem stateOf_fom {wb : Wb} {stand : List It3} {form : List Str} {f : List Str} (h : f ∈ (stateOf wb stand form).1.fo) : f ∈ wb.fo ∨ f = form := by
  unfold stateOf at h
  split at h
  · exact .inl h
  · rcases List.mem_append.mp h with z | z
    · exact .inl z
    · exact .inr (List.mem_singleton.mp z)
theorem stateOf_go {wb : Wb} {stand : List It3} {form : List Str} : (stateOf wb stand form).1.go = wb.go := by
  unfold stateOf
  split <;> rfl
theorem web0_ok (g : Gr) : WbI g 0 (web0 g) where
  len := stateOf_len (n := 0) ⟨Nat.le_refl _, rfl, rfl, Nat.le_refl _⟩ _ _
  st := fun s hs => by
    rcases stateOf_st hs with z | z
    · cases z
    · rw [z]; exact .start
  fo := fun f hf => by
    rcases stateOf_fom hf with z | z
    · cases z
    · rw [z]; exact Nat.le_refl _
  go := fun l hl => by
    have e : (web0 g).go = [] := stateOf_go
    rw [e] at hl
    cases hl
theorem lookW_ok {g : Gr} {i : Nat} {wb : Wb} (W : WbI g i wb) (hi : i < wb.st.length) (hs : (stAt wb i).length ≤ 1000) : WbI g (i + 1) (lookW g wb i) := by
  have hst : stAt wb i ∈ wb.st := by
    unfold stAt
    rw [List.getElem?_eq_getElem hi]
    exact List.getElem_mem hi
  have hfo : (foAt wb i).length ≤ i := by
    unfold foAt
    rw [List.getElem?_eq_getElem (by rw [W.len.fo]; exact hi)]
    exact W.fo _ (List.getElem_mem _)
  have hM := W.st _ hst
  have hpl := parts_len g (stAt wb i)
  have key : ∀ (l : List Str) (s : Wb × List (Str × Nat)) (n : Nat), (∀ p ∈ l, p ∈ partsNext g (stAt wb i)) → WbL n s.1 → (∀ x ∈ s.1.st, Met g x) → (∀ f ∈ s.1.fo, f.length ≤ i + 1) → s.1.go = wb.go →
      WbL (n + l.length) (l.foldl (lookStep g (stAt wb i) (foAt wb i)) s).1 ∧ (∀ x ∈ (l.foldl (lookStep g (stAt wb i) (foAt wb i)) s).1.st, Met g x) ∧ (∀ f ∈ (l.foldl (lookStep g (stAt wb i) (foAt wb i)) s).1.fo, f.length ≤ i + 1) ∧ (l.foldl (lookStep g (stAt wb i) (foAt wb i)) s).1.go = wb.go ∧
      (l.foldl (lookStep g (stAt wb i) (foAt wb i)) s).2.length = s.2.length + l.length := by
    intro l
    induction l with
    | nil => intro s n _ h1 h2 h3 h4; exact ⟨h1, h2, h3, h4, rfl⟩
    | cons p l ih =>
      intro s n hp h1 h2 h3 h4
      have e : n + (p :: l).length = n + 1 + l.length := by rw [List.length_cons]; omega
      rw [e, List.foldl_cons]
      have q1 : ∀ x ∈ (lookStep g (stAt wb i) (foAt wb i) s p).1.st, Met g x := fun x hx => by
        rcases stateOf_st hx with z | z
        · exact h2 x z
        · rw [z]; exact .step hM (hp p List.mem_cons_self)
      have q2 : ∀ f ∈ (lookStep g (stAt wb i) (foAt wb i) s p).1.fo, f.length ≤ i + 1 := fun f hf => by
        rcases stateOf_fom hf with z | z
        · exact h3 f z
        · rw [z, List.length_append, List.length_singleton]; omega
      have q3 : (lookStep g (stAt wb i) (foAt wb i) s p).1.go = wb.go := by
        show (stateOf _ _ _).1.go = _
        rw [stateOf_go, h4]
      obtain ⟨a, b, c, d, f⟩ := ih (lookStep g (stAt wb i) (foAt wb i) s p) (n + 1) (fun q hq => hp q (List.mem_cons_of_mem _ hq)) (stateOf_len h1 _ _) q1 q2 q3
      refine ⟨a, b, c, d, ?_⟩
      rw [f, List.length_cons]
      show (s.2 ++ [_]).length + _ = _
      rw [List.length_append, List.length_singleton]
      omega
  obtain ⟨a, b, c, d, e⟩ := key (partsNext g (stAt wb i)) (wb, []) (1 + i * 1001) (fun _ h => h) W.len W.st (fun f hf => Nat.le_succ_of_le (W.fo f hf)) rfl
  have e : (lookGo g wb i).2.length = 0 + (partsNext g (stAt wb i)).length := e
  have a : WbL (1 + i * 1001 + (partsNext g (stAt wb i)).length) (lookGo g wb i).1 := a
  have d : (lookGo g wb i).1.go = wb.go := d
  have hg := W.len.go
  refine ⟨⟨?_, a.fo, a.nu, ?_⟩, b, c, fun l hl => ?_⟩
  · refine Nat.le_trans a.st ?_
    rw [Nat.succ_mul]
    omega
  · show ((lookGo g wb i).1.go ++ [(lookGo g wb i).2]).length ≤ _
    rw [List.length_append, List.length_singleton, d, Nat.succ_mul]
    omega
  · have hl : l ∈ (lookGo g wb i).1.go ++ [(lookGo g wb i).2] := hl
    rcases List.mem_append.mp hl with z | z
    · rw [d] at z; exact W.go l z
    · rw [List.mem_singleton.mp z, e]; omega
theorem zip_map {α β : Type} (f : α → PyData) (h : β → PyData) : ∀ (l : List α) (m : List β), zipD (l.map f) (m.map h) = (l.zip m).map fun p => .tuple [f p.1, h p.2]
  | [], _ => rfl
  | _ :: _, [] => rfl
  | a :: l, b :: m => by
    show PyData.tuple [f a, h b] :: zipD (l.map f) (m.map h) = _
    rw [zip_map f h l m]
    rfl
section
variable {P : Program} {w : World} {K : PySem.W.Frag} {mg : Str → Option Value} {base : Heap}
def R_made (ds : List PyData) (r : Option PyData) : Prop := ∃ g, GG g ∧ MdOk g ∧ ds = [encG g] ∧ r = encM (madeBy g)
abbrev CT (K : PySem.W.Frag) : Addr := He.ga K "TooMany"
theorem sc_made : FnScope ["grammar", "web", "state", "clash", "rows", "stand", "going"] ["grammar"] (defScope KHead.s_made) := ⟨rfl, rfl, rfl, by decide +kernel, rfl, by decide +kernel, by decide +kernel⟩
theorem ok_made (T : Txt K mg) : DFX P w K mg base 10 "made" ["grammar"] (spDX K (CT K) R_made) := by
  refine T.fnX 46 37 rfl rfl (fun _ _ _ _ _ _ us hl => match us, hl with | [_], _ => rfl) fun f fd F => fn_DX F sc_made (fun ds d ⟨g, _, _, h, _⟩ => by rw [h]; rfl) fun cdv A outer s H E ds r hr ⟨g, G, M, e1, e2⟩ => ?_
  subst e1 e2
  have nd := sc_made.nd
  have cl := T.cl 68
  refine ws_exp (de_pure (dp_call (ok_must_be_grammar T) (hr.mono (by decide)) ⟨g, G, rfl, rfl⟩ (da_cons (v 0) da_nil))) ?_
  refine ws_set 1 (de_make (ok_Web_init T) hr ⟨g, G, M.start, rfl, rfl, rfl, rfl, rfl⟩ (da_cons (v 0) da_nil)) ?_
  refine ws_set 2 (de_pure dp_int) ?_
  refine ws_whileS (S := Wb × Nat) (fun m s => madeGo g m s.1 s.2 = madeBy g ∧ s.2 + m = 201 ∧ s.2 ≤ 200 ∧ WbI g s.2 s.1) (fun s => [some (dat (encG g)), some (.o (CW K) (webF g s.1)), some (dat (.int (s.2 : Int))), none, none, none, none]) 201 (web0 g, 0) ⟨rfl, rfl, Nat.zero_le _, web0_ok g⟩ (Sub.refl _) ?_ bxx_passes
  rintro m ⟨wb, i⟩ ⟨h1, h2, h3, W⟩
  have h2 : i + m = 201 := h2
  have h3 : i ≤ 200 := h3
  have W : WbI g i wb := W
  obtain ⟨m, rfl⟩ : ∃ m', m = m' + 1 := ⟨m - 1, by omega⟩
  refine ⟨decide (i < wb.st.length), dt_to (tcm (cm_lt (v 2) (dp_lenL (ds := wb.st.map encSt) rfl T.b_len (vfl 1 cl (T.na 80) rfl)))) (decide_eq_decide.mpr (by rw [List.length_map]; omega)), fun hb => ?_, fun hb => ?_⟩
  · have hlt : i < wb.st.length := of_decide_eq_true hb
    have h1 : (if i < wb.st.length then (if i = 200 then Made.many else match clashOf g (stAt wb i) with
      | some c => .clash (foAt wb i) c.1 c.2
      | none => madeGo g m (lookW g wb i) (i + 1)) else .table (rowsOf g wb) wb.st) = madeBy g := h1
    rw [if_pos hlt] at h1
    refine ws_if1 (t := decide (i = 200)) (dt_to (tcm (cm_eqS rfl (v 2) (dp_gint rfl T.MOST_STATES))) (by show decide (_ = _) = _; exact decide_eq_decide.mpr (by omega))) (fun h => ?_) fun h => ?_
    · have h : i = 200 := of_decide_eq_true h
      rw [if_pos h] at h1
      exact ws_raise rfl bxx_takes (T.exc 85) (T.gl 84) (fun H' hx => hx (by rw [← h1]; rfl))
    have h : ¬ i = 200 := of_decide_eq_false h
    rw [if_neg h] at h1
    have hst : wb.st[i]? = some (stAt wb i) := by unfold stAt; rw [List.getElem?_eq_getElem hlt]; rfl
    have hfo : wb.fo[i]? = some (foAt wb i) := by unfold foAt; rw [List.getElem?_eq_getElem (by rw [W.len.fo]; exact hlt)]; rfl
    have hM := W.st _ (List.mem_of_getElem? hst)
    have S := M.st G hM
    have hf := W.fo _ (List.mem_of_getElem? hfo)
    refine ws_set 3 (de_pure (dp_call (ok_clash_of T) (hr.mono (by decide)) ⟨g, stAt wb i, G, S, named_keys G S, rfl, rfl⟩ (da_cons (v 0) (da_cons (dp_ixL (ds := wb.st.map encSt) (n := (i : Int)) (d := encSt (stAt wb i)) (by rw [atI_nat (by omega), Int.toNat_natCast, List.getElem?_map, hst]; rfl) (vfl 1 cl (T.na 80) rfl) (v 2)) da_nil)))) ?_
    cases hc : clashOf g (stAt wb i) with
    | some c =>
      rw [hc] at h1
      have h1 : Made.clash (foAt wb i) c.1 c.2 = madeBy g := h1
      refine ws_if1 (t := true) (dt_to (tcm (cm_notN (v 3))) rfl) (fun _ => ?_) (fun h => by cases h)
      refine ws_ret (de_pure (dp_tup (da_cons dp_str (da_cons (dp_ixL (ds := wb.fo.map encF) (n := (i : Int)) (d := encF (foAt wb i)) (by rw [atI_nat (by omega), Int.toNat_natCast, List.getElem?_map, hfo]; rfl) (vfl 1 cl (T.na 81) rfl) (v 2)) (da_cons (dp_ixT (d := .str c.1) rfl (v 3) dp_int) (da_cons (dp_ixT (d := encDs c.2) rfl (v 3) dp_int) da_nil)))) (Nat.le_of_ble_eq_true rfl))) ⟨_, ?_, rfl⟩
      rw [← h1]
      rfl
    | none =>
      rw [hc] at h1
      have h1 : madeGo g m (lookW g wb i) (i + 1) = madeBy g := h1
      refine ws_if1 (t := false) (dt_to (tcm (cm_notN (v 3))) rfl) (fun h => by cases h) fun _ => ?_
      have hl := W.len
      have hb1 : 1 + i * 1001 ≤ 800000 := by omega
      refine ws_exp (de_meth 1 (ok_look T) (hr.mono (by decide)) ⟨g, wb, i, G, ⟨⟨Nat.le_trans hl.st hb1, hl.fo, hl.nu, Nat.le_trans hl.go hb1⟩, hlt, S, by omega, fun p hp => M.go _ hM p hp⟩, rfl, rfl, rfl, rfl, rfl⟩ rfl rfl (da_cons (v 2) da_nil)) ?_
      refine ws_set 2 (de_pure (dp_add (v 2) dp_int)) ?_
      have e : ((i : Int) + 1) = ((i + 1 : Nat) : Int) := by omega
      rw [e]
      exact ws_nil ⟨m, (lookW g wb i, i + 1), Nat.lt_succ_self m, ⟨h1, by show i + 1 + m = 201; omega, by show i + 1 ≤ 200; omega, lookW_ok W hlt S.1⟩, .same (.same (.same (.drop (.same (.same (.same .nil))))))⟩
  · have hlt : ¬ i < wb.st.length := of_decide_eq_false hb
    have h1 : (if i < wb.st.length then (if i = 200 then Made.many else match clashOf g (stAt wb i) with
      | some c => .clash (foAt wb i) c.1 c.2
      | none => madeGo g m (lookW g wb i) (i + 1)) else .table (rowsOf g wb) wb.st) = madeBy g := h1
    rw [if_neg hlt] at h1
    refine ws_setLcP 4 5 6 (fun p : List It3 × List (Str × Nat) => encSt p.1) (fun p => dictD (encGo p.2)) (fun _ => true) (fun p => dictD (encRow (rowOf g p.1 p.2))) (xs := wb.st.zip wb.go)
      (di_to (di_zip (ds := wb.st.map encSt) (ds' := wb.go.map fun l => dictD (encGo l)) rfl T.b_zip (vfl 1 cl (T.na 80) rfl) (vfl 1 cl (T.na 83) rfl)) (zip_map _ _ _ _)) (fun a ha s H C cl fp => dts_nil) (fun a ha _ s H C cl fp => ?_) (szl (by rw [List.length_zip]; have := W.len.st; omega)) ?_
    · have ha := List.of_mem_zip ha
      exact dp_call (ok_row_of T) (hr.mono (by decide)) ⟨g, a.1, a.2, G, M.st G (W.st _ ha.1), W.go _ ha.2, rfl, rfl⟩ (da_cons (v 0) (da_cons (v 5) (da_cons (v 6) da_nil)))
    rw [flt_true]
    refine ws_frzF 1 (f := "stands") (ds := wb.st.map encSt) rfl rfl ?_
    refine ws_ret (de_pure (dp_tup (da_cons dp_str (da_cons (v 4) (da_cons (vf 1 cl (T.na 80) (d := .list (wb.st.map encSt)) rfl) da_nil))) (Nat.le_of_ble_eq_true rfl))) ⟨_, ?_, rfl⟩
    rw [← h1]
    show some (PyData.tuple [.str "table", encTab (rowsOf g wb), .list (wb.st.map encSt)]) = _
    unfold encTab rowsOf
    rw [List.map_map]
    rfl
end
end DL


set_option Elab.async false
set_option linter.all false
set_option maxRecDepth 100000
set_option maxHeartbeats 4000000
/-! W13: checking, its parts. -/
namespace DL
open PySem PySem.Spec PyProof.Rows L2

theorem kwI_add (x : It3) (l : List It3) : putD (kwI l) (keyI x) (.bool true) = kwI (addI l x) := by
  unfold addI
  by_cases h : x ∈ l
  · rw [if_pos h]
    unfold putD
    have hn : ((kwI l).any fun kv => decide (kv.1 = keyI x)) = true := List.any_eq_true.mpr ⟨(keyI x, .bool true), List.mem_map.mpr ⟨x, h, rfl⟩, decide_eq_true rfl⟩
    rw [hn, if_pos rfl]
    unfold kwI
    rw [List.map_map]
    refine List.map_congr_left fun y _ => ?_
    show (if keyI y = keyI x then (keyI y, PyData.bool true) else (keyI y, PyData.bool true)) = _
    split <;> rfl
  · rw [if_neg h]
    exact kwI_put h
def calledKn (g : Gr) (L : Lore) (l kn : List It3) : List It3 := l.foldl (fun kn it => (callsBy g L it).foldl addI kn) kn
def called0 (first : Bool) : List It3 := if first = true then [item0] else []
structure CalledOk (g : Gr) (L : Lore) (stand : List It3) (first : Bool) : Prop where
  met : ∀ pre it post, stand = pre ++ it :: post → it.2.1 = 0 → it ∈ calledKn g L pre (called0 first)
  all : ∀ k ∈ calledKn g L stand (called0 first), k ∈ stand
  len : (calledKn g L stand (called0 first)).length ≤ 1000
theorem called_len (g : Gr) (L : Lore) : ∀ (l kn : List It3), kn.length ≤ (calledKn g L l kn).length
  | [], _ => Nat.le_refl _
  | it :: l, kn => Nat.le_trans (adds_len _ _) (called_len g L l _)
structure BegunOk (stand : List It3) : Prop where
  hd : ∃ r, stand = item0 :: r
  zero : ∀ it ∈ stand, it.2.1 = 0
  sg : ∀ it ∈ stand, PyData.strOk it.2.2 = true
  len : stand.length ≤ 1000
section
variable {P : Program} {w : World} {K : PySem.W.Frag} {mg : Str → Option Value} {base : Heap}
/-! is_begun -/
def R_is_begun (ds : List PyData) (d : PyData) : Prop := ∃ stand, BegunOk stand ∧ ds = [.list (stand.map encI)] ∧ d = .bool true
theorem sc_is_begun : FnScope ["stand", "item"] ["stand"] (defScope KHead.s_is_begun) := ⟨rfl, rfl, rfl, by decide +kernel, rfl, by decide +kernel, by decide +kernel⟩
theorem ok_is_begun (T : Txt K mg) : DFn P w K mg base 1 "is_begun" ["stand"] (spD K R_is_begun) := by
  refine T.fn2 48 39 rfl rfl (fun _ _ _ _ _ _ us hl => match us, hl with | [_], _ => rfl) fun f fd F => fn_D F sc_is_begun (fun ds d ⟨_, _, h, _⟩ => by rw [h]; rfl) fun cdv A outer s H E ds d hr ⟨stand, B, e1, e2⟩ => ?_
  subst e1 e2
  have nd := sc_is_begun.nd
  obtain ⟨⟨r, hd⟩, hz, hs, hl⟩ := B
  refine ws_if1 (t := false) (dt_to (PW.pt (dw_or (t := false) (u := false) (dt_to (tcm (cm_eqS rfl (dp_lenL (ds := stand.map encI) rfl T.b_len (vd 0)) dp_int)) ?_) fun _ => dw_or1 (dt_to (tcm (cm_neG (da := encI item0) (db := encI item0) (lay_encI (by decide +kernel)) (lay_encI (by decide +kernel)) (by rw [depth_encI]; exact un2 hr (by decide)) (dp_ixL (ds := stand.map encI) (by rw [hd, atI_nat (Int.le_refl 0)]; rfl) (vd 0) dp_int) (dp_tup (da_cons (dp_gint rfl T.WHOLE) (da_cons dp_int (da_cons (dp_gstr rfl T.END) da_nil))) (Nat.le_of_ble_eq_true rfl)))) (by rw [eqv_encI]; simp)))) rfl) (fun h => by cases h) fun _ => ?_
  · show decide (_ = _) = false
    rw [hd]
    exact decide_eq_false (by simp; omega)
  refine ws_ret (de_pure (dp_to (dp_all (bs := stand.map fun it => decide (it.2.1 = 0)) rfl rfl T.b_all (dl_dat (dp_to (lcN 1 encI (fun _ => true) (fun it : It3 => .bool (decide (it.2.1 = 0))) (xs := stand) (di_weak (di_dat (v 0))) (fun a ha s H C cl fp => dts_nil) (fun a ha _ s H C cl fp => dp_to (dcm (cm_eqS rfl (dp_ixT (d := .int a.2.1) rfl (v 1) dp_int) dp_int)) rfl) (szl (by omega))) (by rw [flt_true, List.map_map]; rfl)))) ?_)) rfl
  congr 1
  rw [List.all_map, List.all_eq_true]
  intro it hit
  exact decide_eq_true (hz it hit)
/-! is_called -/
def R_is_called (ds : List PyData) (d : PyData) : Prop := ∃ g stand first L, GG g ∧ LoOk g L ∧ StOk g stand ∧ CalledOk g L stand first ∧ ds = [encG g, .list (stand.map encI), .bool first, encLore L] ∧ d = .bool true
theorem sc_is_called : FnScope ["grammar", "stand", "first", "lore", "known", "item", "other"] ["grammar", "stand", "first", "lore"] (defScope KHead.s_is_called) := ⟨rfl, rfl, rfl, by decide +kernel, rfl, by decide +kernel, by decide +kernel⟩
theorem ok_is_called (T : Txt K mg) : DFn P w K mg base 5 "is_called" ["grammar", "stand", "first", "lore"] (spD K R_is_called) := by
  refine T.fn2 49 40 rfl rfl (fun _ _ _ _ _ _ us hl => match us, hl with | [_, _, _, _], _ => rfl) fun f fd F => fn_D F sc_is_called (fun ds d ⟨g, _, _, _, _, _, _, _, h, _⟩ => by rw [h]; rfl) fun cdv A outer s H E ds d hr ⟨g, stand, first, L, G, O, S, C, e1, e2⟩ => ?_
  subst e1 e2
  have nd := sc_is_called.nd
  have hu := u1 hr
  have hs := S.1
  have h0 : ∀ Γ : Ctx, Γ = Γ := fun _ => rfl
  refine ws_set 4 de_dictT ?_
  have main : WS (BX P w K mg base ["grammar", "stand", "first", "lore", "known", "item", "other"] "is_called" (defScope KHead.s_is_called) f cdv A outer s H E) ["grammar", "stand", "first", "lore"].length ((defBody KHead.s_is_called).drop 2)
      [some (dat (encG g)), some (dat (.list (stand.map encI))), some (dat (.bool first)), some (dat (encLore L)), some (.b (.otd (kwI (called0 first)))), none, none] { nx := fun _ => PyData.bool true = .none, rt := fun _ r => r = dat (.bool true) } := by
    refine ws_forN (S := List It3) (xs := stand) 5 encI (fun l kn => ∃ pre, stand = pre ++ l ∧ kn = calledKn g L pre (called0 first)) (fun kn => [some (dat (encG g)), some (dat (.list (stand.map encI))), some (dat (.bool first)), some (dat (encLore L)), some (.b (.otd (kwI kn))), none, none]) (called0 first) (di_dat (v 1)) ⟨[], rfl, rfl⟩ (Sub.refl _) ?_ ?_
    · rintro it l kn hit ⟨pre, h1, h2⟩
      have hm := C.met pre it l h1
      rw [← h2] at hm
      have hl : ((callsBy g L it).foldl addI kn).length ≤ 1000 := by
        refine Nat.le_trans ?_ C.len
        have e : calledKn g L stand (called0 first) = calledKn g L l ((callsBy g L it).foldl addI kn) := by
          rw [h1, h2]
          unfold calledKn
          rw [List.foldl_append, List.foldl_cons]
        rw [e]
        exact called_len g L l _
      refine ws_if1 (t := false) (dt_to (PW.pt (dw_and (t := decide (it.2.1 = 0)) (u := decide (it ∉ kn)) (dt_to (tcm (cm_eqS rfl (dp_ixT (d := .int it.2.1) rfl (v 5) dp_int) dp_int)) rfl) fun _ => dw_and1 (dt_to (tcm (cm_notInT (k := keyI it) hu (v 5) (vt 4))) (by rw [kwI_mem]; simp)))) ?_) (fun h => by cases h) fun _ => ?_
      · by_cases z : it.2.1 = 0
        · have := hm z
          simp [z, this]
        · simp [z]
      have c1 := (calls_ok G O (S.2 it hit)).1
      refine ws_forN (S := List It3) (xs := callsBy g L it) 6 encI (fun l acc => l.foldl addI acc = (callsBy g L it).foldl addI kn) (fun acc => [some (dat (encG g)), some (dat (.list (stand.map encI))), some (dat (.bool first)), some (dat (encLore L)), some (.b (.otd (kwI acc))), some (dat (encI it)), none]) kn (di_dat (dp_call (ok_calls T) hr ⟨g, it, L, G, S.2 it hit, O, rfl, rfl⟩ (da_cons (v 0) (da_cons (v 5) (da_cons (v 3) da_nil))))) rfl (Sub.refl _) ?_ ?_
      · intro x l2 acc hx j1
        have hal : acc.length ≤ 1000 := by
          have := adds_len (x :: l2) acc
          rw [j1] at this
          omega
        refine ws_dputT 4 (kvs := kwI acc) (k := keyI x) (de_pure (dp_bl (y := true))) rfl (v 6) (szl (by simp [kwI]; omega)) hu ?_
        rw [kwI_add]
        exact ws_nil ⟨addI acc x, j1, .same (.same (.same (.same (.same (.same (.drop .nil))))))⟩
      · intro acc j1
        have j1 : acc = (callsBy g L it).foldl addI kn := j1
        refine ws_nil ⟨acc, ⟨pre ++ [it], ?_, ?_⟩, .same (.same (.same (.same (.same (.drop (.same .nil))))))⟩
        · rw [h1, List.append_assoc]
          rfl
        · rw [j1, h2]
          unfold calledKn
          rw [List.foldl_append]
          rfl
    · rintro kn ⟨pre, h1, h2⟩
      rw [List.append_nil] at h1
      rw [← h1] at h2
      have ha := C.all
      have hln := C.len
      rw [← h2] at ha hln
      refine ws_frzT 4 rfl ?_
      refine ws_ret (de_pure (dp_to (dp_all (bs := kn.map fun k => decide (k ∈ stand)) rfl rfl T.b_all (dl_dat (dp_to (lcN 5 encI (fun _ => true) (fun k : It3 => .bool (decide (k ∈ stand))) (xs := kn) (di_weak (di_to (di_keysT 4) ?_)) (fun a ha s H C cl fp => dts_nil) (fun a hk _ s H C cl fp => dp_to (dcm (cm_inG (da := encI a) (ds := stand.map encI) (lay_encI (S.2 a (ha a hk)).sg) (lay_encIs fun it hi => (S.2 it hi).sg) ?_ (v 5) (vd 1))) ?_) (szl (by omega))) (by rw [flt_true, List.map_map]; rfl)))) ?_)) rfl
      · unfold kwI
        rw [List.map_map]
        rfl
      · rw [depth_encI]
        exact un3 hr (by omega)
      · rw [List.any_map]
        congr 1
        rw [Bool.eq_iff_iff, List.any_eq_true, decide_eq_true_eq]
        constructor
        · rintro ⟨x, hx, e⟩
          have e : PyData.eqv (encI x) (encI a) = true := e
          rw [eqv_encI, decide_eq_true_eq] at e
          rw [← e]; exact hx
        · intro h
          refine ⟨a, h, ?_⟩
          show PyData.eqv (encI a) (encI a) = true
          rw [eqv_encI]
          exact decide_eq_true rfl
      · congr 1
        rw [List.all_map, List.all_eq_true]
        intro k hk
        exact decide_eq_true (ha k hk)
  cases first with
  | true =>
    refine ws_if1 (t := true) (dt_val (v 2)) (fun _ => ?_) (fun h => by cases h)
    refine ws_dputT 4 (kvs := kwI []) (k := keyI item0) (de_pure (dp_bl (y := true))) rfl (dp_tup (da_cons (dp_gint rfl T.WHOLE) (da_cons dp_int (da_cons (dp_gstr rfl T.END) da_nil))) (Nat.le_of_ble_eq_true rfl)) (szl (by simp [kwI])) hu ?_
    rw [kwI_put (List.not_mem_nil)]
    exact ws_nil main
  | false =>
    exact ws_if1 (t := false) (dt_val (v 2)) (fun h => by cases h) fun _ => main
end
/-! ### is_led, is_done -/
theorem row_val (r : Row) (k : Str) : valD (encRow r) (Sum.inr k) = (rowGet r k).map encT := by
  induction r with
  | nil => rfl
  | cons p r ih =>
    by_cases h : p.1 = k
    · simp [valD, encRow, rowGet, List.find?_cons, h]
    · have e1 : valD (encRow (p :: r)) (Sum.inr k) = valD (encRow r) (Sum.inr k) := by simp [valD, encRow, List.find?_cons, h]
      have e2 : rowGet (p :: r) k = rowGet r k := by simp [rowGet, List.find?_cons, h]
      rw [e1, e2, ih]
def paAt (pa : List (List It3)) (j : Int) : List It3 := (pa[j.toNat]?).getD []
theorem pa_at {pa : List (List It3)} {j : Int} (h : 0 ≤ j) (h1 : j < pa.length) : pa[j.toNat]? = some (paAt pa j) := by
  unfold paAt
  rw [List.getElem?_eq_getElem (show j.toNat < pa.length by omega)]
  rfl
def behind0 (it : It3) : Bool := decide (0 < it.2.1)
structure LedOk (g : Gr) (tab : List Row) (pa : List (List It3)) (i : Nat) : Prop where
  t1 : i < tab.length
  p1 : i < pa.length
  st : ∀ s ∈ pa, StOk g s
  go : ∀ p ∈ partsNext g (paAt pa i), ∃ j : Int, rowGet (rowAt tab i) p = some (.goto j) ∧ 0 ≤ j ∧ j < pa.length ∧ sortI ((paAt pa j).filter behind0) = advBy g (paAt pa i) p
def addS (l : List Str) (s : Str) : List Str := if s ∈ l then l else l ++ [s]
def kwS (l : List Str) : List (Key × PyData) := l.map fun s => (Sum.inr s, .bool true)
theorem kwS_add (x : Str) (l : List Str) : putD (kwS l) (Sum.inr x) (.bool true) = kwS (addS l x) := by
  unfold addS
  by_cases h : x ∈ l
  · rw [if_pos h]
    unfold putD
    have hn : ((kwS l).any fun kv => decide (kv.1 = (Sum.inr x : Key))) = true := List.any_eq_true.mpr ⟨(Sum.inr x, .bool true), List.mem_map.mpr ⟨x, h, rfl⟩, decide_eq_true rfl⟩
    rw [hn, if_pos rfl]
    unfold kwS
    rw [List.map_map]
    refine List.map_congr_left fun y _ => ?_
    show (if (Sum.inr y : Key) = Sum.inr x then ((Sum.inr y : Key), PyData.bool true) else (Sum.inr y, PyData.bool true)) = _
    split <;> rfl
  · rw [if_neg h]
    have hn : ((kwS l).any fun kv => decide (kv.1 = (Sum.inr x : Key))) = false := by
      rw [List.any_eq_false]
      intro q hq
      obtain ⟨y, hy, rfl⟩ := List.mem_map.mp hq
      intro z
      exact h (by rw [← Sum.inr.inj (of_decide_eq_true z)]; exact hy)
    unfold putD
    rw [hn]
    simp [kwS]
def doneKeys (g : Gr) (stand : List It3) : List Str := (namedBy g stand).foldl (fun acc p => addS acc p.1) (partsNext g stand)
structure DoneOk (g : Gr) (row : Row) (stand : List It3) : Prop where
  one : ∀ p ∈ namedBy g stand, ∃ d, p.2 = [d] ∧ (d = .go ∨ rowGet row p.1 = some (tdOf d))
  keys : sortS (doneKeys g stand) = sortS (row.map Prod.fst)
  sg : ∀ k ∈ row.map Prod.fst, PyData.strOk k = true
  len : row.length ≤ 1000
theorem addS_len (l : List Str) (s : Str) : (addS l s).length ≤ l.length + 1 := by
  unfold addS
  split
  · exact Nat.le_succ _
  · rw [List.length_append]; exact Nat.le_refl _
section
variable {P : Program} {w : World} {K : PySem.W.Frag} {mg : Str → Option Value} {base : Heap}
/-! is_led -/
def R_is_led (ds : List PyData) (d : PyData) : Prop := ∃ g tab pa i, GG g ∧ LedOk g tab pa i ∧ ds = [encG g, encTab tab, .list (pa.map encSt), .int (i : Int)] ∧ d = .bool true
theorem sc_is_led : FnScope ["grammar", "table", "paper", "state", "part", "deed", "there", "item"] ["grammar", "table", "paper", "state"] (defScope KHead.s_is_led) := ⟨rfl, rfl, rfl, by decide +kernel, rfl, by decide +kernel, by decide +kernel⟩
theorem ok_is_led (T : Txt K mg) : DFn P w K mg base 4 "is_led" ["grammar", "table", "paper", "state"] (spD K R_is_led) := by
  refine T.fn2 50 41 rfl rfl (fun _ _ _ _ _ _ us hl => match us, hl with | [_, _, _, _], _ => rfl) fun f fd F => fn_D F sc_is_led (fun ds d ⟨g, _, _, _, _, _, h, _⟩ => by rw [h]; rfl) fun cdv A outer s H E ds d hr ⟨g, tab, pa, i, G, B, e1, e2⟩ => ?_
  subst e1 e2
  have nd := sc_is_led.nd
  have hu := u1 hr
  have hpi : pa[((i : Int)).toNat]? = some (paAt pa i) := pa_at (by omega) (by have := B.p1; omega)
  have hri : tab[((i : Int)).toNat]? = some (rowAt tab i) := row_at (by omega) (by have := B.t1; omega)
  have S : StOk g (paAt pa i) := B.st _ (List.mem_of_getElem? hpi)
  refine ws_forN (S := Unit) (xs := partsNext g (paAt pa i)) 4 PyData.str (fun _ _ => True) (fun _ => [some (dat (encG g)), some (dat (encTab tab)), some (dat (.list (pa.map encSt))), some (dat (.int (i : Int))), none, none, none, none]) ()
    (di_to (di_dat (dp_call (ok_parts_next T) hr ⟨g, paAt pa i, G, S, rfl, rfl⟩ (da_cons (v 0) (da_cons (dp_ixL (ds := pa.map encSt) (n := (i : Int)) (d := encSt (paAt pa i)) (by rw [atI_nat (by omega), List.getElem?_map, hpi]; rfl) (dl_dat (v 2)) (v 3)) da_nil)))) rfl) trivial (Sub.refl _) ?_ fun _ _ => ws_ret (de_pure dp_bl) rfl
  intro p l _ hp _
  obtain ⟨j, hj, j0, j1, he⟩ := B.go p hp
  have hvd : valD (encRow (rowAt tab i)) (Sum.inr p) = some (encT (.goto j)) := by rw [row_val, hj]; rfl
  have hpj := pa_at j0 j1
  have SJ : StOk g (paAt pa j) := B.st _ (List.mem_of_getElem? hpj)
  refine ws_set 5 (de_pure (dp_to (dg2 (kvs := encRow (rowAt tab i)) (k := Sum.inr p) (d := .tuple [.str "none"]) hu (dk_dat (dp_ixL (ds := tab.map fun r => dictD (encRow r)) (n := (i : Int)) (by rw [atI_nat (by omega), List.getElem?_map, hri]; rfl) (dl_dat (v 1)) (v 3))) (v 4) (dp_tup (da_cons dp_str da_nil) (Nat.le_of_ble_eq_true rfl))) (show _ = encT (.goto j) by rw [hvd]; rfl))) ?_
  refine ws_if1 (t := false) (dt_to (tcm (cm_neS (da := .str sGo) (db := .str sGo) rfl (dp_ixT (ds := [.str sGo, .int j]) rfl (v 5) dp_int) dp_str)) (by simp [eqD])) (fun h => by cases h) fun _ => ?_
  have hz := SJ.1
  refine ws_set 6 (de_pure (dp_to (dp_sorted (ds := ((paAt pa j).filter behind0).map encI) (lay_encIs fun it hi => (SJ.2 it (List.mem_filter.mp hi).1).sg) (alike_encI _) (sortable_encI _) (fun d hd => ?_) rfl T.b_sorted (dl_dat (dp_to (lcN 7 encI behind0 encI (xs := paAt pa j) (di_weak (di_dat (dp_ixL (ds := pa.map encSt) (n := j) (d := encSt (paAt pa j)) (by rw [atI_nat j0, List.getElem?_map, hpj]; rfl) (dl_dat (v 2)) (dp_ixT (ds := [.str sGo, .int j]) (d := .int j) rfl (v 5) dp_int)))) (fun it hit s H C cl fp => dts_one (dt_to (tcm (cm_gt (dp_ixT (d := .int it.2.1) rfl (v 7) dp_int) dp_int)) rfl)) (fun it hit _ s H C cl fp => v 7) (szl (by omega))) rfl))) (show _ = encSt (advBy g (paAt pa i) p) by rw [sort_encI, he]; rfl))) ?_
  · obtain ⟨it', hi', rfl⟩ := List.mem_map.mp hd
    rw [depth_encI]
    exact un3 hr (by decide)
  have hlay : PyData.canLay0 (encSt (advBy g (paAt pa i) p)) = true := by
    show PyData.canLay0 (.list _) = true
    rw [PyData.canLay0]
    refine lay_encIs fun it hi => ?_
    have hi := sortI_mem.mp hi
    obtain ⟨it', hi', rfl⟩ := List.mem_map.mp hi
    exact (S.2 it' (List.mem_filter.mp hi').1).sg
  have hdp : PyData.depth (encSt (advBy g (paAt pa i) p)) ≤ 2 := by
    show PyData.depth (.list _) ≤ 2
    rw [PyData.depth]
    have := depthAll_le (f := encI) (n := 1) (l := advBy g (paAt pa i) p) fun a _ => by rw [depth_encI]; exact Nat.le_refl _
    omega
  refine ws_if1 (t := false) (dt_to (tcm (cm_neG (da := encSt (advBy g (paAt pa i) p)) (db := encSt (advBy g (paAt pa i) p)) hlay hlay (un2 hr (by omega)) (v 6) (dp_call (ok_advanced T) hr ⟨g, paAt pa i, p, G, S, rfl, rfl⟩ (da_cons (v 0) (da_cons (dp_ixL (ds := pa.map encSt) (n := (i : Int)) (d := encSt (paAt pa i)) (by rw [atI_nat (by omega), List.getElem?_map, hpi]; rfl) (dl_dat (v 2)) (v 3)) (da_cons (v 4) da_nil)))))) (by rw [PySem.SeqAt.eqv_refl _ hlay]; rfl)) (fun h => by cases h) fun _ => ?_
  exact ws_nil ⟨(), trivial, .same (.same (.same (.same (.drop (.drop (.drop (.drop .nil)))))))⟩
/-! is_done -/
theorem list_kwS (l : List Str) : (kwS l).map (fun kv => kD kv.1) = encS l := by
  unfold kwS encS
  rw [List.map_map]
  rfl
theorem list_row (r : Row) : (encRow r).map (fun kv => kD kv.1) = encS (r.map Prod.fst) := by
  unfold encRow encS
  rw [List.map_map, List.map_map]
  rfl
def R_is_done (ds : List PyData) (d : PyData) : Prop := ∃ g row stand, GG g ∧ StOk g stand ∧ DoneOk g row stand ∧ ds = [encG g, dictD (encRow row), .list (stand.map encI)] ∧ d = .bool true
theorem sc_is_done : FnScope ["grammar", "row", "stand", "keys", "part", "sign", "deeds"] ["grammar", "row", "stand"] (defScope KHead.s_is_done) := ⟨rfl, rfl, rfl, by decide +kernel, rfl, by decide +kernel, by decide +kernel⟩
theorem ok_is_done (T : Txt K mg) : DFn P w K mg base 5 "is_done" ["grammar", "row", "stand"] (spD K R_is_done) := by
  refine T.fn2 51 42 rfl rfl (fun _ _ _ _ _ _ us hl => match us, hl with | [_, _, _], _ => rfl) fun f fd F => fn_D F sc_is_done (fun ds d ⟨g, _, _, _, _, _, h, _⟩ => by rw [h]; rfl) fun cdv A outer s H E ds d hr ⟨g, row, stand, G, S, D, e1, e2⟩ => ?_
  subst e1 e2
  have nd := sc_is_done.nd
  have hu := u1 hr
  have hs := S.1
  have hpl := parts_len g stand
  have hpn := parts_nd g stand
  have hnl := named_len g stand
  have hks : ∀ s ∈ partsNext g stand, PyData.strOk s = true := fun s hs => by
    obtain ⟨it, hit, e⟩ := parts_mem.mp hs
    rcases (next_ok G (S.2 it hit) e).1 with q | q
    · exact q.ok
    · exact q.ok
  have hnk := named_keys G S
  have hone := D.one
  have hkeys := D.keys
  have hdk : doneKeys g stand = (namedBy g stand).foldl (fun acc p => addS acc p.1) (partsNext g stand) := rfl
  refine ws_set 3 (de_dictP (kvs := kwS (partsNext g stand)) (by unfold kwS; rw [List.map_map]; exact hpn.map _ fun _ _ h => by simpa using h) (dp_to (lcN 4 PyData.str (fun _ => true) (fun s : Str => .tuple [.str s, .bool true]) (xs := partsNext g stand) (di_weak (di_to (di_dat (dp_call (ok_parts_next T) (hr.mono (by decide)) ⟨g, stand, G, S, rfl, rfl⟩ (da_cons (v 0) (da_cons (v 2) da_nil)))) rfl)) (fun a ha s H C cl fp => dts_nil) (fun a ha _ s H C cl fp => dp_tup (da_cons (v 4) (da_cons dp_bl da_nil)) (Nat.le_of_ble_eq_true rfl)) (szl (by omega))) (by
    rw [flt_true]
    unfold itemsD kwS
    rw [List.map_map]
    rfl)) rfl T.b_dict) ?_
  refine ws_forP (S := List Str) (xs := namedBy g stand) 5 6 (fun p => .str p.1) (fun p => encDs p.2) (fun l acc => l.foldl (fun acc p => addS acc p.1) acc = doneKeys g stand ∧ acc.length + l.length ≤ 2000 ∧ ∀ s ∈ acc, PyData.strOk s = true)
    (fun acc => [some (dat (encG g)), some (dat (dictD (encRow row))), some (dat (.list (stand.map encI))), some (.b (.okd (kwS acc))), none, none, none]) (partsNext g stand)
    (di_to (di_items (dp_call (ok_named_by T) hr ⟨g, stand, G, S, rfl, rfl⟩ (da_cons (v 0) (da_cons (v 2) da_nil)))) (items_nb _)) ⟨hdk.symm, by omega, hks⟩ (by exact .same (.same (.same (.same (.drop (.same (.same .nil))))))) ?_ ?_
  · intro p l acc hp ⟨h1, h2, h3⟩
    have h2 : acc.length + (l.length + 1) ≤ 2000 := h2
    rw [List.foldl_cons] at h1
    obtain ⟨d, hd, hgo⟩ := hone p hp
    have at0 : atI (p.2.map encD) 0 = some (encD d) := by rw [hd, atI_nat (Int.le_refl 0)]; rfl
    have hpk : PyData.strOk p.1 = true := hnk p.1 (List.mem_map.mpr ⟨p, hp, rfl⟩)
    refine ws_if1 (t := false) (dt_to (PW.pt (dw_or (t := false) (u := false) (dt_to (tcm (cm_gt (dp_lenL (ds := p.2.map encD) rfl T.b_len (dl_dat (v 6))) dp_int)) (by rw [hd]; rfl)) fun _ => dw_or1 (dt_to (PW.pt (dw_and (t := !decide (d = .go)) (u := false) (dt_to (tcm (cm_neG (da := encD d) (db := encD .go) (lay_encD _) (lay_encD _) (by rw [depth_encD, depth_encD]; exact un2 hr (by decide)) (dp_ixL (ds := p.2.map encD) at0 (dl_dat (v 6)) dp_int) (dp_tup (da_cons dp_str da_nil) (Nat.le_of_ble_eq_true rfl)))) (by rw [eqv_encD])) fun hng => dw_and1 (dt_to (tcm (cm_neG (da := encD d) (db := encD d) (lay_encD _) (lay_encD _) (by rw [depth_encD]; exact un2 hr (by decide)) (dp_to (dg1 (kvs := encRow row) (k := Sum.inr p.1) hu (dk_dat (v 1)) (v 5)) ?_) (dp_ixL (ds := p.2.map encD) at0 (dl_dat (v 6)) dp_int))) (by rw [eqv_encD]; simp))))  (Bool.and_false _)))) rfl) (fun h => by cases h) fun _ => ?_
    · have hn : d ≠ .go := by simpa using hng
      rcases hgo with z | z
      · exact absurd z hn
      · rw [row_get, z]
        exact (tdOf_enc hn).symm
    · refine ws_dput 3 (kvs := kwS acc) (k := Sum.inr p.1) (d := .bool true) (de_pure (dp_bl (y := true))) rfl (v 5) (szl (by simp [kwS]; omega)) hu ?_
      rw [kwS_add]
      refine ws_nil ⟨addS acc p.1, ⟨h1, by have := addS_len acc p.1; omega, fun s hs => ?_⟩, .same (.same (.same (.same (.same (.drop (.drop .nil))))))⟩
      unfold addS at hs
      split at hs
      · exact h3 s hs
      · rcases List.mem_append.mp hs with z | z
        · exact h3 s z
        · rw [List.mem_singleton.mp z]; exact hpk
  · intro acc ⟨h1, h2, h3⟩
    have h1 : acc = doneKeys g stand := h1
    rw [← h1] at hkeys
    have hrl := D.len
    have hsg := D.sg
    have lay : PyData.canLay0 (.list (encS (sortS (row.map Prod.fst)))) = true := by
      rw [PyData.canLay0]
      exact lay_S fun x hx => hsg x ((List.mergeSort_perm _ leS).mem_iff.mp hx)
    refine ws_ret (de_pure (dp_to (dcm (cm_eqG (da := .list (encS (sortS (row.map Prod.fst)))) (db := .list (encS (sortS (row.map Prod.fst)))) lay lay ?_ (dp_to (dp_sorted (ds := encS acc) (lay_S h3) (alike_S _) (sortable_S _) (fun d hd => ?_) rfl T.b_sorted (dl_dat (dp_to (dp_listK (kvs := kwS acc) rfl rfl T.b_list (vk 3)) (by rw [list_kwS])))) (by rw [sort_encS, hkeys])) (dp_to (dp_sorted (ds := encS (row.map Prod.fst)) (lay_S hsg) (alike_S _) (sortable_S _) (fun d hd => ?_) rfl T.b_sorted (dl_dat (dp_to (dp_listK (kvs := encRow row) rfl rfl T.b_list (dk_dat (v 1))) (by rw [list_row])))) (by rw [sort_encS])))) (by rw [PySem.SeqAt.eqv_refl _ lay]))) rfl
    · rw [PyData.depth, depth_S]
      exact un2 hr (by decide)
    · obtain ⟨a, _, rfl⟩ := List.mem_map.mp hd
      exact un2 hr (a := 2 + 0) (by decide)
    · obtain ⟨a, _, rfl⟩ := List.mem_map.mp hd
      exact un2 hr (a := 2 + 0) (by decide)
end
end DL


set_option Elab.async false
set_option linter.all false
set_option maxRecDepth 100000
set_option maxHeartbeats 4000000
/-! W14: is_paper_by, is_right. -/
namespace DL
open PySem PySem.Spec PyProof.Rows L2

structure PaperOk (g : Gr) (pa : List (List It3)) : Prop where
  n1 : 1 ≤ pa.length
  n2 : pa.length ≤ 200
  nd : ∀ s ∈ pa, s.Nodup
  few : ∀ s ∈ pa, s.length ≤ 76
  it : ∀ s ∈ pa, ∀ x ∈ s, ItemIs g (countingBy g) x
theorem PaperOk.st {g : Gr} {pa : List (List It3)} (P : PaperOk g pa) {s : List It3} (h : s ∈ pa) : StOk g s := ⟨by have := P.few s h; omega, fun x hx => (P.it s h x hx).ok⟩
section
variable {P : Program} {w : World} {K : PySem.W.Frag} {mg : Str → Option Value} {base : Heap}
def R_is_paper_by (ds : List PyData) (d : PyData) : Prop := ∃ g pa, GG g ∧ PaperOk g pa ∧ ds = [encG g, .list (pa.map encSt)] ∧ d = .bool true
theorem sc_is_paper_by : FnScope ["grammar", "paper", "counted", "stand", "item"] ["grammar", "paper"] (defScope KHead.s_is_paper_by) := ⟨rfl, rfl, rfl, by decide +kernel, rfl, by decide +kernel, by decide +kernel⟩
theorem ok_is_paper_by (T : Txt K mg) : DFn P w K mg base 5 "is_paper_by" ["grammar", "paper"] (spD K R_is_paper_by) := by
  refine T.fn2 47 38 rfl rfl (fun _ _ _ _ _ _ us hl => match us, hl with | [_, _], _ => rfl) fun f fd F => fn_D F sc_is_paper_by (fun ds d ⟨g, _, _, _, h, _⟩ => by rw [h]; rfl) fun cdv A outer s H E ds d hr ⟨g, pa, G, B, e1, e2⟩ => ?_
  subst e1 e2
  have nd := sc_is_paper_by.nd
  have h1 := B.n1
  have h2 := B.n2
  refine ws_if1 (t := false) (dt_to (dt_not (dt_chainI op_le op_le dp_int (dp_lenL (ds := pa.map encSt) rfl T.b_len (vd 1)) (dp_gint rfl T.MOST_STANDS) rfl)) ?_) (fun h => by cases h) fun _ => ?_
  · have e1 : decide ((1 : Int) ≤ ((pa.map encSt).length : Int)) = true := decide_eq_true (by rw [List.length_map]; omega)
    have e2 : decide (((pa.map encSt).length : Int) ≤ 200) = true := decide_eq_true (by rw [List.length_map]; omega)
    rw [e1, e2]; rfl
  refine ws_set 2 (de_pure (dp_call (ok_counting T) hr ⟨g, G, rfl, rfl⟩ (da_cons (v 0) da_nil))) ?_
  refine ws_forN (S := Unit) (xs := pa) 3 encSt (fun _ _ => True) (fun _ => [some (dat (encG g)), some (dat (.list (pa.map encSt))), some (dat (.list (encN (countingBy g)))), none, none]) () (di_dat (v 1)) trivial (Sub.refl _) ?_ fun _ _ => ws_ret (de_pure dp_bl) rfl
  intro st l _ hst _
  have hn := B.nd st hst
  have hf := B.few st hst
  have hi := B.it st hst
  have ek : (st.map keyI).map (fun k => PyData.tuple (k.map kD)) = st.map encI := by
    rw [List.map_map]
    rfl
  refine ws_if1 (t := false) (dt_to (PW.pt (dw_or (t := false) (u := false) (dt_to (tcm (cm_neS rfl (dp_lenSet (ks := st.map keyI) rfl (hn.map _ fun _ _ h => fun z => h (keyI_inj z)) (by rw [List.length_map]; exact hf) (un2 hr (by decide)) rfl T.b_len rfl T.b_set (by rw [ek]; exact vd 3)) (dp_lenL (ds := st.map encI) rfl T.b_len (vd 3)))) (by simp [eqD])) fun _ => dw_or1 (dt_to (dt_not (dt_val (dp_to (dp_all (bs := st.map fun _ => true) rfl rfl T.b_all (dl_dat (dp_to (lcN 4 encI (fun _ => true) (fun _ => .bool true) (xs := st) (di_weak (di_dat (v 3))) (fun a ha s H C cl fp => dts_nil) (fun a ha _ s H C cl fp => dp_call (ok_is_item T) (hr.mono (by decide)) ⟨g, a, countingBy g, G, hi a ha, rfl, rfl⟩ (da_cons (v 0) (da_cons (v 4) (da_cons (v 2) da_nil)))) (szl (by omega))) (by rw [flt_true, List.map_map]; rfl)))) (show _ = PyData.bool true by congr 1; rw [List.all_map, List.all_eq_true]; intro _ _; rfl)))) rfl))) rfl) (fun h => by cases h) fun _ => ?_
  exact ws_nil ⟨(), trivial, .same (.same (.same (.drop (.drop .nil))))⟩
structure RightOk (g : Gr) (tab : List Row) (pa : List (List It3)) : Prop where
  len : pa.length = tab.length
  beg : BegunOk (paAt pa 0)
  cal : ∀ i : Nat, i < pa.length → CalledOk g (loreOf g) (paAt pa i) (decide ((i : Int) = 0))
  led : ∀ i : Nat, i < pa.length → LedOk g tab pa i
  don : ∀ i : Nat, i < pa.length → DoneOk g (rowAt tab i) (paAt pa i)
def R_is_right (ds : List PyData) (d : PyData) : Prop := ∃ (g : Gr) (tab : List Row) (pa : List (List It3)) (b : Bool), GG g ∧ TabOk g tab ∧ PaperOk g pa ∧ (b = true → RightOk g tab pa) ∧ (b = false → pa.length ≠ tab.length) ∧ ds = [encG g, encTab tab, .list (pa.map encSt)] ∧ d = .bool b
theorem sc_is_right : FnScope ["grammar", "table", "paper", "lore", "state"] ["grammar", "table", "paper"] (defScope KHead.s_is_right) := ⟨rfl, rfl, rfl, by decide +kernel, rfl, by decide +kernel, by decide +kernel⟩
theorem ok_is_right (T : Txt K mg) : DFn P w K mg base 7 "is_right" ["grammar", "table", "paper"] (spD K R_is_right) := by
  refine T.fn2 52 43 rfl rfl (fun _ _ _ _ _ _ us hl => match us, hl with | [_, _, _], _ => rfl) fun f fd F => fn_D F sc_is_right (fun ds d ⟨g, _, _, _, _, _, _, _, _, h, _⟩ => by rw [h]; rfl) fun cdv A outer s H E ds d hr ⟨g, tab, pa, b, G, B, Q, R, R', e1, e2⟩ => ?_
  subst e1 e2
  have nd := sc_is_right.nd
  have h1 := Q.n1
  have h2 := Q.n2
  refine ws_exp (de_pure (dp_call (ok_must_be_grammar T) (hr.mono (by decide)) ⟨g, G, rfl, rfl⟩ (da_cons (v 0) da_nil))) ?_
  refine ws_exp (de_pure (dp_call (ok_must_be_table T) (hr.mono (by decide)) ⟨g, tab, G, B, rfl, rfl⟩ (da_cons (v 0) (da_cons (v 1) da_nil)))) ?_
  refine ws_if1 (t := false) (dt_to (dt_not (dt_val (dp_call (ok_is_paper_by T) (hr.mono (by decide)) ⟨g, pa, G, Q, rfl, rfl⟩ (da_cons (v 0) (da_cons (v 2) da_nil))))) rfl) (fun h => by cases h) fun _ => ?_
  cases b with
  | false =>
    have hne := R' rfl
    refine ws_if1 (t := true) (dt_to (PW.pt (dw_or (t := true) (u := false) (dt_to (tcm (cm_neS rfl (dp_lenL (ds := pa.map encSt) rfl T.b_len (dl_dat (v 2))) (dp_lenL (ds := tab.map fun r => dictD (encRow r)) rfl T.b_len (dl_dat (v 1))))) ?_) (fun h => by cases h))) rfl) (fun _ => ws_ret (de_pure dp_bl) rfl) (fun h => by cases h)
    show (!decide (_ = _)) = true
    rw [decide_eq_false (by rw [List.length_map, List.length_map]; omega)]
    rfl
  | true =>
    have W := R rfl
    have hl := W.len
    have p0 : pa[((0 : Int)).toNat]? = some (paAt pa 0) := pa_at (Int.le_refl 0) (by omega)
    refine ws_if1 (t := false) (dt_to (PW.pt (dw_or (t := false) (u := false) (dt_to (tcm (cm_neS rfl (dp_lenL (ds := pa.map encSt) rfl T.b_len (dl_dat (v 2))) (dp_lenL (ds := tab.map fun r => dictD (encRow r)) rfl T.b_len (dl_dat (v 1))))) ?_) fun _ => dw_or1 (dt_to (dt_not (dt_val (dp_call (ok_is_begun T) (hr.mono (by decide)) ⟨paAt pa 0, W.beg, rfl, rfl⟩ (da_cons (dp_ixL (ds := pa.map encSt) (n := 0) (d := encSt (paAt pa 0)) (by rw [atI_nat (Int.le_refl 0), List.getElem?_map, p0]; rfl) (dl_dat (v 2)) dp_int) da_nil)))) rfl))) rfl) (fun h => by cases h) fun _ => ?_
    · show (!decide (_ = _)) = false
      rw [decide_eq_true (by rw [List.length_map, List.length_map, hl])]
      rfl
    refine ws_set 3 (de_pure (dp_call (ok_lore_of T) hr ⟨g, G, rfl, rfl⟩ (da_cons (v 0) da_nil))) ?_
    have O : LoOk g (loreOf g) := lore_ok G
    refine ws_forN (S := Unit) (xs := List.range pa.length) 4 (fun i : Nat => .int (i : Int)) (fun _ _ => True) (fun _ => [some (dat (encG g)), some (dat (encTab tab)), some (dat (.list (pa.map encSt))), some (dat (encLore (loreOf g))), none]) ()
      (di_to (di_range1 (n := ((pa.map encSt).length : Int)) (by rw [List.length_map]; omega) (by rw [List.length_map]; omega) rfl T.b_range (dp_lenL (ds := pa.map encSt) rfl T.b_len (dl_dat (v 2)))) ?_) trivial (Sub.refl _) ?_ fun _ _ => ws_ret (de_pure dp_bl) rfl
    · rw [List.length_map, Int.toNat_natCast]
      unfold rangeD
      simp only [Int.zero_add]
    intro i l _ hi _
    have hlt : i < pa.length := List.mem_range.mp hi
    have hpi : pa[((i : Int)).toNat]? = some (paAt pa i) := pa_at (by omega) (by omega)
    have hri : tab[((i : Int)).toNat]? = some (rowAt tab i) := row_at (by omega) (by omega)
    have S : StOk g (paAt pa i) := Q.st (List.mem_of_getElem? hpi)
    refine ws_if1 (t := false) (dt_to (dt_not (dt_val (dp_call (ok_is_called T) (hr.mono (by decide)) ⟨g, paAt pa i, decide ((i : Int) = 0), loreOf g, G, O, S, W.cal i hlt, rfl, rfl⟩ (da_cons (v 0) (da_cons (dp_ixL (ds := pa.map encSt) (n := (i : Int)) (d := encSt (paAt pa i)) (by rw [atI_nat (by omega), List.getElem?_map, hpi]; rfl) (dl_dat (v 2)) (v 4)) (da_cons (dp_to (dcm (cm_eqS rfl (v 4) dp_int)) rfl) (da_cons (v 3) da_nil))))))) rfl) (fun h => by cases h) fun _ => ?_
    refine ws_if1 (t := false) (dt_to (PW.pt (dw_or (t := false) (u := false) (dt_to (dt_not (dt_val (dp_call (ok_is_led T) (hr.mono (by decide)) ⟨g, tab, pa, i, G, W.led i hlt, rfl, rfl⟩ (da_cons (v 0) (da_cons (v 1) (da_cons (v 2) (da_cons (v 4) da_nil))))))) rfl) fun _ => dw_or1 (dt_to (dt_not (dt_val (dp_call (ok_is_done T) (hr.mono (by decide)) ⟨g, rowAt tab i, paAt pa i, G, S, W.don i hlt, rfl, rfl⟩ (da_cons (v 0) (da_cons (dp_ixL (ds := tab.map fun r => dictD (encRow r)) (n := (i : Int)) (by rw [atI_nat (by omega), List.getElem?_map, hri]; rfl) (dl_dat (v 1)) (v 4)) (da_cons (dp_ixL (ds := pa.map encSt) (n := (i : Int)) (d := encSt (paAt pa i)) (by rw [atI_nat (by omega), List.getElem?_map, hpi]; rfl) (dl_dat (v 2)) (v 4)) da_nil)))))) rfl))) rfl) (fun h => by cases h) fun _ => ?_
    exact ws_nil ⟨(), trivial, .same (.same (.same (.same (.drop .nil))))⟩
end
end DL


set_option Elab.async false
set_option linter.all false
set_option maxRecDepth 100000
set_option maxHeartbeats 4000000
/-! P1: rows and named deeds, in plain Lean. -/
namespace DL
open PySem PySem.Spec PyProof.Rows L2

theorem addS_mem {l : List Str} {s y : Str} : y ∈ addS l s ↔ y ∈ l ∨ y = s := by
  unfold addS
  split
  · rename_i h
    exact ⟨.inl, fun z => z.elim id fun e => by rw [e]; exact h⟩
  · rw [List.mem_append, List.mem_singleton]
theorem addS_nd {l : List Str} {s : Str} (h : l.Nodup) : (addS l s).Nodup := by
  unfold addS
  split
  · exact h
  · rename_i c
    exact List.nodup_append.mpr ⟨h, by simp, fun x hx y hy e => c (by rw [← List.mem_singleton.mp hy, ← e]; exact hx)⟩
theorem rget_put (r : Row) (k k' : Str) (x : TD) : rowGet (rput r k x) k' = if k' = k then some x else rowGet r k' := by
  unfold rput rowGet
  split
  · rename_i h
    rw [List.find?_map]
    have e : ((fun p : Str × TD => decide (p.1 = k')) ∘ fun p : Str × TD => if p.1 = k then (p.1, x) else p) = fun p => decide (p.1 = k') := by
      funext p
      show decide ((if p.1 = k then (p.1, x) else p).1 = k') = _
      split <;> rfl
    rw [e]
    cases hf : r.find? (fun p => decide (p.1 = k')) with
    | none =>
      by_cases hk : k' = k
      · rw [List.find?_eq_none] at hf
        rw [List.any_eq_true] at h
        obtain ⟨p, hp, hp2⟩ := h
        rw [← hk] at hp2
        exact absurd hp2 (hf p hp)
      · rw [if_neg hk]; rfl
    | some q =>
      have hq : decide (q.1 = k') = true := List.find?_some (p := fun p : Str × TD => decide (p.1 = k')) hf
      have hq : q.1 = k' := of_decide_eq_true hq
      by_cases hk : k' = k
      · rw [if_pos hk]
        show some (if q.1 = k then (q.1, x) else q).2 = _
        rw [if_pos (hq.trans hk)]
      · rw [if_neg hk]
        show some (if q.1 = k then (q.1, x) else q).2 = _
        rw [if_neg (by rw [hq]; exact hk)]
        rfl
  · rename_i h
    rw [List.find?_append]
    by_cases hk : k' = k
    · rw [if_pos hk]
      have : r.find? (fun p => decide (p.1 = k')) = none := by
        rw [List.find?_eq_none]
        intro p hp hd
        exact h (List.any_eq_true.mpr ⟨p, hp, by rw [← hk]; exact hd⟩)
      rw [this]
      simp [hk]
    · rw [if_neg hk]
      have e : ([(k, x)] : Row).find? (fun p => decide (p.1 = k')) = none := by
        rw [List.find?_eq_none]
        intro p hp hd
        rw [List.mem_singleton.mp hp] at hd
        exact hk (of_decide_eq_true hd).symm
      rw [e]
      cases r.find? (fun p => decide (p.1 = k')) <;> rfl
theorem rput_keys (r : Row) (k : Str) (x : TD) : (rput r k x).map Prod.fst = addS (r.map Prod.fst) k := by
  unfold rput addS
  by_cases h : k ∈ r.map Prod.fst
  · rw [if_pos h]
    have h2 : (r.any fun p => decide (p.1 = k)) = true := by
      obtain ⟨p, hp, e⟩ := List.mem_map.mp h
      exact List.any_eq_true.mpr ⟨p, hp, decide_eq_true e⟩
    rw [if_pos h2, List.map_map]
    refine List.map_congr_left fun p _ => ?_
    show (if p.1 = k then (p.1, x) else p).1 = p.1
    split <;> rfl
  · rw [if_neg h]
    have h2 : ¬ (r.any fun p => decide (p.1 = k)) = true := by
      intro z
      obtain ⟨p, hp, e⟩ := List.any_eq_true.mp z
      exact h (List.mem_map.mpr ⟨p, hp, of_decide_eq_true e⟩)
    rw [if_neg h2, List.map_append]
    rfl
theorem rput_mem {r : Row} {k : Str} {x : TD} {p : Str × TD} (h : p ∈ rput r k x) : p ∈ r ∨ p = (k, x) := by
  unfold rput at h
  split at h
  · obtain ⟨q, hq, e⟩ := List.mem_map.mp h
    by_cases z : q.1 = k
    · rw [if_pos z, z] at e; exact .inr e.symm
    · rw [if_neg z] at e; rw [← e]; exact .inl hq
  · rcases List.mem_append.mp h with z | z
    · exact .inl z
    · exact .inr (List.mem_singleton.mp z)
theorem nget_put (nb : NB) (x y : Str) (l : List Deed) : nbGet (nbPut nb x l) y = if y = x then l else nbGet nb y := by
  unfold nbPut nbGet
  split
  · rename_i h
    rw [List.find?_map]
    have e : ((fun p : Str × List Deed => decide (p.1 = y)) ∘ fun p : Str × List Deed => if p.1 = x then (p.1, l) else p) = fun p => decide (p.1 = y) := by
      funext p
      show decide ((if p.1 = x then (p.1, l) else p).1 = y) = _
      split <;> rfl
    rw [e]
    cases hf : nb.find? (fun p => decide (p.1 = y)) with
    | none =>
      by_cases hk : y = x
      · rw [List.find?_eq_none] at hf
        rw [List.any_eq_true] at h
        obtain ⟨p, hp, hp2⟩ := h
        rw [← hk] at hp2
        exact absurd hp2 (hf p hp)
      · rw [if_neg hk]; rfl
    | some q =>
      have hq : decide (q.1 = y) = true := List.find?_some (p := fun p : Str × List Deed => decide (p.1 = y)) hf
      have hq : q.1 = y := of_decide_eq_true hq
      by_cases hk : y = x
      · rw [if_pos hk]
        show (some (if q.1 = x then (q.1, l) else q).2).getD [] = _
        rw [if_pos (hq.trans hk)]
        rfl
      · rw [if_neg hk]
        show (some (if q.1 = x then (q.1, l) else q).2).getD [] = _
        rw [if_neg (by rw [hq]; exact hk)]
        rfl
  · rename_i h
    rw [List.find?_append]
    by_cases hk : y = x
    · rw [if_pos hk]
      have : nb.find? (fun p => decide (p.1 = y)) = none := by
        rw [List.find?_eq_none]
        intro p hp hd
        exact h (List.any_eq_true.mpr ⟨p, hp, by rw [← hk]; exact hd⟩)
      rw [this]
      simp [hk]
    · rw [if_neg hk]
      have e : ([(x, l)] : NB).find? (fun p => decide (p.1 = y)) = none := by
        rw [List.find?_eq_none]
        intro p hp hd
        rw [List.mem_singleton.mp hp] at hd
        exact hk (of_decide_eq_true hd).symm
      rw [e]
      cases nb.find? (fun p => decide (p.1 = y)) <;> rfl
theorem nput_keys (nb : NB) (k : Str) (x : List Deed) : (nbPut nb k x).map Prod.fst = addS (nb.map Prod.fst) k := by
  unfold nbPut addS
  by_cases h : k ∈ nb.map Prod.fst
  · rw [if_pos h]
    have h2 : (nb.any fun p => decide (p.1 = k)) = true := by
      obtain ⟨p, hp, e⟩ := List.mem_map.mp h
      exact List.any_eq_true.mpr ⟨p, hp, decide_eq_true e⟩
    rw [if_pos h2, List.map_map]
    refine List.map_congr_left fun p _ => ?_
    show (if p.1 = k then (p.1, x) else p).1 = p.1
    split <;> rfl
  · rw [if_neg h]
    have h2 : ¬ (nb.any fun p => decide (p.1 = k)) = true := by
      intro z
      obtain ⟨p, hp, e⟩ := List.any_eq_true.mp z
      exact h (List.mem_map.mpr ⟨p, hp, of_decide_eq_true e⟩)
    rw [if_neg h2, List.map_append]
    rfl
theorem nput_mem {nb : NB} {k : Str} {x : List Deed} {p : Str × List Deed} (h : p ∈ nbPut nb k x) : p ∈ nb ∨ p = (k, x) := by
  unfold nbPut at h
  split at h
  · obtain ⟨q, hq, e⟩ := List.mem_map.mp h
    by_cases z : q.1 = k
    · rw [if_pos z, z] at e; exact .inr e.symm
    · rw [if_neg z] at e; rw [← e]; exact .inl hq
  · rcases List.mem_append.mp h with z | z
    · exact .inl z
    · exact .inr (List.mem_singleton.mp z)
theorem sortDd_mem {l : List Deed} {d : Deed} : d ∈ sortDd l ↔ d ∈ l := (List.mergeSort_perm l leDd).mem_iff
theorem sortI_perm' (l : List It3) : (sortI l).Perm l := List.mergeSort_perm l leI
/-- what the deeds named by items are -/
structure NbI (g : Gr) (l : List It3) (nb : NB) : Prop where
  nd : (nb.map Prod.fst).Nodup
  ne : ∀ p ∈ nb, p.2 ≠ []
  mem : ∀ x d, d ∈ nbGet nb x ↔ ∃ it ∈ l, deedOf g it = some (x, d)
theorem NbI.step {g : Gr} {l : List It3} {nb : NB} (h : NbI g l nb) (it : It3) : NbI g (l ++ [it]) (nbStep nb (deedOf g it)) := by
  have old : ∀ {x d}, (∃ i ∈ l, deedOf g i = some (x, d)) → ∃ i ∈ l ++ [it], deedOf g i = some (x, d) := fun ⟨i, hi, e⟩ => ⟨i, List.mem_append_left _ hi, e⟩
  cases hd : deedOf g it with
  | none =>
    refine ⟨h.nd, h.ne, fun x d => (h.mem x d).trans ⟨old, fun ⟨i, hi, e⟩ => ?_⟩⟩
    rcases List.mem_append.mp hi with z | z
    · exact ⟨i, z, e⟩
    · rw [List.mem_singleton.mp z, hd] at e; cases e
  | some q =>
    obtain ⟨y, dd⟩ := q
    have new : ∃ i ∈ l ++ [it], deedOf g i = some (y, dd) := ⟨it, by simp, hd⟩
    have back : ∀ {x d}, (∃ i ∈ l ++ [it], deedOf g i = some (x, d)) → (∃ i ∈ l, deedOf g i = some (x, d)) ∨ (x = y ∧ d = dd) := fun ⟨i, hi, e⟩ => by
      rcases List.mem_append.mp hi with z | z
      · exact .inl ⟨i, z, e⟩
      · rw [List.mem_singleton.mp z, hd] at e
        cases e
        exact .inr ⟨rfl, rfl⟩
    show NbI g (l ++ [it]) (if dd ∈ nbGet nb y then nb else nbPut nb y (sortDd (nbGet nb y ++ [dd])))
    by_cases hm : dd ∈ nbGet nb y
    · rw [if_pos hm]
      refine ⟨h.nd, h.ne, fun x d => (h.mem x d).trans ⟨old, fun z => ?_⟩⟩
      rcases back z with z | ⟨e1, e2⟩
      · exact z
      · rw [e1, e2]; exact (h.mem y dd).mp hm
    · rw [if_neg hm]
      refine ⟨?_, fun p hp => ?_, fun x d => ?_⟩
      · rw [nput_keys]; exact addS_nd h.nd
      · rcases nput_mem hp with z | z
        · exact h.ne p z
        · rw [z]
          intro e
          have : dd ∈ sortDd (nbGet nb y ++ [dd]) := sortDd_mem.mpr (by simp)
          have e : sortDd (nbGet nb y ++ [dd]) = [] := e
          rw [e] at this
          cases this
      · rw [nget_put]
        by_cases hx : x = y
        · rw [if_pos hx, sortDd_mem, List.mem_append, List.mem_singleton]
          constructor
          · rintro (z | z)
            · exact old ((h.mem x d).mp (by rw [hx]; exact z))
            · rw [hx, z]; exact new
          · intro z
            rcases back z with z | ⟨_, e2⟩
            · exact .inl (by rw [← hx]; exact (h.mem x d).mpr z)
            · exact .inr e2
        · rw [if_neg hx]
          refine (h.mem x d).trans ⟨old, fun z => ?_⟩
          rcases back z with z | ⟨e1, _⟩
          · exact z
          · exact absurd e1 hx
theorem named_I (g : Gr) (stand : List It3) : NbI g stand (namedBy g stand) := by
  have key : ∀ (l pre : List It3) (nb : NB), NbI g pre nb → NbI g (pre ++ l) (l.foldl (fun nb it => nbStep nb (deedOf g it)) nb) := by
    intro l
    induction l with
    | nil => intro pre nb h; rw [List.append_nil]; exact h
    | cons it l ih =>
      intro pre nb h
      have := ih (pre ++ [it]) _ (h.step it)
      rw [List.append_assoc] at this
      exact this
  exact key stand [] [] ⟨List.nodup_nil, fun p hp => (List.not_mem_nil hp).elim, fun x d => ⟨fun z => (List.not_mem_nil z).elim, fun ⟨_, hi, _⟩ => (List.not_mem_nil hi).elim⟩⟩
theorem nb_at {nb : NB} (nd : (nb.map Prod.fst).Nodup) : ∀ {p : Str × List Deed}, p ∈ nb → nbGet nb p.1 = p.2 := by
  induction nb with
  | nil => intro p hp; cases hp
  | cons q nb ih =>
    intro p hp
    rw [List.map_cons, List.nodup_cons] at nd
    rcases List.mem_cons.mp hp with e | hp
    · rw [e]; simp [nbGet, List.find?_cons]
    · have hne : ¬ q.1 = p.1 := fun e => nd.1 (by rw [e]; exact List.mem_map.mpr ⟨p, hp, rfl⟩)
      have := ih nd.2 hp
      have e2 : nbGet (q :: nb) p.1 = nbGet nb p.1 := by simp [nbGet, List.find?_cons, hne]
      rw [e2, this]
/-- no clash in a stand -/
def Calm (g : Gr) (stand : List It3) : Prop := ∀ p ∈ namedBy g stand, ∃ d, p.2 = [d]
theorem calm_of {g : Gr} {stand : List It3} (h : clashOf g stand = none) : Calm g stand := by
  intro p hp
  have I := named_I g stand
  unfold clashOf at h
  rw [Option.map_eq_none_iff, List.find?_eq_none] at h
  have hk : p.1 ∈ sortS ((namedBy g stand).map Prod.fst) := (List.mergeSort_perm _ leS).mem_iff.mpr (List.mem_map.mpr ⟨p, hp, rfl⟩)
  have h1 := h _ hk
  rw [nb_at I.nd hp] at h1
  have h2 := I.ne p hp
  have h1 : ¬ 1 < p.2.length := fun z => h1 (decide_eq_true z)
  match hl : p.2, h2 with
  | [], h2 => exact absurd rfl h2
  | [d], _ => exact ⟨d, rfl⟩
  | _ :: _ :: _, _ => rw [hl] at h1; exact absurd (by simp) h1
theorem Calm.uniq {g : Gr} {stand : List It3} (C : Calm g stand) {a b : It3} (ha : a ∈ stand) (hb : b ∈ stand) {x : Str} {d e : Deed} (h1 : deedOf g a = some (x, d)) (h2 : deedOf g b = some (x, e)) : d = e := by
  have I := named_I g stand
  have m1 := (I.mem x d).mpr ⟨a, ha, h1⟩
  have m2 := (I.mem x e).mpr ⟨b, hb, h2⟩
  have hx : ∃ p ∈ namedBy g stand, nbGet (namedBy g stand) x = p.2 := by
    unfold nbGet at m1 ⊢
    cases hf : (namedBy g stand).find? (fun p => decide (p.1 = x)) with
    | none => rw [hf] at m1; cases m1
    | some p => exact ⟨p, List.mem_of_find?_eq_some hf, rfl⟩
  obtain ⟨p, hp, e1⟩ := hx
  obtain ⟨c, hc⟩ := C p hp
  rw [e1, hc] at m1 m2
  rw [List.mem_singleton.mp m1, List.mem_singleton.mp m2]
/-! ### rows -/
theorem row1_keys : ∀ (nb : NB) (r : Row), (r.map Prod.fst).Nodup → ((nb.foldl rowStep1 r).map Prod.fst).Nodup
  | [], _, h => h
  | p :: nb, r, h => by
    refine row1_keys nb (rowStep1 r p) ?_
    unfold rowStep1
    split
    · exact h
    · rw [rput_keys]; exact addS_nd h
theorem row2_keys : ∀ (l : List (Str × Nat)) (r : Row), (r.map Prod.fst).Nodup → ((l.foldl rowStep2 r).map Prod.fst).Nodup
  | [], _, h => h
  | p :: l, r, h => by
    refine row2_keys l (rowStep2 r p) ?_
    unfold rowStep2
    rw [rput_keys]; exact addS_nd h
theorem row_nd (g : Gr) (stand : List It3) (go : List (Str × Nat)) : ((rowOf g stand go).map Prod.fst).Nodup := row2_keys _ _ (row1_keys _ _ List.nodup_nil)
theorem row1_mem : ∀ (nb : NB) (r : Row) {p : Str × TD}, p ∈ nb.foldl rowStep1 r → p ∈ r ∨ ∃ q ∈ nb, (q.2[0]?).getD .go ≠ .go ∧ p = (q.1, tdOf ((q.2[0]?).getD .go))
  | [], r, p, h => .inl h
  | q :: nb, r, p, h => by
    rcases row1_mem nb (rowStep1 r q) h with z | ⟨q', hq', z⟩
    · unfold rowStep1 at z
      split at z
      · exact .inl z
      · rename_i c
        rcases rput_mem z with y | y
        · exact .inl y
        · exact .inr ⟨q, List.mem_cons_self, c, y⟩
    · exact .inr ⟨q', List.mem_cons_of_mem _ hq', z⟩
theorem row2_mem : ∀ (l : List (Str × Nat)) (r : Row) {p : Str × TD}, p ∈ l.foldl rowStep2 r → p ∈ r ∨ ∃ q ∈ l, p = (q.1, .goto q.2)
  | [], r, p, h => .inl h
  | q :: l, r, p, h => by
    rcases row2_mem l (rowStep2 r q) h with z | ⟨q', hq', z⟩
    · rcases rput_mem z with y | y
      · exact .inl y
      · exact .inr ⟨q, List.mem_cons_self, y⟩
    · exact .inr ⟨q', List.mem_cons_of_mem _ hq', z⟩
theorem row_mem {g : Gr} {stand : List It3} {go : List (Str × Nat)} {p : Str × TD} (h : p ∈ rowOf g stand go) : (∃ q ∈ go, p = (q.1, .goto q.2)) ∨ ∃ q ∈ namedBy g stand, (q.2[0]?).getD .go ≠ .go ∧ p = (q.1, tdOf ((q.2[0]?).getD .go)) := by
  rcases row2_mem _ _ h with z | z
  · rcases row1_mem _ _ z with y | y
    · cases y
    · exact .inr y
  · exact .inl z
theorem row1_get : ∀ (nb : NB) (r : Row) (k : Str), (nb.map Prod.fst).Nodup → rowGet (nb.foldl rowStep1 r) k = match nb.find? (fun p => decide (p.1 = k)) with
    | some p => if (p.2[0]?).getD .go = .go then rowGet r k else some (tdOf ((p.2[0]?).getD .go))
    | none => rowGet r k
  | [], r, k, _ => rfl
  | q :: nb, r, k, nd => by
    rw [List.map_cons, List.nodup_cons] at nd
    show rowGet (nb.foldl rowStep1 (rowStep1 r q)) k = _
    rw [row1_get nb (rowStep1 r q) k nd.2]
    by_cases h : q.1 = k
    · have hn : nb.find? (fun p => decide (p.1 = k)) = none := by
        rw [List.find?_eq_none]
        intro p hp hd
        exact nd.1 (by rw [h, ← of_decide_eq_true hd]; exact List.mem_map.mpr ⟨p, hp, rfl⟩)
      rw [hn, List.find?_cons, decide_eq_true h]
      show rowGet (rowStep1 r q) k = (if (q.2[0]?).getD .go = .go then rowGet r k else some (tdOf ((q.2[0]?).getD .go)))
      unfold rowStep1
      split
      · rfl
      · rw [rget_put, if_pos h.symm]
    · have hr : rowGet (rowStep1 r q) k = rowGet r k := by
        unfold rowStep1
        split
        · rfl
        · rw [rget_put, if_neg (Ne.symm h)]
      rw [hr, List.find?_cons, decide_eq_false h]
theorem row2_get : ∀ (l : List (Str × Nat)) (r : Row) (k : Str), (l.map Prod.fst).Nodup → rowGet (l.foldl rowStep2 r) k = match l.find? (fun p => decide (p.1 = k)) with
    | some p => some (.goto p.2)
    | none => rowGet r k
  | [], r, k, _ => rfl
  | q :: l, r, k, nd => by
    rw [List.map_cons, List.nodup_cons] at nd
    show rowGet (l.foldl rowStep2 (rowStep2 r q)) k = _
    rw [row2_get l (rowStep2 r q) k nd.2]
    have hs : rowGet (rowStep2 r q) k = if k = q.1 then some (.goto q.2) else rowGet r k := rget_put _ _ _ _
    by_cases h : q.1 = k
    · have hn : l.find? (fun p => decide (p.1 = k)) = none := by
        rw [List.find?_eq_none]
        intro p hp hd
        exact nd.1 (by rw [h, ← of_decide_eq_true hd]; exact List.mem_map.mpr ⟨p, hp, rfl⟩)
      rw [hn, List.find?_cons, decide_eq_true h]
      show rowGet (rowStep2 r q) k = _
      rw [hs, if_pos h.symm]
    · rw [hs, if_neg (Ne.symm h), List.find?_cons, decide_eq_false h]
theorem find_key {α : Type} {l : List (Str × α)} (nd : (l.map Prod.fst).Nodup) {p : Str × α} (hp : p ∈ l) : l.find? (fun q => decide (q.1 = p.1)) = some p := by
  induction l with
  | nil => cases hp
  | cons q l ih =>
    rw [List.map_cons, List.nodup_cons] at nd
    rcases List.mem_cons.mp hp with e | hp
    · rw [e, List.find?_cons, decide_eq_true rfl]
    · rw [List.find?_cons, decide_eq_false (fun e => nd.1 (by rw [e]; exact List.mem_map.mpr ⟨p, hp, rfl⟩))]
      exact ih nd.2 hp
theorem row_goto {g : Gr} {stand : List It3} {go : List (Str × Nat)} (nd : (go.map Prod.fst).Nodup) {p : Str × Nat} (hp : p ∈ go) : rowGet (rowOf g stand go) p.1 = some (.goto p.2) := by
  unfold rowOf
  rw [row2_get _ _ _ nd, find_key nd hp]
theorem row_deed {g : Gr} {stand : List It3} {go : List (Str × Nat)} (nd : (go.map Prod.fst).Nodup) {p : Str × List Deed} (hp : p ∈ namedBy g stand) {d : Deed} (hd : p.2 = [d]) (hg : d ≠ .go) (hn : p.1 ∉ go.map Prod.fst) : rowGet (rowOf g stand go) p.1 = some (tdOf d) := by
  unfold rowOf
  have I := named_I g stand
  have e : go.find? (fun q => decide (q.1 = p.1)) = none := by
    rw [List.find?_eq_none]
    intro q hq h
    exact hn (List.mem_map.mpr ⟨q, hq, of_decide_eq_true h⟩)
  rw [row2_get _ _ _ nd, e]
  show rowGet ((namedBy g stand).foldl rowStep1 []) p.1 = _
  rw [row1_get _ _ _ I.nd, find_key I.nd hp]
  show (if (p.2[0]?).getD .go = .go then rowGet [] p.1 else some (tdOf ((p.2[0]?).getD .go))) = _
  rw [hd]
  exact if_neg hg
theorem rowGet_of_mem {r : Row} (nd : (r.map Prod.fst).Nodup) {p : Str × TD} (hp : p ∈ r) : rowGet r p.1 = some p.2 := by
  unfold rowGet
  rw [find_key nd hp]
  rfl
theorem rowGet_none {r : Row} {k : Str} : rowGet r k = none ↔ k ∉ r.map Prod.fst := by
  unfold rowGet
  rw [Option.map_eq_none_iff, List.find?_eq_none]
  constructor
  · intro h hk
    obtain ⟨p, hp, e⟩ := List.mem_map.mp hk
    exact h p hp (decide_eq_true e)
  · intro h p hp hd
    exact h (List.mem_map.mpr ⟨p, hp, of_decide_eq_true hd⟩)
theorem doneKeys_mem {g : Gr} {stand : List It3} {k : Str} : k ∈ doneKeys g stand ↔ k ∈ partsNext g stand ∨ k ∈ (namedBy g stand).map Prod.fst := by
  unfold doneKeys
  have key : ∀ (nb : NB) (l : List Str), k ∈ nb.foldl (fun acc p => addS acc p.1) l ↔ k ∈ l ∨ k ∈ nb.map Prod.fst := by
    intro nb
    induction nb with
    | nil => intro l; simp
    | cons p nb ih =>
      intro l
      rw [List.foldl_cons, ih, addS_mem, List.map_cons, List.mem_cons]
      constructor
      · rintro ((h | h) | h)
        · exact .inl h
        · exact .inr (.inl h)
        · exact .inr (.inr h)
      · rintro (h | h | h)
        · exact .inl (.inl h)
        · exact .inl (.inr h)
        · exact .inr h
  exact key _ _
theorem doneKeys_nd (g : Gr) (stand : List It3) : (doneKeys g stand).Nodup := by
  unfold doneKeys
  have key : ∀ (nb : NB) (l : List Str), l.Nodup → (nb.foldl (fun acc p => addS acc p.1) l).Nodup := by
    intro nb
    induction nb with
    | nil => exact fun l h => h
    | cons p nb ih => exact fun l h => ih _ (addS_nd h)
  exact key _ _ (parts_nd g stand)
theorem go_part {g : Gr} {it : It3} {x : Str} (h : deedOf g it = some (x, .go)) : nextPart g it = some x ∧ isLetter x = true := by
  unfold deedOf at h
  cases hn : nextPart g it with
  | none =>
    rw [hn] at h
    have h : (if it = (-1, 1, sEND) then some (sEND, Deed.done) else if it.1 = -1 then none else some (it.2.2, .rule it.1)) = some (x, Deed.go) := h
    split at h
    · cases h
    · split at h
      · cases h
      · cases h
  | some p =>
    rw [hn] at h
    have h : (if isLetter p = true then some (p, Deed.go) else none) = some (x, Deed.go) := h
    split at h
    · rename_i c
      cases h
      exact ⟨rfl, c⟩
    · cases h
theorem part_go {g : Gr} {it : It3} {x : Str} (h : nextPart g it = some x) (hl : isLetter x = true) : deedOf g it = some (x, .go) := by
  unfold deedOf
  rw [h]
  exact if_pos hl
/-- a sign at which a calm stand names another deed than to go is no part that is next, where it is a letter or the end -/
theorem Calm.apart {g : Gr} {stand : List It3} (C : Calm g stand) {it : It3} (hi : it ∈ stand) {x : Str} {d : Deed} (h : deedOf g it = some (x, d)) (hd : d ≠ .go) (hx : isLetter x = true) : x ∉ partsNext g stand := by
  intro hp
  obtain ⟨it', hi', e⟩ := parts_mem.mp hp
  exact hd (C.uniq hi hi' h (part_go e hx))
theorem nb_item {g : Gr} {stand : List It3} {p : Str × List Deed} (hp : p ∈ namedBy g stand) {d : Deed} (hd : d ∈ p.2) : ∃ it ∈ stand, deedOf g it = some (p.1, d) := by
  have I := named_I g stand
  exact (I.mem p.1 d).mp (by rw [nb_at I.nd hp]; exact hd)
theorem perm_nd {α : Type} [DecidableEq α] {l m : List α} (h1 : l.Nodup) (h2 : m.Nodup) (h : ∀ x, x ∈ l ↔ x ∈ m) : l.Perm m := by
  rw [List.perm_iff_count]
  intro a
  by_cases ha : a ∈ l
  · rw [h1.count, h2.count, if_pos ha, if_pos ((h a).mp ha)]
  · rw [h1.count, h2.count, if_neg ha, if_neg fun z => ha ((h a).mpr z)]
end DL


set_option Elab.async false
set_option linter.all false
set_option maxRecDepth 100000
set_option maxHeartbeats 4000000
/-! P2: the order of items; closed stands, in plain Lean. -/
namespace DL
open PySem PySem.Spec PyProof.Rows L2

def ltI (a b : It3) : Prop := a.1 < b.1 ∨ (a.1 = b.1 ∧ (a.2.1 < b.2.1 ∨ (a.2.1 = b.2.1 ∧ a.2.2.cps.toList < b.2.2.cps.toList)))
theorem lt_encI (a b : It3) : PySem.W.dataLt (encI a) (encI b) = true ↔ ltI a b := by
  obtain ⟨a1, a2, a3⟩ := a
  obtain ⟨b1, b2, b3⟩ := b
  unfold encI ltI
  have e0 : PyProof.Rows.lexLt PyProof.Rows.itemOrd (PySem.W.keyToksAll []) (PySem.W.keyToksAll []) = false := PyProof.Rows.lex_irrefl _
  rw [PySem.W.dataLt_tuple, PySem.W.dataLt_cons (by simp [PySem.W.alike]), PySem.W.dataLt_cons (by simp [PySem.W.alike]), PySem.W.dataLt_cons (by simp [PySem.W.alike]), PySem.W.dataLt_int, PySem.W.dataLt_int, PySem.W.dataLt_str, e0]
  simp only [PyData.eqv, beq_iff_eq]
  by_cases h1 : a1 = b1
  · rw [if_pos h1]
    by_cases h2 : a2 = b2
    · rw [if_pos h2]
      by_cases h3 : a3 = b3
      · rw [if_pos h3, h1, h2, h3]
        have : ¬ b3.cps.toList < b3.cps.toList := List.lt_irrefl _
        simp [this]
      · rw [if_neg h3]; simp [h1, h2]
    · rw [if_neg h2]; simp [h1, h2]
  · rw [if_neg h1]; simp [h1]
theorem leI_iff (a b : It3) : leI a b = true ↔ ¬ ltI b a := by
  have h : leI a b = !PySem.W.dataLt (encI b) (encI a) := rfl
  rw [h, ← lt_encI b a]
  cases PySem.W.dataLt (encI b) (encI a) <;> simp
theorem ltI_tri (a b : It3) : ltI a b ∨ a = b ∨ ltI b a := by
  obtain ⟨a1, a2, a3⟩ := a
  obtain ⟨b1, b2, b3⟩ := b
  unfold ltI
  rcases Int.lt_trichotomy a1 b1 with h | h | h
  · exact .inl (.inl h)
  · subst h
    rcases Int.lt_trichotomy a2 b2 with h | h | h
    · exact .inl (.inr ⟨rfl, .inl h⟩)
    · subst h
      by_cases h1 : a3.cps.toList < b3.cps.toList
      · exact .inl (.inr ⟨rfl, .inr ⟨rfl, h1⟩⟩)
      · by_cases h2 : b3.cps.toList < a3.cps.toList
        · exact .inr (.inr (.inr ⟨rfl, .inr ⟨rfl, h2⟩⟩))
        · have e : a3 = b3 := str_cps (List.le_antisymm (List.not_lt.mp h2) (List.not_lt.mp h1))
          exact .inr (.inl (by rw [e]))
    · exact .inr (.inr (.inr ⟨rfl, .inl h⟩))
  · exact .inr (.inr (.inl h))
theorem ltI_asymm {a b : It3} (h1 : ltI a b) (h2 : ltI b a) : False := by
  obtain ⟨a1, a2, a3⟩ := a
  obtain ⟨b1, b2, b3⟩ := b
  unfold ltI at h1 h2
  rcases h1 with h1 | ⟨e1, h1⟩
  · rcases h2 with h2 | ⟨e2, _⟩
    · exact absurd h2 (Int.not_lt.mpr (Int.le_of_lt h1))
    · have h1 : a1 < b1 := h1
      have e2 : b1 = a1 := e2
      omega
  · have e1 : a1 = b1 := e1
    rcases h2 with h2 | ⟨e2, h2⟩
    · have h2 : b1 < a1 := h2
      omega
    · rcases h1 with h1 | ⟨f1, h1⟩
      · have h1 : a2 < b2 := h1
        rcases h2 with h2 | ⟨f2, _⟩
        · have h2 : b2 < a2 := h2
          omega
        · have f2 : b2 = a2 := f2
          omega
      · have f1 : a2 = b2 := f1
        rcases h2 with h2 | ⟨f2, h2⟩
        · have h2 : b2 < a2 := h2
          omega
        · exact List.lt_asymm h1 h2
theorem ltI_trans {a b c : It3} (h1 : ltI a b) (h2 : ltI b c) : ltI a c := by
  obtain ⟨a1, a2, a3⟩ := a
  obtain ⟨b1, b2, b3⟩ := b
  obtain ⟨c1, c2, c3⟩ := c
  unfold ltI at h1 h2 ⊢
  rcases h1 with h1 | ⟨e1, h1⟩
  · rcases h2 with h2 | ⟨e2, _⟩
    · exact .inl (Int.lt_trans h1 h2)
    · exact .inl (by have h1 : a1 < b1 := h1; have e2 : b1 = c1 := e2; show a1 < c1; omega)
  · have e1 : a1 = b1 := e1
    subst e1
    rcases h2 with h2 | ⟨e2, h2⟩
    · exact .inl h2
    · refine .inr ⟨e2, ?_⟩
      rcases h1 with h1 | ⟨f1, h1⟩
      · rcases h2 with h2 | ⟨f2, _⟩
        · exact .inl (Int.lt_trans h1 h2)
        · exact .inl (by have h1 : a2 < b2 := h1; have f2 : b2 = c2 := f2; show a2 < c2; omega)
      · have f1 : a2 = b2 := f1
        subst f1
        rcases h2 with h2 | ⟨f2, h2⟩
        · exact .inl h2
        · exact .inr ⟨f2, List.lt_trans h1 h2⟩
theorem leI_total (a b : It3) : (leI a b || leI b a) = true := by
  rw [Bool.or_eq_true, leI_iff, leI_iff]
  by_cases h : ltI b a
  · exact .inr fun h2 => ltI_asymm h h2
  · exact .inl h
theorem leI_trans (a b c : It3) (h1 : leI a b = true) (h2 : leI b c = true) : leI a c = true := by
  rw [leI_iff] at *
  intro h
  rcases ltI_tri a b with z | z | z
  · exact h2 (ltI_trans h z)
  · rw [z] at h; exact h2 h
  · exact h1 z
theorem leI_anti {a b : It3} (h1 : leI a b = true) (h2 : leI b a = true) : a = b := by
  rw [leI_iff] at h1 h2
  rcases ltI_tri a b with z | z | z
  · exact absurd z h2
  · exact z
  · exact absurd z h1
theorem sortI_eq {l l' : List It3} (p : l.Perm l') : sortI l = sortI l' := by
  have h1 := List.pairwise_mergeSort leI_trans leI_total l
  have h2 := List.pairwise_mergeSort leI_trans leI_total l'
  exact ((List.mergeSort_perm l leI).trans (p.trans (List.mergeSort_perm l' leI).symm)).eq_of_pairwise (fun a b _ _ h1 h2 => leI_anti h1 h2) h1 h2
/-! ### closing -/
theorem adds_app : ∀ (l found : List It3), ∃ new, l.foldl addI found = found ++ new ∧ ∀ x ∈ new, x ∈ l
  | [], found => ⟨[], (List.append_nil _).symm, fun _ h => h⟩
  | it :: l, found => by
    obtain ⟨new, e, h⟩ := adds_app l (addI found it)
    rw [List.foldl_cons, e]
    unfold addI
    split
    · exact ⟨new, rfl, fun x hx => List.mem_cons_of_mem _ (h x hx)⟩
    · refine ⟨it :: new, by rw [List.append_assoc]; rfl, fun x hx => ?_⟩
      rcases List.mem_cons.mp hx with e | hx
      · rw [e]; exact List.mem_cons_self
      · exact List.mem_cons_of_mem _ (h x hx)
theorem called_mem {g : Gr} {L : Lore} {x : It3} : ∀ {l kn : List It3}, x ∈ calledKn g L l kn ↔ x ∈ kn ∨ ∃ it ∈ l, x ∈ callsBy g L it
  | [], kn => ⟨.inl, fun h => h.elim id fun ⟨_, hi, _⟩ => (List.not_mem_nil hi).elim⟩
  | it :: l, kn => by
    show x ∈ calledKn g L l ((callsBy g L it).foldl addI kn) ↔ _
    rw [called_mem, adds_mem]
    constructor
    · rintro ((h | h) | ⟨i, hi, h⟩)
      · exact .inl h
      · exact .inr ⟨it, List.mem_cons_self, h⟩
      · exact .inr ⟨i, List.mem_cons_of_mem _ hi, h⟩
    · rintro (h | ⟨i, hi, h⟩)
      · exact .inl (.inl h)
      · rcases List.mem_cons.mp hi with e | hi
        · exact .inl (.inr (by rw [← e]; exact h))
        · exact .inr ⟨i, hi, h⟩
theorem called_nd {g : Gr} {L : Lore} : ∀ {l kn : List It3}, kn.Nodup → (calledKn g L l kn).Nodup
  | [], _, h => h
  | it :: l, kn, h => called_nd (l := l) (adds_nd (callsBy g L it) h)
theorem itAt_some {l : List It3} {n : Nat} (h : n < l.length) : l[n]? = some (itAt l n) := by
  unfold itAt
  rw [List.getElem?_eq_getElem h]
  rfl
/-- a universe of items -/
structure Uni (g : Gr) (L : Lore) (U : List It3) : Prop where
  cl : ∀ it ∈ U, ∀ x ∈ callsBy g L it, x ∈ U
  ok : ∀ it ∈ U, ItOk g it
  len : U.length ≤ 1000
  zero : ∀ it ∈ U, ∀ x ∈ callsBy g L it, x.2.1 = 0
/-- what is known of items closed up to a place -/
structure ClI (g : Gr) (L : Lore) (U items found : List It3) (at_ : Nat) : Prop where
  nd : found.Nodup
  sub : ∀ x ∈ found, x ∈ U
  pre : items <+: found
  le : at_ ≤ found.length
  by_ : ∀ k x, found[k]? = some x → items.length ≤ k → ∃ j y, j < k ∧ found[j]? = some y ∧ x ∈ callsBy g L y
  all : ∀ j y, j < at_ → found[j]? = some y → ∀ x ∈ callsBy g L y, x ∈ found
theorem ClI.step {g : Gr} {L : Lore} {U items found : List It3} {at_ : Nat} (UU : Uni g L U) (I : ClI g L U items found at_) (h : at_ < found.length) : ClI g L U items ((callsBy g L (itAt found at_)).foldl addI found) (at_ + 1) := by
  have ha := itAt_some h
  have hm : itAt found at_ ∈ U := I.sub _ (List.mem_of_getElem? ha)
  obtain ⟨new, e, hn⟩ := adds_app (callsBy g L (itAt found at_)) found
  have hmem : ∀ x, x ∈ (callsBy g L (itAt found at_)).foldl addI found ↔ x ∈ found ∨ x ∈ callsBy g L (itAt found at_) := fun x => adds_mem _
  have hnd := adds_nd (callsBy g L (itAt found at_)) I.nd
  rw [e] at hmem hnd
  rw [e]
  refine ⟨hnd, fun x hx => ?_, I.pre.trans (List.prefix_append _ _), ?_, fun k x hk hl => ?_, fun j y hj hy x hx => ?_⟩
  · rcases (hmem x).mp hx with z | z
    · exact I.sub x z
    · exact UU.cl _ hm x z
  · rw [List.length_append]; omega
  · by_cases hk2 : k < found.length
    · rw [List.getElem?_append_left hk2] at hk
      obtain ⟨j, y, h1, h2, h3⟩ := I.by_ k x hk hl
      exact ⟨j, y, h1, by rw [List.getElem?_append_left (by omega)]; exact h2, h3⟩
    · rw [List.getElem?_append_right (by omega)] at hk
      refine ⟨at_, itAt found at_, by omega, by rw [List.getElem?_append_left h]; exact ha, hn x (List.mem_of_getElem? hk)⟩
  · by_cases hj2 : j < at_
    · rw [List.getElem?_append_left (by omega)] at hy
      exact (hmem x).mpr (.inl (I.all j y hj2 hy x hx))
    · have : j = at_ := by omega
      subst this
      rw [List.getElem?_append_left h, ha] at hy
      cases hy
      exact (hmem x).mpr (.inr hx)
theorem close_some {g : Gr} {L : Lore} {U items : List It3} (UU : Uni g L U) : ∀ (n : Nat) (found : List It3) (at_ : Nat), ClI g L U items found at_ → U.length ≤ at_ + n → ∃ res, closeGo g L n found at_ = some res ∧ ClI g L U items res res.length
  | 0, found, at_, I, h => by
    have hl := nodup_le I.nd I.sub
    have h1 : ¬ at_ < found.length := by omega
    have h2 : at_ = found.length := Nat.le_antisymm I.le (by omega)
    refine ⟨found, ?_, by rw [← h2]; exact I⟩
    unfold closeGo
    rw [if_neg h1]
  | n + 1, found, at_, I, h => by
    by_cases h1 : at_ < found.length
    · obtain ⟨res, h2, h3⟩ := close_some UU n _ (at_ + 1) (I.step UU h1) (by omega)
      refine ⟨res, ?_, h3⟩
      unfold closeGo
      rw [if_pos h1]
      exact h2
    · have h2 : at_ = found.length := Nat.le_antisymm I.le (by omega)
      refine ⟨found, ?_, by rw [← h2]; exact I⟩
      unfold closeGo
      rw [if_neg h1]
theorem closed_I {g : Gr} {L : Lore} {U items : List It3} (UU : Uni g L U) (nd : items.Nodup) (sub : ∀ x ∈ items, x ∈ U) : ClOk g L items ∧ ClI g L U items (closedBy g L items) (closedBy g L items).length := by
  have hl := UU.len
  obtain ⟨res, h1, h2⟩ := close_some UU FUEL items 0 (items := items) ⟨nd, sub, List.prefix_rfl, Nat.zero_le _, fun k x hk hl => by
    have := (List.getElem?_eq_some_iff.mp hk).1
    omega, fun j y hj => by omega⟩ (by show _ ≤ 0 + 1000; omega)
  have e : closedBy g L items = res := by
    unfold closedBy
    rw [h1]
    rfl
  have hlen := nodup_le h2.nd h2.sub
  refine ⟨⟨nd, fun it hi => UU.ok it (sub it hi), by rw [h1, e], by rw [e]; omega⟩, by rw [e]; exact h2⟩
/-- what a closed stand is -/
structure Clo (g : Gr) (L : Lore) (U items s : List It3) : Prop where
  nd : s.Nodup
  sub : ∀ x ∈ s, x ∈ U
  pre : items <+: s
  by_ : ∀ k x, s[k]? = some x → items.length ≤ k → ∃ j y, j < k ∧ s[j]? = some y ∧ x ∈ callsBy g L y
  all : ∀ y ∈ s, ∀ x ∈ callsBy g L y, x ∈ s
theorem Clo.of {g : Gr} {L : Lore} {U items : List It3} (UU : Uni g L U) (nd : items.Nodup) (sub : ∀ x ∈ items, x ∈ U) : Clo g L U items (closedBy g L items) := by
  obtain ⟨_, I⟩ := closed_I UU nd sub
  refine ⟨I.nd, I.sub, I.pre, I.by_, fun y hy x hx => ?_⟩
  obtain ⟨j, hj⟩ := List.getElem?_of_mem hy
  exact I.all j y (List.getElem?_eq_some_iff.mp hj).1 hj x hx
theorem Clo.rest {g : Gr} {L : Lore} {U items s : List It3} (UU : Uni g L U) (C : Clo g L U items s) {x : It3} (hx : x ∈ s) : x ∈ items ∨ x.2.1 = 0 := by
  obtain ⟨k, hk⟩ := List.getElem?_of_mem hx
  by_cases h : items.length ≤ k
  · obtain ⟨j, y, _, h2, h3⟩ := C.by_ k x hk h
    exact .inr (UU.zero y (C.sub y (List.mem_of_getElem? h2)) x h3)
  · obtain ⟨t, e⟩ := C.pre
    rw [← e, List.getElem?_append_left (by omega)] at hk
    exact .inl (List.mem_of_getElem? hk)
/-- each item at place 0 stands behind one that calls for it -/
theorem Clo.called {g : Gr} {L : Lore} {U items s : List It3} (UU : Uni g L U) (C : Clo g L U items s) {first : Bool} (h1 : first = true → items = [item0]) (h0 : first = false → ∀ x ∈ items, x.2.1 ≠ 0) : CalledOk g L s first where
  met := fun pre it post e hz => by
    rw [called_mem]
    have hk : s[pre.length]? = some it := by rw [e, List.getElem?_append_right (Nat.le_refl _), Nat.sub_self]; rfl
    by_cases h : items.length ≤ pre.length
    · obtain ⟨j, y, hj, h2, h3⟩ := C.by_ _ _ hk h
      rw [e, List.getElem?_append_left hj] at h2
      exact .inr ⟨y, List.mem_of_getElem? h2, h3⟩
    · obtain ⟨t, e2⟩ := C.pre
      have hk2 := hk
      rw [← e2, List.getElem?_append_left (by omega)] at hk2
      have hm := List.mem_of_getElem? hk2
      cases first with
      | true =>
        rw [h1 rfl] at hm
        exact .inl (by rw [List.mem_singleton.mp hm]; exact List.mem_cons_self)
      | false => exact absurd hz (h0 rfl it hm)
  all := fun k hk => by
    rcases called_mem.mp hk with z | ⟨y, hy, hx⟩
    · cases first with
      | true =>
        rw [List.mem_singleton.mp z]
        obtain ⟨t, e2⟩ := C.pre
        rw [← e2, h1 rfl]
        exact List.mem_cons_self
      | false => cases z
    · exact C.all y hy k hx
  len := by
    have h2 : (calledKn g L s (called0 first)).Nodup := called_nd (by cases first <;> simp [called0])
    have := nodup_le h2 (m := U) fun x hx => by
      rcases called_mem.mp hx with z | ⟨y, hy, hx⟩
      · cases first with
        | true =>
          rw [List.mem_singleton.mp z]
          obtain ⟨t, e2⟩ := C.pre
          exact C.sub _ (by rw [← e2, h1 rfl]; exact List.mem_cons_self)
        | false => cases z
      · exact UU.cl y (C.sub y hy) x hx
    exact Nat.le_trans this UU.len
end DL


set_option Elab.async false
set_option linter.all false
set_option maxRecDepth 100000
set_option maxHeartbeats 4000000
/-! P3: the universe of items of a small grammar; stands that are met. -/
namespace DL
open PySem PySem.Spec PyProof.Rows L2

def sgA : Str := "a"
def sgB : Str := "b"
def sgC : Str := "c"
def SG : List Str := [sgA, sgB, sgC, sEND]
/-- small grammars -/
structure LG (g : Gr) : Prop where
  gg : GG g
  few : g.length ≤ 10
  le : ∀ y ∈ lettersOf g, y ∈ SG
  tp : (g.map fun r => r.2.length).sum ≤ 17
theorem lt_A : Lt sgA := ⟨by decide +kernel, by decide +kernel, by decide +kernel⟩
theorem lt_B : Lt sgB := ⟨by decide +kernel, by decide +kernel, by decide +kernel⟩
theorem lt_C : Lt sgC := ⟨by decide +kernel, by decide +kernel, by decide +kernel⟩
theorem sg_is {s : Str} (h : s ∈ SG) : s = sEND ∨ Lt s := by
  unfold SG at h
  simp only [List.mem_cons, List.not_mem_nil, or_false] at h
  rcases h with h | h | h | h
  · rw [h]; exact .inr lt_A
  · rw [h]; exact .inr lt_B
  · rw [h]; exact .inr lt_C
  · exact .inl h
theorem sg_ok {s : Str} (h : s ∈ SG) : PyData.strOk s = true := by
  rcases sg_is h with h | h
  · rw [h]; decide +kernel
  · exact h.ok
def inU (n : Nat) (l : Nat) : List It3 := (List.range l).flatMap fun p : Nat => SG.map fun s => ((n : Int), (p : Int), s)
theorem inU_len (n l : Nat) : (inU n l).length = 4 * l := by
  unfold inU
  induction l with
  | zero => rfl
  | succ l ih =>
    rw [List.range_succ, List.flatMap_append, List.length_append, ih]
    simp [SG]
    omega
theorem inU_mem {n l : Nat} {it : It3} : it ∈ inU n l ↔ ∃ p s, p < l ∧ s ∈ SG ∧ it = ((n : Int), (p : Int), s) := by
  unfold inU
  rw [List.mem_flatMap]
  constructor
  · rintro ⟨p, hp, h⟩
    obtain ⟨s, hs, rfl⟩ := List.mem_map.mp h
    exact ⟨p, s, List.mem_range.mp hp, hs, rfl⟩
  · rintro ⟨p, s, hp, hs, rfl⟩
    exact ⟨p, List.mem_range.mpr hp, List.mem_map.mpr ⟨s, hs, rfl⟩⟩
def unis (g : Gr) : List It3 := (-1, 0, sEND) :: (-1, 1, sEND) :: (countingBy g).flatMap fun n => inU n ((ruleAt g (n : Int)).2.length + 1)
theorem unis_mem {g : Gr} {it : It3} : it ∈ unis g ↔ it = (-1, 0, sEND) ∨ it = (-1, 1, sEND) ∨ ∃ n p s, n ∈ countingBy g ∧ p ≤ (ruleAt g (n : Int)).2.length ∧ s ∈ SG ∧ it = ((n : Int), ((p : Nat) : Int), s) := by
  unfold unis
  rw [List.mem_cons, List.mem_cons, List.mem_flatMap]
  constructor
  · rintro (h | h | ⟨n, hn, h⟩)
    · exact .inl h
    · exact .inr (.inl h)
    · obtain ⟨p, s, hp, hs, e⟩ := inU_mem.mp h
      exact .inr (.inr ⟨n, p, s, hn, by omega, hs, e⟩)
  · rintro (h | h | ⟨n, p, s, hn, hp, hs, e⟩)
    · exact .inl h
    · exact .inr (.inl h)
    · exact .inr (.inr ⟨n, hn, inU_mem.mpr ⟨p, s, by omega, hs, e⟩⟩)
theorem parts_nat (g : Gr) (n : Nat) : partsOf g (n : Int) = (ruleAt g (n : Int)).2 := by
  unfold partsOf
  rw [if_neg (by omega)]
theorem ru_sub {g : Gr} {p : Str} {n : Nat} (h : n ∈ ruGet (loreOf g).ru p) : n ∈ countingBy g := by
  have key : ∀ (l : List Nat) (ru : List (Str × List Nat)), (∀ n ∈ l, n ∈ countingBy g) → (∀ p ∈ ru, ∀ n ∈ p.2, n ∈ countingBy g) → ∀ p ∈ l.foldl (loreStep g) ru, ∀ n ∈ p.2, n ∈ countingBy g := by
    intro l
    induction l with
    | nil => exact fun ru _ h => h
    | cons n l ih =>
      intro ru hl h
      refine ih _ (fun k hk => hl k (List.mem_cons_of_mem _ hk)) ?_
      refine ruPut_ok (Q := fun l => ∀ n ∈ l, n ∈ countingBy g) h fun k hk => ?_
      rcases List.mem_append.mp hk with z | z
      · exact ruGet_any (Q := fun l => ∀ n ∈ l, n ∈ countingBy g) h (fun _ z => (List.not_mem_nil z).elim) k z
      · rw [List.mem_singleton.mp z]; exact hl n List.mem_cons_self
  exact ruGet_any (Q := fun l => ∀ n ∈ l, n ∈ countingBy g) (key (countingBy g) [] (fun _ h => h) (fun _ z => (List.not_mem_nil z).elim)) (fun _ z => (List.not_mem_nil z).elim) n h
theorem begins_mem {fi : List (Str × List Str)} {em : List Str} {y : Str} : ∀ {l found : List Str}, y ∈ beginsGo fi em l found → y ∈ found ∨ (y ∈ l ∧ isLetter y = true) ∨ ∃ q ∈ l, y ∈ (kkAt fi q).getD []
  | [], found, h => .inl h
  | q :: l, found, h => by
    unfold beginsGo at h
    split at h
    · rename_i c
      rcases List.mem_append.mp h with z | z
      · exact .inl z
      · rw [List.mem_singleton.mp z]
        exact .inr (.inl ⟨List.mem_cons_self, c⟩)
    · have hk : y ∈ found ++ (kkAt fi q).getD [] → y ∈ found ∨ (y ∈ q :: l ∧ isLetter y = true) ∨ ∃ q' ∈ q :: l, y ∈ (kkAt fi q').getD [] := fun z => by
        rcases List.mem_append.mp z with z | z
        · exact .inl z
        · exact .inr (.inr ⟨q, List.mem_cons_self, z⟩)
      split at h
      · rcases begins_mem h with z | ⟨z, c⟩ | ⟨q', hq, z⟩
        · exact hk z
        · exact .inr (.inl ⟨List.mem_cons_of_mem _ z, c⟩)
        · exact .inr (.inr ⟨q', List.mem_cons_of_mem _ hq, z⟩)
      · exact hk h
theorem part_letterG {g : Gr} (G : GG g) {n : Int} (h : RuOk g n) {q : Str} (hq : q ∈ partsOf g n) (hl : isLetter q = true) : q ∈ lettersOf g := by
  have h1 := G.n1
  unfold partsOf at hq
  rcases h with h | ⟨h2, h3⟩
  · rw [if_pos h, List.mem_singleton] at hq
    have := (G.nm _ (rule_mem (g := g) (n := 0) (by decide) (by omega))).nl
    rw [← hq, hl] at this
    cases this
  · rw [if_neg (by omega)] at hq
    exact List.mem_filter.mpr ⟨List.mem_flatMap.mpr ⟨_, rule_mem h2 h3, hq⟩, hl⟩
theorem signs_sg {g : Gr} (G : GG g) {it : It3} (h : RuOk g it.1) {s : Str} (hs : s ∈ signsBehind g (loreOf g) it) : s ∈ lettersOf g ∨ s = it.2.2 := by
  have O := lore_ok G
  unfold signsBehind at hs
  rcases List.mem_append.mp hs with z | z
  · left
    rcases begins_mem z with z | ⟨z, c⟩ | ⟨q, hq, z⟩
    · cases z
    · exact part_letterG G h (List.mem_of_mem_drop z) c
    · cases e : kkAt (loreOf g).fi q with
      | none => rw [e] at z; cases z
      | some ls =>
        rw [e] at z
        exact O.lt _ (kkAt_mem e) s z
  · right
    split at z
    · exact List.mem_singleton.mp z
    · cases z
theorem unis_ok {g : Gr} {it : It3} (h : it ∈ unis g) : ItOk g it ∧ it.2.2 ∈ SG := by
  rcases unis_mem.mp h with e | e | ⟨n, p, s, hn, hp, hs, e⟩
  · rw [e]; exact ⟨⟨.inl rfl, by decide, by decide +kernel⟩, by simp [SG]⟩
  · rw [e]; exact ⟨⟨.inl rfl, by decide, by decide +kernel⟩, by simp [SG]⟩
  · have := counting_lt hn
    rw [e]; exact ⟨⟨.inr ⟨by show (0 : Int) ≤ (n : Int); omega, by show (n : Int) < _; omega⟩, by show (0 : Int) ≤ (p : Int); omega, sg_ok hs⟩, hs⟩
theorem calls_in {g : Gr} {L : Lore} {it x : It3} (h : x ∈ callsBy g L it) : ∃ p, nextPart g it = some p ∧ isLetter p = false ∧ ∃ n s, n ∈ ruGet L.ru p ∧ s ∈ signsBehind g L it ∧ x = ((n : Int), 0, s) := by
  unfold callsBy at h
  split at h
  · cases h
  · rename_i p hp
    split at h
    · cases h
    · rename_i c
      obtain ⟨n, hn, hx⟩ := List.mem_flatMap.mp h
      obtain ⟨s, hs, rfl⟩ := List.mem_map.mp hx
      exact ⟨p, hp, by simpa using c, n, s, hn, hs, rfl⟩
theorem flat_len {α β : Type} {f : α → List β} {m : Nat} : ∀ {l : List α}, (∀ a ∈ l, (f a).length ≤ m) → (l.flatMap f).length ≤ l.length * m
  | [], _ => by simp
  | a :: l, h => by
    rw [List.flatMap_cons, List.length_append, List.length_cons, Nat.succ_mul]
    have := flat_len (l := l) fun b hb => h b (List.mem_cons_of_mem _ hb)
    have := h a List.mem_cons_self
    omega
theorem uni_of {g : Gr} (G : LG g) : Uni g (loreOf g) (unis g) where
  cl := fun it hi x hx => by
    obtain ⟨p, hp, _, n, s, hn, hs, rfl⟩ := calls_in hx
    obtain ⟨I, hsg⟩ := unis_ok hi
    refine unis_mem.mpr (.inr (.inr ⟨n, 0, s, ru_sub hn, Nat.zero_le _, ?_, rfl⟩))
    rcases signs_sg G.gg I.ru hs with z | z
    · exact G.le s z
    · rw [z]; exact hsg
  ok := fun it hi => (unis_ok hi).1
  len := by
    have h1 := flat_len (f := fun n => inU n ((ruleAt g (n : Int)).2.length + 1)) (m := 28) (l := countingBy g) fun n hn => by
      have := counting_lt hn
      have := G.gg.pl _ (rule_mem (g := g) (n := (n : Int)) (by omega) (by omega))
      rw [inU_len]
      omega
    have h2 := counting_len g
    have h3 := G.few
    unfold unis
    rw [List.length_cons, List.length_cons]
    omega
  zero := fun it hi x hx => by
    obtain ⟨p, hp, _, n, s, hn, hs, rfl⟩ := calls_in hx
    rfl
theorem map_nd {α β : Type} {f : α → β} {l : List α} (nd : l.Nodup) (inj : ∀ a ∈ l, ∀ b ∈ l, f a = f b → a = b) : (l.map f).Nodup := by
  unfold List.Nodup
  rw [List.pairwise_map]
  exact List.Pairwise.imp_of_mem (fun {a b} ha hb h e => h (inj a ha b hb e)) nd
theorem adv_mem {g : Gr} {st : List It3} {p : Str} {x : It3} : x ∈ advBy g st p ↔ ∃ it ∈ st, nextPart g it = some p ∧ x = (it.1, it.2.1 + 1, it.2.2) := by
  unfold advBy
  rw [sortI_mem, List.mem_map]
  constructor
  · rintro ⟨it, hi, e⟩
    obtain ⟨h1, h2⟩ := List.mem_filter.mp hi
    exact ⟨it, h1, of_decide_eq_true h2, e.symm⟩
  · rintro ⟨it, h1, h2, e⟩
    exact ⟨it, List.mem_filter.mpr ⟨h1, decide_eq_true h2⟩, e.symm⟩
theorem adv_nd {g : Gr} {st : List It3} (p : Str) (nd : st.Nodup) : (advBy g st p).Nodup := by
  unfold advBy
  rw [(sortI_perm _).nodup_iff]
  refine map_nd (nd.sublist (List.filter_sublist)) fun a _ b _ e => ?_
  obtain ⟨a1, a2, a3⟩ := a
  obtain ⟨b1, b2, b3⟩ := b
  simp only [Prod.mk.injEq] at e ⊢
  exact ⟨e.1, by omega, e.2.2⟩
theorem adv_pos {g : Gr} {st : List It3} {p : Str} (h : ∀ it ∈ st, 0 ≤ it.2.1) {x : It3} (hx : x ∈ advBy g st p) : 0 < x.2.1 := by
  obtain ⟨it, hi, _, e⟩ := adv_mem.mp hx
  have := h it hi
  rw [e]
  show (0 : Int) < it.2.1 + 1
  omega
theorem adv_uni {g : Gr} {st : List It3} {p : Str} (h : ∀ it ∈ st, it ∈ unis g) {x : It3} (hx : x ∈ advBy g st p) : x ∈ unis g := by
  obtain ⟨it, hi, hn, e⟩ := adv_mem.mp hx
  unfold nextPart at hn
  have hlt := (List.getElem?_eq_some_iff.mp hn).1
  rcases unis_mem.mp (h it hi) with z | z | ⟨n, q, s, hc, hq, hs, z⟩
  · rw [e, z]; exact unis_mem.mpr (.inr (.inl rfl))
  · rw [z] at hlt
    have hlt : 1 < (partsOf g (-1)).length := hlt
    simp [partsOf] at hlt
  · rw [z] at hlt
    have hlt : q < (partsOf g (n : Int)).length := hlt
    rw [parts_nat] at hlt
    rw [e, z]
    exact unis_mem.mpr (.inr (.inr ⟨n, q + 1, s, hc, by omega, hs, rfl⟩))
theorem item0_uni (g : Gr) : ∀ x ∈ [item0], x ∈ unis g := fun x hx => by
  rw [List.mem_singleton.mp hx]
  exact unis_mem.mpr (.inl rfl)
/-- met stands are closed -/
theorem Met.clo {g : Gr} (G : LG g) {st : List It3} (h : Met g st) : ∃ items, Clo g (loreOf g) (unis g) items st := by
  induction h with
  | start => exact ⟨_, Clo.of (uni_of G) (by simp) (item0_uni g)⟩
  | step h hp ih =>
    obtain ⟨items, C⟩ := ih
    exact ⟨_, Clo.of (uni_of G) (adv_nd _ C.nd) fun x hx => adv_uni C.sub hx⟩
theorem Met.move {g : Gr} (G : LG g) {st : List It3} (h : Met g st) (p : Str) : Clo g (loreOf g) (unis g) (advBy g st p) (movedBy g (loreOf g) st p) := by
  obtain ⟨items, C⟩ := h.clo G
  exact Clo.of (uni_of G) (adv_nd _ C.nd) fun x hx => adv_uni C.sub hx
theorem start_clo {g : Gr} (G : LG g) : Clo g (loreOf g) (unis g) [item0] (startBy g (loreOf g)) := Clo.of (uni_of G) (by simp) (item0_uni g)
theorem md_ok {g : Gr} (G : LG g) : MdOk g where
  start := (closed_I (uni_of G) (by simp) (item0_uni g)).1
  go := fun st h p hp => by
    obtain ⟨items, C⟩ := h.clo G
    exact (closed_I (uni_of G) (adv_nd _ C.nd) fun x hx => adv_uni C.sub hx).1
theorem uni_item {g : Gr} {x : It3} (h : x ∈ unis g) : ItemIs g (countingBy g) x where
  ok := (unis_ok h).1
  ct := by
    rcases unis_mem.mp h with z | z | ⟨n, q, s, hc, hq, hs, z⟩
    · rw [z]; exact .inl rfl
    · rw [z]; exact .inl rfl
    · rw [z]; exact .inr (List.mem_map.mpr ⟨n, hc, rfl⟩)
  pl := by
    rcases unis_mem.mp h with z | z | ⟨n, q, s, hc, hq, hs, z⟩
    · rw [z]; show (0 : Int) ≤ _; omega
    · rw [z]; show (1 : Int) ≤ _; simp [partsOf]
    · rw [z]
      show (q : Int) ≤ _
      rw [parts_nat]
      omega
  sg := sg_is (unis_ok h).2
/-! few items -/
def inner (g : Gr) : List It3 := (-1, 0, sEND) :: (List.range g.length).flatMap fun n => inU n (ruleAt g (n : Int)).2.length
theorem sum_rules (g : Gr) : ((List.range g.length).flatMap fun n => inU n (ruleAt g (n : Int)).2.length).length = 4 * (g.map fun r => r.2.length).sum := by
  have h1 : ∀ l : List Nat, (l.flatMap fun n => inU n (ruleAt g (n : Int)).2.length).length = 4 * (l.map fun n : Nat => (ruleAt g (n : Int)).2.length).sum := by
    intro l
    induction l with
    | nil => rfl
    | cons n l ih =>
      rw [List.flatMap_cons, List.length_append, inU_len, ih, List.map_cons, List.sum_cons]
      omega
  rw [h1]
  congr 2
  refine List.ext_getElem (by simp) fun i h2 h3 => ?_
  rw [List.getElem_map, List.getElem_map, List.getElem_range]
  have : (ruleAt g (i : Int)) = g[i]'(by simpa using h3) := by
    unfold ruleAt
    rw [Int.toNat_natCast, List.getElem?_eq_getElem (by simpa using h3)]
    rfl
  rw [this]
theorem split_len {α : Type} (p : α → Bool) : ∀ l : List α, l.length = (l.filter p).length + (l.filter fun a => !p a).length
  | [] => rfl
  | a :: l => by
    have := split_len p l
    by_cases h : p a = true
    · rw [List.filter_cons_of_pos h, List.filter_cons_of_neg (by simp [h]), List.length_cons, List.length_cons]; omega
    · rw [List.filter_cons_of_neg h, List.filter_cons_of_pos (by simpa using h), List.length_cons, List.length_cons]; omega
theorem few_items {g : Gr} (G : LG g) {st : List It3} (nd : st.Nodup) (sub : ∀ x ∈ st, x ∈ unis g) (C : Calm g st) : st.length ≤ 76 := by
  have h1 : (st.filter fun it => (nextPart g it).isSome).length ≤ (inner g).length := by
    refine nodup_le (nd.sublist List.filter_sublist) fun x hx => ?_
    obtain ⟨hm, hs⟩ := List.mem_filter.mp hx
    unfold nextPart at hs
    have hlt : x.2.1.toNat < (partsOf g x.1).length := by
      rcases Nat.lt_or_ge x.2.1.toNat (partsOf g x.1).length with z | z
      · exact z
      · rw [List.getElem?_eq_none z] at hs; cases hs
    unfold inner
    rcases unis_mem.mp (sub x hm) with z | z | ⟨n, q, s, hc, hq, hs, z⟩
    · rw [z]; exact List.mem_cons_self
    · rw [z] at hlt
      have hlt : 1 < (partsOf g (-1)).length := hlt
      simp [partsOf] at hlt
    · rw [z] at hlt ⊢
      have hlt : q < (partsOf g (n : Int)).length := hlt
      rw [parts_nat] at hlt
      exact List.mem_cons_of_mem _ (List.mem_flatMap.mpr ⟨n, List.mem_range.mpr (counting_lt hc), inU_mem.mpr ⟨q, s, hlt, hs, rfl⟩⟩)
  have h2 : (st.filter fun it => !(nextPart g it).isSome).length ≤ 4 := by
    have nd2 : ((st.filter fun it => !(nextPart g it).isSome).map fun it : It3 => it.2.2).Nodup := by
      refine map_nd (nd.sublist List.filter_sublist) fun a ha b hb e => ?_
      obtain ⟨ha1, ha2⟩ := List.mem_filter.mp ha
      obtain ⟨hb1, hb2⟩ := List.mem_filter.mp hb
      have ha3 : nextPart g a = none := by simpa using ha2
      have hb3 : nextPart g b = none := by simpa using hb2
      have dd : ∀ x ∈ st, nextPart g x = none → ∃ d, deedOf g x = some (x.2.2, d) ∧ ((d = .done ∧ x = (-1, 1, sEND)) ∨ (d = .rule x.1 ∧ x.2.1 = ((partsOf g x.1).length : Int))) := by
        intro x hx hn
        have hge : ¬ x.2.1.toNat < (partsOf g x.1).length := by
          intro z
          unfold nextPart at hn
          rw [List.getElem?_eq_getElem z] at hn
          cases hn
        unfold deedOf
        rw [hn]
        rcases unis_mem.mp (sub x hx) with z | z | ⟨n, q, s, hc, hq, hs, z⟩
        · rw [z] at hge
          exact absurd (by simp [partsOf]) hge
        · rw [z]
          exact ⟨.done, if_pos rfl, .inl ⟨rfl, rfl⟩⟩
        · rw [z] at hge ⊢
          have hge : ¬ q < (partsOf g (n : Int)).length := hge
          rw [parts_nat] at hge
          refine ⟨.rule (n : Int), ?_, .inr ⟨rfl, ?_⟩⟩
          · show (if ((n : Int), (q : Int), s) = (-1, 1, sEND) then some (sEND, Deed.done) else if (n : Int) = -1 then none else some (s, .rule (n : Int))) = _
            rw [if_neg (by intro e; injection e with e _; omega), if_neg (by omega)]
          · show (q : Int) = ((partsOf g (n : Int)).length : Int)
            rw [parts_nat]
            omega
      obtain ⟨d1, e1, c1⟩ := dd a ha1 ha3
      obtain ⟨d2, e2, c2⟩ := dd b hb1 hb3
      have e : a.2.2 = b.2.2 := e
      rw [← e] at e2
      have hd := C.uniq ha1 hb1 e1 e2
      rw [← hd] at c2
      rcases c1 with ⟨f1, g1⟩ | ⟨f1, g1⟩
      · rcases c2 with ⟨_, g2⟩ | ⟨f2, _⟩
        · rw [g1, g2]
        · rw [f1] at f2; cases f2
      · rcases c2 with ⟨f2, _⟩ | ⟨f2, g2⟩
        · rw [f1] at f2; cases f2
        · rw [f1] at f2
          injection f2 with f2
          obtain ⟨a1, a2, a3⟩ := a
          obtain ⟨b1, b2, b3⟩ := b
          have f2 : a1 = b1 := f2
          have e : a3 = b3 := e
          have g1 : a2 = ((partsOf g a1).length : Int) := g1
          have g2 : b2 = ((partsOf g b1).length : Int) := g2
          rw [← f2] at g2
          rw [f2, e, g1, g2]
    have := nodup_le nd2 (m := SG) fun s hs => by
      obtain ⟨x, hx, rfl⟩ := List.mem_map.mp hs
      exact (unis_ok (sub x (List.mem_filter.mp hx).1)).2
    rw [List.length_map] at this
    exact this
  have h3 : (inner g).length ≤ 69 := by
    unfold inner
    rw [List.length_cons, sum_rules]
    have := G.tp
    omega
  have := split_len (fun it => (nextPart g it).isSome) st
  omega
end DL


set_option Elab.async false
set_option linter.all false
set_option maxRecDepth 100000
set_option maxHeartbeats 4000000
/-! P4: what the stands, the goings and the rows of a made table are. -/
namespace DL
open PySem PySem.Spec PyProof.Rows L2

/-- the goings of a stand lead to the moved stands -/
structure GoOk (g : Gr) (st : List (List It3)) (s : List It3) (l : List (Str × Nat)) : Prop where
  keys : l.map Prod.fst = partsNext g s
  to : ∀ q ∈ l, ∃ t, st[q.2]? = some t ∧ sortI t = sortI (movedBy g (loreOf g) s q.1)
structure WebI (g : Gr) (wb : Wb) : Prop where
  hd : wb.st[0]? = some (startBy g (loreOf g))
  nu : ∀ p ∈ wb.nu, ∃ t, wb.st[p.2]? = some t ∧ sortI t = p.1
  mv : ∀ (j : Nat) (s : List It3), 0 < j → wb.st[j]? = some s → ∃ s' p, Met g s' ∧ s = movedBy g (loreOf g) s' p
  met : ∀ s ∈ wb.st, Met g s
  go : ∀ (j : Nat) (l : List (Str × Nat)), wb.go[j]? = some l → ∃ s, wb.st[j]? = some s ∧ clashOf g s = none ∧ GoOk g wb.st s l
theorem nuGet_mem {nu : List (List It3 × Nat)} {k : List It3} {n : Nat} (h : nuGet nu k = some n) : (k, n) ∈ nu := by
  unfold nuGet at h
  obtain ⟨p, hp, e⟩ := Option.map_eq_some_iff.mp h
  have h1 : decide (p.1 = k) = true := List.find?_some (p := fun p : List It3 × Nat => decide (p.1 = k)) hp
  have h1 : p.1 = k := of_decide_eq_true h1
  rw [← h1, ← e]
  exact List.mem_of_find?_eq_some hp
theorem state_step {g : Gr} {wb : Wb} (W : WebI g wb) {s' : List It3} {p : Str} (hs : Met g s') (hp : p ∈ partsNext g s') (form : List Str) :
    WebI g (stateOf wb (movedBy g (loreOf g) s' p) form).1 ∧ (∀ (j : Nat) (t : List It3), wb.st[j]? = some t → (stateOf wb (movedBy g (loreOf g) s' p) form).1.st[j]? = some t) ∧
      (stateOf wb (movedBy g (loreOf g) s' p) form).1.go = wb.go ∧ ∃ t, (stateOf wb (movedBy g (loreOf g) s' p) form).1.st[(stateOf wb (movedBy g (loreOf g) s' p) form).2]? = some t ∧ sortI t = sortI (movedBy g (loreOf g) s' p) := by
  unfold stateOf
  cases h : nuGet wb.nu (sortI (movedBy g (loreOf g) s' p)) with
  | some n =>
    obtain ⟨t, h1, h2⟩ := W.nu _ (nuGet_mem h)
    exact ⟨W, fun _ _ z => z, rfl, t, h1, h2⟩
  | none =>
    have up : ∀ (j : Nat) (t : List It3), wb.st[j]? = some t → (wb.st ++ [movedBy g (loreOf g) s' p])[j]? = some t := fun j t z => by
      rw [List.getElem?_append_left (List.getElem?_eq_some_iff.mp z).1]
      exact z
    have new : (wb.st ++ [movedBy g (loreOf g) s' p])[wb.st.length]? = some (movedBy g (loreOf g) s' p) := by
      rw [List.getElem?_append_right (Nat.le_refl _), Nat.sub_self]
      rfl
    refine ⟨⟨up _ _ W.hd, fun q hq => ?_, fun j s hj z => ?_, fun s hs2 => ?_, fun j l z => ?_⟩, up, rfl, _, new, rfl⟩
    · rcases List.mem_append.mp hq with z | z
      · obtain ⟨t, h1, h2⟩ := W.nu q z
        exact ⟨t, up _ _ h1, h2⟩
      · rw [List.mem_singleton.mp z]
        exact ⟨_, new, rfl⟩
    · have z : (wb.st ++ [movedBy g (loreOf g) s' p])[j]? = some s := z
      by_cases hl : j < wb.st.length
      · rw [List.getElem?_append_left hl] at z
        exact W.mv j s hj z
      · rw [List.getElem?_append_right (by omega)] at z
        have := List.mem_of_getElem? z
        rw [List.mem_singleton.mp this]
        exact ⟨s', p, hs, rfl⟩
    · rcases List.mem_append.mp hs2 with z | z
      · exact W.met s z
      · rw [List.mem_singleton.mp z]
        exact .step hs hp
    · obtain ⟨s, h1, h2, h3⟩ := W.go j l z
      exact ⟨s, up _ _ h1, h2, h3.keys, fun q hq => by
        obtain ⟨t, h4, h5⟩ := h3.to q hq
        exact ⟨t, up _ _ h4, h5⟩⟩
theorem web0_I (g : Gr) : WebI g (web0 g) := by
  have e : web0 g = ⟨[startBy g (loreOf g)], [[]], [(sortI (startBy g (loreOf g)), 0)], []⟩ := rfl
  rw [e]
  refine ⟨rfl, fun p hp => ?_, fun j s hj z => ?_, fun s hs => ?_, fun j l z => ?_⟩
  · rw [List.mem_singleton.mp hp]
    exact ⟨_, rfl, rfl⟩
  · have := (List.getElem?_eq_some_iff.mp z).1
    have this : j < 1 := this
    omega
  · rw [List.mem_singleton.mp hs]
    exact .start
  · cases z
theorem look_I {g : Gr} {wb : Wb} {i : Nat} (W : WebI g wb) (hl : wb.go.length = i) (hi : i < wb.st.length) (hc : clashOf g (stAt wb i) = none) : WebI g (lookW g wb i) ∧ (lookW g wb i).go.length = i + 1 := by
  have hst : wb.st[i]? = some (stAt wb i) := by
    unfold stAt
    rw [List.getElem?_eq_getElem hi]
    rfl
  have hM := W.met _ (List.mem_of_getElem? hst)
  have key : ∀ (l : List Str) (s : Wb × List (Str × Nat)), (∀ p ∈ l, p ∈ partsNext g (stAt wb i)) → WebI g s.1 → s.1.go = wb.go → s.1.st[i]? = some (stAt wb i) →
      (∀ q ∈ s.2, ∃ t, s.1.st[q.2]? = some t ∧ sortI t = sortI (movedBy g (loreOf g) (stAt wb i) q.1)) →
      WebI g (l.foldl (lookStep g (stAt wb i) (foAt wb i)) s).1 ∧ (l.foldl (lookStep g (stAt wb i) (foAt wb i)) s).1.go = wb.go ∧ (l.foldl (lookStep g (stAt wb i) (foAt wb i)) s).1.st[i]? = some (stAt wb i) ∧
      (l.foldl (lookStep g (stAt wb i) (foAt wb i)) s).2.map Prod.fst = s.2.map Prod.fst ++ l ∧
      (∀ q ∈ (l.foldl (lookStep g (stAt wb i) (foAt wb i)) s).2, ∃ t, (l.foldl (lookStep g (stAt wb i) (foAt wb i)) s).1.st[q.2]? = some t ∧ sortI t = sortI (movedBy g (loreOf g) (stAt wb i) q.1)) := by
    intro l
    induction l with
    | nil => intro s _ h1 h2 h3 h4; exact ⟨h1, h2, h3, (List.append_nil _).symm, h4⟩
    | cons p l ih =>
      intro s hp h1 h2 h3 h4
      obtain ⟨a, b, c, d⟩ := state_step h1 hM (hp p List.mem_cons_self) (foAt wb i ++ [p])
      obtain ⟨x1, x2, x3, x4, x5⟩ := ih (lookStep g (stAt wb i) (foAt wb i) s p) (fun q hq => hp q (List.mem_cons_of_mem _ hq)) a (c.trans h2) (b _ _ h3) (fun q hq => by
        have hq : q ∈ s.2 ++ [(p, (stateOf s.1 (movedBy g (loreOf g) (stAt wb i) p) (foAt wb i ++ [p])).2)] := hq
        rcases List.mem_append.mp hq with z | z
        · obtain ⟨t, h5, h6⟩ := h4 q z
          exact ⟨t, b _ _ h5, h6⟩
        · rw [List.mem_singleton.mp z]
          exact d)
      refine ⟨x1, x2, x3, ?_, x5⟩
      rw [List.foldl_cons, x4]
      show (s.2 ++ [(p, _)]).map Prod.fst ++ l = _
      rw [List.map_append, List.append_assoc]
      rfl
  obtain ⟨a, b, c, d, e⟩ := key (partsNext g (stAt wb i)) (wb, []) (fun _ h => h) W rfl hst (fun _ h => (List.not_mem_nil h).elim)
  have a : WebI g (lookGo g wb i).1 := a
  have b : (lookGo g wb i).1.go = wb.go := b
  have c : (lookGo g wb i).1.st[i]? = some (stAt wb i) := c
  have d : (lookGo g wb i).2.map Prod.fst = partsNext g (stAt wb i) := d
  have e : ∀ q ∈ (lookGo g wb i).2, ∃ t, (lookGo g wb i).1.st[q.2]? = some t ∧ sortI t = sortI (movedBy g (loreOf g) (stAt wb i) q.1) := e
  refine ⟨⟨a.hd, a.nu, a.mv, a.met, fun j l z => ?_⟩, ?_⟩
  · have z : ((lookGo g wb i).1.go ++ [(lookGo g wb i).2])[j]? = some l := z
    by_cases hj : j < (lookGo g wb i).1.go.length
    · rw [List.getElem?_append_left hj] at z
      exact a.go j l z
    · rw [List.getElem?_append_right (by omega), b, hl] at z
      have hj2 := (List.getElem?_eq_some_iff.mp z).1
      have hj2 : j - i < 1 := hj2
      have hj1 : ¬ j < i := by rw [b, hl] at hj; exact hj
      have : j = i := by omega
      subst this
      rw [Nat.sub_self] at z
      cases z
      exact ⟨_, c, hc, d, e⟩
  · show ((lookGo g wb i).1.go ++ [(lookGo g wb i).2]).length = _
    rw [List.length_append, b, hl]
    rfl
/-- what a made table is -/
structure Tb (g : Gr) (rows : List Row) (st : List (List It3)) : Prop where
  n1 : 2 ≤ st.length
  n2 : st.length ≤ 200
  hd : st[0]? = some (startBy g (loreOf g))
  mv : ∀ (j : Nat) (s : List It3), 0 < j → st[j]? = some s → ∃ s' p, Met g s' ∧ s = movedBy g (loreOf g) s' p
  met : ∀ s ∈ st, Met g s
  len : rows.length = st.length
  row : ∀ (j : Nat) (s : List It3), st[j]? = some s → ∃ l, rows[j]? = some (rowOf g s l) ∧ GoOk g st s l
  calm : ∀ s ∈ st, Calm g s
theorem tb_of {g : Gr} (G : LG g) {rows : List Row} {st : List (List It3)} (h : madeBy g = .table rows st) : Tb g rows st := by
  have key : ∀ (m : Nat) (wb : Wb) (i : Nat), WebI g wb → wb.go.length = i → i ≤ wb.st.length → i + m = 201 → madeGo g m wb i = .table rows st → ∃ wb', WebI g wb' ∧ wb'.go.length = wb'.st.length ∧ wb'.st.length ≤ 200 ∧ rows = rowsOf g wb' ∧ st = wb'.st := by
    intro m
    induction m with
    | zero => intro wb i _ _ _ _ h; cases h
    | succ m ih =>
      intro wb i W hl hle hm h
      have h : (if i < wb.st.length then (if i = 200 then Made.many else match clashOf g (stAt wb i) with
        | some c => .clash (foAt wb i) c.1 c.2
        | none => madeGo g m (lookW g wb i) (i + 1)) else .table (rowsOf g wb) wb.st) = .table rows st := h
      by_cases hlt : i < wb.st.length
      · rw [if_pos hlt] at h
        by_cases h2 : i = 200
        · rw [if_pos h2] at h; cases h
        · rw [if_neg h2] at h
          cases hc : clashOf g (stAt wb i) with
          | some c => rw [hc] at h; cases h
          | none =>
            rw [hc] at h
            obtain ⟨a, b⟩ := look_I W hl hlt hc
            have up : i + 1 ≤ (lookW g wb i).st.length := by
              obtain ⟨s, hs, _⟩ := a.go i ((lookW g wb i).go[i]'(by omega)) (List.getElem?_eq_getElem (by omega))
              have := (List.getElem?_eq_some_iff.mp hs).1
              omega
            exact ih _ _ a b up (by omega) h
      · rw [if_neg hlt] at h
        cases h
        exact ⟨wb, W, by omega, by omega, rfl, rfl⟩
  obtain ⟨wb, W, hl, h2, e1, e2⟩ := key 201 (web0 g) 0 (web0_I g) (by rw [show (web0 g).go = [] from rfl]; rfl) (Nat.zero_le _) rfl h
  subst e1 e2
  have hrow : ∀ (j : Nat) (s : List It3), wb.st[j]? = some s → ∃ l, wb.go[j]? = some l ∧ clashOf g s = none ∧ GoOk g wb.st s l := fun j s hs => by
    have hj := (List.getElem?_eq_some_iff.mp hs).1
    have hg : wb.go[j]? = some (wb.go[j]'(by omega)) := List.getElem?_eq_getElem (by omega)
    obtain ⟨s', h3, h4, h5⟩ := W.go j _ hg
    rw [hs] at h3
    cases h3
    exact ⟨_, hg, h4, h5⟩
  refine ⟨?_, h2, W.hd, W.mv, W.met, ?_, fun j s hs => ?_, fun s hs => ?_⟩
  · -- the first name is next in the first stand
    obtain ⟨l, _, _, hG⟩ := hrow 0 _ W.hd
    have C := start_clo G
    have hp : (ruleAt g 0).1 ∈ partsNext g (startBy g (loreOf g)) := by
      obtain ⟨t, e⟩ := C.pre
      exact parts_mem.mpr ⟨item0, by rw [← e]; exact List.mem_cons_self, rfl⟩
    rw [← hG.keys] at hp
    obtain ⟨q, hq, e⟩ := List.mem_map.mp hp
    obtain ⟨t, ht, hs⟩ := hG.to q hq
    have hq2 := (List.getElem?_eq_some_iff.mp ht).1
    by_cases h0 : q.2 = 0
    · exfalso
      rw [h0, W.hd] at ht
      cases ht
      have C2 := Met.move G (W.met _ (List.mem_of_getElem? W.hd)) q.1
      have hm : ((-1, 1, sEND) : It3) ∈ advBy g (startBy g (loreOf g)) q.1 := by
        obtain ⟨t, e2⟩ := C.pre
        exact adv_mem.mpr ⟨item0, by rw [← e2]; exact List.mem_cons_self, by rw [e]; rfl, rfl⟩
      obtain ⟨t, e2⟩ := C2.pre
      have : ((-1, 1, sEND) : It3) ∈ movedBy g (loreOf g) (startBy g (loreOf g)) q.1 := by rw [← e2]; exact List.mem_append_left _ hm
      rw [← sortI_mem, ← hs, sortI_mem] at this
      rcases C.rest (uni_of G) this with z | z
      · have := List.mem_singleton.mp z
        unfold item0 at this
        injection this with _ this
        injection this with this _
        cases this
      · cases z
    · omega
  · unfold rowsOf
    rw [List.length_map, List.length_zip]
    omega
  · obtain ⟨l, h3, h4, h5⟩ := hrow j s hs
    refine ⟨l, ?_, h5⟩
    unfold rowsOf
    rw [List.getElem?_map]
    have : (wb.st.zip wb.go)[j]? = some (s, l) := by
      rw [List.getElem?_zip_eq_some]
      exact ⟨hs, h3⟩
    rw [this]
    rfl
  · obtain ⟨j, hj⟩ := List.getElem?_of_mem hs
    obtain ⟨l, h3, h4, h5⟩ := hrow j s hj
    exact calm_of h4
end DL


set_option Elab.async false
set_option linter.all false
set_option maxRecDepth 100000
set_option maxHeartbeats 4000000
/-! P5: the other table: it is one, and the other paper is right for it. -/
namespace DL
open PySem PySem.Spec PyProof.Rows L2

theorem nm_ne_end {p : Str} (h : Nm p) : p ≠ sEND := fun e => by
  have := h.cap
  rw [e] at this
  revert this
  decide +kernel
theorem lt_ne_end {p : Str} (h : Lt p) : p ≠ sEND := fun e => by
  have := h.lt
  rw [e] at this
  revert this
  decide +kernel
theorem part_key {g : Gr} (G : GG g) {st : List It3} (S : ∀ it ∈ st, ItOk g it) {p : Str} (h : p ∈ partsNext g st) : (Lt p ∨ (Nm p ∧ p ∈ namesBy g)) ∧ p ≠ sEND := by
  obtain ⟨it, hi, e⟩ := parts_mem.mp h
  obtain ⟨h1, h2⟩ := next_ok G (S it hi) e
  rcases h1 with h1 | h1
  · exact ⟨.inl h1, lt_ne_end h1⟩
  · exact ⟨.inr ⟨h1, mem_names.mpr (h2 h1)⟩, nm_ne_end h1⟩
/-- a deed but going, by its item -/
theorem deed_is {g : Gr} {it : It3} {x : Str} {d : Deed} (h : deedOf g it = some (x, d)) (hd : d ≠ .go) : (d = .done ∧ x = sEND) ∨ (d = .rule it.1 ∧ x = it.2.2 ∧ it.1 ≠ -1) := by
  unfold deedOf at h
  cases hn : nextPart g it with
  | none =>
    rw [hn] at h
    have h : (if it = (-1, 1, sEND) then some (sEND, Deed.done) else if it.1 = -1 then none else some (it.2.2, .rule it.1)) = some (x, d) := h
    split at h
    · cases h; exact .inl ⟨rfl, rfl⟩
    · split at h
      · cases h
      · rename_i c
        cases h; exact .inr ⟨rfl, rfl, c⟩
  | some p =>
    rw [hn] at h
    have h : (if isLetter p = true then some (p, Deed.go) else none) = some (x, d) := h
    split at h
    · cases h; exact absurd rfl hd
    · cases h
theorem Met.sub {g : Gr} (G : LG g) {st : List It3} (h : Met g st) : st.Nodup ∧ ∀ x ∈ st, x ∈ unis g := by
  obtain ⟨_, C⟩ := h.clo G
  exact ⟨C.nd, C.sub⟩
theorem deed_key {g : Gr} (G : LG g) {st : List It3} (h : ∀ x ∈ st, x ∈ unis g) {p : Str × List Deed} (hp : p ∈ namedBy g st) {d : Deed} (hd : d ∈ p.2) (hg : d ≠ .go) : p.1 ∈ SG ∧ ∀ n, TDok g n p.1 (tdOf d) := by
  obtain ⟨it, hi, e⟩ := nb_item hp hd
  obtain ⟨I, hs⟩ := unis_ok (h it hi)
  rcases deed_is e hg with ⟨e1, e2⟩ | ⟨e1, e2, e3⟩
  · rw [e1, e2]
    exact ⟨by simp [SG], fun n => rfl⟩
  · rw [e1, e2]
    refine ⟨hs, fun n => ⟨sg_is hs, ?_⟩⟩
    rcases I.ru with z | z
    · exact absurd z e3
    · exact z
theorem SG_key {g : Gr} {s : Str} (h : s ∈ SG) : KeyOk g s := by
  rcases sg_is h with z | z
  · exact .inl z
  · exact .inr (.inl z)
section
variable {g : Gr} {rows : List Row} {st : List (List It3)}
theorem Tb.rowOk (G : LG g) (T : Tb g rows st) {s : List It3} (hs : s ∈ st) {l : List (Str × Nat)} (hl : GoOk g st s l) : RowOk g rows.length (rowOf g s l) := by
  obtain ⟨nd, sub⟩ := (T.met s hs).sub G
  have C := T.calm s hs
  have S : ∀ it ∈ s, ItOk g it := fun it hi => (unis_ok (sub it hi)).1
  have key : ∀ p ∈ rowOf g s l, (p.1 ∈ partsNext g s ∨ p.1 ∈ SG) ∧ TDok g rows.length p.1 p.2 := fun p hp => by
    rcases row_mem hp with ⟨q, hq, e⟩ | ⟨q, hq, hd, e⟩
    · rw [e]
      have hm : q.1 ∈ partsNext g s := by rw [← hl.keys]; exact List.mem_map.mpr ⟨q, hq, rfl⟩
      obtain ⟨t, h1, _⟩ := hl.to q hq
      have h2 := (List.getElem?_eq_some_iff.mp h1).1
      refine ⟨.inl hm, (part_key G.gg S hm).2, by show (0 : Int) ≤ (q.2 : Int); omega, ?_⟩
      show (q.2 : Int) < (rows.length : Int)
      rw [T.len]; omega
    · obtain ⟨d, e2⟩ := C q hq
      rw [e2] at e hd
      obtain ⟨h1, h2⟩ := deed_key G sub hq (d := d) (by rw [e2]; exact List.mem_cons_self) hd
      rw [e]
      exact ⟨.inr h1, h2 _⟩
  refine ⟨row_nd _ _ _, ?_, fun p hp => ?_, fun p hp => (key p hp).2⟩
  · have h1 := nodup_le (row_nd g s l) (m := partsNext g s ++ SG) fun x hx => by
      obtain ⟨p, hp, rfl⟩ := List.mem_map.mp hx
      exact List.mem_append.mpr (key p hp).1
    have h2 := parts_len g s
    have h3 := few_items G nd sub C
    rw [List.length_map, List.length_append] at h1
    have h4 : SG.length = 4 := rfl
    omega
  · rcases (key p hp).1 with z | z
    · rcases (part_key G.gg S z).1 with y | y
      · exact .inr (.inl y)
      · exact .inr (.inr y)
    · exact SG_key z
theorem Tb.at (T : Tb g rows st) {r : Row} (hr : r ∈ rows) : ∃ s l, s ∈ st ∧ GoOk g st s l ∧ r = rowOf g s l := by
  obtain ⟨j, hj⟩ := List.getElem?_of_mem hr
  have h1 := (List.getElem?_eq_some_iff.mp hj).1
  have h2 : st[j]? = some (st[j]'(by rw [← T.len]; exact h1)) := List.getElem?_eq_getElem _
  obtain ⟨l, h3, h4⟩ := T.row j _ h2
  rw [hj] at h3
  cases h3
  exact ⟨_, l, List.mem_of_getElem? h2, h4, rfl⟩
theorem Tb.tab (G : LG g) (T : Tb g rows st) : TabOk g rows where
  n1 := by have := T.len; have := T.n1; omega
  n2 := by have := T.len; have := T.n2; omega
  row := fun r hr => by
    obtain ⟨s, l, hs, hl, e⟩ := T.at hr
    rw [e]
    exact T.rowOk G hs hl
/-- a deed led otherwise -/
inductive TDr (li : List Nat) : TD → TD → Prop
  | done : TDr li .done .done
  | rule (n : Int) : TDr li (.rule n) (.rule n)
  | goto {j k : Nat} (h : li[k]? = some j) : TDr li (.goto (j : Int)) (.goto (k : Int))
structure RowR (li : List Nat) (r r' : Row) : Prop where
  ex : ∃ f : Str → TD → TD, r' = r.map (fun p => (p.1, f p.1 p.2)) ∧ ∀ p ∈ r, TDr li p.2 (f p.1 p.2)
theorem RowR.keys {li : List Nat} {r r' : Row} (h : RowR li r r') : r'.map Prod.fst = r.map Prod.fst := by
  obtain ⟨f, e, _⟩ := h.ex
  rw [e, List.map_map]
  rfl
theorem RowR.get {li : List Nat} {r r' : Row} (h : RowR li r r') (k : Str) : (rowGet r k = none ∧ rowGet r' k = none) ∨ ∃ a b, rowGet r k = some a ∧ rowGet r' k = some b ∧ TDr li a b := by
  obtain ⟨f, e, hf⟩ := h.ex
  unfold rowGet
  rw [e, List.find?_map]
  have e2 : ((fun p : Str × TD => decide (p.1 = k)) ∘ fun p : Str × TD => (p.1, f p.1 p.2)) = fun p => decide (p.1 = k) := rfl
  rw [e2]
  cases hq : r.find? (fun p => decide (p.1 = k)) with
  | none => exact .inl ⟨rfl, rfl⟩
  | some q => exact .inr ⟨_, _, rfl, rfl, hf q (List.mem_of_find?_eq_some hq)⟩
/-- the other table -/
structure Oth (n : Nat) (rows : List Row) (li : List Nat) (rows' : List Row) : Prop where
  hd : li[0]? = some 0
  lt : ∀ s ∈ li, s < n
  one : ∀ k : Nat, li[k]? = some 0 → k = 0
  n2 : li.length ≤ 200
  len : rows'.length = li.length
  row : ∀ (k s : Nat), li[k]? = some s → RowR li (rowAt rows (s : Int)) (rowAt rows' (k : Int))
def othPa (st : List (List It3)) (li : List Nat) : List (List It3) := li.map fun s : Nat => paAt st (s : Int)
theorem paAt_nat {st : List (List It3)} {k : Nat} {s : List It3} (h : st[k]? = some s) : paAt st (k : Int) = s := by
  unfold paAt
  rw [Int.toNat_natCast, h]
  rfl
theorem rowAt_nat {rows : List Row} {k : Nat} {r : Row} (h : rows[k]? = some r) : rowAt rows (k : Int) = r := by
  unfold rowAt
  rw [Int.toNat_natCast, h]
  rfl
variable {li : List Nat} {rows' : List Row}
theorem Oth.pos (O : Oth st.length rows li rows') : 1 ≤ li.length := by
  have := (List.getElem?_eq_some_iff.mp O.hd).1
  omega
/-- a state of the other table -/
theorem Oth.state (T : Tb g rows st) (O : Oth st.length rows li rows') {k : Nat} (hk : k < li.length) : ∃ s S l, li[k]? = some s ∧ st[s]? = some S ∧ S ∈ st ∧ GoOk g st S l ∧ rowAt rows (s : Int) = rowOf g S l ∧ paAt (othPa st li) (k : Int) = S ∧ RowR li (rowOf g S l) (rowAt rows' (k : Int)) := by
  have h1 : li[k]? = some li[k] := List.getElem?_eq_getElem hk
  have h2 := O.lt _ (List.getElem_mem hk)
  have h3 : st[li[k]]? = some (st[li[k]]'h2) := List.getElem?_eq_getElem _
  obtain ⟨l, h4, h5⟩ := T.row _ _ h3
  have h6 := rowAt_nat h4
  refine ⟨_, _, l, h1, h3, List.getElem_mem h2, h5, h6, ?_, by rw [← h6]; exact O.row _ _ h1⟩
  refine paAt_nat ?_
  unfold othPa
  rw [List.getElem?_map, h1]
  show some (paAt st (li[k] : Int)) = _
  rw [paAt_nat h3]
theorem oth_len (st : List (List It3)) (li : List Nat) : (othPa st li).length = li.length := by simp [othPa]
theorem Oth.tab (G : LG g) (T : Tb g rows st) (O : Oth st.length rows li rows') : TabOk g rows' where
  n1 := by have := O.len; have := O.pos; omega
  n2 := by have := O.len; have := O.n2; omega
  row := fun r hr => by
    obtain ⟨k, hk⟩ := List.getElem?_of_mem hr
    have h1 := (List.getElem?_eq_some_iff.mp hk).1
    obtain ⟨s, S, l, _, _, hS, hl, _, _, hR⟩ := O.state T (k := k) (by rw [← O.len]; exact h1)
    rw [rowAt_nat hk] at hR
    have R := T.rowOk G hS hl
    have hkeys := hR.keys
    obtain ⟨f, e, hf⟩ := hR.ex
    refine ⟨by rw [hkeys]; exact R.nd, by rw [e, List.length_map]; exact R.len, fun p hp => ?_, fun p hp => ?_⟩
    · rw [e] at hp
      obtain ⟨q, hq, e2⟩ := List.mem_map.mp hp
      rw [← e2]
      exact R.key q hq
    · rw [e] at hp
      obtain ⟨q, hq, e2⟩ := List.mem_map.mp hp
      rw [← e2]
      have h2 := R.td q hq
      have h3 := hf q hq
      show TDok g _ q.1 (f q.1 q.2)
      cases hx : q.2 with
      | done =>
        rw [hx] at h2 h3
        cases h3' : f q.1 .done with
        | done => exact h2
        | rule n => rw [h3'] at h3; cases h3
        | goto j => rw [h3'] at h3; cases h3
      | rule n =>
        rw [hx] at h2 h3
        cases h3' : f q.1 (.rule n) with
        | done => rw [h3'] at h3; cases h3
        | rule m => rw [h3'] at h3; cases h3; exact h2
        | goto j => rw [h3'] at h3; cases h3
      | goto j =>
        rw [hx] at h2 h3
        cases h3' : f q.1 (.goto j) with
        | done => rw [h3'] at h3; cases h3
        | rule m => rw [h3'] at h3; cases h3
        | goto j =>
          rw [h3'] at h3
          cases h3 with
          | goto h =>
            have := (List.getElem?_eq_some_iff.mp h).1
            exact ⟨h2.1, by omega, by rw [O.len]; omega⟩
theorem Tb.stOk (G : LG g) (T : Tb g rows st) {s : List It3} (hs : s ∈ st) : StOk g s := (md_ok G).st G.gg (T.met s hs)
theorem Oth.mem (T : Tb g rows st) (O : Oth st.length rows li rows') {s : List It3} (hs : s ∈ othPa st li) : s ∈ st := by
  obtain ⟨n, hn, e⟩ := List.mem_map.mp hs
  have h2 := O.lt n hn
  have h3 : st[n]? = some (st[n]'h2) := List.getElem?_eq_getElem _
  rw [paAt_nat h3] at e
  rw [← e]
  exact List.getElem_mem _
theorem Oth.paper (G : LG g) (T : Tb g rows st) (O : Oth st.length rows li rows') : PaperOk g (othPa st li) where
  n1 := by rw [oth_len]; exact O.pos
  n2 := by rw [oth_len]; exact O.n2
  nd := fun s hs => ((T.met s (O.mem T hs)).sub G).1
  few := fun s hs => by
    have h := O.mem T hs
    obtain ⟨h1, h2⟩ := (T.met s h).sub G
    exact few_items G h1 h2 (T.calm s h)
  it := fun s hs x hx => uni_item (((T.met s (O.mem T hs)).sub G).2 x hx)
theorem moved_adv (G : LG g) {S Tt : List It3} (hS : Met g S) {p : Str} (h : sortI Tt = sortI (movedBy g (loreOf g) S p)) : sortI (Tt.filter behind0) = advBy g S p := by
  have U := uni_of G
  have C := hS.move G p
  have pm : Tt.Perm (movedBy g (loreOf g) S p) := (sortI_perm Tt).symm.trans (by rw [h]; exact sortI_perm _)
  have hS2 := (hS.sub G).2
  have ha : ∀ x ∈ advBy g S p, 0 < x.2.1 := fun x hx => adv_pos (fun it hi => (unis_ok (hS2 it hi)).1.pl) hx
  have hp : (Tt.filter behind0).Perm (advBy g S p) := by
    refine (pm.filter behind0).trans (perm_nd (C.nd.sublist List.filter_sublist) (adv_nd p (hS.sub G).1) fun x => ?_)
    rw [List.mem_filter]
    constructor
    · rintro ⟨h1, h2⟩
      rcases C.rest U h1 with z | z
      · exact z
      · have h2 : 0 < x.2.1 := of_decide_eq_true h2
        omega
    · intro hx
      obtain ⟨t, e⟩ := C.pre
      exact ⟨by rw [← e]; exact List.mem_append_left _ hx, decide_eq_true (ha x hx)⟩
  rw [sortI_eq hp]
  unfold advBy
  exact sortI_eq (sortI_perm _)
theorem Oth.right (G : LG g) (T : Tb g rows st) (O : Oth st.length rows li rows') : RightOk g rows' (othPa st li) where
  len := by rw [oth_len, O.len]
  beg := by
    have U := uni_of G
    have C := start_clo G
    have e : paAt (othPa st li) 0 = startBy g (loreOf g) := by
      obtain ⟨s, S, l, h1, h2, _, _, _, h3, _⟩ := O.state T (k := 0) O.pos
      rw [O.hd] at h1
      cases h1
      rw [T.hd] at h2
      cases h2
      exact h3
    rw [e]
    have hS := (Met.start (g := g)).sub G
    obtain ⟨t, e2⟩ := C.pre
    refine ⟨⟨t, by rw [← e2]; rfl⟩, fun it hi => ?_, fun it hi => (unis_ok (C.sub it hi)).1.sg, ?_⟩
    · rcases C.rest U hi with z | z
      · rw [List.mem_singleton.mp z]; rfl
      · exact z
    · exact Nat.le_trans (nodup_le C.nd C.sub) U.len
  cal := fun i hi => by
    rw [oth_len] at hi
    obtain ⟨s, S, l, h1, h2, h3, _, _, e, _⟩ := O.state T hi
    rw [e]
    by_cases h0 : i = 0
    · subst h0
      rw [O.hd] at h1
      cases h1
      rw [T.hd] at h2
      cases h2
      have : decide (((0 : Nat) : Int) = 0) = true := rfl
      rw [this]
      exact (start_clo G).called (uni_of G) (fun _ => rfl) (fun z => by cases z)
    · have : decide ((i : Int) = 0) = false := decide_eq_false (by omega)
      rw [this]
      have hs0 : 0 < s := by
        rcases Nat.eq_zero_or_pos s with z | z
        · rw [z] at h1
          exact absurd (O.one i h1) h0
        · exact z
      obtain ⟨s', p, hm, e2⟩ := T.mv s S hs0 h2
      rw [e2]
      refine (hm.move G p).called (uni_of G) (fun z => by cases z) fun _ x hx => ?_
      have := adv_pos (fun it hi => (unis_ok ((hm.sub G).2 it hi)).1.pl) hx
      omega
  led := fun i hi => by
    rw [oth_len] at hi
    obtain ⟨s, S, l, h1, h2, h3, hG, _, e, hR⟩ := O.state T hi
    refine ⟨by rw [O.len]; exact hi, by rw [oth_len]; exact hi, fun s hs => T.stOk G (O.mem T hs), fun p hp => ?_⟩
    rw [e] at hp ⊢
    have hp' := hp
    rw [← hG.keys] at hp'
    obtain ⟨q, hq, e2⟩ := List.mem_map.mp hp'
    subst e2
    have nd : (l.map Prod.fst).Nodup := by rw [hG.keys]; exact parts_nd _ _
    obtain ⟨t, ht, hs⟩ := hG.to q hq
    have hr := row_goto (g := g) (stand := S) nd hq
    rcases hR.get q.1 with ⟨z, _⟩ | ⟨a, b, h4, h5, h6⟩
    · rw [hr] at z; cases z
    · rw [hr] at h4
      cases h4
      cases h6 with
      | goto h =>
        rename_i k
        have hk := (List.getElem?_eq_some_iff.mp h).1
        refine ⟨(k : Int), h5, by omega, by rw [oth_len]; omega, ?_⟩
        have e3 : paAt (othPa st li) (k : Int) = t := by
          refine paAt_nat ?_
          unfold othPa
          rw [List.getElem?_map, h]
          show some (paAt st (q.2 : Int)) = _
          rw [paAt_nat ht]
        rw [e3]
        exact moved_adv G (T.met S h3) hs
  don := fun i hi => by
    rw [oth_len] at hi
    obtain ⟨s, S, l, h1, h2, h3, hG, _, e, hR⟩ := O.state T hi
    rw [e]
    obtain ⟨ndS, sub⟩ := (T.met S h3).sub G
    have C := T.calm S h3
    have SS : ∀ it ∈ S, ItOk g it := fun it hi => (unis_ok (sub it hi)).1
    have nd : (l.map Prod.fst).Nodup := by rw [hG.keys]; exact parts_nd _ _
    have R := T.rowOk G h3 hG
    have apart : ∀ p ∈ namedBy g S, ∀ d, p.2 = [d] → d ≠ .go → p.1 ∉ partsNext g S := fun p hp d e2 hd hm => by
      obtain ⟨it, hit, e3⟩ := nb_item hp (d := d) (by rw [e2]; exact List.mem_cons_self)
      obtain ⟨hs, _⟩ := deed_key G sub hp (d := d) (by rw [e2]; exact List.mem_cons_self) hd
      rcases sg_is hs with z | z
      · exact (part_key G.gg SS hm).2 z
      · exact C.apart hit e3 hd z.lt hm
    refine ⟨fun p hp => ?_, ?_, fun k hk => ?_, ?_⟩
    · obtain ⟨d, e2⟩ := C p hp
      refine ⟨d, e2, ?_⟩
      by_cases hd : d = .go
      · exact .inl hd
      · right
        have hr := row_deed (go := l) nd hp e2 hd (by rw [hG.keys]; exact apart p hp d e2 hd)
        rcases hR.get p.1 with ⟨z, _⟩ | ⟨a, b, h4, h5, h6⟩
        · rw [hr] at z; cases z
        · rw [hr] at h4
          cases h4
          rw [h5]
          cases d with
          | go => exact absurd rfl hd
          | done => cases h6; rfl
          | rule n => cases h6; rfl
    · rw [hR.keys]
      refine sortS_perm (perm_nd (doneKeys_nd g S) R.nd fun k => ?_)
      rw [doneKeys_mem]
      constructor
      · intro h
        have hg : k ∈ partsNext g S → k ∈ (rowOf g S l).map Prod.fst := fun z => by
          rw [← hG.keys] at z
          obtain ⟨q, hq, e2⟩ := List.mem_map.mp z
          refine Classical.byContradiction fun c => ?_
          have h1 := row_goto (g := g) (stand := S) nd hq
          rw [e2, rowGet_none.mpr c] at h1
          cases h1
        rcases h with z | z
        · exact hg z
        · obtain ⟨p, hp, e2⟩ := List.mem_map.mp z
          obtain ⟨d, e3⟩ := C p hp
          by_cases hd : d = .go
          · obtain ⟨it, hit, e4⟩ := nb_item hp (d := d) (by rw [e3]; exact List.mem_cons_self)
            rw [hd] at e4
            exact hg (parts_mem.mpr ⟨it, hit, by rw [(go_part e4).1, e2]⟩)
          · refine Classical.byContradiction fun c => ?_
            have h1 := row_deed (go := l) nd hp e3 hd (by rw [hG.keys]; exact apart p hp d e3 hd)
            rw [e2, rowGet_none.mpr c] at h1
            cases h1
      · intro h
        obtain ⟨p, hp, e2⟩ := List.mem_map.mp h
        rcases row_mem hp with ⟨q, hq, e3⟩ | ⟨q, hq, hd, e3⟩
        · left
          rw [← hG.keys, ← e2, e3]
          exact List.mem_map.mpr ⟨q, hq, rfl⟩
        · right
          rw [← e2, e3]
          exact List.mem_map.mpr ⟨q, hq, rfl⟩
    · rw [hR.keys] at hk
      obtain ⟨p, hp, e2⟩ := List.mem_map.mp hk
      rw [← e2]
      exact (R.key p hp).sok
    · have := R.len
      have h5 := congrArg List.length hR.keys
      rw [List.length_map, List.length_map] at h5
      omega
end
end DL


set_option Elab.async false
set_option linter.all false
set_option maxRecDepth 100000
set_option maxHeartbeats 4000000
/-! P6: both tables read alike. -/
namespace DL
open PySem PySem.Spec PyProof.Rows L2

def phi (li : List Nat) (k : Int) : Int := ((li[k.toNat]?).getD 0 : Nat)
def lift (li : List Nat) (p : Pl) : Pl := ⟨p.st.map (phi li), p.hd, p.tr, p.pl, p.fo⟩
theorem phi_at {li : List Nat} {k j : Nat} (h : li[k]? = some j) : phi li (k : Int) = (j : Int) := by
  unfold phi
  rw [Int.toNat_natCast, h]
  rfl
section
variable {g : Gr} {rows : List Row} {st : List (List It3)} {li : List Nat} {rows' : List Row} {y : Str}
theorem Oth.rowAt (T : Tb g rows st) (O : Oth st.length rows li rows') {k : Int} (h0 : 0 ≤ k) (h1 : k < rows'.length) : RowR li (rowAt rows (phi li k)) (rowAt rows' k) := by
  obtain ⟨n, rfl⟩ := Int.eq_ofNat_of_zero_le h0
  have h1 : n < li.length := by have := O.len; omega
  have h2 : li[n]? = some li[n] := List.getElem?_eq_getElem h1
  rw [phi_at h2]
  exact O.row n _ h2
theorem top_lift {t : List Row} {p : Pl} (P : PlOk t y p) : topSt (lift li p) = phi li (topSt p) := by
  obtain ⟨h, _⟩ := P.top
  unfold topSt lift
  rw [List.getLast?_map, h]
  rfl
theorem at_lift {p : Pl} {b : Nat} (h : b < p.st.length) : (((lift li p).st[b]?).getD 0) = phi li ((p.st[b]?).getD 0) := by
  unfold lift
  rw [List.getElem?_map, List.getElem?_eq_getElem h]
  rfl
theorem fold_lift (T : Tb g rows st) (O : Oth st.length rows li rows') {p : Pl} (P : PlOk rows' y p) (n : Int) : foldPl g rows y (lift li p) n = (foldPl g rows' y p n).map (lift li) := by
  unfold foldPl
  generalize ruleAt g n = r
  have e : (lift li p).hd = p.hd := rfl
  rw [e]
  split
  · rfl
  · rename_i hc
    generalize hb : p.hd.length - r.2.length = b
    have s1 := P.s1
    have hbl : b < p.st.length := by omega
    rw [at_lift hbl]
    have hst : p.st[b]? = some ((p.st[b]?).getD 0) := by
      rw [List.getElem?_eq_getElem hbl]
      rfl
    obtain ⟨j1, j2⟩ := P.s3 _ (List.mem_of_getElem? hst)
    have R := O.rowAt T j1 j2
    rcases R.get r.1 with ⟨h1, h2⟩ | ⟨a, c, h1, h2, h3⟩
    · rw [h1, h2]; rfl
    · rw [h1, h2]
      cases h3 with
      | done => rfl
      | rule m => rfl
      | goto h =>
        rename_i j k
        show some (Pl.mk _ _ _ _ _) = some (lift li (Pl.mk _ _ _ _ _))
        unfold lift
        rw [List.map_append, List.map_take]
        show _ = some (Pl.mk (_ ++ [phi li (k : Int)]) _ _ _ _)
        rw [phi_at h]
theorem do_lift (T : Tb g rows st) (O : Oth st.length rows li rows') {p : Pl} (P : PlOk rows' y p) {a b : TD} (h : TDr li a b) : doPl g rows y (lift li p) a = (lift li (doPl g rows' y p b).1, (doPl g rows' y p b).2) := by
  cases h with
  | done => rfl
  | rule n =>
    have e := fold_lift T O P n
    cases hf : foldPl g rows' y p n with
    | none =>
      rw [hf] at e
      rw [do_none e, do_none hf]
      rfl
    | some q =>
      rw [hf] at e
      rw [do_some e, do_some hf]
  | goto h =>
    rename_i j k
    show (goPl y (lift li p) (j : Int), PyData.none) = (lift li (goPl y p (k : Int)), PyData.none)
    unfold goPl lift
    rw [List.map_append]
    show _ = (Pl.mk (_ ++ [phi li (k : Int)]) _ _ _ _, _)
    rw [phi_at h]
theorem read_lift (T : Tb g rows st) (O : Oth st.length rows li rows') (R : RdOk g rows' y) : ∀ (n : Nat) (p : Pl), PlR rows' y n p → readGo g rows y n (lift li p) = (lift li (readGo g rows' y n p).1, (readGo g rows' y n p).2)
  | 0, p, _ => rfl
  | n + 1, p, P => by
    have PO := P.ok
    obtain ⟨_, h2, h3⟩ := PO.top
    have RR := O.rowAt T h2 h3
    have e0 : topSt (lift li p) = phi li (topSt p) := top_lift PO
    have el : readGo g rows y (n + 1) (lift li p) = match rowGet (rowAt rows (topSt (lift li p))) (signAt y p.pl) with
      | none => (lift li p, stopD p.pl (signsOf (rowAt rows (topSt (lift li p)))))
      | some td => if n = 0 then (lift li p, tornD p.pl) else if isNon (doPl g rows y (lift li p) td).2 = true then readGo g rows y n (doPl g rows y (lift li p) td).1 else doPl g rows y (lift li p) td := rfl
    have er : readGo g rows' y (n + 1) p = match rowGet (rowAt rows' (topSt p)) (signAt y p.pl) with
      | none => (p, stopD p.pl (signsOf (rowAt rows' (topSt p))))
      | some td => if n = 0 then (p, tornD p.pl) else if isNon (doPl g rows' y p td).2 = true then readGo g rows' y n (doPl g rows' y p td).1 else doPl g rows' y p td := rfl
    rw [el, er, e0]
    rcases RR.get (signAt y p.pl) with ⟨h4, h5⟩ | ⟨a, b, h4, h5, h6⟩
    · rw [h4, h5]
      show (lift li p, stopD p.pl (signsOf (rowAt rows (phi li (topSt p))))) = (lift li p, stopD p.pl (signsOf (rowAt rows' (topSt p))))
      unfold signsOf
      rw [RR.keys]
    · rw [h4, h5]
      show (if n = 0 then (lift li p, tornD p.pl) else if isNon (doPl g rows y (lift li p) a).2 = true then readGo g rows y n (doPl g rows y (lift li p) a).1 else doPl g rows y (lift li p) a) = (lift li (if n = 0 then (p, tornD p.pl) else if isNon (doPl g rows' y p b).2 = true then readGo g rows' y n (doPl g rows' y p b).1 else doPl g rows' y p b).1, (if n = 0 then (p, tornD p.pl) else if isNon (doPl g rows' y p b).2 = true then readGo g rows' y n (doPl g rows' y p b).1 else doPl g rows' y p b).2)
      rw [do_lift T O PO h6]
      by_cases hn : n = 0
      · rw [if_pos hn, if_pos hn]
      · rw [if_neg hn, if_neg hn]
        have hdo := do_ok R.tt PO h5
        have P2 := P.do R.gg R.tt R.yy R.ys hdo
        by_cases hi : isNon (doPl g rows' y p b).2 = true
        · rw [if_pos hi, if_pos hi]
          exact read_lift T O R n _ P2
        · rw [if_neg hi, if_neg hi]
theorem Oth.read (T : Tb g rows st) (O : Oth st.length rows li rows') (R : RdOk g rows' y) : (readGo g rows y 300 (pile0 y)).2 = (readGo g rows' y 300 (pile0 y)).2 ∧ (readGo g rows y 300 (pile0 y)).1.fo = (readGo g rows' y 300 (pile0 y)).1.fo := by
  have h := read_lift T O R 300 (pile0 y) (pl0_ok R.tt.n1 R.yy.len)
  have e : lift li (pile0 y) = pile0 y := by
    unfold lift pile0
    have : phi li 0 = 0 := by
      have := phi_at O.hd
      simpa using this
    show Pl.mk [phi li 0] _ _ _ _ = _
    rw [this]
  rw [e] at h
  rw [h]
  exact ⟨rfl, rfl⟩
end
/-! ### what is told can be compared -/
structure RI (n : Nat) (p : Pl) : Prop where
  tr : ∀ d ∈ p.tr, PyData.canLay0 d = true ∧ d.depth ≤ 2 * (300 - n)
  fo : ∀ f ∈ p.fo, ∀ s ∈ f, PyData.strOk s = true
def DOk (d : PyData) : Prop := PyData.canLay0 d = true ∧ d.depth ≤ 700
theorem dok_torn (n : Nat) : DOk (tornD n) := by
  unfold DOk tornD
  refine ⟨?_, ?_⟩
  · simp [PyData.canLay0, PyData.canLayAll0]
    decide +kernel
  · simp [PyData.depth, PyData.depthAll]
theorem layAll_of : ∀ {l : List PyData}, (∀ d ∈ l, PyData.canLay0 d = true) → PyData.canLayAll0 l = true
  | [], _ => by simp [PyData.canLayAll0]
  | d :: l, h => by
    rw [PyData.canLayAll0, h d List.mem_cons_self, layAll_of fun e he => h e (List.mem_cons_of_mem _ he)]
    rfl
theorem depthAll_of {n : Nat} : ∀ {l : List PyData}, (∀ d ∈ l, d.depth ≤ n) → PyData.depthAll l ≤ n
  | [], _ => by simp [PyData.depthAll]
  | d :: l, h => by
    rw [PyData.depthAll]
    have h1 := h d List.mem_cons_self
    have h2 := depthAll_of (l := l) fun e he => h e (List.mem_cons_of_mem _ he)
    omega
theorem layS {l : List Str} (h : ∀ s ∈ l, PyData.strOk s = true) : PyData.canLayAll0 (encS l) = true := layAll_of fun d hd => by
  obtain ⟨s, hs, rfl⟩ := List.mem_map.mp hd
  rw [PyData.canLay0]
  exact h s hs
theorem dok_stop {n : Nat} {l : List Str} (h : ∀ s ∈ l, PyData.strOk s = true) : DOk (stopD n l) := by
  unfold DOk stopD
  have h1 := layS h
  have h2 : PyData.strOk "stop" = true := by decide +kernel
  refine ⟨?_, ?_⟩
  · simp [PyData.canLay0, PyData.canLayAll0, h1, h2]
  · simp [PyData.depth, PyData.depthAll, depth_S]
theorem dok_tree {d : PyData} (h : PyData.canLay0 d = true) (h1 : d.depth ≤ 600) : DOk (treeD d) := by
  unfold DOk treeD
  have h2 : PyData.strOk "tree" = true := by decide +kernel
  refine ⟨?_, ?_⟩
  · simp [PyData.canLay0, PyData.canLayAll0, h, h2]
  · simp only [PyData.depth, PyData.depthAll]
    omega
section
variable {g : Gr} {t : List Row} {y : Str}
theorem ftext_ok (Ys : ∀ c ∈ y.cps.toList, PyData.strOk ⟨#[c]⟩ = true) {s : Str} (h : s ∈ fText y) : PyData.strOk s = true := by
  obtain ⟨c, hc, rfl⟩ := List.mem_map.mp h
  exact Ys c hc
theorem RI.do (R : RdOk g t y) {n : Nat} {p : Pl} (P : PlR t y (n + 1) p) (I : RI (n + 1) p) {td : TD} (h : DoOk g t y p td) (hn : n + 1 ≤ 300) : RI n (doPl g t y p td).1 ∧ DOk (doPl g t y p td).2 := by
  have dn : DOk PyData.none := ⟨by simp [PyData.canLay0], by simp [PyData.depth]⟩
  have up : RI n p := ⟨fun d hd => ⟨(I.tr d hd).1, by have := (I.tr d hd).2; omega⟩, I.fo⟩
  cases td with
  | goto j =>
    refine ⟨⟨fun d hd => ?_, I.fo⟩, dn⟩
    have hd : d ∈ p.tr ++ [PyData.str (signAt y p.pl)] := hd
    rcases List.mem_append.mp hd with z | z
    · exact up.tr d z
    · rw [List.mem_singleton.mp z]
      obtain ⟨ch, h1, h2⟩ := sign_ok R.yy h.1
      refine ⟨by rw [PyData.canLay0, h2]; exact R.ys ch h1, by simp [PyData.depth]⟩
  | done =>
    refine ⟨up, ?_⟩
    show DOk (if p.hd = [(ruleAt g 0).1] then treeD ((p.tr[0]?).getD .none) else tornD p.pl)
    split
    · cases e : p.tr[0]? with
      | none => exact dok_tree (by simp [PyData.canLay0]) (by simp [PyData.depth])
      | some d =>
        obtain ⟨h1, h2⟩ := I.tr d (List.mem_of_getElem? e)
        exact dok_tree h1 (by show d.depth ≤ 600; omega)
    · exact dok_torn _
  | rule m =>
    cases e : foldPl g t y p m with
    | none =>
      rw [do_none e]
      exact ⟨up, dok_torn _⟩
    | some q =>
      rw [do_some e]
      refine ⟨?_, dn⟩
      unfold foldPl at e
      have hm := rule_mem h.1 h.2
      have hnm := (R.gg.nm _ hm).ok
      generalize ruleAt g m = r at e hm hnm
      split at e
      · cases e
      · split at e
        · cases e
          refine ⟨fun d hd => ?_, fun f hf => ?_⟩
          · rcases List.mem_append.mp hd with z | z
            · exact up.tr d (List.mem_of_mem_take z)
            · rw [List.mem_singleton.mp z]
              have h1 : ∀ x ∈ p.tr.drop (p.hd.length - r.2.length), PyData.canLay0 x = true ∧ x.depth ≤ 2 * (300 - (n + 1)) := fun x hx => I.tr x (List.mem_of_mem_drop hx)
              have h2 := layAll_of fun x hx => (h1 x hx).1
              have h3 := depthAll_of fun x hx => (h1 x hx).2
              refine ⟨by simp [PyData.canLay0, PyData.canLayAll0, h2], ?_⟩
              simp only [PyData.depth, PyData.depthAll]
              omega
          · rcases List.mem_append.mp hf with z | z
            · exact I.fo f z
            · rw [List.mem_singleton.mp z]
              intro s hs
              rcases List.mem_append.mp hs with z | z
              · rcases List.mem_append.mp z with z | z
                · exact P.ok.s8 s (List.mem_of_mem_take z)
                · rw [List.mem_singleton.mp z]; exact hnm
              · exact ftext_ok R.ys (List.mem_of_mem_drop z)
        · cases e
theorem read_ok (R : RdOk g t y) : ∀ (n : Nat) (p : Pl), n ≤ 300 → PlR t y n p → RI n p → DOk (readGo g t y n p).2 ∧ ∀ f ∈ (readGo g t y n p).1.fo, ∀ s ∈ f, PyData.strOk s = true
  | 0, p, _, _, I => ⟨⟨by simp [readGo, PyData.canLay0], by simp [readGo, PyData.depth]⟩, I.fo⟩
  | n + 1, p, hn, P, I => by
    have PO := P.ok
    obtain ⟨_, h2, h3⟩ := PO.top
    have RO := R.tt.row _ (List.mem_of_getElem? (row_at h2 h3))
    have er : readGo g t y (n + 1) p = match rowGet (rowAt t (topSt p)) (signAt y p.pl) with
      | none => (p, stopD p.pl (signsOf (rowAt t (topSt p))))
      | some td => if n = 0 then (p, tornD p.pl) else if isNon (doPl g t y p td).2 = true then readGo g t y n (doPl g t y p td).1 else doPl g t y p td := rfl
    rw [er]
    cases hg : rowGet (rowAt t (topSt p)) (signAt y p.pl) with
    | none =>
      refine ⟨dok_stop fun s hs => ?_, I.fo⟩
      have hs := (List.mergeSort_perm _ leS).mem_iff.mp hs
      obtain ⟨q, hq, e⟩ := List.mem_map.mp (List.mem_filter.mp hs).1
      rw [← e]
      exact (RO.key q hq).sok
    | some td =>
      have hdo := do_ok R.tt PO hg
      obtain ⟨I2, D2⟩ := I.do R P hdo hn
      show DOk (if n = 0 then (p, tornD p.pl) else if isNon (doPl g t y p td).2 = true then readGo g t y n (doPl g t y p td).1 else doPl g t y p td).2 ∧ ∀ f ∈ (if n = 0 then (p, tornD p.pl) else if isNon (doPl g t y p td).2 = true then readGo g t y n (doPl g t y p td).1 else doPl g t y p td).1.fo, ∀ s ∈ f, PyData.strOk s = true
      by_cases h0 : n = 0
      · rw [if_pos h0]
        exact ⟨dok_torn _, I.fo⟩
      · rw [if_neg h0]
        by_cases hi : isNon (doPl g t y p td).2 = true
        · rw [if_pos hi]
          exact read_ok R n _ (by omega) (P.do R.gg R.tt R.yy R.ys hdo) I2
        · rw [if_neg hi]
          exact ⟨D2, I2.fo⟩
theorem told_ok (R : RdOk g t y) : DOk (readGo g t y 300 (pile0 y)).2 ∧ ∀ f ∈ (readGo g t y 300 (pile0 y)).1.fo, ∀ s ∈ f, PyData.strOk s = true :=
  read_ok R 300 (pile0 y) (Nat.le_refl _) (pl0_ok R.tt.n1 R.yy.len) ⟨fun d hd => (List.not_mem_nil hd).elim, fun f hf => by
    rw [List.mem_singleton.mp hf]
    exact fun s hs => ftext_ok R.ys hs⟩
end
end DL


set_option Elab.async false
set_option linter.all false
set_option maxRecDepth 100000
set_option maxHeartbeats 4000000
/-! W15: the law's helpers. -/
namespace DL
open PySem PySem.Spec PyProof.Rows L2

def encZ (l : List Int) : List PyData := l.map .int
def cellAt (sc : List Int) (k : Int) : Int := if k < sc.length then (sc[k.toNat]?).getD 0 else 0
def mixBy (cell k : Int) : Int :=
  let m := (cell * 69621 + 7001 * k + 3) % 2147483629
  let n := (m * m + 39373 * m + k) % 2147483647
  (n * n + 16807 * n + 7 * k) % 2147483587
def sABC : Str := "abc"
def abcAt (n : Int) : Str := ⟨#[(sABC.cps.toList[(n % 3).toNat]?).getD 97]⟩
def wordGo : Nat → Int → Str → Str
  | 0, _, t => t
  | n + 1, left, t => wordGo n (left / 3) (t ++ abcAt left)
def wordBy (cell : Int) : Str := wordGo (cell % 7).toNat (cell / 7) ""
theorem abc_at (n : Int) : ∃ ch, atI sABC.cps.toList (n % 3) = some ch ∧ abcAt n = ⟨#[ch]⟩ := by
  have h0 : 0 ≤ n % 3 := Int.emod_nonneg _ (by decide)
  have h1 : n % 3 < 3 := Int.emod_lt_of_pos _ (by decide)
  have hl : sABC.cps.toList.length = 3 := by decide +kernel
  refine ⟨sABC.cps.toList[(n % 3).toNat]'(by omega), ?_, ?_⟩
  · rw [atI_nat h0, List.getElem?_eq_getElem (by omega)]
  · unfold abcAt
    rw [List.getElem?_eq_getElem (by omega)]
    rfl
section
variable {P : Program} {w : World} {K : PySem.W.Frag} {mg : Str → Option Value} {base : Heap}
/-! _law_cell_at -/
def R_cell_at (ds : List PyData) (d : PyData) : Prop := ∃ (sc : List Int) (k : Int), 0 ≤ k ∧ ds = [.list (encZ sc), .int k] ∧ d = .int (cellAt sc k)
theorem sc_cell_at : FnScope ["script", "k"] ["script", "k"] (defScope KHead.s_law_cell_at) := ⟨rfl, rfl, rfl, by decide +kernel, rfl, by decide +kernel, by decide +kernel⟩
theorem ok_cell_at (T : Txt K mg) : DFn P w K mg base 1 "_law_cell_at" ["script", "k"] (spD K R_cell_at) := by
  refine T.fn2 53 44 rfl rfl (fun _ _ _ _ _ _ us hl => match us, hl with | [_, _], _ => rfl) fun f fd F => fn_D F sc_cell_at (fun ds d ⟨_, _, _, h, _⟩ => by rw [h]; rfl) fun cdv A outer s H E ds d hr ⟨sc, k, hk, e1, e2⟩ => ?_
  subst e1 e2
  refine ws_if1 (t := decide (k < sc.length)) (dt_to (tcm (cm_lt (v 1) (dp_lenL (ds := encZ sc) rfl T.b_len (dl_dat (v 0))))) (by unfold encZ; rw [List.length_map])) (fun h => ?_) fun h => ?_
  · have h := of_decide_eq_true h
    have e : sc[k.toNat]? = some (cellAt sc k) := by
      unfold cellAt
      rw [if_pos h, List.getElem?_eq_getElem (show k.toNat < sc.length by omega)]
      rfl
    exact ws_ret (de_pure (dp_ixL (ds := encZ sc) (d := .int (cellAt sc k)) (by unfold encZ; rw [atI_nat hk, List.getElem?_map, e]; rfl) (dl_dat (v 0)) (v 1))) rfl
  · have h := of_decide_eq_false h
    refine ws_ret (de_pure dp_int) ?_
    show _ = dat (.int (cellAt sc k))
    unfold cellAt
    rw [if_neg h]
/-! _law_mix -/
def R_mix (ds : List PyData) (d : PyData) : Prop := ∃ (cell k : Int), ds = [.int cell, .int k] ∧ d = .int (mixBy cell k)
theorem sc_mix : FnScope ["cell", "k", "mixed"] ["cell", "k"] (defScope KHead.s_law_mix) := ⟨rfl, rfl, rfl, by decide +kernel, rfl, by decide +kernel, by decide +kernel⟩
theorem ok_mix (T : Txt K mg) : DFn P w K mg base 1 "_law_mix" ["cell", "k"] (spD K R_mix) := by
  refine T.fn2 60 51 rfl rfl (fun _ _ _ _ _ _ us hl => match us, hl with | [_, _], _ => rfl) fun f fd F => fn_D F sc_mix (fun ds d ⟨_, _, h, _⟩ => by rw [h]; rfl) fun cdv A outer s H E ds d hr ⟨cell, k, e1, e2⟩ => ?_
  subst e1 e2
  have nd := sc_mix.nd
  have e : mixBy cell k = (((((cell * 69621 + 7001 * k + 3) % 2147483629) * ((cell * 69621 + 7001 * k + 3) % 2147483629) + 39373 * ((cell * 69621 + 7001 * k + 3) % 2147483629) + k) % 2147483647) * ((((cell * 69621 + 7001 * k + 3) % 2147483629) * ((cell * 69621 + 7001 * k + 3) % 2147483629) + 39373 * ((cell * 69621 + 7001 * k + 3) % 2147483629) + k) % 2147483647) + 16807 * ((((cell * 69621 + 7001 * k + 3) % 2147483629) * ((cell * 69621 + 7001 * k + 3) % 2147483629) + 39373 * ((cell * 69621 + 7001 * k + 3) % 2147483629) + k) % 2147483647) + 7 * k) % 2147483587 := rfl
  rw [e]
  have c1 : CMul cell 69621 := .inr ⟨by decide, by decide⟩
  have c2 : CMul 7001 k := .inl ⟨by decide, by decide⟩
  refine ws_set 2 (de_pure (dp_mod (by decide) (dp_add (dp_add (dp_mul c1 (v 0) dp_int) (dp_mul c2 dp_int (v 1))) dp_int) dp_int)) ?_
  have m1 : 0 ≤ (cell * 69621 + 7001 * k + 3) % 2147483629 := Int.emod_nonneg _ (by decide)
  have m2 : (cell * 69621 + 7001 * k + 3) % 2147483629 < 2147483629 := Int.emod_lt_of_pos _ (by decide)
  generalize (cell * 69621 + 7001 * k + 3) % 2147483629 = m at m1 m2
  refine ws_set 2 (de_pure (dp_mod (by decide) (dp_add (dp_add (dp_mul (m := m) (n := m) (.inl ⟨by omega, by omega⟩) (v 2) (v 2)) (dp_mul (n := m) (.inl ⟨by decide, by decide⟩) dp_int (v 2))) (v 1)) dp_int)) ?_
  have n1 : 0 ≤ (m * m + 39373 * m + k) % 2147483647 := Int.emod_nonneg _ (by decide)
  have n2 : (m * m + 39373 * m + k) % 2147483647 < 2147483647 := Int.emod_lt_of_pos _ (by decide)
  generalize (m * m + 39373 * m + k) % 2147483647 = n at n1 n2
  exact ws_ret (de_pure (dp_mod (by decide) (dp_add (dp_add (dp_mul (m := n) (n := n) (.inl ⟨by omega, by omega⟩) (v 2) (v 2)) (dp_mul (n := n) (.inl ⟨by decide, by decide⟩) dp_int (v 2))) (dp_mul (n := k) (.inl ⟨by decide, by decide⟩) dp_int (v 1))) dp_int)) rfl
/-! _law_word -/
def R_word (ds : List PyData) (d : PyData) : Prop := ∃ cell : Int, ds = [.int cell, .int 6] ∧ d = .str (wordBy cell)
theorem sc_word : FnScope ["cell", "most", "text", "left", "k"] ["cell", "most"] (defScope KHead.s_law_word) := ⟨rfl, rfl, rfl, by decide +kernel, rfl, by decide +kernel, by decide +kernel⟩
theorem str_app_len (x y : Str) : (x ++ y).length = x.length + y.length := by
  show (x.cps ++ y.cps).size = _
  rw [Array.size_append]
  rfl
theorem ok_word (T : Txt K mg) : DFn P w K mg base 1 "_law_word" ["cell", "most"] (spD K R_word) := by
  refine T.fn2 59 50 rfl rfl (fun _ _ _ _ _ _ us hl => match us, hl with | [_, _], _ => rfl) fun f fd F => fn_D F sc_word (fun ds d ⟨_, h, _⟩ => by rw [h]; rfl) fun cdv A outer s H E ds d hr ⟨cell, e1, e2⟩ => ?_
  subst e1 e2
  have nd := sc_word.nd
  have h0 : 0 ≤ cell % 7 := Int.emod_nonneg _ (by decide)
  have h1 : cell % 7 < 7 := Int.emod_lt_of_pos _ (by decide)
  refine ws_set 2 (de_pure dp_str) (ws_set 3 (de_pure (dp_to (dp_fdiv (n := 6 + 1) ⟨by decide, by decide⟩ (v 0) (dp_add (v 1) dp_int)) rfl)) ?_)
  refine ws_forN (S := Int × Str) (xs := List.range (cell % 7).toNat) 4 (fun i : Nat => .int (0 + (i : Int))) (fun l s => wordGo l.length s.1 s.2 = wordBy cell ∧ s.2.length + l.length ≤ 7) (fun s => [some (dat (.int cell)), some (dat (.int 6)), some (dat (.str s.2)), some (dat (.int s.1)), none]) (cell / 7, "")
    (di_range1 (n := cell % 7) (by omega) (by omega) rfl T.b_range (dp_to (dp_mod (n := 6 + 1) (by decide) (v 0) (dp_add (v 1) dp_int)) rfl)) ⟨by rw [List.length_range]; rfl, by rw [List.length_range]; show 0 + _ ≤ 7; omega⟩ (Sub.refl _) ?_ ?_
  · rintro i l ⟨left, tx⟩ _ ⟨j1, j2⟩
    have j2 : tx.length + (l.length + 1) ≤ 7 := j2
    have j1 : wordGo l.length (left / 3) (tx ++ abcAt left) = wordBy cell := j1
    obtain ⟨ch, c1, c2⟩ := abc_at left
    have hl : sABC.length ≤ sizeLine := Nat.le_of_ble_eq_true rfl
    refine ws_set 2 (de_pure (dp_addS (y := tx) (z := abcAt left) (sz (by rw [c2]; show tx.length + 1 ≤ _; omega)) (v 2) (by rw [c2]; exact dp_ixS (y := sABC) hl c1 dp_str (dp_mod (m := left) (n := 3) (by decide) (v 3) dp_int)))) ?_
    refine ws_set 3 (de_pure (dp_fdiv (m := left) (n := 3) ⟨by decide, by decide⟩ (v 3) dp_int)) ?_
    refine ws_nil ⟨(left / 3, tx ++ abcAt left), ⟨j1, ?_⟩, .same (.same (.same (.same (.drop .nil))))⟩
    show (tx ++ abcAt left).length + l.length ≤ 7
    rw [str_app_len, c2]
    show tx.length + 1 + l.length ≤ 7
    omega
  · rintro ⟨left, tx⟩ ⟨j1, _⟩
    have j1 : tx = wordBy cell := j1
    refine ws_ret (de_pure (v 2)) ?_
    rw [j1]
end
end DL


set_option Elab.async false
set_option linter.all false
set_option maxRecDepth 100000
set_option maxHeartbeats 4000000
/-! W16: the law's grammars. -/
namespace DL
open PySem PySem.Spec PyProof.Rows L2

def sPARTS : Str := "abcSAB"
def sSAB : Str := "SAB"
def chAt (y : Str) (m n : Int) : Str := ⟨#[(y.cps.toList[(n % m).toNat]?).getD 97]⟩
theorem ch_at (y : Str) (m n : Int) (hm : 0 < m) (hl : (y.cps.toList.length : Int) = m) : ∃ ch, atI y.cps.toList (n % m) = some ch ∧ chAt y m n = ⟨#[ch]⟩ ∧ ch ∈ y.cps.toList := by
  have h0 : 0 ≤ n % m := Int.emod_nonneg _ (by omega)
  have h1 : n % m < m := Int.emod_lt_of_pos _ hm
  have hlt : (n % m).toNat < y.cps.toList.length := by omega
  refine ⟨y.cps.toList[(n % m).toNat], ?_, ?_, List.getElem_mem hlt⟩
  · rw [atI_nat h0, List.getElem?_eq_getElem hlt]
  · unfold chAt
    rw [List.getElem?_eq_getElem hlt]
    rfl
def partsGo : Nat → Int → List Str → List Str
  | 0, _, l => l
  | n + 1, left, l => partsGo n (left / 6) (l ++ [chAt sPARTS 6 left])
def ruleBy (cell : Int) : Rl := (chAt sSAB 3 cell, partsGo (cell / 3 % 4).toNat (cell / 12) [])
section
variable {P : Program} {w : World} {K : PySem.W.Frag} {mg : Str → Option Value} {base : Heap}
/-! _law_rule_by -/
def R_rule_by (ds : List PyData) (d : PyData) : Prop := ∃ cell : Int, ds = [.int cell] ∧ d = encR (ruleBy cell)
theorem sc_rule_by : FnScope ["cell", "parts", "left", "k"] ["cell"] (defScope KHead.s_law_rule_by) := ⟨rfl, rfl, rfl, by decide +kernel, rfl, by decide +kernel, by decide +kernel⟩
theorem ok_rule_by (T : Txt K mg) : DFn P w K mg base 1 "_law_rule_by" ["cell"] (spD K R_rule_by) := by
  refine T.fn2 55 46 rfl rfl (fun _ _ _ _ _ _ us hl => match us, hl with | [_], _ => rfl) fun f fd F => fn_D F sc_rule_by (fun ds d ⟨_, h, _⟩ => by rw [h]; rfl) fun cdv A outer s H E ds d hr ⟨cell, e1, e2⟩ => ?_
  subst e1 e2
  have nd := sc_rule_by.nd
  have h0 : 0 ≤ cell / 3 % 4 := Int.emod_nonneg _ (by decide)
  have h1 : cell / 3 % 4 < 4 := Int.emod_lt_of_pos _ (by decide)
  have l6 : (sPARTS.cps.toList.length : Int) = 6 := by decide +kernel
  have l3 : (sSAB.cps.toList.length : Int) = 3 := by decide +kernel
  have hl6 : sPARTS.length ≤ sizeLine := Nat.le_of_ble_eq_true rfl
  have hl3 : sSAB.length ≤ sizeLine := Nat.le_of_ble_eq_true rfl
  refine ws_set 1 (de_lst da_nil (Nat.zero_le _)) (ws_set 2 (de_pure (dp_fdiv (m := cell) (n := 12) ⟨by decide, by decide⟩ (v 0) dp_int)) ?_)
  refine ws_forN (S := Int × List Str) (xs := List.range (cell / 3 % 4).toNat) 3 (fun i : Nat => .int (0 + (i : Int))) (fun l s => partsGo l.length s.1 s.2 = (ruleBy cell).2 ∧ s.2.length + l.length ≤ 4) (fun s => [some (dat (.int cell)), some (.b (.ol (encS s.2))), some (dat (.int s.1)), none]) (cell / 12, [])
    (di_range1 (n := cell / 3 % 4) (by omega) (by omega) rfl T.b_range (dp_mod (m := cell / 3) (n := 4) (by decide) (dp_fdiv (m := cell) (n := 3) ⟨by decide, by decide⟩ (v 0) dp_int) dp_int)) ⟨by rw [List.length_range]; rfl, by rw [List.length_range]; show 0 + _ ≤ 4; omega⟩ (Sub.refl _) ?_ ?_
  · rintro i l ⟨left, ps⟩ _ ⟨j1, j2⟩
    have j2 : ps.length + (l.length + 1) ≤ 4 := j2
    have j1 : partsGo l.length (left / 6) (ps ++ [chAt sPARTS 6 left]) = (ruleBy cell).2 := j1
    obtain ⟨ch, c1, c2, _⟩ := ch_at sPARTS 6 left (by decide) l6
    refine ws_exp (de_append 1 (ds := encS ps) (ds0 := encS ps) (d := .str (chAt sPARTS 6 left)) rfl (de_pure (by rw [c2]; exact dp_ixS (y := sPARTS) hl6 c1 dp_str (dp_mod (m := left) (n := 6) (by decide) (v 2) dp_int))) rfl (szl (by simp [encS]; omega))) ?_
    refine ws_set 2 (de_pure (dp_fdiv (m := left) (n := 6) ⟨by decide, by decide⟩ (v 2) dp_int)) ?_
    refine ws_nil ⟨(left / 6, ps ++ [chAt sPARTS 6 left]), ⟨j1, ?_⟩, ?_⟩
    · show (ps ++ [_]).length + l.length ≤ 4
      rw [List.length_append, List.length_singleton]
      omega
    · show Sub _ [_, some (.b (.ol (encS (ps ++ [chAt sPARTS 6 left])))), _, _]
      have e : encS (ps ++ [chAt sPARTS 6 left]) = encS ps ++ [.str (chAt sPARTS 6 left)] := by simp [encS]
      rw [e]
      exact .same (.same (.same (.drop .nil)))
  · rintro ⟨left, ps⟩ ⟨j1, _⟩
    have j1 : ps = (ruleBy cell).2 := j1
    obtain ⟨ch, c1, c2, _⟩ := ch_at sSAB 3 cell (by decide) l3
    refine ws_ret (de_pure (dp_tup (ds := [.str (chAt sSAB 3 cell), .tuple (encS ps)]) (da_cons (by rw [c2]; exact dp_ixS (y := sSAB) hl3 c1 dp_str (dp_mod (m := cell) (n := 3) (by decide) (v 0) dp_int)) (da_cons (dp_tupleL (ds := encS ps) rfl T.b_tuple (vl 1)) da_nil)) (Nat.le_of_ble_eq_true rfl))) ?_
    rw [j1]
    rfl
/-! _law_next -/
def R_next (ds1 : List PyData) (s : Sl) (ds2 : List PyData) (s' : Sl) (d : PyData) : Prop := ∃ (sc : List Int) (n : Nat), ds1 = [.list (encZ sc)] ∧ s = .b (.ol [.int (n : Int)]) ∧ ds2 = [] ∧ s' = .b (.ol [.int ((n + 1 : Nat) : Int)]) ∧ d = .int (cellAt sc (n : Int))
theorem sc_next : FnScope ["script", "spot"] ["script", "spot"] (defScope KHead.s_law_next) := ⟨rfl, rfl, rfl, by decide +kernel, rfl, by decide +kernel, by decide +kernel⟩
theorem ok_next (T : Txt K mg) : DFn P w K mg base 2 "_law_next" ["script", "spot"] (spO P w K R_next) := by
  refine T.fn2 54 45 rfl rfl (fun _ _ _ _ _ _ us hl => match us, hl with | [_, _], _ => rfl) fun f fd F => fn_O F sc_next (fun ds1 s ds2 s' d ⟨_, _, h1, _, h2, _⟩ => by rw [h1, h2]; rfl) fun cdv A outer s H E ds1 t0 ds2 t' d hr ⟨sc, n, e1, e2, e3, e4, e5⟩ => ?_
  subst e1 e2 e3 e4 e5
  refine ws_setL 1 (j := 0) (jj := 0) (d := .int ((n + 1 : Nat) : Int)) (dp_to (dp_add (m := (n : Int)) (n := 1) (dp_ixL (ds := [.int (n : Int)]) (by rw [atI_nat (Int.le_refl 0)]; rfl) (vl 1) dp_int) dp_int) (by congr 1)) rfl dp_int rfl ?_
  refine ws_ret (de_pure (dp_call (ok_cell_at T) hr ⟨sc, (n : Int), by omega, rfl, rfl⟩ (da_cons (v 0) (da_cons (dp_to (dp_sub (m := ((n + 1 : Nat) : Int)) (n := 1) (dp_ixL (ds := [.int ((n + 1 : Nat) : Int)]) (by rw [atI_nat (Int.le_refl 0)]; rfl) (vl 1) dp_int) dp_int) (by congr 1; omega)) da_nil)))) ⟨rfl, rfl⟩
end
end DL


set_option Elab.async false
set_option linter.all false
set_option maxRecDepth 100000
set_option maxHeartbeats 4000000
/-! W17: the law's known grammars. -/
namespace DL
open PySem PySem.Spec PyProof.Rows L2

section
variable {X : Cx} {n : Nat} {Γ Γ1 : Ctx} {p : Po} {rest : List Stmt} {e : Expr} {pos p1 p2 p3 pp : Pos} {x y : Str} {d d0 d1 d2 : PyData} {i j k tn : Nat} {ps : List Str}
/-- f(e), where e does something -/
theorem de_call1 {R : List PyData → PyData → Prop} (F : XFn X k x ps (spD X.K R)) (hr : Room k X.A) (hR : R [d0] d) (ha : DE X e Γ Γ1 (dat d0)) (hg : Gl X x := by rfl) (hdb : (x == ("__debug__" : Str)) = false := by decide) (he : NoStar X e [] := by rfl) (hpl : PlainOk X [] pos := by rfl) :
    DE X (.Call (.Name x pp) [e] [] pos) Γ Γ1 (dat d) := by
  obtain ⟨f, fd, F, hm, hk, hb⟩ := F.ex
  refine de_of (pe_call F hr hg hm hk hb .nil pass0 (pa_one ha he) hdb he hpl) fun σ H Hf fps ok Q q => ⟨Hf, fps, ok, fun v Hf1 H1 fps1 f o1 r1 s1 => ?_⟩
  show spD X.K R [v] H1 Q E0
  obtain ⟨rfl, hv1⟩ := r1.dv
  exact ⟨Hf1, [d0], d, o1.sub, .one hv1, hR, fun u Hf2 H2 g2 hu => q u Hf2 H2 fps1 [] (o1.growG g2) (Rs.dat hu) (s1.trans g2.step)⟩
theorem dgl_pg (hc : X.calm = true) (nd : X.N.Nodup) (hi : X.N[i]? = some x) (hx : Loc X.env.scope x) (hf : X.fn x = true ∨ X.env.scope.names.lookup x = some .local) (hj : X.N[j]? = some y) (hy : Loc X.env.scope y) (hf' : X.fn y = true ∨ X.env.scope.names.lookup y = some .local) :
    PG X (.Tuple [.Name x p1, .Name y p2] tn p3) (tG X.prog X.w X.K (.list [d1, d2]) [(i, d1), (j, d2)]) := by
  refine ⟨fun pins s σ H v u Q I r z => ?_⟩
  obtain ⟨Hf, hd, sub, k⟩ := z
  cases hd with
  | @lst a xs _ h1 h2 =>
    cases h2 with
    | @cons v1 vs1 _ _ g1 g2 =>
      cases g2 with
      | @cons v2 vs2 _ _ g2 g3 =>
        cases g3
        refine (pg_lst (n := 2) hc (pgs_cons (pg_name nd hi hx hf) (pgs_cons (pg_name nd hj hy hf') pgs_nil))).run pins s σ H _ u Q I r ⟨a, _, rfl, Same.seq sub h1, rfl, _, _, rfl, _, _, rfl, rfl, k _ (fun Γ fps o => ?_) (fun vs hv => ?_) fun l hl => ?_⟩
        · obtain ⟨f1, o1, e1⟩ := o.setD g1 i
          obtain ⟨f2, o2, e2⟩ := o1.setD g2 j
          exact ⟨f2, o2, fun a z => e1 a (e2 a z)⟩
        · rw [wipe_set _ vs (hv (j, d2) (by simp)), wipe_set _ vs (hv (i, d1) (by simp))]
        · rw [List.getElem?_set_ne (hl (j, d2) (by simp)), List.getElem?_set_ne (hl (i, d1) (by simp))]
/-- x, y = e, e a list of two -/
theorem ws_pairL (i j : Nat) (he : DP X e Γ (.list [d1, d2])) (hr : WS X n rest ((Γ.set i (some (dat d1))).set j (some (dat d2))) p) (nd : X.N.Nodup := by assumption) (hN : X.N[i]? = some x := by rfl) (hN2 : X.N[j]? = some y := by rfl) (hx : VisT X x := by first | exact Or.inl rfl | exact Or.inr rfl) (hf : FnL X x := by first | exact .inl rfl | exact .inr rfl) (hy : VisT X y := by first | exact Or.inl rfl | exact Or.inr rfl) (hf2 : FnL X y := by first | exact .inl rfl | exact .inr rfl) (hl : n ≤ i := by decide) (hl2 : n ≤ j := by decide) (hc : X.calm = true := by rfl)
    (hs : swapsWithSole [.Tuple [.Name x p1, .Name y p2] tn p3] e pos.line X.env = pure false := by rfl) (hw : swappedStores [.Tuple [.Name x p1, .Name y p2] tn p3] e X.env = pure none := by rfl)
    (h1 : (assignEach [.Tuple [.Name x p1, .Name y p2] tn p3] X.env).map (·.2) = [assign (.Tuple [.Name x p1, .Name y p2] tn p3) X.env] := by rfl) : WS X n (.Assign [.Tuple [.Name x p1, .Name y p2] tn p3] e pos :: rest) Γ p :=
  ws_of (pss_cons (ps_asg he (dgl_pg (d1 := d1) (d2 := d2) hc nd hN hx hf hN2 hy hf2) hs hw h1) hr) fun D σ H Hf fps ok g => tD_run ok fun v Hf1 H1 g1 hv => by
    have o1 := ok.growG g1
    refine ⟨Hf1, hv, o1.sub, fun σ' k1 _ k3 => ?_⟩
    obtain ⟨fps2, o2, w2⟩ := k1 Γ fps o1
    refine ⟨Hf1, fps2, o2, g.step ((Rch.of g1.step).trans ⟨Step.refl.imp w2, fun l hl3 => k3 l fun q hq => ?_⟩)⟩
    rcases List.mem_cons.mp hq with e | hq
    · rw [e]; show i ≠ l; omega
    · rw [List.mem_singleton.mp hq]; show j ≠ l; omega
end
def knownS : List Str := ["S=aSbS S=", "S=SaA S=A A=b A=cSc", "S=aSa S=bSb S=a S=b S=", "S=aS S=aSbS S=c", "S=AS S=A A=a A=b", "S=AB A= A=a B=A B=b", "S=A S=a A=S A=b", "S=aSb S=ab", "S=SS S=a", "S=aAa S=bAb S=aBb S=bBa A=c B=c", "S=a S=A A=aA", "S=ab A=bS", "S=ASb S=a A= A=c", "S=aSS S=b", "S=A A=B B=S B=c", "S=SAS S=a A=b A=c"]
def sSP : Str := " "
def sEQ : Str := "="
def knownAt (n : Int) : Str := (knownS[(n % 16).toNat]?).getD ""
def wordPair (w : Str) : Str × Str := match Txt.split w sEQ with
  | [a, b] => (a, b)
  | _ => ("", "")
def ruleOfW (w : Str) : Rl := ((wordPair w).1, fText (wordPair w).2)
def knownBy (n : Int) : Gr := (Txt.split (knownAt n) sSP).map ruleOfW
def knownOk (y : Str) : Bool := decide (y.length ≤ 100) && ((Txt.split y sSP).all fun w => decide (w.length ≤ 100) && decide (Txt.split w sEQ = [(wordPair w).1, (wordPair w).2]) && decide ((wordPair w).2.length ≤ 100)) && decide ((Txt.split y sSP).length ≤ 10)
theorem known_all : ∀ y ∈ knownS, knownOk y = true := by decide +kernel
theorem known_mem (n : Int) : knownAt n ∈ knownS ∧ knownS[(n % 16).toNat]? = some (knownAt n) := by
  have h0 : 0 ≤ n % 16 := Int.emod_nonneg _ (by decide)
  have h1 : n % 16 < 16 := Int.emod_lt_of_pos _ (by decide)
  have hl : knownS.length = 16 := rfl
  have e : knownS[(n % 16).toNat]? = some (knownS[(n % 16).toNat]'(by omega)) := List.getElem?_eq_getElem _
  unfold knownAt
  rw [e]
  exact ⟨List.getElem_mem _, rfl⟩
section
variable {P : Program} {w : World} {K : PySem.W.Frag} {mg : Str → Option Value} {base : Heap}
/-! _law_known -/
def R_known (ds : List PyData) (t : Sl) : Prop := ∃ n : Int, ds = [.int n] ∧ t = .b (.ol ((knownBy n).map encR))
theorem sc_known : FnScope ["number", "some", "rules", "word", "name", "parts"] ["number"] (defScope KHead.s_law_known) := ⟨rfl, rfl, rfl, by decide +kernel, rfl, by decide +kernel, by decide +kernel⟩
theorem ok_known (T : Txt K mg) : DFn P w K mg base 1 "_law_known" ["number"] (spR P w K R_known) := by
  refine T.fn2 56 47 rfl rfl (fun _ _ _ _ _ _ us hl => match us, hl with | [_], _ => rfl) fun f fd F => fn_R F sc_known (fun ds s ⟨_, h, _⟩ => by rw [h]; rfl) fun cdv A outer s H E ds t0 hr ⟨num, e1, e2⟩ => ?_
  subst e1 e2
  have nd := sc_known.nd
  have hm := known_mem num
  have hk := known_all _ hm.1
  unfold knownOk at hk
  simp only [Bool.and_eq_true, decide_eq_true_eq, List.all_eq_true] at hk
  obtain ⟨⟨k1, k2⟩, k3⟩ := hk
  have h0 : 0 ≤ num % 16 := Int.emod_nonneg _ (by decide)
  refine ws_set 1 (de_pure (dp_lst (da_cons dp_str (da_cons dp_str (da_cons dp_str (da_cons dp_str da_nil)))) (Nat.le_of_ble_eq_true rfl))) ?_
  refine ws_set 1 (de_pure (dp_catL (Nat.le_of_ble_eq_true rfl) (vd 1) (dl_dat (dp_lst (da_cons dp_str (da_cons dp_str (da_cons dp_str (da_cons dp_str da_nil)))) (Nat.le_of_ble_eq_true rfl))))) ?_
  refine ws_set 1 (de_pure (dp_catL (Nat.le_of_ble_eq_true rfl) (vd 1) (dl_dat (dp_lst (da_cons dp_str (da_cons dp_str (da_cons dp_str (da_cons dp_str da_nil)))) (Nat.le_of_ble_eq_true rfl))))) ?_
  refine ws_set 1 (de_pure (dp_catL (Nat.le_of_ble_eq_true rfl) (vd 1) (dl_dat (dp_lst (da_cons dp_str (da_cons dp_str (da_cons dp_str (da_cons dp_str da_nil)))) (Nat.le_of_ble_eq_true rfl))))) ?_
  refine ws_set 2 (de_lst da_nil (Nat.zero_le _)) ?_
  refine ws_forN (S := Gr) (xs := Txt.split (knownAt num) sSP) 3 (fun w : Str => PyData.str w) (fun l acc => acc ++ l.map ruleOfW = knownBy num ∧ acc.length ≤ 10) (fun acc => [some (dat (.int num)), some (dat (.list (knownS.map PyData.str))), some (.b (.ol (acc.map encR))), none, none, none]) []
    (di_dat (dp_split (y := knownAt num) (z := sSP) rfl (sz (by omega)) (dp_ixL (ds := knownS.map PyData.str) (n := num % 16) (by rw [atI_nat h0, List.getElem?_map, hm.2]; rfl) (vd 1) (dp_mod (by decide) (v 0) dp_int)) dp_str)) ⟨rfl, Nat.zero_le _⟩ (Sub.refl _) ?_ ?_
  · intro wd l acc hw ⟨j1, j2⟩
    obtain ⟨⟨w1, w2⟩, w3⟩ := k2 wd hw
    refine ws_pairL 4 5 (d1 := .str (wordPair wd).1) (d2 := .str (wordPair wd).2) (dp_to (dp_split (y := wd) (z := sEQ) rfl (sz (by omega)) (v 3) dp_str) (by rw [w2]; rfl)) ?_
    refine ws_exp (de_append 2 (ds := acc.map encR) (ds0 := acc.map encR) (d := encR (ruleOfW wd)) rfl (de_pure (dp_tup (ds := [.str (wordPair wd).1, .tuple (encS (fText (wordPair wd).2))]) (da_cons (v 4) (da_cons (dp_to (dp_tupleL rfl T.b_tuple (dl_dat (dp_listS (z := (wordPair wd).2) (sz (by omega)) (v 5) rfl T.b_list))) (by rw [signs_S])) da_nil)) (Nat.le_of_ble_eq_true rfl))) rfl (szl (by rw [List.length_map]; omega))) ?_
    have hlen : (acc ++ (wd :: l).map ruleOfW).length ≤ 10 := by
      rw [j1]
      unfold knownBy
      rw [List.length_map]
      exact k3
    refine ws_nil ⟨acc ++ [ruleOfW wd], ⟨by rw [List.append_assoc]; exact j1, ?_⟩, ?_⟩
    · rw [List.length_append, List.length_map, List.length_cons] at hlen
      rw [List.length_append, List.length_singleton]
      omega
    · show Sub _ [_, _, some (.b (.ol ((acc ++ [ruleOfW wd]).map encR))), _, _, _]
      rw [List.map_append]
      exact .same (.same (.same (.drop (.drop (.drop .nil)))))
  · rintro acc ⟨j1, _⟩
    have j1 : acc = knownBy num := by simpa using j1
    refine ws_ret (mv 2) ?_
    rw [j1]
end
end DL


set_option Elab.async false
set_option linter.all false
set_option maxRecDepth 100000
set_option maxHeartbeats 4000000
/-! W18: the law's grammars closed. -/
namespace DL
open PySem PySem.Spec PyProof.Rows L2

def dedStep (acc : Gr) (r : Rl) : Gr := if r ∈ acc then acc else acc ++ [r]
def dedup (g : Gr) : Gr := g.foldl dedStep []
def trip : List (Str × Str × Nat) := [("S", "c", 0), ("A", "a", 1), ("B", "b", 2)]
def hasOf (acc : Gr) (x : Str) : Gr := acc.filter fun r => decide (r.1 = x)
def usedOf (acc : Gr) (x : Str) : Gr := acc.filter fun r => decide (x ∈ r.2)
def fillStep (acc : Gr) (t : Str × Str × Nat) : Gr := if 0 < (usedOf acc t.1).length ∧ (hasOf acc t.1).length = 0 then acc ++ [(t.1, [t.2.1])] else acc
def closedGr (g : Gr) : Gr := trip.foldl fillStep (dedup g)
theorem eqvAll_S : ∀ l m : List Str, PyData.eqvAll (encS l) (encS m) = decide (l = m)
  | [], [] => by simp [encS, PyData.eqvAll]
  | [], _ :: _ => by simp [encS, PyData.eqvAll]
  | _ :: _, [] => by simp [encS, PyData.eqvAll]
  | a :: l, b :: m => by
    have ih := eqvAll_S l m
    unfold encS at ih ⊢
    rw [List.map_cons, List.map_cons, PyData.eqvAll, ih]
    by_cases h : a = b <;> by_cases h2 : l = m <;> simp [PyData.eqv, h, h2]
theorem eqv_encR (a b : Rl) : PyData.eqv (encR a) (encR b) = decide (a = b) := by
  obtain ⟨a1, a2⟩ := a
  obtain ⟨b1, b2⟩ := b
  unfold encR
  have ih := eqvAll_S a2 b2
  simp only [PyData.eqv, PyData.eqvAll, ih]
  by_cases h : a1 = b1 <;> by_cases h2 : a2 = b2 <;> simp [h, h2]
theorem depth_encR (a : Rl) : PyData.depth (encR a) = 2 := by
  unfold encR
  simp [PyData.depth, PyData.depthAll, depth_S]
/-- texts that can be told -/
structure RlOk (r : Rl) : Prop where
  nm : PyData.strOk r.1 = true
  pt : ∀ p ∈ r.2, PyData.strOk p = true
theorem lay_encR {r : Rl} (h : RlOk r) : PyData.canLay0 (encR r) = true := by
  unfold encR
  have h2 : PyData.canLayAll0 (encS r.2) = true := by
    have : ∀ l : List Str, (∀ p ∈ l, PyData.strOk p = true) → PyData.canLayAll0 (encS l) = true := by
      intro l
      induction l with
      | nil => intro _; simp [encS, PyData.canLayAll0]
      | cons a l ih =>
        intro hl
        unfold encS at ih ⊢
        rw [List.map_cons, PyData.canLayAll0, ih fun p hp => hl p (List.mem_cons_of_mem _ hp)]
        simp [PyData.canLay0, hl a List.mem_cons_self]
    exact this r.2 h.pt
  simp [PyData.canLay0, PyData.canLayAll0, h.nm, h2]
theorem lay_encRs {l : Gr} (h : ∀ r ∈ l, RlOk r) : PyData.canLayAll0 (l.map encR) = true := by
  induction l with
  | nil => simp [PyData.canLayAll0]
  | cons a l ih =>
    rw [List.map_cons, PyData.canLayAll0, ih fun r hr => h r (List.mem_cons_of_mem _ hr), lay_encR (h a List.mem_cons_self)]
    rfl
theorem ded_sub {acc : Gr} {r x : Rl} (h : x ∈ dedStep acc r) : x ∈ acc ∨ x = r := by
  unfold dedStep at h
  split at h
  · exact .inl h
  · rcases List.mem_append.mp h with z | z
    · exact .inl z
    · exact .inr (List.mem_singleton.mp z)
theorem ded_len (acc : Gr) (r : Rl) : (dedStep acc r).length ≤ acc.length + 1 := by
  unfold dedStep
  split
  · exact Nat.le_succ _
  · rw [List.length_append]; exact Nat.le_refl _
theorem fill_len (acc : Gr) (t : Str × Str × Nat) : (fillStep acc t).length ≤ acc.length + 1 := by
  unfold fillStep
  split
  · rw [List.length_append]; exact Nat.le_refl _
  · exact Nat.le_succ _
theorem trip_ok : ∀ t ∈ trip, Builtin.Str.occurrences sSAB t.1 0 sSAB.length 1 = [t.2.2] ∧ ([("c" : Str), "a", "b"])[t.2.2]? = some t.2.1 := by decide +kernel
section
variable {P : Program} {w : World} {K : PySem.W.Frag} {mg : Str → Option Value} {base : Heap}
/-! _law_closed -/
def R_lclosed (ds : List PyData) (d : PyData) : Prop := ∃ g : Gr, g.length ≤ 100 ∧ (∀ r ∈ g, RlOk r) ∧ ds = [encG g] ∧ d = encG (closedGr g)
theorem sc_lclosed : FnScope ["rules", "found", "rule", "name", "has", "used"] ["rules"] (defScope KHead.s_law_closed) := ⟨rfl, rfl, rfl, by decide +kernel, rfl, by decide +kernel, by decide +kernel⟩
theorem ok_lclosed (T : Txt K mg) : DFn P w K mg base 1 "_law_closed" ["rules"] (spD K R_lclosed) := by
  refine T.fn2 57 48 rfl rfl (fun _ _ _ _ _ _ us hl => match us, hl with | [_], _ => rfl) fun f fd F => fn_D F sc_lclosed (fun ds d ⟨_, _, _, h, _⟩ => by rw [h]; rfl) fun cdv A outer s H E ds d hr ⟨g, hgl, hg, e1, e2⟩ => ?_
  subst e1 e2
  have nd := sc_lclosed.nd
  refine ws_set 1 (de_lst da_nil (Nat.zero_le _)) ?_
  refine ws_forN (S := Gr) (xs := g) 2 encR (fun l acc => l.foldl dedStep acc = dedup g ∧ acc.length + l.length ≤ 100 ∧ ∀ r ∈ acc, RlOk r) (fun acc => [some (dat (encG g)), some (.b (.ol (acc.map encR))), none, none, none, none]) []
    (di_dat (v 0)) ⟨rfl, by show 0 + _ ≤ _; omega, fun _ h => (List.not_mem_nil h).elim⟩ (Sub.refl _) ?_ ?_
  · intro r l acc hr2 ⟨j1, j2, j3⟩
    have hro := hg r hr2
    have j2 : acc.length + (l.length + 1) ≤ 100 := j2
    have hd := ded_len acc r
    have jn : l.foldl dedStep (dedStep acc r) = dedup g ∧ (dedStep acc r).length + l.length ≤ 100 ∧ ∀ x ∈ dedStep acc r, RlOk x := ⟨j1, by omega, fun x hx => (ded_sub hx).elim (j3 x) fun e => by rw [e]; exact hro⟩
    refine ws_if1 (t := !decide (r ∈ acc)) (dt_to (tcm (cm_notInG (da := encR r) (ds := acc.map encR) (lay_encR hro) (lay_encRs j3) (by rw [depth_encR]; exact un3 hr (by omega)) (v 2) (vl 1))) ?_) (fun h => ?_) fun h => ?_
    · congr 1
      rw [List.any_map, Bool.eq_iff_iff, List.any_eq_true, decide_eq_true_eq]
      constructor
      · rintro ⟨x, hx, e⟩
        have e : PyData.eqv (encR x) (encR r) = true := e
        rw [eqv_encR, decide_eq_true_eq] at e
        rw [← e]; exact hx
      · intro h
        refine ⟨r, h, ?_⟩
        show PyData.eqv (encR r) (encR r) = true
        rw [eqv_encR]
        exact decide_eq_true rfl
    · have hn : ¬ r ∈ acc := by simpa using h
      refine ws_exp (de_append 1 (ds := acc.map encR) (ds0 := acc.map encR) (d := encR r) rfl (de_pure (v 2)) rfl (szl (by rw [List.length_map]; omega))) ?_
      refine ws_nil (ws_nil ⟨dedStep acc r, jn, ?_⟩)
      show Sub _ [_, some (.b (.ol ((dedStep acc r).map encR))), _, _, _, _]
      unfold dedStep
      rw [if_neg hn, List.map_append]
      exact .same (.same (.drop (.same (.same (.same .nil)))))
    · have hn : r ∈ acc := by simpa using h
      refine ws_nil ⟨dedStep acc r, jn, ?_⟩
      show Sub _ [_, some (.b (.ol ((dedStep acc r).map encR))), _, _, _, _]
      unfold dedStep
      rw [if_pos hn]
      exact .same (.same (.drop (.same (.same (.same .nil)))))
  · intro acc0 ⟨j1, j2, j3⟩
    have j1 : acc0 = dedup g := j1
    have j2 : acc0.length ≤ 100 := j2
    refine ws_forN (S := Gr) (xs := trip) 3 (fun t : Str × Str × Nat => PyData.str t.1) (fun l acc => l.foldl fillStep acc = closedGr g ∧ acc.length + l.length ≤ 103) (fun acc => [some (dat (encG g)), some (.b (.ol (acc.map encR))), none, none, none, none]) acc0
      (di_dat (dp_lst (da_cons dp_str (da_cons dp_str (da_cons dp_str da_nil))) (Nat.le_of_ble_eq_true rfl))) ⟨by rw [j1]; rfl, by show acc0.length + 3 ≤ 103; omega⟩ (Sub.refl _) ?_ ?_
    · intro t l acc ht ⟨q1, q2⟩
      have q2 : acc.length + (l.length + 1) ≤ 103 := q2
      obtain ⟨o1, o2⟩ := trip_ok t ht
      refine ws_setLcN 4 2 encR (fun r : Rl => decide (r.1 = t.1)) encR (xs := acc) (di_list (vl 1)) (fun a ha s H C cl fp => dts_one (dt_to (tcm (cm_eqS rfl (dp_ixT (d := .str a.1) rfl (v 2) dp_int) (v 3))) rfl)) (fun a ha _ s H C cl fp => v 2) (szl (by omega)) ?_
      refine ws_setLcN 5 2 encR (fun r : Rl => decide (t.1 ∈ r.2)) encR (xs := acc) (di_list (vl 1)) (fun a ha s H C cl fp => dts_one (tcm (cm_inST (ys := a.2) (v 3) (dp_ixT (d := .tuple (encS a.2)) rfl (v 2) dp_int)))) (fun a ha _ s H C cl fp => v 2) (szl (by omega)) ?_
      have hf := fill_len acc t
      have jn : l.foldl fillStep (fillStep acc t) = closedGr g ∧ (fillStep acc t).length + l.length ≤ 103 := ⟨q1, by omega⟩
      refine ws_if1 (t := decide (0 < (usedOf acc t.1).length) && decide ((hasOf acc t.1).length = 0)) (dt_to (PW.pt (dw_and (t := decide (0 < (usedOf acc t.1).length)) (u := decide ((hasOf acc t.1).length = 0)) (dt_to (tcm (cm_gt (dp_lenL (ds := (usedOf acc t.1).map encR) rfl T.b_len (vd 5)) dp_int)) ?_) fun _ => dw_and1 (dt_to (tcm (cm_eqS rfl (dp_lenL (ds := (hasOf acc t.1).map encR) rfl T.b_len (vd 4)) dp_int)) ?_))) rfl) (fun h => ?_) fun h => ?_
      · exact decide_eq_decide.mpr (by rw [List.length_map]; omega)
      · show decide (_ = _) = _
        exact decide_eq_decide.mpr (by rw [List.length_map]; omega)
      · have hn : 0 < (usedOf acc t.1).length ∧ (hasOf acc t.1).length = 0 := by simpa using h
        refine ws_exp (de_append 1 (ds := acc.map encR) (ds0 := acc.map encR) (d := encR (t.1, [t.2.1])) rfl (de_pure (dp_tup (ds := [.str t.1, .tuple [.str t.2.1]]) (da_cons (v 3) (da_cons (dp_tup (da_cons (dp_ixL (ds := [.str "c", .str "a", .str "b"]) (n := ((t.2.2 : Nat) : Int)) (d := .str t.2.1) ?_ (dl_dat (dp_lst (da_cons dp_str (da_cons dp_str (da_cons dp_str da_nil))) (Nat.le_of_ble_eq_true rfl))) (dp_index o1 dp_str (v 3))) da_nil) (Nat.le_of_ble_eq_true rfl)) da_nil)) (Nat.le_of_ble_eq_true rfl))) rfl (szl (by rw [List.length_map]; omega))) ?_
        · rw [atI_nat (by omega), Int.toNat_natCast]
          have : ([PyData.str "c", .str "a", .str "b"])[t.2.2]? = (([("c" : Str), "a", "b"])[t.2.2]?).map PyData.str := by rw [← List.getElem?_map]; rfl
          rw [this, o2]
          rfl
        · refine ws_nil (ws_nil ⟨fillStep acc t, jn, ?_⟩)
          show Sub _ [_, some (.b (.ol ((fillStep acc t).map encR))), _, _, _, _]
          unfold fillStep
          rw [if_pos hn, List.map_append]
          exact .same (.same (.drop (.drop (.drop (.drop .nil)))))
      · have hn : ¬ (0 < (usedOf acc t.1).length ∧ (hasOf acc t.1).length = 0) := by
          intro z
          rw [decide_eq_true z.1, decide_eq_true z.2] at h
          cases h
        refine ws_nil ⟨fillStep acc t, jn, ?_⟩
        show Sub _ [_, some (.b (.ol ((fillStep acc t).map encR))), _, _, _, _]
        unfold fillStep
        rw [if_neg hn]
        exact .same (.same (.drop (.drop (.drop (.drop .nil)))))
    · intro acc ⟨q1, _⟩
      have q1 : acc = closedGr g := q1
      refine ws_ret (de_frzL (mv 1)) ?_
      rw [q1]
      rfl
end
end DL


set_option Elab.async false
set_option linter.all false
set_option maxRecDepth 100000
set_option maxHeartbeats 4000000
/-! W19: the law's grammars drawn. -/
namespace DL
open PySem PySem.Spec PyProof.Rows L2

def moreGo (sc : List Int) : Nat → Nat → Gr → Gr
  | 0, _, acc => acc
  | k + 1, idx, acc => moreGo sc k (idx + 1) (acc ++ [ruleBy (cellAt sc (idx : Int))])
def manyOf (cell : Int) : Nat := if cell % 2 = 1 then (cell / 32 % 2).toNat else (1 + cell / 2 % 4).toNat
def baseOf (cell : Int) : Gr := if cell % 2 = 1 then knownBy (cell / 2) else []
def rawGr (sc : List Int) (n : Nat) : Gr := moreGo sc (manyOf (cellAt sc (n : Int))) (n + 1) (baseOf (cellAt sc (n : Int)))
def smallBy (sc : List Int) (n : Nat) : Gr := closedGr (rawGr sc n)
theorem ch_ok (y : Str) (m n : Int) (hm : 0 < m) (hl : (y.cps.toList.length : Int) = m) (hy : ∀ c ∈ y.cps.toList, PyData.strOk ⟨#[c]⟩ = true) : PyData.strOk (chAt y m n) = true := by
  obtain ⟨ch, _, c2, c3⟩ := ch_at y m n hm hl
  rw [c2]
  exact hy ch c3
theorem parts_strs : ∀ c ∈ sPARTS.cps.toList, PyData.strOk ⟨#[c]⟩ = true := by decide +kernel
theorem sab_strs : ∀ c ∈ sSAB.cps.toList, PyData.strOk ⟨#[c]⟩ = true := by decide +kernel
theorem partsGo_mem : ∀ (n : Nat) (left : Int) (l : List Str) (p : Str), p ∈ partsGo n left l → p ∈ l ∨ ∃ k, p = chAt sPARTS 6 k
  | 0, _, _, _, h => .inl h
  | n + 1, left, l, p, h => by
    rcases partsGo_mem n _ _ p h with z | z
    · rcases List.mem_append.mp z with z | z
      · exact .inl z
      · exact .inr ⟨left, List.mem_singleton.mp z⟩
    · exact .inr z
theorem ruleBy_ok (cell : Int) : RlOk (ruleBy cell) where
  nm := ch_ok sSAB 3 cell (by decide) (by decide +kernel) sab_strs
  pt := fun p hp => by
    rcases partsGo_mem _ _ _ p hp with z | ⟨k, z⟩
    · cases z
    · rw [z]; exact ch_ok sPARTS 6 k (by decide) (by decide +kernel) parts_strs
def rlB (r : Rl) : Bool := PyData.strOk r.1 && r.2.all fun p => PyData.strOk p
theorem known_rl : ∀ y ∈ knownS, ((Txt.split y sSP).map ruleOfW).all rlB = true ∧ ((Txt.split y sSP).map ruleOfW).length ≤ 6 := by decide +kernel
theorem known_ok (n : Int) : (∀ r ∈ knownBy n, RlOk r) ∧ (knownBy n).length ≤ 6 := by
  obtain ⟨h1, h2⟩ := known_rl _ (known_mem n).1
  refine ⟨fun r hr => ?_, h2⟩
  have := List.all_eq_true.mp h1 r hr
  unfold rlB at this
  rw [Bool.and_eq_true, List.all_eq_true] at this
  exact ⟨this.1, this.2⟩
theorem many_le (cell : Int) : manyOf cell ≤ 4 := by
  unfold manyOf
  have h1 : cell / 32 % 2 < 2 := Int.emod_lt_of_pos _ (by decide)
  have h2 : cell / 2 % 4 < 4 := Int.emod_lt_of_pos _ (by decide)
  split <;> omega
section
variable {P : Program} {w : World} {K : PySem.W.Frag} {mg : Str → Option Value} {base : Heap}
/-! _law_small_grammar -/
def R_small (ds1 : List PyData) (s : Sl) (ds2 : List PyData) (s' : Sl) (d : PyData) : Prop := ∃ (sc : List Int) (n : Nat), ds1 = [.list (encZ sc)] ∧ s = .b (.ol [.int (n : Int)]) ∧ ds2 = [] ∧ s' = .b (.ol [.int ((n + 1 + manyOf (cellAt sc (n : Int)) : Nat) : Int)]) ∧ d = encG (smallBy sc n)
theorem sc_small : FnScope ["script", "spot", "cell", "rules", "many", "k"] ["script", "spot"] (defScope KHead.s_law_small_grammar) := ⟨rfl, rfl, rfl, by decide +kernel, rfl, by decide +kernel, by decide +kernel⟩
theorem ok_small (T : Txt K mg) : DFn P w K mg base 4 "_law_small_grammar" ["script", "spot"] (spO P w K R_small) := by
  refine T.fn2 58 49 rfl rfl (fun _ _ _ _ _ _ us hl => match us, hl with | [_, _], _ => rfl) fun f fd F => fn_O F sc_small (fun ds1 s ds2 s' d ⟨_, _, h1, _, h2, _⟩ => by rw [h1, h2]; rfl) fun cdv A outer s H E ds1 t0 ds2 t' d hr ⟨sc, n, e1, e2, e3, e4, e5⟩ => ?_
  subst e1 e2 e3 e4 e5
  have nd := sc_small.nd
  have hm4 := many_le (cellAt sc (n : Int))
  refine ws_set 2 (de_callO (ok_next T) (hr.mono (by decide)) ⟨sc, n, rfl, rfl, rfl, rfl, rfl⟩ (dao_cons (v 0) (dao_here 1 da_nil rfl)) rfl) ?_
  refine ws_set 3 (de_lst da_nil (Nat.zero_le _)) ?_
  generalize hcell : cellAt sc (n : Int) = cell at hm4 ⊢
  have main : ∀ bs : Gr, bs = baseOf cell → bs.length ≤ 6 → (∀ r ∈ bs, RlOk r) → WS (BX P w K mg base ["script", "spot", "cell", "rules", "many", "k"] "_law_small_grammar" (defScope KHead.s_law_small_grammar) f cdv A outer s H E) ["script", "spot"].length ((defBody KHead.s_law_small_grammar).drop 4)
      [some (dat (.list (encZ sc))), some (.b (.ol [.int ((n + 1 : Nat) : Int)])), some (dat (.int cell)), some (.b (.ol (bs.map encR))), some (dat (.int (manyOf cell : Int))), none] { nx := fun Γ => encG (smallBy sc n) = .none ∧ Γ[1]? = some (some (.b (.ol [.int ((n + 1 + manyOf cell : Nat) : Int)]))), rt := fun Γ r => r = dat (encG (smallBy sc n)) ∧ Γ[1]? = some (some (.b (.ol [.int ((n + 1 + manyOf cell : Nat) : Int)]))) } := by
    intro bs hbs hbl hbo
    refine ws_forN (S := Nat × Gr) (xs := List.range (manyOf cell)) 5 (fun i : Nat => .int (0 + (i : Int))) (fun l s => moreGo sc l.length s.1 s.2 = rawGr sc n ∧ s.1 + l.length = n + 1 + manyOf cell ∧ s.2.length + l.length ≤ 20 ∧ ∀ r ∈ s.2, RlOk r)
      (fun s => [some (dat (.list (encZ sc))), some (.b (.ol [.int (s.1 : Int)])), some (dat (.int cell)), some (.b (.ol (s.2.map encR))), some (dat (.int (manyOf cell : Int))), none]) (n + 1, bs)
      (di_to (di_range1 (n := (manyOf cell : Int)) (by omega) (by omega) rfl T.b_range (v 4)) ?_) ⟨?_, by rw [List.length_range], by rw [List.length_range]; show bs.length + _ ≤ 20; omega, hbo⟩ (Sub.refl _) ?_ ?_
    · rw [Int.toNat_natCast]
      rfl
    · rw [List.length_range]
      show moreGo sc (manyOf cell) (n + 1) bs = _
      unfold rawGr
      rw [hcell, hbs]
    · rintro i l ⟨idx, acc⟩ _ ⟨j1, j2, j3, j4⟩
      have j1 : moreGo sc l.length (idx + 1) (acc ++ [ruleBy (cellAt sc (idx : Int))]) = rawGr sc n := j1
      have j2 : idx + (l.length + 1) = n + 1 + manyOf cell := j2
      have j3 : acc.length + (l.length + 1) ≤ 20 := j3
      have j4 : ∀ r ∈ acc, RlOk r := j4
      refine ws_exp (de_append 3 (ds := acc.map encR) (ds0 := acc.map encR) (d := encR (ruleBy (cellAt sc (idx : Int)))) rfl (de_call1 (ok_rule_by T) (hr.mono (by decide)) ⟨cellAt sc (idx : Int), rfl, rfl⟩ (de_callO (ok_next T) (hr.mono (by decide)) ⟨sc, idx, rfl, rfl, rfl, rfl, rfl⟩ (dao_cons (v 0) (dao_here 1 da_nil rfl)) rfl)) rfl (szl (by rw [List.length_map]; omega))) ?_
      refine ws_nil ⟨(idx + 1, acc ++ [ruleBy (cellAt sc (idx : Int))]), ⟨j1, by show idx + 1 + l.length = _; omega, ?_, fun r hr2 => ?_⟩, ?_⟩
      · show (acc ++ [_]).length + l.length ≤ 20
        rw [List.length_append, List.length_singleton]
        omega
      · rcases List.mem_append.mp hr2 with z | z
        · exact j4 r z
        · rw [List.mem_singleton.mp z]; exact ruleBy_ok _
      · show Sub _ [_, _, _, some (.b (.ol ((acc ++ [ruleBy (cellAt sc (idx : Int))]).map encR))), _, _]
        rw [List.map_append]
        exact .same (.same (.same (.same (.same (.drop .nil)))))
    · rintro ⟨idx, acc⟩ ⟨j1, j2, j3, j4⟩
      have j1 : acc = rawGr sc n := j1
      have j2 : idx = n + 1 + manyOf cell := j2
      have j3 : acc.length ≤ 20 := j3
      have j4 : ∀ r ∈ acc, RlOk r := j4
      refine ws_frzL (i := 3) rfl ?_
      refine ws_ret (de_pure (dp_call (ok_lclosed T) (hr.mono (by decide)) ⟨acc, by omega, j4, rfl, rfl⟩ (da_cons (v 3) da_nil))) ⟨?_, ?_⟩
      · rw [j1]; rfl
      · rw [← j2]; rfl
  have d4 : 0 ≤ cell / 2 % 4 := Int.emod_nonneg _ (by decide)
  have d2 : 0 ≤ cell / 32 % 2 := Int.emod_nonneg _ (by decide)
  refine ws_set 4 (de_pure (dp_add dp_int (dp_mod (m := cell / 2) (n := 4) (by decide) (dp_fdiv (m := cell) (n := 2) ⟨by decide, by decide⟩ (v 2) dp_int) dp_int))) ?_
  refine ws_if1 (t := decide (cell % 2 = 1)) (dt_to (tcm (cm_eqS rfl (dp_mod (m := cell) (n := 2) (by decide) (v 2) dp_int) dp_int)) rfl) (fun h => ?_) fun h => ?_
  · have h := of_decide_eq_true h
    refine ws_set 4 (de_pure (dp_to (dp_mod (m := cell / 32) (n := 2) (by decide) (dp_fdiv (m := cell) (n := 32) ⟨by decide, by decide⟩ (v 2) dp_int) dp_int) (show PyData.int _ = .int (manyOf cell : Int) by
      congr 1
      unfold manyOf
      rw [if_pos h]
      omega))) ?_
    refine ws_set 3 (de_callR (ok_known T) (hr.mono (by decide)) ⟨cell / 2, rfl, rfl⟩ (da_cons (dp_fdiv (m := cell) (n := 2) ⟨by decide, by decide⟩ (v 2) dp_int) da_nil)) ?_
    obtain ⟨k1, k2⟩ := known_ok (cell / 2)
    exact ws_nil (main (knownBy (cell / 2)) (by unfold baseOf; rw [if_pos h]) k2 k1)
  · have h := of_decide_eq_false h
    have e : (1 + cell / 2 % 4 : Int) = (manyOf cell : Int) := by
      unfold manyOf
      rw [if_neg h]
      omega
    rw [e]
    exact main [] (by unfold baseOf; rw [if_neg h]) (Nat.zero_le _) fun _ z => (List.not_mem_nil z).elim
end
end DL


set_option Elab.async false
set_option linter.all false
set_option maxRecDepth 100000
set_option maxHeartbeats 4000000
/-! W20: the law's made_of. -/
namespace DL
open PySem PySem.Spec PyProof.Rows L2

section
variable {X : Cx} {n k j : Nat} {Γ : Ctx} {p : Po} {rest : List Stmt} {e e2 : Expr} {pos p1 p2 p3 p4 p5 p6 p7 p8 : Pos} {x y z : Str} {d0 d2 : PyData} {r : Option PyData} {S : Addr} {R : List PyData → Option PyData → Prop} {ps : List Str}
/-- try: y = f(e) / except S: y = e2 -/
theorem ws_tryCall (i : Nat) (F : DFX X.prog X.w X.K X.mg X.base k x ps (spDX X.K S R)) (hr : Room k X.A) (hR : R [d0] r) (exS : PySem.W.exmOne X.K (.ref S) (.ref S) = some true) (gS : X.mg z = some (.ref S))
    (ha : ∀ pn xe, DA (X.tr pn xe) [e] Γ [d0]) (hd : ∀ a pn, DP (X.suite a pn) e2 Γ d2) (hrest : WS X n rest (Γ.set i (some (dat (r.getD d2)))) p) (nd : X.N.Nodup := by assumption) (hN : X.N[i]? = some y := by rfl) (hn : n ≤ i := by decide) (hx : Loc X.env.scope y := by first | exact Or.inl rfl | exact Or.inr rfl)
    (hf : X.fn y = true ∨ X.env.scope.names.lookup y = some .local := by first | exact .inl rfl | exact .inr rfl) (hsw : swapsWith (.Call (.Name x p2) [e] [] p3) (some (.Name y p1)) p4.line X.env = pure false := by rfl) (hsw2 : swapsWith e2 (some (.Name y p6)) p7.line X.env = pure false := by rfl)
    (hg : Gl X x := by rfl) (hdb : (x == ("__debug__" : Str)) = false := by decide) (hgz : Gl X z := by rfl) (hdz : (z == ("__debug__" : Str)) = false := by decide) (he : NoStar X e [] := by rfl) (hpl : PlainOk X [] p3 := by rfl) (hs : X.stack = X.env :: X.outer := by rfl) (hfr : X.env.frame = some X.env.locals := by rfl) :
    WS X n (.Try [.Assign [.Name y p1] (.Call (.Name x p2) [e] [] p3) p4] [.ExceptHandler (some (.Name z p5)) none [.Assign [.Name y p6] e2 p7] p8] [] [] pos :: rest) Γ p := by
  obtain ⟨f, fd, F, hm, hk, hb⟩ := F.ex
  refine ws_of (pss_cons (ps_try_only (c := .ref S) (tb := fun W => tAsg (tCallS (spDX X.K S R) (WE W) (tAd X.prog X.w X.K Γ [d0])) (gName i)) (ts := fun _ _ _ => tAsg (tD X.prog X.w X.K Γ d2) (gName i)) (Wout := fun _ _ _ _ => False) hs hfr ⟨hgz, hdz, Or.inl gS⟩ takes0
    (fun W pn xe tk _ => pss_one (ps_set (X := X.tr pn xe) nd hN hx (pe_callS F hr hg hm hk hb (fun σ => passAt tk σ) (ha pn xe) hdb he hpl) hsw hf))
    (fun a oe cls d pn _ _ => pss_one (ps_set (X := X.suite a ((a, oe) :: pn)) nd hN hx (hd a _) hsw2 hf))) hrest) fun D σ H Hf fps ok g => ?_
  have fin : ∀ {d : PyData} {v : V} {Hf2 H2 : Hp}, r.getD d2 = d → Grow Hf H Hf2 H2 → Dv X.K Hf2 v d → tW X.prog X.w X.K n (Γ.set i (some (dat (r.getD d2)))) p D (σ.set i (some v)) H2 := fun {d v Hf2 H2} ed g2 hv => by
    rw [ed]
    exact ⟨Hf2, _, (ok.growG g2).set (Rs.dat hv) i, g.step ((Rch.of g2.step).trans (Rch.set hn fun y hy => (own_set hy).elim id fun q => (List.not_mem_nil q).elim))⟩
  refine tA_run (ds := [d0]) ok fun vs Hf1 H1 g1 hvs => ?_
  refine ⟨Hf1, [d0], r, (ok.growG g1).sub, hvs, hR, fun d ed v Hf2 H2 g2 hv => ?_, fun er Hf2 H2 g2 => ?_⟩
  · exact fin (by rw [ed]; rfl) (g1.trans g2) hv
  · refine ⟨true, exS, fun _ a ha => ?_, fun z => by cases z⟩
    exact tD_run (ok.growG (g1.trans g2)) fun v Hf3 H3 g3 hv => fin (by rw [er]; rfl) ((g1.trans g2).trans g3) hv
end
section
variable {P : Program} {w : World} {K : PySem.W.Frag} {mg : Str → Option Value} {base : Heap}
/-! _law_made_of -/
def manyD : PyData := .tuple [.str "many"]
def R_made_of (ds : List PyData) (d : PyData) : Prop := ∃ g, GG g ∧ MdOk g ∧ ds = [encG g] ∧ d = (encM (madeBy g)).getD manyD
theorem sc_made_of : FnScope ["grammar", "told"] ["grammar"] (defScope KHead.s_law_made_of) := ⟨rfl, rfl, rfl, by decide +kernel, rfl, by decide +kernel, by decide +kernel⟩
theorem ok_made_of (T : Txt K mg) : DFn P w K mg base 12 "_law_made_of" ["grammar"] (spD K R_made_of) := by
  refine T.fn2 61 52 rfl rfl (fun _ _ _ _ _ _ us hl => match us, hl with | [_], _ => rfl) fun f fd F => fn_D F sc_made_of (fun ds d ⟨_, _, _, h, _⟩ => by rw [h]; rfl) fun cdv A outer s H E ds d hr ⟨g, G, M, e1, e2⟩ => ?_
  subst e1 e2
  have nd := sc_made_of.nd
  refine ws_set 1 (de_pure (dp_tup (da_cons dp_str da_nil) (Nat.le_of_ble_eq_true rfl))) ?_
  refine ws_tryCall 1 (ok_made T) (hr.mono (by decide)) ⟨g, G, M, rfl, rfl⟩ (He.exm_ok (T.c.fact 86 rfl)) (T.gl 84) (fun pn xe => da_cons (v 0) da_nil) (fun a pn => dp_tup (da_cons dp_str da_nil) (Nat.le_of_ble_eq_true rfl)) ?_
  exact ws_ret (de_pure (v 1)) rfl
end
end DL


set_option Elab.async false
set_option linter.all false
set_option maxRecDepth 100000
set_option maxHeartbeats 4000000
/-! W21: the law's order and led. -/
namespace DL
open PySem PySem.Spec PyProof.Rows L2

theorem mix_nn (cell k : Int) : 0 ≤ mixBy cell k := Int.emod_nonneg _ (by decide)
def insIx (cell : Int) (found : List Nat) (k : Nat) : Nat := (1 + mixBy cell (k : Int) / 7 % (found.length : Int)).toNat
def insAt (cell : Int) (found : List Nat) (k : Nat) : List Nat := found.take (insIx cell found k) ++ [k] ++ found.drop (insIx cell found k)
def orderGo (cell : Int) : Nat → Nat → List Nat → List Nat
  | 0, _, found => found
  | n + 1, k, found => orderGo cell n (k + 1) (insAt cell found k)
def orderBy (cell : Int) (size : Nat) : List Nat := orderGo cell (size - 1) 1 [0]
theorem ins_len (cell : Int) (found : List Nat) (k : Nat) : (insAt cell found k).length = found.length + 1 := by
  unfold insAt
  rw [List.length_append, List.length_append, List.length_take, List.length_drop, List.length_singleton]
  omega
theorem encN_app (a b : List Nat) : encN (a ++ b) = encN a ++ encN b := by simp [encN]
theorem encN_take (n : Nat) (a : List Nat) : (encN a).take n = encN (a.take n) := by simp [encN, List.map_take]
theorem encN_drop (n : Nat) (a : List Nat) : (encN a).drop n = encN (a.drop n) := by simp [encN, List.map_drop]
theorem encN_len (a : List Nat) : (encN a).length = a.length := by simp [encN]
def spotOf (li : List Nat) (s : Nat) : List Nat := (List.range li.length).filter fun k => decide (li[k]? = some s)
def spotKv (li : List Nat) (n : Nat) : List (Key × PyData) := (List.range n).map fun s : Nat => (Sum.inl (s : Int), .list (encN (spotOf li s)))
def sKEYS : Str := "abc.SAB"
def keyIx (key : Str) : Int := Txt.find sKEYS ⟨#[(key.cps.toList[0]?).getD 97]⟩
def ledIx (li : List Nat) (cell : Int) (key : Str) (j : Nat) : Nat := (mixBy cell (keyIx key) / 7 % ((spotOf li j).length : Int)).toNat
def ledBy (li : List Nat) (cell : Int) (key : Str) : TD → TD
  | .goto j => .goto ((((spotOf li j.toNat)[ledIx li cell key j.toNat]?).getD 0 : Nat) : Int)
  | .done => .done
  | .rule n => .rule n
theorem spot_val (li : List Nat) {n j : Nat} (h : j < n) : valD (spotKv li n) (Sum.inl (j : Int)) = some (.list (encN (spotOf li j))) := by
  unfold valD spotKv
  rw [List.find?_map]
  have e : (List.range n).find? ((fun kv : Key × PyData => decide (kv.1 = Sum.inl (j : Int))) ∘ fun s : Nat => ((Sum.inl (s : Int) : Key), PyData.list (encN (spotOf li s)))) = some j := by
    have e2 : ((fun kv : Key × PyData => decide (kv.1 = Sum.inl (j : Int))) ∘ fun s : Nat => ((Sum.inl (s : Int) : Key), PyData.list (encN (spotOf li s)))) = fun s => decide (s = j) := by
      funext s
      show decide ((Sum.inl (s : Int) : Key) = Sum.inl (j : Int)) = decide (s = j)
      refine decide_eq_decide.mpr ⟨fun z => ?_, fun z => by rw [z]⟩
      injection z with z
      omega
    rw [e2]
    cases hf : (List.range n).find? (fun s => decide (s = j)) with
    | none =>
      have := List.find?_eq_none.mp hf j (List.mem_range.mpr h)
      exact absurd (decide_eq_true rfl) this
    | some s =>
      have h1 : decide (s = j) = true := List.find?_some (p := fun s : Nat => decide (s = j)) hf
      rw [of_decide_eq_true h1]
  rw [e]
  rfl
section
variable {P : Program} {w : World} {K : PySem.W.Frag} {mg : Str → Option Value} {base : Heap}
/-! _law_order -/
def R_order (ds : List PyData) (t : Sl) : Prop := ∃ (cell : Int) (size : Nat), 1 ≤ size ∧ size ≤ 1000 ∧ ds = [.int cell, .int (size : Int)] ∧ t = .b (.ol (encN (orderBy cell size)))
theorem sc_order : FnScope ["cell", "size", "found", "k"] ["cell", "size"] (defScope KHead.s_law_order) := ⟨rfl, rfl, rfl, by decide +kernel, rfl, by decide +kernel, by decide +kernel⟩
theorem ok_order (T : Txt K mg) : DFn P w K mg base 2 "_law_order" ["cell", "size"] (spR P w K R_order) := by
  refine T.fn2 62 53 rfl rfl (fun _ _ _ _ _ _ us hl => match us, hl with | [_, _], _ => rfl) fun f fd F => fn_R F sc_order (fun ds s ⟨_, _, _, _, h, _⟩ => by rw [h]; rfl) fun cdv A outer s H E ds t0 hr ⟨cell, size, h1, h2, e1, e2⟩ => ?_
  subst e1 e2
  have nd := sc_order.nd
  refine ws_set 2 (de_lst (da_cons dp_int da_nil) (Nat.le_of_ble_eq_true rfl)) ?_
  refine ws_forN (S := Nat × List Nat) (xs := List.range (size - 1)) 3 (fun i : Nat => .int (1 + (i : Int))) (fun l s => l = (List.range (size - 1)).drop (s.1 - 1) ∧ 1 ≤ s.1 ∧ s.1 + l.length = size ∧ s.2.length = s.1 ∧ orderGo cell l.length s.1 s.2 = orderBy cell size) (fun s => [some (dat (.int cell)), some (dat (.int (size : Int))), some (.b (.ol (encN s.2))), none]) (1, [0])
    (di_to (di_range2 (m := 1) (n := (size : Int)) (by decide) (by decide) (by omega) (by omega) rfl T.b_range dp_int (v 1)) ?_) ⟨by simp, Nat.le_refl _, by simp; omega, rfl, by rw [List.length_range]; rfl⟩ (Sub.refl _) ?_ ?_
  · unfold rangeD
    congr 1
    congr 1
    omega
  · rintro i l ⟨k, found⟩ hi ⟨j0, j1, j2, j3, j4⟩
    have j0 : i :: l = (List.range (size - 1)).drop (k - 1) := j0
    have j1 : 1 ≤ k := j1
    have j2 : k + (l.length + 1) = size := j2
    have j3 : found.length = k := j3
    have j4 : orderGo cell l.length (k + 1) (insAt cell found k) = orderBy cell size := j4
    have hik : i = k - 1 := by
      have : (i :: l)[0]? = some i := rfl
      rw [j0, List.getElem?_drop, List.getElem?_range (by omega)] at this
      simpa using this.symm
    have hl : l = (List.range (size - 1)).drop k := by
      have : l = (i :: l).drop 1 := rfl
      rw [this, j0, List.drop_drop]
      congr 1
      omega
    have m0 := mix_nn cell (k : Int)
    have p0 : 0 ≤ mixBy cell (k : Int) / 7 % (found.length : Int) := Int.emod_nonneg _ (by omega)
    have p1 : mixBy cell (k : Int) / 7 % (found.length : Int) < (found.length : Int) := Int.emod_lt_of_pos _ (by omega)
    have ek : (1 + (i : Int)) = (k : Int) := by omega
    rw [ek]
    refine ws_exp (de_insert 2 (ds := encN found) (d := .int (k : Int)) (k := 1 + mixBy cell (k : Int) / 7 % (found.length : Int)) rfl (by omega) (by omega) (dp_add (m := 1) (n := mixBy cell (k : Int) / 7 % (found.length : Int)) dp_int (dp_mod (m := mixBy cell (k : Int) / 7) (n := (found.length : Int)) (by omega) (dp_fdiv (m := mixBy cell (k : Int)) (n := 7) ⟨by decide, by decide⟩ (dp_call (ok_mix T) hr ⟨cell, (k : Int), rfl, rfl⟩ (da_cons (v 0) (da_cons (v 3) da_nil))) dp_int) (dp_to (dp_lenL (ds := encN found) rfl T.b_len (vl 2)) (by rw [encN_len])))) (v 3) (szl (by rw [encN_len]; omega))) ?_
    refine ws_nil ⟨(k + 1, insAt cell found k), ⟨by show l = _; rw [hl]; rfl, by show 1 ≤ k + 1; omega, by show k + 1 + l.length = size; omega, by rw [ins_len, j3], j4⟩, ?_⟩
    show Sub _ [_, _, some (.b (.ol (encN (insAt cell found k)))), _]
    have e : encN (insAt cell found k) = (encN found).take (1 + mixBy cell (k : Int) / 7 % (found.length : Int)).toNat ++ [.int (k : Int)] ++ (encN found).drop (1 + mixBy cell (k : Int) / 7 % (found.length : Int)).toNat := by
      unfold insAt
      rw [encN_app, encN_app, encN_take, encN_drop]
      rfl
    rw [e]
    exact .same (.same (.same (.drop .nil)))
  · rintro ⟨k, found⟩ ⟨_, _, _, _, j4⟩
    have j4 : found = orderBy cell size := j4
    refine ws_ret (mv 2) ?_
    rw [j4]
/-! _law_led -/
def LedQ (li : List Nat) (n : Nat) (td : TD) : Prop := ∀ j, td = .goto j → 0 ≤ j ∧ j < n ∧ 0 < (spotOf li j.toNat).length
def R_lled (ds : List PyData) (d : PyData) : Prop := ∃ (li : List Nat) (n : Nat) (cell : Int) (key : Str) (td : TD), key.length = 1 ∧ LedQ li n td ∧ ds = [encT td, dictD (spotKv li n), .int cell, .str key] ∧ d = encT (ledBy li cell key td)
theorem sc_lled : FnScope ["deed", "spots", "cell", "key", "where"] ["deed", "spots", "cell", "key"] (defScope KHead.s_law_led) := ⟨rfl, rfl, rfl, by decide +kernel, rfl, by decide +kernel, by decide +kernel⟩
theorem ok_lled (T : Txt K mg) : DFn P w K mg base 2 "_law_led" ["deed", "spots", "cell", "key"] (spD K R_lled) := by
  refine T.fn2 63 54 rfl rfl (fun _ _ _ _ _ _ us hl => match us, hl with | [_, _, _, _], _ => rfl) fun f fd F => fn_D F sc_lled (fun ds d ⟨_, _, _, _, _, _, _, h, _⟩ => by rw [h]; rfl) fun cdv A outer s H E ds d hr ⟨li, n, cell, key, td, hk, hq, e1, e2⟩ => ?_
  subst e1 e2
  have nd := sc_lled.nd
  have hu := u1 hr
  obtain ⟨w1, w2, w3, w4, w5, w6⟩ := ne_words
  cases td with
  | done =>
    refine ws_if1 (t := true) (dt_to (tcm (cm_neS rfl (dp_ixT (d := .str sDone) rfl (v 0) dp_int) dp_str)) ?_) (fun _ => ws_ret (de_pure (v 0)) rfl) (fun h => by cases h)
    exact congrArg Bool.not (decide_eq_false w1)
  | rule m =>
    refine ws_if1 (t := true) (dt_to (tcm (cm_neS rfl (dp_ixT (d := .str sRule) rfl (v 0) dp_int) dp_str)) ?_) (fun _ => ws_ret (de_pure (v 0)) rfl) (fun h => by cases h)
    exact congrArg Bool.not (decide_eq_false w4)
  | goto j =>
    obtain ⟨j0, j1, j2⟩ := hq j rfl
    obtain ⟨jn, rfl⟩ := Int.eq_ofNat_of_zero_le j0
    have j1 : jn < n := by omega
    have j2 : 0 < (spotOf li jn).length := j2
    refine ws_if1 (t := false) (dt_to (tcm (cm_neS rfl (dp_ixT (d := .str sGo) rfl (v 0) dp_int) dp_str)) rfl) (fun h => by cases h) fun _ => ?_
    refine ws_set 4 (de_pure (dp_dget (kvs := spotKv li n) (k := Sum.inl (jn : Int)) (d := .list (encN (spotOf li jn))) hu (spot_val li j1) (dk_dat (v 1)) (dp_ixT (d := .int (jn : Int)) rfl (v 0) dp_int))) ?_
    obtain ⟨ch, c1, c2⟩ := sgn_one hk
    have ek : keyIx key = Txt.find sKEYS ⟨#[ch]⟩ := by
      unfold keyIx
      rw [c2]
      rfl
    have m0 := mix_nn cell (keyIx key)
    have p0 : 0 ≤ mixBy cell (keyIx key) / 7 % ((spotOf li jn).length : Int) := Int.emod_nonneg _ (by omega)
    have p1 : mixBy cell (keyIx key) / 7 % ((spotOf li jn).length : Int) < ((spotOf li jn).length : Int) := Int.emod_lt_of_pos _ (by omega)
    have hi : (spotOf li jn)[ledIx li cell key jn]? = some (((spotOf li jn)[ledIx li cell key jn]?).getD 0) := by
      rw [List.getElem?_eq_getElem (show ledIx li cell key jn < _ by unfold ledIx; omega)]
      rfl
    refine ws_ret (de_pure (dp_tup (ds := [.str sGo, .int ((((spotOf li jn)[ledIx li cell key jn]?).getD 0 : Nat) : Int)]) (da_cons dp_str (da_cons (dp_ixL (ds := encN (spotOf li jn)) (n := mixBy cell (keyIx key) / 7 % ((spotOf li jn).length : Int)) ?_ (vd 4) (dp_mod (m := mixBy cell (keyIx key) / 7) (n := ((spotOf li jn).length : Int)) (by omega) (dp_fdiv (m := mixBy cell (keyIx key)) (n := 7) ⟨by decide, by decide⟩ (dp_call (ok_mix T) hr ⟨cell, keyIx key, rfl, rfl⟩ (da_cons (v 2) (da_cons (dp_to (dp_find (y := sKEYS) (z := ⟨#[ch]⟩) dp_str (dp_ixS (y := key) (n := 0) (ch := ch) (by rw [hk]; exact Nat.le_of_ble_eq_true rfl) (by rw [c2]; rfl) (v 3) dp_int)) (by rw [ek])) da_nil))) dp_int) (dp_to (dp_lenL (ds := encN (spotOf li jn)) rfl T.b_len (vd 4)) (by rw [encN_len])))) da_nil)) (Nat.le_of_ble_eq_true rfl))) rfl
    rw [atI_nat p0]
    unfold encN
    rw [List.getElem?_map]
    have : (spotOf li jn)[(mixBy cell (keyIx key) / 7 % ((spotOf li jn).length : Int)).toNat]? = some (((spotOf li jn)[ledIx li cell key jn]?).getD 0) := hi
    rw [this]
    rfl
end
end DL


set_option Elab.async false
set_option linter.all false
set_option maxRecDepth 100000
set_option maxHeartbeats 4000000
/-! W22: the law's other table. -/
namespace DL
open PySem PySem.Spec PyProof.Rows L2

def moreStep (cell : Int) (n : Nat) (li : List Nat) (k : Nat) : List Nat := if li.length < 200 then li ++ [(1 + mixBy cell (300 + (k : Int)) / 7 % ((n : Int) - 1)).toNat] else li
def linedBy (cell : Int) (n : Nat) : List Nat := (List.range (cell % 4).toNat).foldl (moreStep cell n) (orderBy cell n)
def rowLed (li : List Nat) (cell : Int) (r : Row) : Row := r.map fun p => (p.1, ledBy li cell p.1 p.2)
def rowsLed (tab : List Row) (li : List Nat) (cell : Int) : List Row := (enumL 0 li).map fun p : Nat × Nat => rowLed li (cell + (p.1 : Int)) (rowAt tab (p.2 : Int))
/-- an order of the states -/
structure Ln (n m : Nat) (li : List Nat) : Prop where
  hd : ∃ r, li = 0 :: r ∧ ∀ x ∈ r, 0 < x ∧ x < n
  all : ∀ s, s < m → s ∈ li
theorem ins_mem {cell : Int} {found : List Nat} {k x : Nat} : x ∈ insAt cell found k ↔ x ∈ found ∨ x = k := by
  unfold insAt
  rw [List.mem_append, List.mem_append, List.mem_singleton]
  constructor
  · rintro ((h | h) | h)
    · exact .inl (List.mem_of_mem_take h)
    · exact .inr h
    · exact .inl (List.mem_of_mem_drop h)
  · rintro (h | h)
    · have h : x ∈ found.take (insIx cell found k) ++ found.drop (insIx cell found k) := by rw [List.take_append_drop]; exact h
      rcases List.mem_append.mp h with z | z
      · exact .inl (.inl z)
      · exact .inr z
    · exact .inl (.inr h)
theorem Ln.ins {n m : Nat} {li : List Nat} (h : Ln n m li) (cell : Int) (h0 : 0 < m) (h1 : m < n) : Ln n (m + 1) (insAt cell li m) where
  hd := by
    obtain ⟨r, e, hr⟩ := h.hd
    have hl : 0 < li.length := by rw [e]; exact Nat.succ_pos _
    have p0 : 0 ≤ mixBy cell (m : Int) / 7 % (li.length : Int) := Int.emod_nonneg _ (by omega)
    obtain ⟨j, hj⟩ : ∃ j, insIx cell li m = j + 1 := ⟨insIx cell li m - 1, by unfold insIx; omega⟩
    refine ⟨r.take j ++ [m] ++ r.drop j, ?_, fun x hx => ?_⟩
    · unfold insAt
      rw [hj, e]
      rfl
    · rcases List.mem_append.mp hx with z | z
      · rcases List.mem_append.mp z with z | z
        · exact hr x (List.mem_of_mem_take z)
        · rw [List.mem_singleton.mp z]; exact ⟨h0, h1⟩
      · exact hr x (List.mem_of_mem_drop z)
  all := fun s hs => ins_mem.mpr (by
    by_cases e : s = m
    · exact .inr e
    · exact .inl (h.all s (by omega)))
theorem order_go (cell : Int) {n : Nat} : ∀ (k m : Nat) (li : List Nat), Ln n m li → li.length = m → 0 < m → m + k = n → Ln n n (orderGo cell k m li) ∧ (orderGo cell k m li).length = n
  | 0, m, li, h, hl, _, e => by
    have e : m = n := e
    subst e
    exact ⟨h, hl⟩
  | k + 1, m, li, h, hl, h0, e => order_go cell k (m + 1) _ (h.ins cell h0 (by omega)) (by rw [ins_len, hl]) (Nat.succ_pos _) (by omega)
theorem order_ok (cell : Int) {n : Nat} (h : 1 ≤ n) : Ln n n (orderBy cell n) ∧ (orderBy cell n).length = n :=
  order_go cell (n - 1) 1 [0] ⟨⟨[], rfl, fun _ h => (List.not_mem_nil h).elim⟩, fun s hs => by
    have : s = 0 := by omega
    rw [this]; exact List.mem_cons_self⟩ rfl Nat.one_pos (by omega)
theorem Ln.more {n : Nat} {li : List Nat} (h : Ln n n li) (cell : Int) (h2 : 2 ≤ n) (k : Nat) : Ln n n (moreStep cell n li k) := by
  unfold moreStep
  split
  · have p0 : 0 ≤ mixBy cell (300 + (k : Int)) / 7 % ((n : Int) - 1) := Int.emod_nonneg _ (by omega)
    have p1 : mixBy cell (300 + (k : Int)) / 7 % ((n : Int) - 1) < (n : Int) - 1 := Int.emod_lt_of_pos _ (by omega)
    obtain ⟨r, e, hr⟩ := h.hd
    refine ⟨⟨r ++ [(1 + mixBy cell (300 + (k : Int)) / 7 % ((n : Int) - 1)).toNat], by rw [e]; rfl, fun x hx => ?_⟩, fun s hs => List.mem_append_left _ (h.all s hs)⟩
    rcases List.mem_append.mp hx with z | z
    · exact hr x z
    · rw [List.mem_singleton.mp z]; omega
  · exact h
theorem more_len {n : Nat} {li : List Nat} (cell : Int) (k : Nat) (h : li.length ≤ 200) : (moreStep cell n li k).length ≤ 200 := by
  unfold moreStep
  split
  · rw [List.length_append, List.length_singleton]; omega
  · exact h
theorem lined_ok (cell : Int) {n : Nat} (h2 : 2 ≤ n) (h3 : n ≤ 200) : Ln n n (linedBy cell n) ∧ (linedBy cell n).length ≤ 200 := by
  have key : ∀ (l li : List Nat), Ln n n li → li.length ≤ 200 → Ln n n (l.foldl (moreStep cell n) li) ∧ (l.foldl (moreStep cell n) li).length ≤ 200 := by
    intro l
    induction l with
    | nil => exact fun li h1 h2 => ⟨h1, h2⟩
    | cons k l ih => exact fun li h h1 => ih _ (h.more cell h2 k) (more_len cell k h1)
  obtain ⟨h4, h5⟩ := order_ok cell (n := n) (by omega)
  exact key _ _ h4 (by omega)
theorem spot_mem {li : List Nat} {s k : Nat} : k ∈ spotOf li s ↔ li[k]? = some s := by
  unfold spotOf
  rw [List.mem_filter, List.mem_range, decide_eq_true_eq]
  exact ⟨fun h => h.2, fun h => ⟨(List.getElem?_eq_some_iff.mp h).1, h⟩⟩
theorem spot_pos {li : List Nat} {s : Nat} (h : s ∈ li) : 0 < (spotOf li s).length := by
  obtain ⟨k, hk⟩ := List.getElem?_of_mem h
  exact List.length_pos_of_mem (spot_mem.mpr hk)
theorem enumL_at {α : Type} {l : List α} {p : Nat × α} (h : p ∈ enumL 0 l) : l[p.1]? = some p.2 := by
  obtain ⟨_, h2⟩ := enumL_mem h
  simpa using h2
theorem Ln.lt {n m : Nat} {li : List Nat} (h : Ln n m li) (h0 : 0 < n) {s : Nat} (hs : s ∈ li) : s < n := by
  obtain ⟨r, e, hr⟩ := h.hd
  rw [e] at hs
  rcases List.mem_cons.mp hs with z | z
  · omega
  · exact (hr s z).2
def putLed (li : List Nat) (cell : Int) (acc : Row) (p : Str × TD) : Row := rput acc p.1 (ledBy li cell p.1 p.2)
theorem put_new {acc : Row} {k : Str} {x : TD} (h : k ∉ acc.map Prod.fst) : rput acc k x = acc ++ [(k, x)] := by
  unfold rput
  rw [if_neg]
  intro z
  obtain ⟨p, hp, e⟩ := List.any_eq_true.mp z
  exact h (List.mem_map.mpr ⟨p, hp, of_decide_eq_true e⟩)
theorem fold_led (li : List Nat) (cell : Int) : ∀ (l : Row) (acc : Row), ((acc ++ l).map Prod.fst).Nodup → l.foldl (putLed li cell) acc = acc ++ rowLed li cell l
  | [], acc, _ => (List.append_nil _).symm
  | p :: l, acc, nd => by
    have hn : p.1 ∉ acc.map Prod.fst := by
      rw [List.map_append, List.map_cons] at nd
      intro z
      exact (List.nodup_append.mp nd).2.2 _ z _ List.mem_cons_self rfl
    have e : putLed li cell acc p = acc ++ [(p.1, ledBy li cell p.1 p.2)] := put_new hn
    rw [List.foldl_cons, e, fold_led li cell l _ (by
      rw [List.append_assoc, List.map_append, List.map_append] at *
      exact nd), List.append_assoc]
    rfl
section
variable {P : Program} {w : World} {K : PySem.W.Frag} {mg : Str → Option Value} {base : Heap}
/-! _law_other -/
structure OtQ (g : Gr) (tab : List Row) (st : List (List It3)) : Prop where
  n1 : 2 ≤ tab.length
  n2 : tab.length ≤ 200
  len : st.length = tab.length
  row : ∀ r ∈ tab, RowOk g tab.length r
def R_lother (ds : List PyData) (d : PyData) : Prop := ∃ (g : Gr) (tab : List Row) (st : List (List It3)) (cell : Int), OtQ g tab st ∧ ds = [encTab tab, .list (st.map encSt), .int cell] ∧ d = .tuple [encTab (rowsLed tab (linedBy cell tab.length) cell), .list ((othPa st (linedBy cell tab.length)).map encSt)]
theorem sc_lother : FnScope ["table", "paper", "cell", "lined", "k", "state", "spots", "rows", "row", "key"] ["table", "paper", "cell"] (defScope KHead.s_law_other) := ⟨rfl, rfl, rfl, by decide +kernel, rfl, by decide +kernel, by decide +kernel⟩
theorem ok_lother (T : Txt K mg) : DFn P w K mg base 4 "_law_other" ["table", "paper", "cell"] (spD K R_lother) := by
  refine T.fn2 64 55 rfl rfl (fun _ _ _ _ _ _ us hl => match us, hl with | [_, _, _], _ => rfl) fun f fd F => fn_D F sc_lother (fun ds d ⟨_, _, _, _, _, h, _⟩ => by rw [h]; rfl) fun cdv A outer s H E ds d hr ⟨g, tab, st, cell, Q, e1, e2⟩ => ?_
  subst e1 e2
  have nd := sc_lother.nd
  have hu := u1 hr
  have n1 := Q.n1
  have n2 := Q.n2
  have hlen := Q.len
  obtain ⟨LO, LL⟩ := lined_ok cell n1 n2
  have eo := (order_ok cell (n := tab.length) (by omega)).2
  refine ws_set 3 (de_callR (ok_order T) (hr.mono (by decide)) ⟨cell, tab.length, by omega, by omega, rfl, rfl⟩ (da_cons (v 2) (da_cons (dp_to (dp_lenL (ds := tab.map fun r => dictD (encRow r)) rfl T.b_len (dl_dat (v 0))) (by rw [List.length_map])) da_nil))) ?_
  have c0 : 0 ≤ cell % 4 := Int.emod_nonneg _ (by decide)
  have c1 : cell % 4 < 4 := Int.emod_lt_of_pos _ (by decide)
  refine ws_forN (S := List Nat) (xs := List.range (cell % 4).toNat) 4 (fun i : Nat => .int (0 + (i : Int))) (fun l s => l.foldl (moreStep cell tab.length) s = linedBy cell tab.length ∧ s.length ≤ 200) (fun s => [some (dat (encTab tab)), some (dat (.list (st.map encSt))), some (dat (.int cell)), some (.b (.ol (encN s))), none, none, none, none, none, none]) (orderBy cell tab.length)
    (di_range1 (n := cell % 4) (by omega) (by omega) rfl T.b_range (dp_mod (m := cell) (n := 4) (by decide) (v 2) dp_int)) ⟨rfl, by omega⟩ (Sub.refl _) ?_ ?_
  · intro i l li _ ⟨j1, j2⟩
    have j1 : l.foldl (moreStep cell tab.length) (moreStep cell tab.length li i) = linedBy cell tab.length := j1
    have jn : l.foldl (moreStep cell tab.length) (moreStep cell tab.length li i) = linedBy cell tab.length ∧ (moreStep cell tab.length li i).length ≤ 200 := ⟨j1, more_len cell i j2⟩
    rw [Int.zero_add]
    have p0 : 0 ≤ mixBy cell (300 + (i : Int)) / 7 % ((tab.length : Int) - 1) := Int.emod_nonneg _ (by omega)
    refine ws_if1 (t := decide (li.length < 200)) (dt_to (tcm (cm_lt (dp_lenL (ds := encN li) rfl T.b_len (vl 3)) dp_int)) (decide_eq_decide.mpr (by rw [encN_len]; omega))) (fun h => ?_) fun h => ?_
    · have h := of_decide_eq_true h
      refine ws_exp (de_append 3 (ds := encN li) (ds0 := encN li) (d := .int (((1 + mixBy cell (300 + (i : Int)) / 7 % ((tab.length : Int) - 1)).toNat : Nat) : Int)) rfl (de_pure (dp_to (dp_add (m := 1) (n := mixBy cell (300 + (i : Int)) / 7 % ((tab.length : Int) - 1)) dp_int (dp_mod (m := mixBy cell (300 + (i : Int)) / 7) (n := (tab.length : Int) - 1) (by omega) (dp_fdiv (m := mixBy cell (300 + (i : Int))) (n := 7) ⟨by decide, by decide⟩ (dp_call (ok_mix T) (hr.mono (by decide)) ⟨cell, 300 + (i : Int), rfl, rfl⟩ (da_cons (v 2) (da_cons (dp_add dp_int (v 4)) da_nil))) dp_int) (dp_sub (m := (tab.length : Int)) (n := 1) (dp_to (dp_lenL (ds := tab.map fun r => dictD (encRow r)) rfl T.b_len (dl_dat (v 0))) (by rw [List.length_map])) dp_int))) (by congr 1; omega))) rfl (szl (by rw [encN_len]; omega))) ?_
      refine ws_nil (ws_nil ⟨moreStep cell tab.length li i, jn, ?_⟩)
      show Sub _ [_, _, _, some (.b (.ol (encN (moreStep cell tab.length li i)))), _, _, _, _, _, _]
      unfold moreStep
      rw [if_pos h, encN_app]
      exact .same (.same (.same (.same (.drop (.same (.same (.same (.same (.same .nil)))))))))
    · have h := of_decide_eq_false h
      refine ws_nil ⟨moreStep cell tab.length li i, jn, ?_⟩
      show Sub _ [_, _, _, some (.b (.ol (encN (moreStep cell tab.length li i)))), _, _, _, _, _, _]
      unfold moreStep
      rw [if_neg h]
      exact .same (.same (.same (.same (.drop (.same (.same (.same (.same (.same .nil)))))))))
  · intro li ⟨j1, j2⟩
    have j1 : li = linedBy cell tab.length := j1
    subst j1
    generalize hli : linedBy cell tab.length = li at *
    refine ws_frzL (i := 3) rfl ?_
    refine ws_set 6 (de_dictP (kvs := spotKv li tab.length) ?_ (dp_to (lcN 5 (fun s : Nat => PyData.int (s : Int)) (fun _ => true) (fun s : Nat => .tuple [.int (s : Int), .list (encN (spotOf li s))]) (xs := List.range tab.length)
      (di_weak (di_to (di_range1 (n := (tab.length : Int)) (by omega) (by omega) rfl T.b_range (dp_to (dp_lenL (ds := tab.map fun r => dictD (encRow r)) rfl T.b_len (dl_dat (v 0))) (by rw [List.length_map]))) ?_)) (fun a ha s H C cl fp => dts_nil) (fun a ha _ s H C cl fp => dp_tup (da_cons (v 5) (da_cons ?_ da_nil)) (Nat.le_of_ble_eq_true rfl)) (szl (by rw [List.length_range]; omega))) ?_) rfl T.b_dict) ?_
    · unfold spotKv
      rw [List.map_map]
      refine List.nodup_range.map _ fun a b h z => h ?_
      have z : (Sum.inl (a : Int) : Key) = Sum.inl (b : Int) := z
      injection z with z
      omega
    · rw [Int.toNat_natCast]
      unfold rangeD
      simp only [Int.zero_add]
    · refine dp_to (lcN 4 (fun k : Nat => PyData.int (k : Int)) (fun k => decide (li[k]? = some a)) (fun k : Nat => .int (k : Int)) (xs := List.range li.length) (di_weak (di_to (di_range1 (n := (li.length : Int)) (by omega) (by omega) rfl T.b_range (dp_to (dp_lenL (ds := encN li) rfl T.b_len (dl_dat (v 3))) (by rw [encN_len]))) ?_)) (fun k hk s H C cl fp => dts_one (dt_to (tcm (cm_eqS (da := .int (((li[k]?).getD 0 : Nat) : Int)) (db := .int (a : Int)) rfl (dp_ixL (ds := encN li) (n := (k : Int)) ?_ (dl_dat (v 3)) (v 4)) (v 5))) ?_)) (fun k hk _ s H C cl fp => v 4) (szl (by rw [List.length_range]; omega))) ?_
      · rw [Int.toNat_natCast]
        unfold rangeD
        simp only [Int.zero_add]
      · have hk := List.mem_range.mp hk
        rw [atI_nat (by omega), Int.toNat_natCast]
        unfold encN
        rw [List.getElem?_map, List.getElem?_eq_getElem hk]
        rfl
      · have hk := List.mem_range.mp hk
        rw [List.getElem?_eq_getElem hk]
        simp only [eqD]
        refine decide_eq_decide.mpr ?_
        simp
        omega
      · rfl
    · rw [flt_true]
      unfold itemsD spotKv
      rw [List.map_map]
      rfl
    refine ws_frzK (i := 6) rfl ?_
    refine ws_set 7 (de_lst da_nil (Nat.zero_le _)) ?_
    refine ws_forP (S := List Row) (xs := enumL 0 li) 4 5 (fun p : Nat × Nat => .int (p.1 : Int)) (fun p => .int (p.2 : Int)) (fun l acc => acc ++ l.map (fun p : Nat × Nat => rowLed li (cell + (p.1 : Int)) (rowAt tab (p.2 : Int))) = rowsLed tab li cell ∧ acc.length + l.length ≤ 200)
      (fun acc => [some (dat (encTab tab)), some (dat (.list (st.map encSt))), some (dat (.int cell)), some (dat (.list (encN li))), none, none, some (dat (dictD (spotKv li tab.length))), some (.b (.ol (acc.map fun r => dictD (encRow r)))), none, none]) [] (di_to (di_enum (ds := encN li) rfl T.b_enumerate (v 3)) (enumD_map (fun n : Nat => PyData.int (n : Int)) li 0)) ⟨rfl, by rw [enumL_len]; show 0 + _ ≤ 200; omega⟩ (by exact Sub.refl _) ?_ ?_
    · rintro ⟨k, sN⟩ l acc hp ⟨q1, q2⟩
      have q2 : acc.length + (l.length + 1) ≤ 200 := q2
      have hk : li[k]? = some sN := enumL_at hp
      have hs : sN < tab.length := LO.lt (by omega) (List.mem_of_getElem? hk)
      have hrow : tab[((sN : Int)).toNat]? = some (rowAt tab (sN : Int)) := row_at (by omega) (by omega)
      have RO := Q.row _ (List.mem_of_getElem? hrow)
      refine ws_set 8 de_dictK ?_
      generalize hrr : rowAt tab (sN : Int) = r at RO hrow
      have hrl := RO.len
      refine ws_forN (S := Row) (xs := r) 9 (fun p : Str × TD => PyData.str p.1) (fun l a => l.foldl (putLed li (cell + (k : Int))) a = rowLed li (cell + (k : Int)) r ∧ a.length + l.length ≤ 1000)
        (fun a => [some (dat (encTab tab)), some (dat (.list (st.map encSt))), some (dat (.int cell)), some (dat (.list (encN li))), some (dat (.int (k : Int))), some (dat (.int (sN : Int))), some (dat (dictD (spotKv li tab.length))), some (.b (.ol (acc.map fun r => dictD (encRow r)))), some (.b (.okd (encRow a))), none]) []
        (di_dat (dp_to (dp_listK rfl rfl T.b_list (dk_dat (dp_ixL (ds := tab.map fun r => dictD (encRow r)) (n := (sN : Int)) (d := dictD (encRow r)) (by rw [atI_nat (by omega), List.getElem?_map, hrow]; rfl) (dl_dat (v 0)) (v 5)))) (by rw [list_row]; unfold encS; rw [List.map_map]; rfl))) ⟨fold_led li _ r [] RO.nd, by show 0 + _ ≤ 1000; omega⟩ (Sub.refl _) ?_ ?_
      · rintro ⟨key, td⟩ l2 a hm ⟨z1, z2⟩
        have z2 : a.length + (l2.length + 1) ≤ 1000 := z2
        have hget := rowGet_of_mem RO.nd hm
        have hq : LedQ li tab.length td := fun j e => by
          have ht := RO.td _ hm
          rw [e] at ht
          obtain ⟨_, t1, t2⟩ := ht
          obtain ⟨jn, rfl⟩ := Int.eq_ofNat_of_zero_le t1
          exact ⟨t1, t2, spot_pos (LO.all jn (by omega))⟩
        refine ws_dput 8 (kvs := encRow a) (k := Sum.inr key) (d := encT (ledBy li (cell + (k : Int)) key td)) (de_pure (dp_call (ok_lled T) (hr.mono (by decide)) ⟨li, tab.length, cell + (k : Int), key, td, (RO.key _ hm).len, hq, rfl, rfl⟩ (da_cons (dp_dget (kvs := encRow r) (k := Sum.inr key) (d := encT td) hu (by rw [row_val, hget]; rfl) (dk_dat (dp_ixL (ds := tab.map fun r => dictD (encRow r)) (n := (sN : Int)) (d := dictD (encRow r)) (by rw [atI_nat (by omega), List.getElem?_map, hrow]; rfl) (dl_dat (v 0)) (v 5))) (v 9)) (da_cons (v 6) (da_cons (dp_add (m := cell) (n := (k : Int)) (v 2) (v 4)) (da_cons (v 9) da_nil)))))) rfl (v 9) (szl (by unfold encRow; rw [List.length_map]; omega)) hu ?_
        rw [rput_enc]
        refine ws_nil ⟨putLed li (cell + (k : Int)) a (key, td), ⟨z1, ?_⟩, .same (.same (.same (.same (.same (.same (.same (.same (.same (.drop .nil)))))))))⟩
        have : (putLed li (cell + (k : Int)) a (key, td)).length ≤ a.length + 1 := by
          unfold putLed rput
          split
          · rw [List.length_map]; exact Nat.le_succ _
          · rw [List.length_append]; exact Nat.le_refl _
        omega
      · intro a ⟨z1, _⟩
        have z1 : a = rowLed li (cell + (k : Int)) r := z1
        refine ws_exp (de_append 7 (ds := acc.map fun r => dictD (encRow r)) (ds0 := acc.map fun r => dictD (encRow r)) (d := dictD (encRow a)) rfl (de_frzK (mv 8)) rfl (szl (by rw [List.length_map]; omega))) ?_
        refine ws_nil ⟨acc ++ [a], ⟨?_, ?_⟩, ?_⟩
        · rw [List.append_assoc, z1, ← hrr]
          exact q1
        · show (acc ++ [_]).length + l.length ≤ 200
          rw [List.length_append, List.length_singleton]
          omega
        · show Sub _ [_, _, _, _, _, _, _, some (.b (.ol ((acc ++ [a]).map fun r => dictD (encRow r)))), _, _]
          rw [List.map_append]
          exact .same (.same (.same (.same (.drop (.drop (.same (.same (.same (.same .nil)))))))))
    · intro acc ⟨q1, _⟩
      have q1 : acc = rowsLed tab li cell := by simpa using q1
      refine ws_frzL (i := 7) rfl ?_
      refine ws_ret (de_pure (dp_tup (ds := [.list (acc.map fun r => dictD (encRow r)), .list ((othPa st li).map encSt)]) (da_cons (v 7) (da_cons (dp_to (lcN 5 (fun s : Nat => PyData.int (s : Int)) (fun _ => true) (fun s : Nat => encSt (paAt st (s : Int))) (xs := li) (di_weak (di_dat (v 3))) (fun a ha s H C cl fp => dts_nil) (fun a ha _ s H C cl fp => dp_listL rfl T.b_list (dl_dat (dp_ixL (ds := st.map encSt) (n := (a : Int)) (d := encSt (paAt st (a : Int))) ?_ (dl_dat (v 1)) (v 5)))) (szl (by omega))) ?_) da_nil)) (Nat.le_of_ble_eq_true rfl))) ?_
      · have hs : a < tab.length := LO.lt (by omega) ha
        rw [atI_nat (by omega), List.getElem?_map, pa_at (j := (a : Int)) (by omega) (by omega)]
        rfl
      · rw [flt_true]
        unfold othPa
        rw [List.map_map]
        rfl
      · rw [q1]
        rfl
end
end DL


set_option Elab.async false
set_option linter.all false
set_option maxRecDepth 100000
set_option maxHeartbeats 4000000
/-! P7: the law's grammars are small; its texts; its other table. -/
namespace DL
open PySem PySem.Spec PyProof.Rows L2

def nms : List Str := ["S", "A", "B"]
def lts : List Str := [sgA, sgB, sgC]
theorem nms_nm : ∀ x ∈ nms, Nm x := fun x hx => by
  unfold nms at hx
  simp only [List.mem_cons, List.not_mem_nil, or_false] at hx
  rcases hx with h | h | h <;> rw [h] <;> exact ⟨by decide +kernel, by decide +kernel, by decide +kernel, by decide +kernel⟩
theorem lts_lt : ∀ x ∈ lts, Lt x := fun x hx => by
  unfold lts at hx
  simp only [List.mem_cons, List.not_mem_nil, or_false] at hx
  rcases hx with h | h | h
  · rw [h]; exact lt_A
  · rw [h]; exact lt_B
  · rw [h]; exact lt_C
theorem lts_sg : ∀ x ∈ lts, x ∈ SG := fun x hx => by
  unfold lts at hx
  unfold SG
  simp only [List.mem_cons, List.not_mem_nil, or_false] at hx ⊢
  rcases hx with h | h | h
  · exact .inl h
  · exact .inr (.inl h)
  · exact .inr (.inr (.inl h))
theorem nms_lts {x : Str} (h1 : x ∈ nms) (h2 : x ∈ lts) : False := by
  have := (nms_nm x h1).nl
  rw [(lts_lt x h2).lt] at this
  cases this
/-- a rule of the law's -/
structure RB (r : Rl) : Prop where
  nm : r.1 ∈ nms
  pt : ∀ p ∈ r.2, p ∈ nms ∨ p ∈ lts
  ln : r.2.length ≤ 6
def rbB (r : Rl) : Bool := decide (r.1 ∈ nms) && (r.2.all fun p => decide (p ∈ nms) || decide (p ∈ lts)) && decide (r.2.length ≤ 6)
theorem rb_of {r : Rl} (h : rbB r = true) : RB r := by
  unfold rbB at h
  simp only [Bool.and_eq_true, decide_eq_true_eq, List.all_eq_true, Bool.or_eq_true] at h
  exact ⟨h.1.1, h.1.2, h.2⟩
def tot2 (g : Gr) : Nat := (g.map fun r => r.2.length).sum
def miss (g : Gr) : Nat := (trip.filter fun t => decide (t.1 ∉ g.map Prod.fst)).length
theorem known_rb : ∀ y ∈ knownS, (((Txt.split y sSP).map ruleOfW).all rbB && decide (tot2 ((Txt.split y sSP).map ruleOfW) + 3 + miss ((Txt.split y sSP).map ruleOfW) ≤ 17) && decide (1 ≤ ((Txt.split y sSP).map ruleOfW).length)) = true := by decide +kernel
theorem known_facts (n : Int) : (∀ r ∈ knownBy n, RB r) ∧ tot2 (knownBy n) + 3 + miss (knownBy n) ≤ 17 ∧ 1 ≤ (knownBy n).length := by
  have h := known_rb _ (known_mem n).1
  simp only [Bool.and_eq_true, decide_eq_true_eq, List.all_eq_true] at h
  exact ⟨fun r hr => rb_of (h.1.1 r hr), h.1.2, h.2⟩
theorem chS : ∀ c ∈ sSAB.cps.toList, (⟨#[c]⟩ : Str) ∈ nms := by decide +kernel
theorem chP : ∀ c ∈ sPARTS.cps.toList, (⟨#[c]⟩ : Str) ∈ nms ∨ (⟨#[c]⟩ : Str) ∈ lts := by decide +kernel
theorem partsGo_len : ∀ (n : Nat) (left : Int) (l : List Str), (partsGo n left l).length = l.length + n
  | 0, _, _ => rfl
  | n + 1, left, l => by
    show (partsGo n _ _).length = _
    rw [partsGo_len n, List.length_append, List.length_singleton]
    omega
theorem ruleBy_len (cell : Int) : (ruleBy cell).2.length ≤ 3 := by
  have h1 : cell / 3 % 4 < 4 := Int.emod_lt_of_pos _ (by decide)
  show (partsGo _ _ _).length ≤ 3
  rw [partsGo_len]
  show 0 + _ ≤ 3
  omega
theorem ruleBy_rb (cell : Int) : RB (ruleBy cell) where
  nm := by
    obtain ⟨ch, _, c2, c3⟩ := ch_at sSAB 3 cell (by decide) (by decide +kernel)
    show chAt sSAB 3 cell ∈ nms
    rw [c2]
    exact chS ch c3
  pt := fun p hp => by
    rcases partsGo_mem _ _ _ p hp with z | ⟨k, z⟩
    · cases z
    · obtain ⟨ch, _, c2, c3⟩ := ch_at sPARTS 6 k (by decide) (by decide +kernel)
      rw [z, c2]
      exact chP ch c3
  ln := Nat.le_trans (ruleBy_len cell) (by decide)
theorem tot_app (a b : Gr) : tot2 (a ++ b) = tot2 a + tot2 b := by
  unfold tot2
  rw [List.map_append, List.sum_append]
theorem more_facts (sc : List Int) : ∀ (k idx : Nat) (acc : Gr), (∀ r ∈ acc, RB r) → (∀ r ∈ moreGo sc k idx acc, RB r) ∧ tot2 (moreGo sc k idx acc) ≤ tot2 acc + 3 * k ∧ (moreGo sc k idx acc).length = acc.length + k ∧ ∀ x ∈ acc.map Prod.fst, x ∈ (moreGo sc k idx acc).map Prod.fst
  | 0, _, acc, h => ⟨h, Nat.le_refl _, rfl, fun _ h => h⟩
  | k + 1, idx, acc, h => by
    obtain ⟨a, b, c, d⟩ := more_facts sc k (idx + 1) (acc ++ [ruleBy (cellAt sc (idx : Int))]) fun r hr => by
      rcases List.mem_append.mp hr with z | z
      · exact h r z
      · rw [List.mem_singleton.mp z]; exact ruleBy_rb _
    have e : tot2 [ruleBy (cellAt sc (idx : Int))] ≤ 3 := by
      have := ruleBy_len (cellAt sc (idx : Int))
      simpa [tot2] using this
    rw [tot_app] at b
    rw [List.length_append, List.length_singleton] at c
    refine ⟨a, ?_, ?_, fun x hx => d x (by rw [List.map_append]; exact List.mem_append_left _ hx)⟩
    · show tot2 (moreGo sc k (idx + 1) _) ≤ _
      omega
    · show (moreGo sc k (idx + 1) _).length = _
      omega
theorem ded_fold : ∀ (l acc : Gr), acc.Nodup → (l.foldl dedStep acc).Nodup ∧ (∀ r, r ∈ l.foldl dedStep acc ↔ r ∈ acc ∨ r ∈ l) ∧ tot2 (l.foldl dedStep acc) ≤ tot2 acc + tot2 l ∧ (l.foldl dedStep acc).length ≤ acc.length + l.length
  | [], acc, h => ⟨h, fun r => ⟨.inl, fun z => z.elim id fun z => (List.not_mem_nil z).elim⟩, Nat.le_refl _, Nat.le_refl _⟩
  | x :: l, acc, h => by
    have hn : (dedStep acc x).Nodup := by
      unfold dedStep
      split
      · exact h
      · rename_i c
        exact List.nodup_append.mpr ⟨h, by simp, fun a ha y hy e => c (by rw [← List.mem_singleton.mp hy, ← e]; exact ha)⟩
    have hm : ∀ r, r ∈ dedStep acc x ↔ r ∈ acc ∨ r = x := fun r => by
      unfold dedStep
      split
      · rename_i c
        exact ⟨.inl, fun z => z.elim id fun e => by rw [e]; exact c⟩
      · rw [List.mem_append, List.mem_singleton]
    have ht : tot2 (dedStep acc x) ≤ tot2 acc + x.2.length := by
      unfold dedStep
      split
      · exact Nat.le_add_right _ _
      · rw [tot_app]; simp [tot2]
    have hl := ded_len acc x
    obtain ⟨a, b, c, d⟩ := ded_fold l (dedStep acc x) hn
    refine ⟨a, fun r => ?_, ?_, ?_⟩
    · rw [List.foldl_cons, b r, hm r, List.mem_cons]
      constructor
      · rintro ((z | z) | z)
        · exact .inl z
        · exact .inr (.inl z)
        · exact .inr (.inr z)
      · rintro (z | z | z)
        · exact .inl (.inl z)
        · exact .inl (.inr z)
        · exact .inr z
    · have e : tot2 (x :: l) = x.2.length + tot2 l := by simp [tot2]
      rw [List.foldl_cons]
      omega
    · rw [List.foldl_cons, List.length_cons]
      omega
/-- where a name is used it has a rule -/
def Cl1 (acc : Gr) (x : Str) : Prop := (∃ r ∈ acc, x ∈ r.2) → ∃ r ∈ acc, r.1 = x
structure FI (base : Gr) (m : Nat) (acc : Gr) : Prop where
  nd : acc.Nodup
  rb : ∀ r ∈ acc, RB r
  tt : tot2 acc ≤ m
  nm : ∀ x ∈ base.map Prod.fst, x ∈ acc.map Prod.fst
theorem trip_in : ∀ t ∈ trip, t.1 ∈ nms ∧ t.2.1 ∈ lts := by decide +kernel
theorem fill_step {base acc : Gr} {m : Nat} {t : Str × Str × Nat} (ht : t ∈ trip) (I : FI base m acc) : FI base (m + if t.1 ∉ base.map Prod.fst then 1 else 0) (fillStep acc t) ∧ Cl1 (fillStep acc t) t.1 ∧ (∀ x ∈ nms, Cl1 acc x → Cl1 (fillStep acc t) x) := by
  obtain ⟨t1, t2⟩ := trip_in t ht
  unfold fillStep
  by_cases h : 0 < (usedOf acc t.1).length ∧ (hasOf acc t.1).length = 0
  · rw [if_pos h]
    have hno : ∀ r ∈ acc, r.1 ≠ t.1 := fun r hr e => by
      have : r ∈ hasOf acc t.1 := List.mem_filter.mpr ⟨hr, decide_eq_true e⟩
      have := List.length_pos_of_mem this
      omega
    refine ⟨⟨?_, fun r hr => ?_, ?_, fun x hx => ?_⟩, fun _ => ⟨(t.1, [t.2.1]), by simp, rfl⟩, fun x hx hc hu => ?_⟩
    · exact List.nodup_append.mpr ⟨I.nd, by simp, fun a ha y hy e => hno a ha (by rw [e, List.mem_singleton.mp hy])⟩
    · rcases List.mem_append.mp hr with z | z
      · exact I.rb r z
      · rw [List.mem_singleton.mp z]
        exact ⟨t1, fun p hp => .inr (by rw [List.mem_singleton.mp hp]; exact t2), by simp⟩
    · have hb : t.1 ∉ base.map Prod.fst := fun z => by
        obtain ⟨r, hr, e⟩ := List.mem_map.mp (I.nm _ z)
        exact hno r hr e
      rw [if_pos hb, tot_app]
      have := I.tt
      have e : tot2 [(t.1, [t.2.1])] = 1 := by simp [tot2]
      omega
    · rw [List.map_append]
      exact List.mem_append_left _ (I.nm x hx)
    · obtain ⟨r, hr, hx2⟩ := hu
      rcases List.mem_append.mp hr with z | z
      · obtain ⟨r', h1, h2⟩ := hc ⟨r, z, hx2⟩
        exact ⟨r', List.mem_append_left _ h1, h2⟩
      · rw [List.mem_singleton.mp z] at hx2
        rw [List.mem_singleton.mp hx2] at hx
        exact (nms_lts hx t2).elim
  · rw [if_neg h]
    refine ⟨⟨I.nd, I.rb, Nat.le_trans I.tt (Nat.le_add_right _ _), I.nm⟩, fun hu => ?_, fun x hx hc => hc⟩
    obtain ⟨r, hr, hx⟩ := hu
    refine Classical.byContradiction fun c => h ⟨List.length_pos_of_mem (List.mem_filter.mpr ⟨hr, decide_eq_true hx⟩), ?_⟩
    rcases Nat.eq_zero_or_pos (hasOf acc t.1).length with z | z
    · exact z
    · obtain ⟨r', hr'⟩ := List.exists_mem_of_length_pos z
      obtain ⟨h1, h2⟩ := List.mem_filter.mp hr'
      exact absurd ⟨r', h1, of_decide_eq_true h2⟩ c
theorem miss_eq (g : Gr) : miss g = ((if ("S" : Str) ∉ g.map Prod.fst then 1 else 0) + (if ("A" : Str) ∉ g.map Prod.fst then 1 else 0)) + (if ("B" : Str) ∉ g.map Prod.fst then 1 else 0) := by
  unfold miss trip
  by_cases h1 : ("S" : Str) ∈ g.map Prod.fst <;> by_cases h2 : ("A" : Str) ∈ g.map Prod.fst <;> by_cases h3 : ("B" : Str) ∈ g.map Prod.fst <;> simp [List.filter_cons, h1, h2, h3]
theorem lg_of {raw base : Gr} (h1 : 1 ≤ raw.length) (h2 : raw.length ≤ 7) (hr : ∀ r ∈ raw, RB r) (hn : ∀ x ∈ base.map Prod.fst, x ∈ raw.map Prod.fst) (ht : tot2 raw + miss base ≤ 17) : LG (closedGr raw) := by
  obtain ⟨a, b, c, d⟩ := ded_fold raw [] List.nodup_nil
  have I0 : FI base (tot2 raw) (dedup raw) := ⟨a, fun r hr2 => hr r (((b r).mp hr2).elim (fun z => (List.not_mem_nil z).elim) id), by
    have : tot2 ([] : Gr) = 0 := rfl
    show tot2 (raw.foldl dedStep []) ≤ _
    omega, fun x hx => by
    obtain ⟨r, hr2, e⟩ := List.mem_map.mp (hn x hx)
    exact List.mem_map.mpr ⟨r, (b r).mpr (.inr hr2), e⟩⟩
  obtain ⟨I1, c1, _⟩ := fill_step (t := ("S", "c", 0)) (by decide +kernel) I0
  obtain ⟨I2, c2, k2⟩ := fill_step (t := ("A", "a", 1)) (by decide +kernel) I1
  obtain ⟨I3, c3, k3⟩ := fill_step (t := ("B", "b", 2)) (by decide +kernel) I2
  have e : closedGr raw = fillStep (fillStep (fillStep (dedup raw) ("S", "c", 0)) ("A", "a", 1)) ("B", "b", 2) := rfl
  rw [← e] at I3 c3 k3
  have nS : ("S" : Str) ∈ nms := by decide +kernel
  have nA : ("A" : Str) ∈ nms := by decide +kernel
  have cS := k3 "S" nS (k2 "S" nS c1)
  have cA := k3 "A" nA c2
  have hcl : ∀ x ∈ nms, Cl1 (closedGr raw) x := fun x hx => by
    unfold nms at hx
    simp only [List.mem_cons, List.not_mem_nil, or_false] at hx
    rcases hx with z | z | z
    · rw [z]; exact cS
    · rw [z]; exact cA
    · rw [z]; exact c3
  have hm := miss_eq base
  have htt : tot2 (closedGr raw) ≤ 17 := by
    refine Nat.le_trans I3.tt ?_
    show ((tot2 raw + if ("S" : Str) ∉ base.map Prod.fst then 1 else 0) + if ("A" : Str) ∉ base.map Prod.fst then 1 else 0) + (if ("B" : Str) ∉ base.map Prod.fst then 1 else 0) ≤ 17
    omega
  have hlen : (closedGr raw).length ≤ 10 := by
    rw [e]
    have q1 := fill_len (dedup raw) ("S", "c", 0)
    have q2 := fill_len (fillStep (dedup raw) ("S", "c", 0)) ("A", "a", 1)
    have q3 := fill_len (fillStep (fillStep (dedup raw) ("S", "c", 0)) ("A", "a", 1)) ("B", "b", 2)
    have d : (dedup raw).length ≤ 0 + raw.length := d
    omega
  have hpos : 1 ≤ (closedGr raw).length := by
    obtain ⟨r, hr2⟩ := List.exists_mem_of_length_pos h1
    have h5 : r ∈ dedup raw := (b r).mpr (.inr hr2)
    have up : ∀ {acc : Gr} {t : Str × Str × Nat}, r ∈ acc → r ∈ fillStep acc t := fun {acc t} h => by
      unfold fillStep
      split
      · exact List.mem_append_left _ h
      · exact h
    rw [e]
    exact List.length_pos_of_mem (up (up (up h5)))
  have G : GG (closedGr raw) := ⟨hpos, by omega, fun r hr => nms_nm _ (I3.rb r hr).nm, fun r hr => (I3.rb r hr).ln, fun r hr p hp => ((I3.rb r hr).pt p hp).elim (fun z => .inr (nms_nm p z)) (fun z => .inl (lts_lt p z)), I3.nd, fun r hr p hp hN => by
    rcases (I3.rb r hr).pt p hp with z | z
    · obtain ⟨r', h6, h7⟩ := hcl p z ⟨r, hr, hp⟩
      exact List.mem_map.mpr ⟨r', h6, h7⟩
    · have := hN.nl
      rw [(lts_lt p z).lt] at this
      cases this⟩
  refine ⟨G, hlen, fun y hy => ?_, htt⟩
  obtain ⟨h6, h7⟩ := List.mem_filter.mp hy
  obtain ⟨r, hr2, hp⟩ := List.mem_flatMap.mp h6
  rcases (I3.rb r hr2).pt y hp with z | z
  · rw [(nms_nm y z).nl] at h7; cases h7
  · exact lts_sg y z
theorem small_lg (sc : List Int) (n : Nat) : LG (smallBy sc n) := by
  unfold smallBy rawGr
  generalize cellAt sc (n : Int) = cell
  have hm := many_le cell
  by_cases h : cell % 2 = 1
  · have eb : baseOf cell = knownBy (cell / 2) := if_pos h
    have em : manyOf cell ≤ 1 := by
      unfold manyOf
      rw [if_pos h]
      have := Int.emod_lt_of_pos (cell / 32) (show (0 : Int) < 2 by decide)
      omega
    obtain ⟨a, b, c⟩ := known_facts (cell / 2)
    have d := (known_ok (cell / 2)).2
    rw [eb]
    obtain ⟨f1, f2, f3, f4⟩ := more_facts sc (manyOf cell) (n + 1) (knownBy (cell / 2)) a
    exact lg_of (base := knownBy (cell / 2)) (by omega) (by omega) f1 f4 (by omega)
  · have eb : baseOf cell = [] := if_neg h
    have em : 1 ≤ manyOf cell := by
      unfold manyOf
      rw [if_neg h]
      have := Int.emod_nonneg (cell / 2) (show (4 : Int) ≠ 0 by decide)
      omega
    rw [eb]
    obtain ⟨f1, f2, f3, f4⟩ := more_facts sc (manyOf cell) (n + 1) [] fun _ z => (List.not_mem_nil z).elim
    have e0 : tot2 ([] : Gr) = 0 := rfl
    have e1 : miss [] = 3 := by decide +kernel
    have f3 : _ = 0 + manyOf cell := f3
    exact lg_of (base := []) (by omega) (by omega) f1 (fun x hx => (List.not_mem_nil hx).elim) (by omega)
/-! texts -/
theorem wordGo_facts : ∀ (n : Nat) (left : Int) (t : Str), (∀ c ∈ t.cps.toList, c ∈ sABC.cps.toList) → (wordGo n left t).length = t.length + n ∧ ∀ c ∈ (wordGo n left t).cps.toList, c ∈ sABC.cps.toList
  | 0, _, t, h => ⟨rfl, h⟩
  | n + 1, left, t, h => by
    obtain ⟨ch, c1, c2⟩ := abc_at left
    have hm : ch ∈ sABC.cps.toList := by
      rw [atI_nat (Int.emod_nonneg _ (by decide))] at c1
      exact List.mem_of_getElem? c1
    obtain ⟨a, b⟩ := wordGo_facts n (left / 3) (t ++ abcAt left) fun c hc => by
      have hc : c ∈ (t.cps ++ (abcAt left).cps).toList := hc
      rw [Array.toList_append, c2] at hc
      rcases List.mem_append.mp hc with z | z
      · exact h c z
      · have z : c ∈ [ch] := z
        rw [List.mem_singleton.mp z]; exact hm
    refine ⟨?_, b⟩
    show (wordGo n (left / 3) (t ++ abcAt left)).length = _
    rw [a, str_app_len, c2]
    show t.length + 1 + n = _
    omega
theorem word_rd {g : Gr} {t : List Row} (G : GG g) (B : TabOk g t) (cell : Int) : RdOk g t (wordBy cell) := by
  have h1 : cell % 7 < 7 := Int.emod_lt_of_pos _ (by decide)
  obtain ⟨a, b⟩ := wordGo_facts (cell % 7).toNat (cell / 7) "" fun c hc => by cases hc
  have a : (wordBy cell).length = 0 + (cell % 7).toNat := a
  have b : ∀ c ∈ (wordBy cell).cps.toList, c ∈ sABC.cps.toList := b
  have k1 : ∀ c ∈ sABC.cps.toList, PyData.strOk ⟨#[c]⟩ = true := by decide +kernel
  have k2 : ∀ c ∈ sABC.cps.toList, inStr ⟨#[c]⟩ sLET = true := by decide +kernel
  exact ⟨G, B, ⟨by omega, fun c hc => k2 c (b c hc)⟩, fun c hc => k1 c (b c hc)⟩
/-! the other table -/
theorem enumL_get {α : Type} : ∀ (l : List α) (n k : Nat), (enumL n l)[k]? = (l[k]?).map fun a => (n + k, a)
  | [], _, _ => by simp [enumL]
  | a :: l, n, 0 => rfl
  | a :: l, n, k + 1 => by
    show (enumL (n + 1) l)[k]? = (l[k]?).map _
    rw [enumL_get l (n + 1) k]
    congr 1
    funext b
    congr 1
    omega
theorem oth_of {g : Gr} {rows : List Row} {st : List (List It3)} (G : LG g) (T : Tb g rows st) (cell : Int) : Oth st.length rows (linedBy cell rows.length) (rowsLed rows (linedBy cell rows.length) cell) := by
  have hn1 := T.n1
  have hn2 := T.n2
  have hl := T.len
  obtain ⟨LO, LL⟩ := lined_ok cell (n := rows.length) (by omega) (by omega)
  generalize linedBy cell rows.length = li at LO LL
  have B := T.tab G
  refine ⟨?_, fun s hs => by rw [← hl]; exact LO.lt (by omega) hs, fun k hk => ?_, LL, ?_, fun k s hk => ?_⟩
  · obtain ⟨r, e, _⟩ := LO.hd
    rw [e]; rfl
  · obtain ⟨r, e, hr⟩ := LO.hd
    cases k with
    | zero => rfl
    | succ k =>
      rw [e, List.getElem?_cons_succ] at hk
      have := (hr 0 (List.mem_of_getElem? hk)).1
      omega
  · unfold rowsLed
    rw [List.length_map, enumL_len]
  · have e : rowAt (rowsLed rows li cell) (k : Int) = rowLed li (cell + (k : Int)) (rowAt rows (s : Int)) := by
      refine rowAt_nat ?_
      unfold rowsLed
      rw [List.getElem?_map, enumL_get, hk]
      simp
    rw [e]
    refine ⟨fun key td => ledBy li (cell + (k : Int)) key td, rfl, fun p hp => ?_⟩
    have hs : s < rows.length := LO.lt (by omega) (List.mem_of_getElem? hk)
    have RO := B.row _ (List.mem_of_getElem? (row_at (t := rows) (j := (s : Int)) (by omega) (by omega)))
    have ht := RO.td p hp
    show TDr li p.2 (ledBy li (cell + (k : Int)) p.1 p.2)
    cases hx : p.2 with
    | done => exact .done
    | rule n => exact .rule n
    | goto j =>
      rw [hx] at ht
      obtain ⟨_, t1, t2⟩ := ht
      obtain ⟨jn, rfl⟩ := Int.eq_ofNat_of_zero_le t1
      have hp := spot_pos (LO.all jn (by omega))
      have p0 : 0 ≤ mixBy (cell + (k : Int)) (keyIx p.1) / 7 % ((spotOf li jn).length : Int) := Int.emod_nonneg _ (by omega)
      have p1 : mixBy (cell + (k : Int)) (keyIx p.1) / 7 % ((spotOf li jn).length : Int) < ((spotOf li jn).length : Int) := Int.emod_lt_of_pos _ (by omega)
      have hi : ledIx li (cell + (k : Int)) p.1 jn < (spotOf li jn).length := by unfold ledIx; omega
      have hm : (spotOf li jn)[ledIx li (cell + (k : Int)) p.1 jn] ∈ spotOf li jn := List.getElem_mem hi
      show TDr li (.goto (jn : Int)) (.goto ((((spotOf li jn)[ledIx li (cell + (k : Int)) p.1 jn]?).getD 0 : Nat) : Int))
      rw [List.getElem?_eq_getElem hi]
      exact .goto (spot_mem.mp hm)
end DL


set_option Elab.async false
set_option linter.all false
set_option maxRecDepth 100000
set_option maxHeartbeats 4000000
/-! W23: the law. -/
namespace DL
open PySem PySem.Spec PyProof.Rows L2

section
variable {X : Cx} {a b : Expr} {Γ : Ctx} {pos' : Pos}
theorem cm_notB {u t : Bool} {j : Nat} (ha : DP X a Γ (.bool u)) : CM X .IsNot a (.Constant (.bool t) j pos') Γ (!decide (u = t)) :=
  cm_cmp op_isnot_bl (fun x y Hf H _ hx hy Q q => by
    cases hx
    cases hy
    exact ⟨u, t, rfl, rfl, q _ _ _ .refl (.bl _)⟩) ha dp_bl rfl
end
theorem forms_ok {l : List (List Str)} (h : ∀ f ∈ l, ∀ s ∈ f, PyData.strOk s = true) : PyData.canLay0 (.list (l.map encF)) = true ∧ (PyData.list (l.map encF)).depth ≤ 700 := by
  have h1 : PyData.canLayAll0 (l.map encF) = true := layAll_of fun d hd => by
    obtain ⟨f, hf, rfl⟩ := List.mem_map.mp hd
    unfold encF
    rw [PyData.canLay0]
    exact layS (h f hf)
  have h2 : PyData.depthAll (l.map encF) ≤ 1 := depthAll_of fun d hd => by
    obtain ⟨f, hf, rfl⟩ := List.mem_map.mp hd
    unfold encF
    simp only [PyData.depth, depth_S]
    omega
  refine ⟨by rw [PyData.canLay0]; exact h1, ?_⟩
  simp only [PyData.depth]
  omega
section
variable {P : Program} {w : World} {K : PySem.W.Frag} {mg : Str → Option Value} {base : Heap}
/-! law -/
def R_law (ds : List PyData) (d : PyData) : Prop := ∃ sc : List Int, sc.length ≤ 63 ∧ ds = [.list (encZ sc)] ∧ d = .bool true
theorem sc_law : FnScope ["script", "spot", "grammar", "found", "table", "paper", "k", "text"] ["script"] (defScope KHead.s_law) := ⟨rfl, rfl, rfl, by decide +kernel, rfl, by decide +kernel, by decide +kernel⟩
theorem ne_told : ¬ Str.ofString "clash" = Str.ofString "table" ∧ ¬ Str.ofString "many" = Str.ofString "table" := by decide +kernel
theorem ok_law_fn (T : Txt K mg) {f : Addr} {fd : FuncData} (F : FnT K "law" KHead.s_law f fd) : FnOk P w K mg base CX0 40 f fd ["script"] (spD K R_law) := by
  refine fn_D F sc_law (fun ds d ⟨_, _, h, _⟩ => by rw [h]; rfl) fun cdv A outer s H E ds d hr ⟨sc, hsc, e1, e2⟩ => ?_
  subst e1 e2
  have nd := sc_law.nd
  have hun := hr.un
  have hunX : ∀ m : Nat, m ≤ 700 → (A.deeper (envOfC "law" (defScope KHead.s_law) s.heap.objs.size f cdv)).units + m < cLine := fun m hm => by omega
  obtain ⟨w1, w2⟩ := ne_told
  refine ws_set 1 (de_lst (da_cons dp_int da_nil) (Nat.le_of_ble_eq_true rfl)) ?_
  refine ws_set 2 (de_callO (ok_small T) (hr.mono (by decide)) ⟨sc, 5, rfl, rfl, rfl, rfl, rfl⟩ (dao_cons (v 0) (dao_here 1 da_nil rfl)) rfl) ?_
  have LGg := small_lg sc 5
  generalize smallBy sc 5 = g at LGg ⊢
  have G := LGg.gg
  have M := md_ok LGg
  refine ws_set 3 (de_pure (dp_call (ok_made_of T) (hr.mono (by decide)) ⟨g, G, M, rfl, rfl⟩ (da_cons (dp_to (dp_listL (ds := g.map encR) rfl T.b_list (vd 2)) rfl) da_nil))) ?_
  cases hm : madeBy g with
  | many =>
    refine ws_if1 (t := true) (dt_to (tcm (cm_neS rfl (dp_ixT (d := .str "many") rfl (v 3) dp_int) dp_str)) ?_) (fun _ => ws_ret (de_pure dp_bl) rfl) (fun h => by cases h)
    exact congrArg Bool.not (decide_eq_false w2)
  | clash fo si dl =>
    refine ws_if1 (t := true) (dt_to (tcm (cm_neS rfl (dp_ixT (d := .str "clash") rfl (v 3) dp_int) dp_str)) ?_) (fun _ => ws_ret (de_pure dp_bl) rfl) (fun h => by cases h)
    exact congrArg Bool.not (decide_eq_false w1)
  | table rows st =>
    have Tt := tb_of LGg hm
    have B := Tt.tab LGg
    have hl := Tt.len
    have hn1 := Tt.n1
    have hn2 := Tt.n2
    have O := oth_of LGg Tt (cellAt sc 0)
    refine ws_if1 (t := false) (dt_to (tcm (cm_neS rfl (dp_ixT (d := .str "table") rfl (v 3) dp_int) dp_str)) ?_) (fun h => by cases h) fun _ => ?_
    · exact congrArg Bool.not (decide_eq_true (Eq.refl (Str.ofString "table")))
    refine ws_pair 4 5 (d1 := encTab (rowsLed rows (linedBy (cellAt sc 0) rows.length) (cellAt sc 0))) (d2 := .list ((othPa st (linedBy (cellAt sc 0) rows.length)).map encSt)) (dp_call (ok_lother T) (hr.mono (by decide)) ⟨g, rows, st, cellAt sc 0, ⟨by omega, by omega, by omega, B.row⟩, rfl, rfl⟩ (da_cons (dp_ixT (d := encTab rows) rfl (v 3) dp_int) (da_cons (dp_ixT (d := .list (st.map encSt)) rfl (v 3) dp_int) (da_cons (dp_call (ok_cell_at T) (hr.mono (by decide)) ⟨sc, 0, by decide, rfl, rfl⟩ (da_cons (v 0) (da_cons dp_int da_nil))) da_nil)))) ?_
    generalize linedBy (cellAt sc 0) rows.length = li at O ⊢
    generalize rowsLed rows li (cellAt sc 0) = rows' at O ⊢
    have B' := O.tab LGg Tt
    have PA := O.paper LGg Tt
    have RR := O.right LGg Tt
    have hol := oth_len st li
    refine ws_if1 (t := false) (dt_to (tcm (cm_notB (u := true) (t := true) (dp_call (ok_is_right T) (hr.mono (by decide)) ⟨g, rows', othPa st li, true, G, B', PA, fun _ => RR, (fun h => by cases h), rfl, rfl⟩ (da_cons (v 2) (da_cons (v 4) (da_cons (v 5) da_nil)))))) rfl) (fun h => by cases h) fun _ => ?_
    refine ws_if1 (t := false) (dt_to (PW.pt (dw_and (t := !decide ((othPa st li).length = st.length)) (u := false) (dt_to (tcm (cm_neS rfl (dp_lenL (ds := (othPa st li).map encSt) rfl T.b_len (dl_dat (v 5))) (dp_lenL (ds := st.map encSt) rfl T.b_len (dl_dat (dp_ixT (d := .list (st.map encSt)) rfl (v 3) dp_int))))) ?_) fun hne => dw_and1 (dt_to (tcm (cm_notB (u := false) (t := false) (dp_call (ok_is_right T) (hr.mono (by decide)) ⟨g, rows, othPa st li, false, G, B, PA, (fun h => by cases h), (fun _ => ?_), rfl, rfl⟩ (da_cons (v 2) (da_cons (dp_ixT (d := encTab rows) rfl (v 3) dp_int) (da_cons (v 5) da_nil)))))) rfl))) (by simp)) (fun h => by cases h) fun _ => ?_
    · show (!decide (_ = _)) = _
      congr 1
      exact decide_eq_decide.mpr (by rw [List.length_map, List.length_map]; omega)
    · have hne : ¬ (othPa st li).length = st.length := by simpa using hne
      rw [hl]
      exact hne
    refine ws_forN (S := Unit) (xs := List.range 4) 6 (fun i : Nat => .int (0 + (i : Int))) (fun _ _ => True) (fun _ => [some (dat (.list (encZ sc))), none, some (dat (encG g)), some (dat (.tuple [.str "table", encTab rows, .list (st.map encSt)])), some (dat (encTab rows')), some (dat (.list ((othPa st li).map encSt))), none, none]) ()
      (di_range1 (n := 4) (by decide) (by decide) rfl T.b_range dp_int) trivial (.same (.drop (.same (.same (.same (.same (.same (.same .nil)))))))) ?_ fun _ _ => ws_ret (de_pure dp_bl) rfl
    intro i l _ _ _
    rw [Int.zero_add]
    refine ws_set 7 (de_pure (dp_call (ok_word T) (hr.mono (by decide)) ⟨cellAt sc (1 + (i : Int)), rfl, rfl⟩ (da_cons (dp_call (ok_cell_at T) (hr.mono (by decide)) ⟨sc, 1 + (i : Int), by omega, rfl, rfl⟩ (da_cons (v 0) (da_cons (dp_add (m := 1) (n := (i : Int)) dp_int (v 6)) da_nil))) (da_cons dp_int da_nil)))) ?_
    have R1 := word_rd G B (cellAt sc (1 + (i : Int)))
    have R2 := word_rd G B' (cellAt sc (1 + (i : Int)))
    generalize wordBy (cellAt sc (1 + (i : Int))) = y at R1 R2 ⊢
    obtain ⟨q1, q2⟩ := O.read Tt R2
    obtain ⟨⟨l1, d1⟩, f1⟩ := told_ok R2
    obtain ⟨l2, d2⟩ := forms_ok f1
    refine ws_if1 (t := false) (dt_to (tcm (cm_neG (da := (readGo g rows' y 300 (pile0 y)).2) (db := (readGo g rows y 300 (pile0 y)).2) l1 (by rw [q1]; exact l1) ?_ (dp_call (ok_read_by T) (hr.mono (by decide)) ⟨g, rows', y, R2, rfl, rfl⟩ (da_cons (v 2) (da_cons (v 4) (da_cons (v 7) da_nil)))) (dp_call (ok_read_by T) (hr.mono (by decide)) ⟨g, rows, y, R1, rfl, rfl⟩ (da_cons (v 2) (da_cons (dp_ixT (d := encTab rows) rfl (v 3) dp_int) (da_cons (v 7) da_nil)))))) ?_) (fun h => by cases h) fun _ => ?_
    · exact hunX _ (Nat.le_trans (Nat.min_le_left _ _) d1)
    · rw [q1, PySem.SeqAt.eqv_refl _ l1]
      rfl
    refine ws_if1 (t := false) (dt_to (tcm (cm_neG (da := .list ((readGo g rows' y 300 (pile0 y)).1.fo.map encF)) (db := .list ((readGo g rows y 300 (pile0 y)).1.fo.map encF)) l2 (by rw [q2]; exact l2) ?_ (dp_call (ok_folding T) (hr.mono (by decide)) ⟨g, rows', y, R2, rfl, rfl⟩ (da_cons (v 2) (da_cons (v 4) (da_cons (v 7) da_nil)))) (dp_call (ok_folding T) (hr.mono (by decide)) ⟨g, rows, y, R1, rfl, rfl⟩ (da_cons (v 2) (da_cons (dp_ixT (d := encTab rows) rfl (v 3) dp_int) (da_cons (v 7) da_nil)))))) ?_) (fun h => by cases h) fun _ => ?_
    · exact hunX _ (Nat.le_trans (Nat.min_le_left _ _) d2)
    · rw [q2, PySem.SeqAt.eqv_refl _ l2]
      rfl
    exact ws_nil ⟨(), trivial, .same (.same (.same (.same (.same (.same (.drop (.drop .nil)))))))⟩
end
end DL


set_option Elab.async false
set_option linter.all false
set_option maxRecDepth 100000
set_option maxHeartbeats 0
namespace KHead
open PySem PySem.Spec PyProof.Rows L2
abbrev R : PySem.W.OpenRow := PySem.W.OpenLaw.row PySem.Challenge.rw_rulewright_k46_whole_any_right_table
abbrev hk : PySem.W.Hook := He.hookD 5 fa fn
def ob (s : PySem.W.SharedT) : He.AlD := He.obsDG 5 fa fn (HandSHeadRun.getT s)
theorem ob_eq (s : PySem.W.SharedT) : ob s = hk.obs s.abs := He.obsDG_eq (HandSHeadRun.getT_eq s)
theorem run (w : World) : HandSHeadRun.RunEq R (PySem.W.view R.prog [85]) hk ob 4000 names w := by
  intro os
  kernel_rfl
end KHead


set_option Elab.async false
set_option linter.all false
set_option maxRecDepth 100000
set_option maxHeartbeats 0
/-! FIN: the end. -/
namespace DL
open PySem PySem.Spec PyProof.Rows L2
theorem ints_dv {K : PySem.W.Frag} {H : Hp} : ∀ ns : List Int, DvAll K H (ns.map V.int) (encZ ns)
  | [] => .nil
  | n :: ns => .cons (.int n) (ints_dv ns)
theorem facts {P : Program} {w : World} {K : PySem.W.Frag} {h : Heap} {mg : Str → Option Value} {f : Addr} (X : K.In h) (G : h.Ns mainGlobals mg) (hfa : mg ("law" : Str) = some (.ref f)) (c : He.SaysD KHead.fa KHead.fn K) :
    ∃ fd : FuncData, (∀ (s : Shared) (v : Value), BindsTo s fd ⟨[v], []⟩ [("script", v)]) ∧ ∀ base : Heap, K.In base → base.Ns mainGlobals mg → FnOk P w K mg base CX0 40 f fd ["script"] (spD K R_law) := by
  obtain ⟨fd, F⟩ := c.def_ 65 (d := KHead.d_law) rfl
  have e := hfa.symm.trans (He.glo_ok X G (c.fact 56 (f := .glo "law") rfl))
  cases e
  have b := FunD.bindsA (ps := ["script"]) F fun _ _ _ _ _ _ us hl => match us, hl with | [_], _ => rfl
  exact ⟨fd, fun s v => b s [v] rfl, fun base _ _ => ok_law_fn ⟨⟨h, X, G⟩, c⟩ F⟩
end DL
open PySem PySem.W PySem.Calls PyProof.Rows
theorem PySem.Challenge.cw_rulewright_k46_whole_any_right_table_holds : PySem.Challenge.rw_rulewright_k46_whole_any_right_table.Holds := by
  w_on; o_law
  refine HandSHeadRun.head_any (r := OpenLaw.row PySem.Challenge.rw_rulewright_k46_whole_any_right_table) (q := view (OpenLaw.row PySem.Challenge.rw_rulewright_k46_whole_any_right_table).prog [85]) (H := KHead.hk) (ob := KHead.ob) (M := 4000) (loose := KHead.names) (d := HandSHeadRun.topDef (OpenLaw.row PySem.Challenge.rw_rulewright_k46_whole_any_right_table).prog 85) (kwd := []) KHead.ob_eq
    (by kernel_rfl) (fun s => by kernel_rfl) KHead.run (by kernel_rfl) (by kernel_rfl) (by kernel_rfl) (by rfl) (by first | assumption | decide +kernel) (by decide +kernel) ⟨rfl, rfl, rfl, rfl, rfl, by decide +kernel⟩ ?hw ?hc
  case hw => w_witness2
  case hc =>
    refine L2.walk_ofE (l := PySem.Challenge.rw_rulewright_k46_whole_any_right_table) (n := 63) (k := 40) (x := "script") (CX := L2.CX0) rfl (by decide) (by kernel_rfl) ⟨rfl, by decide, by decide⟩ ?F (fun _ _ _ _ z => z)
    intro w mg fa h Y G hmg0
    obtain ⟨K, KX, c⟩ := Y
    have hmg : mg ("law" : PySem.Str) = some (.ref fa) := by
      have e : (HandSHeadRun.topDef (OpenLaw.row PySem.Challenge.rw_rulewright_k46_whole_any_right_table).prog 85).name = ("law" : PySem.Str) := by kernel_rfl
      rw [← e]
      exact hmg0
    obtain ⟨fd, hb, hF⟩ := DL.facts (P := (PySem.Challenge.rw_rulewright_k46_whole_any_right_table).prog) (w := w) KX G hmg c
    exact ⟨K, fd, DL.spD K DL.R_law, KX, hb, fun H a ns hl _ hS => ⟨H, [.list (DL.encZ ns)], .bool true, L2.Same.refl _, .cons (.lst hS (DL.ints_dv ns)) .nil, ⟨ns, hl, rfl, rfl⟩, fun v _ _ _ hv => by cases hv; rfl⟩, hF⟩

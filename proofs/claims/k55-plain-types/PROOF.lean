import PyProof.Rows.All
import Wide.All
import OpenK.AllK
import Wide.FinOn
import KE.KStateDown
import Lean
import HandS.Base
import HandS.Call
import HandS.Ends
import HandS.More
import HandS.Words
import HandS.WordsExc
import HandS.Defaults
import HandS.Head0
import HandS.Head1
import HandS.Head2
import HandS.HeadEnd
import HandS.HeadHook1
import HandS.HeadHook2
import PySem.Challenge.RW_waychosen_k55_plain_types_and_values
import HandS.ForMost
import HandS.IsInst
import HandS.Deep
import KE.DataEq
import HandS.TupAny
import HandS.Style
import HandS.DictComp
import HandS.RevTup
import HandS.Conv
import HandS.Small
import HandS.Evl
import KE.KDictPairs
import KE.KDictLaws
import KE.GoesMore
import HandS.Iter
import KE.KeyNested
import KE.KDictKeyed
import HandS.SortRule
import PyProof.Rows.SortKeyStr
import KE.KRevSl
set_option Elab.async false
set_option linter.all false
set_option maxRecDepth 100000
set_option maxHeartbeats 0
namespace K55
open PySem PySem.Spec PyProof.Rows L2
def topS (i : Nat) : Stmt := PySem.Challenge.pw_waychosen_k55_plain_types_and_values.main.body.getD i (.Pass ⟨0, 0, 0, 0⟩)
abbrev s_is_int : Stmt := topS 15
abbrev s_within : Stmt := topS 16
abbrev s_is_tuple : Stmt := topS 17
abbrev s_is_name : Stmt := topS 18
abbrev s_is_high : Stmt := topS 20
abbrev s_inner_of : Stmt := topS 29
abbrev s_is_shaped : Stmt := topS 30
abbrev s_is_type : Stmt := topS 31
abbrev s_is_open : Stmt := topS 32
abbrev s_parts_of : Stmt := topS 33
abbrev s_kinds_in : Stmt := topS 38
abbrev s_goes_with : Stmt := topS 41
abbrev s_is_open_in : Stmt := topS 42
abbrev s_is_closed_in : Stmt := topS 43
abbrev s_is_maker : Stmt := topS 60
abbrev s_is_kind : Stmt := topS 61
abbrev s_is_tree : Stmt := topS 72
abbrev s_is_program : Stmt := topS 75
abbrev s_need_program : Stmt := topS 76
abbrev s_Heads_init : Stmt := inClass (topS 80) 0
abbrev s_Heads_check_type : Stmt := inClass (topS 80) 1
abbrev s_Heads_check_kind : Stmt := inClass (topS 80) 2
abbrev s_heads_checked : Stmt := topS 82
abbrev s_check : Stmt := topS 83
abbrev s_need_checked : Stmt := topS 84
abbrev s_book_inside : Stmt := topS 87
abbrev s_Plan_init : Stmt := inClass (topS 93) 0
abbrev s_Plan_all_fns : Stmt := inClass (topS 93) 3
abbrev s_planned : Stmt := topS 94
abbrev s_Bank_init : Stmt := inClass (topS 96) 0
abbrev s_Bank_put : Stmt := inClass (topS 96) 1
abbrev s_Bank_parts_of : Stmt := inClass (topS 96) 2
abbrev s_Bank_number : Stmt := inClass (topS 96) 3
abbrev s_Bank_head : Stmt := inClass (topS 96) 6
abbrev s_Bank_args_at : Stmt := inClass (topS 96) 7
abbrev s_label_arity : Stmt := topS 100
abbrev s_arity : Stmt := topS 101
abbrev s_are_words : Stmt := topS 102
abbrev s_Fields_init : Stmt := inClass (topS 103) 0
abbrev s_Fields_of : Stmt := inClass (topS 103) 1
abbrev s_Fields_is_plain : Stmt := inClass (topS 103) 2
abbrev s_Fields_has_type : Stmt := inClass (topS 103) 3
abbrev s_need_type_of : Stmt := topS 104
abbrev s_is_plain : Stmt := topS 105
abbrev s_is_of_type : Stmt := topS 106
abbrev s_is_of : Stmt := topS 107
abbrev s_law_urn : Stmt := topS 109
abbrev s_law_ball : Stmt := topS 110
abbrev s_law_like : Stmt := topS 111
abbrev s_law_type : Stmt := topS 112
abbrev s_law_program : Stmt := topS 113
abbrev s_law_put : Stmt := topS 114
abbrev s_law_makers : Stmt := topS 115
abbrev s_law_size : Stmt := topS 116
abbrev s_law_plain : Stmt := topS 117
abbrev s_law_words : Stmt := topS 118
abbrev s_law_is_of : Stmt := topS 119
abbrev s_law_near : Stmt := topS 120
abbrev s_law : Stmt := topS 121
def d_is_int : He.DefD := ⟨("is_int", none), "is_int", "is_int", defArgs s_is_int, defBody s_is_int, defScope s_is_int, [], []⟩
def d_within : He.DefD := ⟨("within", none), "within", "within", defArgs s_within, defBody s_within, defScope s_within, [], []⟩
def d_is_tuple : He.DefD := ⟨("is_tuple", none), "is_tuple", "is_tuple", defArgs s_is_tuple, defBody s_is_tuple, defScope s_is_tuple, [], []⟩
def d_is_name : He.DefD := ⟨("is_name", none), "is_name", "is_name", defArgs s_is_name, defBody s_is_name, defScope s_is_name, [], []⟩
def d_is_high : He.DefD := ⟨("is_high", none), "is_high", "is_high", defArgs s_is_high, defBody s_is_high, defScope s_is_high, [], []⟩
def d_inner_of : He.DefD := ⟨("inner_of", none), "inner_of", "inner_of", defArgs s_inner_of, defBody s_inner_of, defScope s_inner_of, [], []⟩
def d_is_shaped : He.DefD := ⟨("is_shaped", none), "is_shaped", "is_shaped", defArgs s_is_shaped, defBody s_is_shaped, defScope s_is_shaped, [], []⟩
def d_is_type : He.DefD := ⟨("is_type", none), "is_type", "is_type", defArgs s_is_type, defBody s_is_type, defScope s_is_type, [.int 6, .int 30], []⟩
def d_is_open : He.DefD := ⟨("is_open", none), "is_open", "is_open", defArgs s_is_open, defBody s_is_open, defScope s_is_open, [], []⟩
def d_parts_of : He.DefD := ⟨("parts_of", none), "parts_of", "parts_of", defArgs s_parts_of, defBody s_parts_of, defScope s_parts_of, [], []⟩
def d_kinds_in : He.DefD := ⟨("kinds_in", none), "kinds_in", "kinds_in", defArgs s_kinds_in, defBody s_kinds_in, defScope s_kinds_in, [], []⟩
def d_goes_with : He.DefD := ⟨("goes_with", none), "goes_with", "goes_with", defArgs s_goes_with, defBody s_goes_with, defScope s_goes_with, [], []⟩
def d_is_open_in : He.DefD := ⟨("is_open_in", none), "is_open_in", "is_open_in", defArgs s_is_open_in, defBody s_is_open_in, defScope s_is_open_in, [], []⟩
def d_is_closed_in : He.DefD := ⟨("is_closed_in", none), "is_closed_in", "is_closed_in", defArgs s_is_closed_in, defBody s_is_closed_in, defScope s_is_closed_in, [], []⟩
def d_is_maker : He.DefD := ⟨("is_maker", none), "is_maker", "is_maker", defArgs s_is_maker, defBody s_is_maker, defScope s_is_maker, [], []⟩
def d_is_kind : He.DefD := ⟨("is_kind", none), "is_kind", "is_kind", defArgs s_is_kind, defBody s_is_kind, defScope s_is_kind, [], []⟩
def d_is_tree : He.DefD := ⟨("is_tree", none), "is_tree", "is_tree", defArgs s_is_tree, defBody s_is_tree, defScope s_is_tree, [], []⟩
def d_is_program : He.DefD := ⟨("is_program", none), "is_program", "is_program", defArgs s_is_program, defBody s_is_program, defScope s_is_program, [], []⟩
def d_need_program : He.DefD := ⟨("need_program", none), "need_program", "need_program", defArgs s_need_program, defBody s_need_program, defScope s_need_program, [], []⟩
def d_Heads_init : He.DefD := ⟨("Heads", some "__init__"), "__init__", "Heads.__init__", defArgs s_Heads_init, defBody s_Heads_init, defScope s_Heads_init, [], []⟩
def d_Heads_check_type : He.DefD := ⟨("Heads", some "check_type"), "check_type", "Heads.check_type", defArgs s_Heads_check_type, defBody s_Heads_check_type, defScope s_Heads_check_type, [], []⟩
def d_Heads_check_kind : He.DefD := ⟨("Heads", some "check_kind"), "check_kind", "Heads.check_kind", defArgs s_Heads_check_kind, defBody s_Heads_check_kind, defScope s_Heads_check_kind, [], []⟩
def d_heads_checked : He.DefD := ⟨("heads_checked", none), "heads_checked", "heads_checked", defArgs s_heads_checked, defBody s_heads_checked, defScope s_heads_checked, [], []⟩
def d_check : He.DefD := ⟨("check", none), "check", "check", defArgs s_check, defBody s_check, defScope s_check, [], []⟩
def d_need_checked : He.DefD := ⟨("need_checked", none), "need_checked", "need_checked", defArgs s_need_checked, defBody s_need_checked, defScope s_need_checked, [], []⟩
def d_book_inside : He.DefD := ⟨("book_inside", none), "book_inside", "book_inside", defArgs s_book_inside, defBody s_book_inside, defScope s_book_inside, [], []⟩
def d_Plan_init : He.DefD := ⟨("Plan", some "__init__"), "__init__", "Plan.__init__", defArgs s_Plan_init, defBody s_Plan_init, defScope s_Plan_init, [], []⟩
def d_Plan_all_fns : He.DefD := ⟨("Plan", some "all_fns"), "all_fns", "Plan.all_fns", defArgs s_Plan_all_fns, defBody s_Plan_all_fns, defScope s_Plan_all_fns, [], []⟩
def d_planned : He.DefD := ⟨("planned", none), "planned", "planned", defArgs s_planned, defBody s_planned, defScope s_planned, [], []⟩
def d_Bank_init : He.DefD := ⟨("Bank", some "__init__"), "__init__", "Bank.__init__", defArgs s_Bank_init, defBody s_Bank_init, defScope s_Bank_init, [], []⟩
def d_Bank_put : He.DefD := ⟨("Bank", some "put"), "put", "Bank.put", defArgs s_Bank_put, defBody s_Bank_put, defScope s_Bank_put, [], []⟩
def d_Bank_parts_of : He.DefD := ⟨("Bank", some "parts_of"), "parts_of", "Bank.parts_of", defArgs s_Bank_parts_of, defBody s_Bank_parts_of, defScope s_Bank_parts_of, [], []⟩
def d_Bank_number : He.DefD := ⟨("Bank", some "number"), "number", "Bank.number", defArgs s_Bank_number, defBody s_Bank_number, defScope s_Bank_number, [], []⟩
def d_Bank_head : He.DefD := ⟨("Bank", some "head"), "head", "Bank.head", defArgs s_Bank_head, defBody s_Bank_head, defScope s_Bank_head, [], []⟩
def d_Bank_args_at : He.DefD := ⟨("Bank", some "args_at"), "args_at", "Bank.args_at", defArgs s_Bank_args_at, defBody s_Bank_args_at, defScope s_Bank_args_at, [], []⟩
def d_label_arity : He.DefD := ⟨("label_arity", none), "label_arity", "label_arity", defArgs s_label_arity, defBody s_label_arity, defScope s_label_arity, [], []⟩
def d_arity : He.DefD := ⟨("arity", none), "arity", "arity", defArgs s_arity, defBody s_arity, defScope s_arity, [], []⟩
def d_are_words : He.DefD := ⟨("are_words", none), "are_words", "are_words", defArgs s_are_words, defBody s_are_words, defScope s_are_words, [], []⟩
def d_Fields_init : He.DefD := ⟨("Fields", some "__init__"), "__init__", "Fields.__init__", defArgs s_Fields_init, defBody s_Fields_init, defScope s_Fields_init, [], []⟩
def d_Fields_of : He.DefD := ⟨("Fields", some "of"), "of", "Fields.of", defArgs s_Fields_of, defBody s_Fields_of, defScope s_Fields_of, [], []⟩
def d_Fields_is_plain : He.DefD := ⟨("Fields", some "is_plain"), "is_plain", "Fields.is_plain", defArgs s_Fields_is_plain, defBody s_Fields_is_plain, defScope s_Fields_is_plain, [], []⟩
def d_Fields_has_type : He.DefD := ⟨("Fields", some "has_type"), "has_type", "Fields.has_type", defArgs s_Fields_has_type, defBody s_Fields_has_type, defScope s_Fields_has_type, [], []⟩
def d_need_type_of : He.DefD := ⟨("need_type_of", none), "need_type_of", "need_type_of", defArgs s_need_type_of, defBody s_need_type_of, defScope s_need_type_of, [], []⟩
def d_is_plain : He.DefD := ⟨("is_plain", none), "is_plain", "is_plain", defArgs s_is_plain, defBody s_is_plain, defScope s_is_plain, [], []⟩
def d_is_of_type : He.DefD := ⟨("is_of_type", none), "is_of_type", "is_of_type", defArgs s_is_of_type, defBody s_is_of_type, defScope s_is_of_type, [], []⟩
def d_is_of : He.DefD := ⟨("is_of", none), "is_of", "is_of", defArgs s_is_of, defBody s_is_of, defScope s_is_of, [], []⟩
def d_law_urn : He.DefD := ⟨("_law_urn", none), "_law_urn", "_law_urn", defArgs s_law_urn, defBody s_law_urn, defScope s_law_urn, [], []⟩
def d_law_ball : He.DefD := ⟨("_law_ball", none), "_law_ball", "_law_ball", defArgs s_law_ball, defBody s_law_ball, defScope s_law_ball, [], []⟩
def d_law_like : He.DefD := ⟨("_law_like", none), "_law_like", "_law_like", defArgs s_law_like, defBody s_law_like, defScope s_law_like, [], []⟩
def d_law_type : He.DefD := ⟨("_law_type", none), "_law_type", "_law_type", defArgs s_law_type, defBody s_law_type, defScope s_law_type, [], []⟩
def d_law_program : He.DefD := ⟨("_law_program", none), "_law_program", "_law_program", defArgs s_law_program, defBody s_law_program, defScope s_law_program, [], []⟩
def d_law_put : He.DefD := ⟨("_law_put", none), "_law_put", "_law_put", defArgs s_law_put, defBody s_law_put, defScope s_law_put, [], []⟩
def d_law_makers : He.DefD := ⟨("_law_makers", none), "_law_makers", "_law_makers", defArgs s_law_makers, defBody s_law_makers, defScope s_law_makers, [], []⟩
def d_law_size : He.DefD := ⟨("_law_size", none), "_law_size", "_law_size", defArgs s_law_size, defBody s_law_size, defScope s_law_size, [], []⟩
def d_law_plain : He.DefD := ⟨("_law_plain", none), "_law_plain", "_law_plain", defArgs s_law_plain, defBody s_law_plain, defScope s_law_plain, [], []⟩
def d_law_words : He.DefD := ⟨("_law_words", none), "_law_words", "_law_words", defArgs s_law_words, defBody s_law_words, defScope s_law_words, [], []⟩
def d_law_is_of : He.DefD := ⟨("_law_is_of", none), "_law_is_of", "_law_is_of", defArgs s_law_is_of, defBody s_law_is_of, defScope s_law_is_of, [], []⟩
def d_law_near : He.DefD := ⟨("_law_near", none), "_law_near", "_law_near", defArgs s_law_near, defBody s_law_near, defScope s_law_near, [], []⟩
def d_law : He.DefD := ⟨("law", none), "law", "law", defArgs s_law, defBody s_law, defScope s_law, [], []⟩
def fa0 : List He.Fa := [.glo "is_int", .glo "within", .glo "is_tuple", .glo "is_name", .glo "is_high", .glo "inner_of", .glo "is_shaped", .glo "is_type", .glo "is_open", .glo "parts_of", .glo "kinds_in", .glo "goes_with", .glo "is_open_in", .glo "is_closed_in", .glo "is_maker", .glo "is_kind", .glo "is_tree", .glo "is_program", .glo "need_program", .glo "heads_checked"]
def fa1 : List He.Fa := [.glo "check", .glo "need_checked", .glo "book_inside", .glo "planned", .glo "label_arity", .glo "arity", .glo "are_words", .glo "need_type_of", .glo "is_plain", .glo "is_of_type", .glo "is_of", .glo "_law_urn", .glo "_law_ball", .glo "_law_like", .glo "_law_type", .glo "_law_program", .glo "_law_put", .glo "_law_makers", .glo "_law_size", .glo "_law_plain"]
def fa2 : List He.Fa := [.glo "_law_words", .glo "_law_is_of", .glo "_law_near", .glo "law", .free "isinstance", .free "int", .free "bool", .free "str", .free "tuple", .free "all", .free "any", .free "len", .free "list", .free "sorted", .free "dict", .free "enumerate", .free "range", .free "zip", .free "min", .free "max"]
def fa3 : List He.Fa := [.free "sum", .glo "Heads", .cls "Heads", .mkr "Heads", .noat "Heads" "makers", .noat "Heads" "kinds", .noat "Heads" "classes", .noat "Heads" "methods", .noat "Heads" "defs", .noat "Heads" "captured", .glo "Plan", .cls "Plan", .mkr "Plan", .noat "Plan" "program", .noat "Plan" "heads", .noat "Plan" "book", .noat "Plan" "units", .noat "Plan" "many_defs", .noat "Plan" "numbers", .noat "Plan" "firsts"]
def fa4 : List He.Fa := [.glo "Bank", .cls "Bank", .mkr "Bank", .noat "Bank" "nodes", .noat "Bank" "sizes", .noat "Bank" "numbers", .noat "Bank" "told", .glo "Fields", .cls "Fields", .mkr "Fields", .noat "Fields" "plan", .noat "Fields" "bank", .noat "Fields" "found", .meth "Heads" "check_type", .meth "Heads" "check_kind", .meth "Plan" "all_fns", .meth "Bank" "put", .meth "Bank" "parts_of", .meth "Bank" "number", .meth "Bank" "head"]
def fa5 : List He.Fa := [.meth "Bank" "args_at", .meth "Fields" "of", .meth "Fields" "is_plain", .meth "Fields" "has_type", .int "LONGEST_NAME" 10, .int "MOST_PARAMS_types" 2, .int "DEEPEST_TYPE" 6, .int "MOST_TYPE_PARTS" 30, .int "DEEPEST_CLOSED" 60, .int "MOST_CLOSED_PARTS" 1000, .int "MOST_KINDS" 16, .int "MOST_MAKERS" 8, .int "MOST_FIELDS" 8, .int "MOST_CLASSES" 5, .int "MOST_WAYS" 40, .int "MOST_DEFS" 100, .int "MOST_WORDS" 4000, .int "MOST_PLAIN" 400, .str "LETTERS" "abcdefghijklmnopqrstuvwxyzABCDEFGHIJKLMNOPQRSTUVWXYZ", .str "SMALL" "abcdefghijklmnopqrstuvwxyz"]
def fa6 : List He.Fa := [.str "DIGITS" "0123456789", .glo "WORDS"]
def fa : List He.Fa := fa0 ++ fa1 ++ fa2 ++ fa3 ++ fa4 ++ fa5 ++ fa6
def fn0 : List He.DefD := [d_is_int, d_within, d_is_tuple, d_is_name, d_is_high, d_inner_of, d_is_shaped, d_is_type, d_is_open, d_parts_of, d_kinds_in, d_goes_with, d_is_open_in, d_is_closed_in, d_is_maker, d_is_kind, d_is_tree, d_is_program, d_need_program, d_Heads_init]
def fn1 : List He.DefD := [d_Heads_check_type, d_Heads_check_kind, d_heads_checked, d_check, d_need_checked, d_book_inside, d_Plan_init, d_Plan_all_fns, d_planned, d_Bank_init, d_Bank_put, d_Bank_parts_of, d_Bank_number, d_Bank_head, d_Bank_args_at, d_label_arity, d_arity, d_are_words, d_Fields_init, d_Fields_of]
def fn2 : List He.DefD := [d_Fields_is_plain, d_Fields_has_type, d_need_type_of, d_is_plain, d_is_of_type, d_is_of, d_law_urn, d_law_ball, d_law_like, d_law_type, d_law_program, d_law_put, d_law_makers, d_law_size, d_law_plain, d_law_words, d_law_is_of, d_law_near, d_law]
def fn : List He.DefD := fn0 ++ fn1 ++ fn2
def names0 : List Str := ["_wall", "ChoiceError", "BadProgram", "BadType", "NotChecked", "LETTERS", "SMALL", "DIGITS", "WORDS", "LONGEST_NAME", "GREATEST_NUMBER", "GREATEST_FACTOR", "KEPT", "is_int", "within", "is_tuple", "is_name", "is_low", "is_high", "is_kept"]
def names1 : List Str := ["is_head", "MOST_PARAMS_types", "DEEPEST_TYPE", "MOST_TYPE_PARTS", "DEEPEST_CLOSED", "MOST_CLOSED_PARTS", "inner_of", "is_shaped", "is_type", "is_open", "parts_of", "type_size", "listing", "type_key", "goal_key", "kinds_in", "params_in", "goes_with", "is_open_in", "is_closed_in"]
def names2 : List Str := ["MOST_KINDS", "MOST_MAKERS", "MOST_FIELDS", "MOST_CLASSES", "MOST_UPPERS", "MOST_METHODS", "DEEPEST_METHOD", "MOST_METHOD_PARTS", "MOST_WAYS", "MOST_NEEDS", "DEEPEST_NEED", "MOST_DEFS", "MOST_PARAMS_trees", "MOST_PARTS", "LONGEST_CHAIN", "is_maker", "is_kind", "is_method", "is_class", "is_need"]
def names3 : List Str := ["is_way", "Meter", "is_expression", "are_args", "is_branch", "is_body", "is_def", "is_tree", "strings_in", "is_program", "need_program", "MOST_CAPTURED", "Fault", "Heads", "captured", "heads_checked", "check", "need_checked", "sorted_needs", "book_inside"]
def names4 : List Str := ["Spot", "Unit", "def_unit", "body_unit", "Plan", "planned", "Bank", "MOST_WORDS", "MOST_PLAIN", "label_arity", "arity", "are_words", "Fields", "need_type_of", "is_plain", "is_of_type", "is_of", "_law_urn", "_law_ball", "_law_like"]
def names5 : List Str := ["_law_type", "_law_program", "_law_put", "_law_makers", "_law_size", "_law_plain", "_law_words", "_law_is_of", "_law_near"]
def names : List Str := names0 ++ names1 ++ names2 ++ names3 ++ names4 ++ names5
abbrev R : PySem.W.OpenRow := PySem.W.OpenLaw.row PySem.Challenge.rw_waychosen_k55_plain_types_and_values
abbrev qv : Program := PySem.W.view R.prog [121]
/-- the words that no name may be -/
def words : List He.Dv := [.str "class", .str "def", .str "else", .str "fn", .str "give", .str "if", .str "kind", .str "let", .str "match", .str "upper", .str "way", .str "whole"]
def ex (K : PySem.W.Frag) : Bool := He.tupB K "WORDS" words
def as0 : List Addr := [3, 6, 4, 21, 31, 44, 56, 77, 80, 81, 88, 95, 102, 107, 114, 121, 128, 135, 142, 147]
def as1 : List Addr := [155, 162, 169, 176, 183, 190, 197, 204, 209, 214, 221, 228, 233, 238, 245, 250, 257, 262, 286, 297]
def as2 : List Addr := [304, 309, 316, 321, 326, 333, 338, 345, 364, 455, 466, 473, 480, 487, 492, 497, 514, 576, 587, 594]
def as3 : List Addr := [628, 639, 697, 708, 715, 722, 758, 769, 776, 783, 790, 795, 802, 807, 812, 817, 822, 827, 832, 837]
def as4 : List Addr := [842, 847, 854, 859, 0, 20, 30, 43, 55, 76, 87, 94, 101, 106, 113, 120, 127, 134, 141, 146]
def as5 : List Addr := [154, 148, 161, 168, 175, 182, 189, 196, 203, 208, 213, 220, 227, 232, 237, 244, 249, 256, 261, 285]
def as6 : List Addr := [296, 303, 308, 315, 320, 325, 332, 337, 344, 363, 454, 465, 472, 479, 486, 491, 496, 513, 575, 586]
def as7 : List Addr := [593, 627, 638, 696, 707, 714, 721, 757, 768, 775, 782, 789, 794, 801, 806, 811, 816, 821, 826, 831]
def as8 : List Addr := [836, 841, 846, 853, 858, 15, 16, 17, 18, 19, 29, 32, 42, 54, 74, 75, 82, 83, 84, 85]
def as9 : List Addr := [86, 89, 90, 91, 92, 93, 96, 97, 98, 99, 100, 103, 104, 105, 108, 109, 110, 111, 112, 115]
def as10 : List Addr := [116, 117, 118, 119, 122, 123, 124, 125, 126, 129, 130, 131, 132, 133, 136, 137, 138, 139, 140, 143]
def as11 : List Addr := [144, 145, 149, 150, 151, 152, 153, 156, 157, 158, 159, 160, 163, 164, 165, 166, 167, 170, 171, 172]
def as12 : List Addr := [173, 174, 177, 178, 179, 180, 181, 184, 185, 186, 187, 188, 191, 192, 193, 194, 195, 198, 199, 200]
def as13 : List Addr := [201, 202, 205, 206, 207, 210, 211, 212, 215, 216, 217, 218, 219, 222, 223, 224, 225, 226, 229, 230]
def as14 : List Addr := [231, 234, 235, 236, 239, 240, 241, 242, 243, 246, 247, 248, 251, 252, 253, 254, 255, 258, 259, 260]
def as15 : List Addr := [276, 283, 284, 287, 288, 291, 292, 293, 294, 295, 298, 299, 300, 301, 302, 305, 306, 307, 310, 311]
def as16 : List Addr := [312, 313, 314, 317, 318, 319, 322, 323, 324, 327, 328, 329, 330, 331, 334, 335, 336, 339, 340, 341]
def as17 : List Addr := [342, 343, 361, 362, 365, 379, 386, 393, 400, 405, 412, 419, 426, 433, 440, 445, 452, 453, 456, 457]
def as18 : List Addr := [460, 461, 462, 463, 464, 467, 468, 469, 470, 471, 474, 475, 476, 477, 478, 481, 482, 483, 484, 485]
def as19 : List Addr := [488, 489, 490, 493, 494, 495, 511, 512, 515, 516, 532, 539, 546, 551, 556, 561, 566, 573, 574, 577]
def as20 : List Addr := [578, 581, 582, 583, 584, 585, 588, 589, 590, 591, 592, 606, 613, 620, 625, 626, 629, 630, 633, 634]
def as21 : List Addr := [635, 636, 637, 653, 658, 665, 670, 675, 680, 687, 694, 695, 698, 699, 702, 703, 704, 705, 706, 709]
def as22 : List Addr := [710, 711, 712, 713, 716, 717, 718, 719, 720, 736, 741, 748, 755, 756, 759, 760, 763, 764, 765, 766]
def as23 : List Addr := [767, 770, 771, 772, 773, 774, 777, 778, 779, 780, 781, 784, 785, 786, 787, 788, 791, 792, 793, 796]
def as24 : List Addr := [797, 798, 799, 800, 803, 804, 805, 808, 809, 810, 813, 814, 815, 818, 819, 820, 823, 824, 825, 828]
def as25 : List Addr := [829, 830, 833, 834, 835, 838, 839, 840, 843, 844, 845, 848, 849, 850, 851, 852, 855, 856, 857, 73]
def as26 : List Addr := [62, 275, 282, 360, 349, 378, 385, 392, 399, 404, 411, 418, 425, 432, 439, 444, 451, 510, 531, 538]
def as27 : List Addr := [545, 550, 555, 560, 565, 572, 605, 612, 619, 624, 652, 657, 664, 669, 674, 679, 686, 693, 735, 740]
def as28 : List Addr := [747, 754]
def asL : List Addr := as0 ++ as1 ++ as2 ++ as3 ++ as4 ++ as5 ++ as6 ++ as7 ++ as8 ++ as9 ++ as10 ++ as11 ++ as12 ++ as13 ++ as14 ++ as15 ++ as16 ++ as17 ++ as18 ++ as19 ++ as20 ++ as21 ++ as22 ++ as23 ++ as24 ++ as25 ++ as26 ++ as27 ++ as28
def hookL (as : List Addr) (fa : List He.Fa) (fn : List He.DefD) (ex : PySem.W.Frag → Bool) : PySem.W.Hook where
  α := He.AlD × Bool
  obs := fun s => (He.obsD fa fn (He.frG s.heap.get? as), ex (He.frG s.heap.get? as))
  val := fun _ => (He.valD fn, true)
  says := fun _ h => ∃ K : PySem.W.Frag, K.In h ∧ He.SaysD fa fn K ∧ ex K = true
  of := fun _ s e => ⟨_, He.frG_in, show He.obsD fa fn (He.frG s.heap.get? as) = He.valD fn from congrArg Prod.fst e, show ex (He.frG s.heap.get? as) = true from congrArg Prod.snd e⟩
  keeps := fun _ _ _ ⟨K, hK, c⟩ k => ⟨K, PySem.W.Frag.In.keeps hK k, c⟩
abbrev hk : PySem.W.Hook := hookL asL fa fn ex
def ob (s : PySem.W.SharedT) : He.AlD × Bool := (He.obsD fa fn (He.frG (HandSHeadRun.getT s) asL), ex (He.frG (HandSHeadRun.getT s) asL))
theorem ob_eq (s : PySem.W.SharedT) : ob s = hk.obs s.abs := by
  have e : HandSHeadRun.getT s = s.abs.heap.get? := funext (HandSHeadRun.getT_eq s)
  unfold ob
  rw [e]; rfl
theorem run (w : World) : HandSHeadRun.RunEq R qv hk ob 6200 names w := by
  intro os
  kernel_rfl
end K55
/-! data that never change: None, bools, ints, texts, tuples of such -/
namespace W5
open PySem PySem.Spec PyProof.Rows L2

mutual
inductive Im (K : PySem.W.Frag) (H : Hp) : V → PyData → Prop
  | non : Im K H .non .none
  | bl (b : Bool) : Im K H (.bl b) (.bool b)
  | int (i : Int) : Im K H (.int i) (.int i)
  | str (x : Str) : Im K H (.str x) (.str x)
  | tup {a : Addr} {xs : List V} {ds : List PyData} : SqT K H a xs → ImAll K H xs ds → Im K H (.ref a) (.tuple ds)
inductive ImAll (K : PySem.W.Frag) (H : Hp) : List V → List PyData → Prop
  | nil : ImAll K H [] []
  | cons {v : V} {vs : List V} {d : PyData} {ds : List PyData} : Im K H v d → ImAll K H vs ds → ImAll K H (v :: vs) (d :: ds)
end

/-- the tuples stay -/
def Tk (H H' : Hp) : Prop := ∀ a xs, Rd H a (.tup xs) → Rd H' a (.tup xs)
theorem Tk.refl (H : Hp) : Tk H H := fun _ _ h => h
theorem Tk.trans {H H1 H2 : Hp} (a : Tk H H1) (b : Tk H1 H2) : Tk H H2 := fun x xs h => b x xs (a x xs h)
theorem Tk.of {H H' : Hp} (e : Same H H') : Tk H H' := fun a xs h => by
  rcases h with h | ⟨o, h⟩
  · exact .inl (e _ _ h)
  · exact .inr ⟨o, e _ _ h⟩
theorem Tk.sq {K : PySem.W.Frag} {H H' : Hp} {a : Addr} {xs : List V} (e : Tk H H') (h : SqT K H a xs) : SqT K H' a xs := by
  rcases h with h | h
  · exact .inl (e a xs h)
  · exact .inr h
/-- a store at an address that holds no tuple -/
theorem Tk.upd {H : Hp} {a : Addr} {o : HO} (h : ∀ xs, ¬ Rd H a (.tup xs)) : Tk H (upd H a o) := fun b xs r => by
  have ne : b ≠ a := fun e => h xs (e ▸ r)
  rcases r with r | ⟨u, r⟩
  · exact .inl (by rw [upd_ne ne]; exact r)
  · exact .inr ⟨u, by rw [upd_ne ne]; exact r⟩
theorem no_tup {H : Hp} {a : Addr} {o : HO} (h : H a = some o) (h1 : ∀ xs, o ≠ .tup xs) (h2 : ∀ u xs, o ≠ .frz u (.tup xs)) : ∀ xs, ¬ Rd H a (.tup xs) := fun xs r => by
  rcases r with r | ⟨u, r⟩
  · rw [h] at r; exact h1 xs (Option.some.inj r)
  · rw [h] at r; exact h2 u xs (Option.some.inj r)
theorem no_none {H : Hp} {a : Addr} (h : H a = none) : ∀ xs, ¬ Rd H a (.tup xs) := fun xs r => by
  rcases r with r | ⟨u, r⟩ <;> (rw [h] at r; cases r)
theorem no_lst {H : Hp} {a : Addr} {ys : List V} (h : H a = some (.lst ys)) : ∀ xs, ¬ Rd H a (.tup xs) := no_tup h (fun _ z => nomatch z) fun _ _ z => nomatch z
theorem no_ins {H : Hp} {a C dx : Addr} {fs : List (Str × V)} (h : H a = some (.ins C dx fs)) : ∀ xs, ¬ Rd H a (.tup xs) := no_tup h (fun _ z => nomatch z) fun _ _ z => nomatch z
theorem no_dK {H : Hp} {a : Addr} {ks : List (Key × V)} (h : H a = some (.dK ks)) : ∀ xs, ¬ Rd H a (.tup xs) := no_tup h (fun _ z => nomatch z) fun _ _ z => nomatch z

mutual
theorem Im.mono {K : PySem.W.Frag} {H H' : Hp} (e : Tk H H') : ∀ {v : V} {d : PyData}, Im K H v d → Im K H' v d
  | _, _, .non => .non
  | _, _, .bl b => .bl b
  | _, _, .int i => .int i
  | _, _, .str x => .str x
  | _, _, .tup h hs => .tup (e.sq h) (ImAll.mono e hs)
theorem ImAll.mono {K : PySem.W.Frag} {H H' : Hp} (e : Tk H H') : ∀ {vs : List V} {ds : List PyData}, ImAll K H vs ds → ImAll K H' vs ds
  | _, _, .nil => .nil
  | _, _, .cons h hs => .cons (Im.mono e h) (ImAll.mono e hs)
end
mutual
theorem Im.dp {K : PySem.W.Frag} {H : Hp} : ∀ {v : V} {d : PyData}, Im K H v d → Dp K H v d
  | _, _, .non => .non
  | _, _, .bl b => .bl b
  | _, _, .int i => .int i
  | _, _, .str x => .str x
  | _, _, .tup h hs => .tup h (ImAll.dp hs)
theorem ImAll.dp {K : PySem.W.Frag} {H : Hp} : ∀ {vs : List V} {ds : List PyData}, ImAll K H vs ds → DpAll K H vs ds
  | _, _, .nil => .nil
  | _, _, .cons h hs => .cons (Im.dp h) (ImAll.dp hs)
end
section
variable {K : PySem.W.Frag} {H H' : Hp} {v : V} {d : PyData} {vs : List V} {ds : List PyData}
theorem ImAll.length : ∀ {vs : List V} {ds : List PyData}, ImAll K H vs ds → vs.length = ds.length
  | _, _, .nil => rfl
  | _, _, .cons _ hs => congrArg Nat.succ (ImAll.length hs)
theorem ImAll.get : ∀ {vs : List V} {ds : List PyData} {i : Nat} {d : PyData}, ImAll K H vs ds → ds[i]? = some d → ∃ v, vs[i]? = some v ∧ Im K H v d
  | _, _, _, _, .nil, e => by simp at e
  | _, _, 0, _, .cons h _, e => by simp at e; subst e; exact ⟨_, rfl, h⟩
  | _, _, i + 1, d, .cons _ hs, e => by
    obtain ⟨v, h1, h2⟩ := ImAll.get (i := i) (d := d) hs (by simpa using e)
    exact ⟨v, by simpa using h1, h2⟩
theorem ImAll.getV : ∀ {vs : List V} {ds : List PyData} {i : Nat} {v : V}, ImAll K H vs ds → vs[i]? = some v → ∃ d, ds[i]? = some d ∧ Im K H v d
  | _, _, _, _, .nil, e => by simp at e
  | _, _, 0, _, .cons h _, e => by simp at e; subst e; exact ⟨_, rfl, h⟩
  | _, _, i + 1, v, .cons _ hs, e => by
    obtain ⟨d, h1, h2⟩ := ImAll.getV (i := i) (v := v) hs (by simpa using e)
    exact ⟨d, by simpa using h1, h2⟩
theorem ImAll.append : ∀ {vs ws : List V} {ds es : List PyData}, ImAll K H vs ds → ImAll K H ws es → ImAll K H (vs ++ ws) (ds ++ es)
  | _, _, _, _, .nil, s => s
  | _, _, _, _, .cons r t, s => .cons r (ImAll.append t s)
theorem ImAll.take : ∀ {vs : List V} {ds : List PyData} (n : Nat), ImAll K H vs ds → ImAll K H (vs.take n) (ds.take n)
  | _, _, 0, _ => .nil
  | _, _, _ + 1, .nil => .nil
  | _, _, n + 1, .cons r t => .cons r (ImAll.take n t)
theorem ImAll.drop : ∀ {vs : List V} {ds : List PyData} (n : Nat), ImAll K H vs ds → ImAll K H (vs.drop n) (ds.drop n)
  | _, _, 0, r => r
  | _, _, _ + 1, .nil => .nil
  | _, _, n + 1, .cons _ t => ImAll.drop n t
theorem ImAll.rev : ∀ {vs : List V} {ds : List PyData}, ImAll K H vs ds → ImAll K H vs.reverse ds.reverse
  | _, _, .nil => .nil
  | _, _, .cons r t => by
    rw [List.reverse_cons, List.reverse_cons]
    exact (ImAll.rev t).append (.cons r .nil)
theorem ImAll.nil_of (h : ImAll K H vs []) : vs = [] := by cases h; rfl
theorem ImAll.cons_of {d : PyData} (h : ImAll K H vs (d :: ds)) : ∃ v ws, vs = v :: ws ∧ Im K H v d ∧ ImAll K H ws ds := by
  cases h with
  | cons h hs => exact ⟨_, _, rfl, h, hs⟩
theorem Im.tup_of (h : Im K H v (.tuple ds)) : ∃ a vs, v = .ref a ∧ SqT K H a vs ∧ ImAll K H vs ds := by
  cases h with
  | tup h hs => exact ⟨_, _, rfl, h, hs⟩
theorem Im.str_of {x : Str} (h : Im K H v (.str x)) : v = .str x := by cases h; rfl
theorem Im.int_of {i : Int} (h : Im K H v (.int i)) : v = .int i := by cases h; rfl
theorem Im.bl_of {b : Bool} (h : Im K H v (.bool b)) : v = .bl b := by cases h; rfl
theorem Im.non_of (h : Im K H v .none) : v = .non := by cases h; rfl

/-! ### isinstance -/
def tyN : PyData → String
  | .none => "NoneType"
  | .bool _ => "bool"
  | .int _ => "int"
  | .str _ => "str"
  | .list _ => "list"
  | .tuple _ => "tuple"
  | .dict _ => "dict"
theorem Im.tyx (h : Im K H v d) : TyX K H v (.type (tyN d)) := by
  cases h with
  | non => exact .base .non
  | bl b => exact .base (.bl b)
  | int i => exact .base (.int i)
  | str x => exact .base (.str x)
  | tup h hs =>
    rcases h with (h | ⟨o, h⟩) | ⟨o, its, n, h1, h2, _⟩
    · exact .base (.tup h)
    · exact .fTuple h
    · exact .kTuple h1 h2
def isT : PyData → String → Bool := fun d T => tyN d == T || (tyN d == "bool" && T == "int")
theorem kitB_ok : ∀ a ∈ ["NoneType", "bool", "int", "str", "list", "tuple"], ∀ b ∈ ["bool", "int", "str", "tuple"], L2.kitB a b = some (a == b || (a == "bool" && b == "int")) := by decide +kernel
theorem isi_ty {t T : String} {Q : VK} (h : TyX K H v (.type t)) (ht : t ∈ ["NoneType", "bool", "int", "str", "list", "tuple"]) (hT : T ∈ ["bool", "int", "str", "tuple"]) (q : Q (.bl (t == T || (t == "bool" && T == "int"))) H) : rIsi K [v, .ty T] H Q :=
  ⟨v, .ty T, .type t, .type T, _, rfl, .ty T, h, kit_ty (kitB_ok _ ht _ hT), q⟩
theorem tyN_mem (h : Im K H v d) : tyN d ∈ ["NoneType", "bool", "int", "str", "list", "tuple"] := by cases h <;> simp [tyN]
theorem isi_im {T : String} {Q : VK} (h : Im K H v d) (hT : T ∈ ["bool", "int", "str", "tuple"] := by decide) (q : Q (.bl (isT d T)) H) : rIsi K [v, .ty T] H Q :=
  isi_ty h.tyx (tyN_mem h) hT q
theorem isi_lst {T : String} {Q : VK} {a : Addr} {xs : List V} (h : H a = some (.lst xs)) (hT : T ∈ ["bool", "int", "str", "tuple"] := by decide) (q : Q (.bl false) H) : rIsi K [.ref a, .ty T] H Q := by
  refine isi_ty (t := "list") (.base (.lst h)) (by decide) hT ?_
  have e : ("list" == T || ("list" == "bool" && T == "int")) = false := by
    simp only [List.mem_cons, List.not_mem_nil, or_false] at hT
    rcases hT with rfl | rfl | rfl | rfl <;> decide
  rw [e]; exact q
end
end W5
namespace K55
open PySem PySem.Spec PyProof.Rows L2 W5
/-- what of the head the walk leans on -/
structure Tx (K : PySem.W.Frag) (mg : Str → Option Value) : Prop where
  c : He.SaysD fa fn K
  e : ex K = true
  h : ∃ h : Heap, K.In h ∧ h.Ns mainGlobals mg
def fdOf (K : PySem.W.Frag) (d : He.DefD) : FuncData := match K.lookup (He.fAd K d.at_) with
  | some ⟨_, _, .func fd, _⟩ => fd
  | _ => default
abbrev Ok (P : Program) (w : World) (K : PySem.W.Frag) (mg : Str → Option Value) (base : Heap) (n : Nat) (d : He.DefD) (ps : List Str) (sp : Sp) : Prop := FnOk P w K mg base CX0 n (He.fAd K d.at_) (fdOf K d) ps sp
section
variable {K : PySem.W.Frag} {mg : Str → Option Value} (T : Tx K mg)
include T
theorem Tx.def_ (i : Nat) {d : He.DefD} (h : fn[i]? = some d) : FunD K d.name d.qual d.params d.body d.scope (d.dvs K) (d.kws K) (He.fAd K d.at_) (fdOf K d) := by
  obtain ⟨fd, F⟩ := T.c.def_ i h
  have e : fdOf K d = fd := by
    obtain ⟨oc, od, dV, kV, doc, pm, an, cdv, ct, osl, _, lk, _⟩ := F.ex
    unfold fdOf
    rw [lk]
  rw [e]
  exact F
theorem Tx.glo (i : Nat) {x : Str} (h : fa[i]? = some (.glo x)) : mg x = some (.ref (He.ga K x)) := by
  obtain ⟨hp, X, G⟩ := T.h
  exact He.glo_ok X G (T.c.fact i h)
theorem Tx.free (i : Nat) {x : Str} (h : fa[i]? = some (.free x)) : mg x = none := by
  obtain ⟨hp, X, G⟩ := T.h
  exact He.free_ok X G (T.c.fact i h)
theorem Tx.int (i : Nat) {x : Str} {n : Int} (h : fa[i]? = some (.int x n)) : ∃ t, mg x = some (.int n t) := by
  obtain ⟨hp, X, G⟩ := T.h
  exact He.int_ok X G (T.c.fact i h)
theorem Tx.str (i : Nat) {x z : Str} (h : fa[i]? = some (.str x z)) : ∃ t, mg x = some (.str z t) := by
  obtain ⟨hp, X, G⟩ := T.h
  exact He.str_ok X G (T.c.fact i h)
theorem Tx.words (H : Hp) : SqT K H (He.ga K "WORDS") (K55.words.map (He.Dv.v K)) := He.tupB_ok T.e H
theorem Tx.g_is_int : mg "is_int" = some (.ref (He.ga K "is_int")) := T.glo 0 rfl
theorem Tx.g_within : mg "within" = some (.ref (He.ga K "within")) := T.glo 1 rfl
theorem Tx.g_is_tuple : mg "is_tuple" = some (.ref (He.ga K "is_tuple")) := T.glo 2 rfl
theorem Tx.g_is_name : mg "is_name" = some (.ref (He.ga K "is_name")) := T.glo 3 rfl
theorem Tx.g_is_high : mg "is_high" = some (.ref (He.ga K "is_high")) := T.glo 4 rfl
theorem Tx.g_inner_of : mg "inner_of" = some (.ref (He.ga K "inner_of")) := T.glo 5 rfl
theorem Tx.g_is_shaped : mg "is_shaped" = some (.ref (He.ga K "is_shaped")) := T.glo 6 rfl
theorem Tx.g_is_type : mg "is_type" = some (.ref (He.ga K "is_type")) := T.glo 7 rfl
theorem Tx.g_is_open : mg "is_open" = some (.ref (He.ga K "is_open")) := T.glo 8 rfl
theorem Tx.g_parts_of : mg "parts_of" = some (.ref (He.ga K "parts_of")) := T.glo 9 rfl
theorem Tx.g_kinds_in : mg "kinds_in" = some (.ref (He.ga K "kinds_in")) := T.glo 10 rfl
theorem Tx.g_goes_with : mg "goes_with" = some (.ref (He.ga K "goes_with")) := T.glo 11 rfl
theorem Tx.g_is_open_in : mg "is_open_in" = some (.ref (He.ga K "is_open_in")) := T.glo 12 rfl
theorem Tx.g_is_closed_in : mg "is_closed_in" = some (.ref (He.ga K "is_closed_in")) := T.glo 13 rfl
theorem Tx.g_is_maker : mg "is_maker" = some (.ref (He.ga K "is_maker")) := T.glo 14 rfl
theorem Tx.g_is_kind : mg "is_kind" = some (.ref (He.ga K "is_kind")) := T.glo 15 rfl
theorem Tx.g_is_tree : mg "is_tree" = some (.ref (He.ga K "is_tree")) := T.glo 16 rfl
theorem Tx.g_is_program : mg "is_program" = some (.ref (He.ga K "is_program")) := T.glo 17 rfl
theorem Tx.g_need_program : mg "need_program" = some (.ref (He.ga K "need_program")) := T.glo 18 rfl
theorem Tx.g_heads_checked : mg "heads_checked" = some (.ref (He.ga K "heads_checked")) := T.glo 19 rfl
theorem Tx.g_check : mg "check" = some (.ref (He.ga K "check")) := T.glo 20 rfl
theorem Tx.g_need_checked : mg "need_checked" = some (.ref (He.ga K "need_checked")) := T.glo 21 rfl
theorem Tx.g_book_inside : mg "book_inside" = some (.ref (He.ga K "book_inside")) := T.glo 22 rfl
theorem Tx.g_planned : mg "planned" = some (.ref (He.ga K "planned")) := T.glo 23 rfl
theorem Tx.g_label_arity : mg "label_arity" = some (.ref (He.ga K "label_arity")) := T.glo 24 rfl
theorem Tx.g_arity : mg "arity" = some (.ref (He.ga K "arity")) := T.glo 25 rfl
theorem Tx.g_are_words : mg "are_words" = some (.ref (He.ga K "are_words")) := T.glo 26 rfl
theorem Tx.g_need_type_of : mg "need_type_of" = some (.ref (He.ga K "need_type_of")) := T.glo 27 rfl
theorem Tx.g_is_plain : mg "is_plain" = some (.ref (He.ga K "is_plain")) := T.glo 28 rfl
theorem Tx.g_is_of_type : mg "is_of_type" = some (.ref (He.ga K "is_of_type")) := T.glo 29 rfl
theorem Tx.g_is_of : mg "is_of" = some (.ref (He.ga K "is_of")) := T.glo 30 rfl
theorem Tx.g_law_urn : mg "_law_urn" = some (.ref (He.ga K "_law_urn")) := T.glo 31 rfl
theorem Tx.g_law_ball : mg "_law_ball" = some (.ref (He.ga K "_law_ball")) := T.glo 32 rfl
theorem Tx.g_law_like : mg "_law_like" = some (.ref (He.ga K "_law_like")) := T.glo 33 rfl
theorem Tx.g_law_type : mg "_law_type" = some (.ref (He.ga K "_law_type")) := T.glo 34 rfl
theorem Tx.g_law_program : mg "_law_program" = some (.ref (He.ga K "_law_program")) := T.glo 35 rfl
theorem Tx.g_law_put : mg "_law_put" = some (.ref (He.ga K "_law_put")) := T.glo 36 rfl
theorem Tx.g_law_makers : mg "_law_makers" = some (.ref (He.ga K "_law_makers")) := T.glo 37 rfl
theorem Tx.g_law_size : mg "_law_size" = some (.ref (He.ga K "_law_size")) := T.glo 38 rfl
theorem Tx.g_law_plain : mg "_law_plain" = some (.ref (He.ga K "_law_plain")) := T.glo 39 rfl
theorem Tx.g_law_words : mg "_law_words" = some (.ref (He.ga K "_law_words")) := T.glo 40 rfl
theorem Tx.g_law_is_of : mg "_law_is_of" = some (.ref (He.ga K "_law_is_of")) := T.glo 41 rfl
theorem Tx.g_law_near : mg "_law_near" = some (.ref (He.ga K "_law_near")) := T.glo 42 rfl
theorem Tx.g_law : mg "law" = some (.ref (He.ga K "law")) := T.glo 43 rfl
theorem Tx.b_isinstance : mg "isinstance" = none := T.free 44 rfl
theorem Tx.b_int : mg "int" = none := T.free 45 rfl
theorem Tx.b_bool : mg "bool" = none := T.free 46 rfl
theorem Tx.b_str : mg "str" = none := T.free 47 rfl
theorem Tx.b_tuple : mg "tuple" = none := T.free 48 rfl
theorem Tx.b_all : mg "all" = none := T.free 49 rfl
theorem Tx.b_any : mg "any" = none := T.free 50 rfl
theorem Tx.b_len : mg "len" = none := T.free 51 rfl
theorem Tx.b_list : mg "list" = none := T.free 52 rfl
theorem Tx.b_sorted : mg "sorted" = none := T.free 53 rfl
theorem Tx.b_dict : mg "dict" = none := T.free 54 rfl
theorem Tx.b_enumerate : mg "enumerate" = none := T.free 55 rfl
theorem Tx.b_range : mg "range" = none := T.free 56 rfl
theorem Tx.b_zip : mg "zip" = none := T.free 57 rfl
theorem Tx.b_min : mg "min" = none := T.free 58 rfl
theorem Tx.b_max : mg "max" = none := T.free 59 rfl
theorem Tx.b_sum : mg "sum" = none := T.free 60 rfl
theorem Tx.g_Heads : mg "Heads" = some (.ref (He.ga K "Heads")) := T.glo 61 rfl
theorem Tx.c_Heads : Cls K (He.ga K "Heads") := He.cls_ok (T.c.fact 62 (f := .cls "Heads") rfl)
theorem Tx.m_Heads : Mk K (He.ga K "Heads") (He.ma K (He.ga K "Heads") "__init__") := He.mkr_ok (T.c.fact 63 (f := .mkr "Heads") rfl)
theorem Tx.n_Heads_makers : NoAttr K (He.ga K "Heads") "makers" := He.noat_ok (T.c.fact 64 (f := .noat "Heads" "makers") rfl)
theorem Tx.n_Heads_kinds : NoAttr K (He.ga K "Heads") "kinds" := He.noat_ok (T.c.fact 65 (f := .noat "Heads" "kinds") rfl)
theorem Tx.n_Heads_classes : NoAttr K (He.ga K "Heads") "classes" := He.noat_ok (T.c.fact 66 (f := .noat "Heads" "classes") rfl)
theorem Tx.n_Heads_methods : NoAttr K (He.ga K "Heads") "methods" := He.noat_ok (T.c.fact 67 (f := .noat "Heads" "methods") rfl)
theorem Tx.n_Heads_defs : NoAttr K (He.ga K "Heads") "defs" := He.noat_ok (T.c.fact 68 (f := .noat "Heads" "defs") rfl)
theorem Tx.n_Heads_captured : NoAttr K (He.ga K "Heads") "captured" := He.noat_ok (T.c.fact 69 (f := .noat "Heads" "captured") rfl)
theorem Tx.g_Plan : mg "Plan" = some (.ref (He.ga K "Plan")) := T.glo 70 rfl
theorem Tx.c_Plan : Cls K (He.ga K "Plan") := He.cls_ok (T.c.fact 71 (f := .cls "Plan") rfl)
theorem Tx.m_Plan : Mk K (He.ga K "Plan") (He.ma K (He.ga K "Plan") "__init__") := He.mkr_ok (T.c.fact 72 (f := .mkr "Plan") rfl)
theorem Tx.n_Plan_program : NoAttr K (He.ga K "Plan") "program" := He.noat_ok (T.c.fact 73 (f := .noat "Plan" "program") rfl)
theorem Tx.n_Plan_heads : NoAttr K (He.ga K "Plan") "heads" := He.noat_ok (T.c.fact 74 (f := .noat "Plan" "heads") rfl)
theorem Tx.n_Plan_book : NoAttr K (He.ga K "Plan") "book" := He.noat_ok (T.c.fact 75 (f := .noat "Plan" "book") rfl)
theorem Tx.n_Plan_units : NoAttr K (He.ga K "Plan") "units" := He.noat_ok (T.c.fact 76 (f := .noat "Plan" "units") rfl)
theorem Tx.n_Plan_many_defs : NoAttr K (He.ga K "Plan") "many_defs" := He.noat_ok (T.c.fact 77 (f := .noat "Plan" "many_defs") rfl)
theorem Tx.n_Plan_numbers : NoAttr K (He.ga K "Plan") "numbers" := He.noat_ok (T.c.fact 78 (f := .noat "Plan" "numbers") rfl)
theorem Tx.n_Plan_firsts : NoAttr K (He.ga K "Plan") "firsts" := He.noat_ok (T.c.fact 79 (f := .noat "Plan" "firsts") rfl)
theorem Tx.g_Bank : mg "Bank" = some (.ref (He.ga K "Bank")) := T.glo 80 rfl
theorem Tx.c_Bank : Cls K (He.ga K "Bank") := He.cls_ok (T.c.fact 81 (f := .cls "Bank") rfl)
theorem Tx.m_Bank : Mk K (He.ga K "Bank") (He.ma K (He.ga K "Bank") "__init__") := He.mkr_ok (T.c.fact 82 (f := .mkr "Bank") rfl)
theorem Tx.n_Bank_nodes : NoAttr K (He.ga K "Bank") "nodes" := He.noat_ok (T.c.fact 83 (f := .noat "Bank" "nodes") rfl)
theorem Tx.n_Bank_sizes : NoAttr K (He.ga K "Bank") "sizes" := He.noat_ok (T.c.fact 84 (f := .noat "Bank" "sizes") rfl)
theorem Tx.n_Bank_numbers : NoAttr K (He.ga K "Bank") "numbers" := He.noat_ok (T.c.fact 85 (f := .noat "Bank" "numbers") rfl)
theorem Tx.n_Bank_told : NoAttr K (He.ga K "Bank") "told" := He.noat_ok (T.c.fact 86 (f := .noat "Bank" "told") rfl)
theorem Tx.g_Fields : mg "Fields" = some (.ref (He.ga K "Fields")) := T.glo 87 rfl
theorem Tx.c_Fields : Cls K (He.ga K "Fields") := He.cls_ok (T.c.fact 88 (f := .cls "Fields") rfl)
theorem Tx.m_Fields : Mk K (He.ga K "Fields") (He.ma K (He.ga K "Fields") "__init__") := He.mkr_ok (T.c.fact 89 (f := .mkr "Fields") rfl)
theorem Tx.n_Fields_plan : NoAttr K (He.ga K "Fields") "plan" := He.noat_ok (T.c.fact 90 (f := .noat "Fields" "plan") rfl)
theorem Tx.n_Fields_bank : NoAttr K (He.ga K "Fields") "bank" := He.noat_ok (T.c.fact 91 (f := .noat "Fields" "bank") rfl)
theorem Tx.n_Fields_found : NoAttr K (He.ga K "Fields") "found" := He.noat_ok (T.c.fact 92 (f := .noat "Fields" "found") rfl)
theorem Tx.M_Heads_check_type : Meth K (He.ga K "Heads") "check_type" (He.ma K (He.ga K "Heads") "check_type") := He.meth_ok (T.c.fact 93 (f := .meth "Heads" "check_type") rfl)
theorem Tx.M_Heads_check_kind : Meth K (He.ga K "Heads") "check_kind" (He.ma K (He.ga K "Heads") "check_kind") := He.meth_ok (T.c.fact 94 (f := .meth "Heads" "check_kind") rfl)
theorem Tx.M_Plan_all_fns : Meth K (He.ga K "Plan") "all_fns" (He.ma K (He.ga K "Plan") "all_fns") := He.meth_ok (T.c.fact 95 (f := .meth "Plan" "all_fns") rfl)
theorem Tx.M_Bank_put : Meth K (He.ga K "Bank") "put" (He.ma K (He.ga K "Bank") "put") := He.meth_ok (T.c.fact 96 (f := .meth "Bank" "put") rfl)
theorem Tx.M_Bank_parts_of : Meth K (He.ga K "Bank") "parts_of" (He.ma K (He.ga K "Bank") "parts_of") := He.meth_ok (T.c.fact 97 (f := .meth "Bank" "parts_of") rfl)
theorem Tx.M_Bank_number : Meth K (He.ga K "Bank") "number" (He.ma K (He.ga K "Bank") "number") := He.meth_ok (T.c.fact 98 (f := .meth "Bank" "number") rfl)
theorem Tx.M_Bank_head : Meth K (He.ga K "Bank") "head" (He.ma K (He.ga K "Bank") "head") := He.meth_ok (T.c.fact 99 (f := .meth "Bank" "head") rfl)
theorem Tx.M_Bank_args_at : Meth K (He.ga K "Bank") "args_at" (He.ma K (He.ga K "Bank") "args_at") := He.meth_ok (T.c.fact 100 (f := .meth "Bank" "args_at") rfl)
theorem Tx.M_Fields_of : Meth K (He.ga K "Fields") "of" (He.ma K (He.ga K "Fields") "of") := He.meth_ok (T.c.fact 101 (f := .meth "Fields" "of") rfl)
theorem Tx.M_Fields_is_plain : Meth K (He.ga K "Fields") "is_plain" (He.ma K (He.ga K "Fields") "is_plain") := He.meth_ok (T.c.fact 102 (f := .meth "Fields" "is_plain") rfl)
theorem Tx.M_Fields_has_type : Meth K (He.ga K "Fields") "has_type" (He.ma K (He.ga K "Fields") "has_type") := He.meth_ok (T.c.fact 103 (f := .meth "Fields" "has_type") rfl)
theorem Tx.i_LONGEST_NAME : ∃ t, mg "LONGEST_NAME" = some (.int 10 t) := T.int 104 rfl
theorem Tx.i_MOST_PARAMS_types : ∃ t, mg "MOST_PARAMS_types" = some (.int 2 t) := T.int 105 rfl
theorem Tx.i_DEEPEST_TYPE : ∃ t, mg "DEEPEST_TYPE" = some (.int 6 t) := T.int 106 rfl
theorem Tx.i_MOST_TYPE_PARTS : ∃ t, mg "MOST_TYPE_PARTS" = some (.int 30 t) := T.int 107 rfl
theorem Tx.i_DEEPEST_CLOSED : ∃ t, mg "DEEPEST_CLOSED" = some (.int 60 t) := T.int 108 rfl
theorem Tx.i_MOST_CLOSED_PARTS : ∃ t, mg "MOST_CLOSED_PARTS" = some (.int 1000 t) := T.int 109 rfl
theorem Tx.i_MOST_KINDS : ∃ t, mg "MOST_KINDS" = some (.int 16 t) := T.int 110 rfl
theorem Tx.i_MOST_MAKERS : ∃ t, mg "MOST_MAKERS" = some (.int 8 t) := T.int 111 rfl
theorem Tx.i_MOST_FIELDS : ∃ t, mg "MOST_FIELDS" = some (.int 8 t) := T.int 112 rfl
theorem Tx.i_MOST_CLASSES : ∃ t, mg "MOST_CLASSES" = some (.int 5 t) := T.int 113 rfl
theorem Tx.i_MOST_WAYS : ∃ t, mg "MOST_WAYS" = some (.int 40 t) := T.int 114 rfl
theorem Tx.i_MOST_DEFS : ∃ t, mg "MOST_DEFS" = some (.int 100 t) := T.int 115 rfl
theorem Tx.i_MOST_WORDS : ∃ t, mg "MOST_WORDS" = some (.int 4000 t) := T.int 116 rfl
theorem Tx.i_MOST_PLAIN : ∃ t, mg "MOST_PLAIN" = some (.int 400 t) := T.int 117 rfl
theorem Tx.s_LETTERS : ∃ t, mg "LETTERS" = some (.str "abcdefghijklmnopqrstuvwxyzABCDEFGHIJKLMNOPQRSTUVWXYZ" t) := T.str 118 rfl
theorem Tx.s_SMALL : ∃ t, mg "SMALL" = some (.str "abcdefghijklmnopqrstuvwxyz" t) := T.str 119 rfl
theorem Tx.s_DIGITS : ∃ t, mg "DIGITS" = some (.str "0123456789" t) := T.str 120 rfl
theorem Tx.g_WORDS : mg "WORDS" = some (.ref (He.ga K "WORDS")) := T.glo 121 rfl
theorem Tx.F_is_int : FunD K d_is_int.name d_is_int.qual (defArgs s_is_int) (defBody s_is_int) (defScope s_is_int) (d_is_int.dvs K) [] (He.fAd K d_is_int.at_) (fdOf K d_is_int) := T.def_ 0 rfl
theorem Tx.k_is_int : PySem.W.keepIn K (.ref (He.fAd K d_is_int.at_)) = true := T.F_is_int.kp
theorem Tx.B_is_int : Binds K (fdOf K d_is_int) ["x"] [] := FunD.bindsN (ps := ["x"]) T.F_is_int fun _ _ _ _ _ _ us hl => match us, hl with | [_], _ => rfl
theorem Tx.F_within : FunD K d_within.name d_within.qual (defArgs s_within) (defBody s_within) (defScope s_within) (d_within.dvs K) [] (He.fAd K d_within.at_) (fdOf K d_within) := T.def_ 1 rfl
theorem Tx.k_within : PySem.W.keepIn K (.ref (He.fAd K d_within.at_)) = true := T.F_within.kp
theorem Tx.B_within : Binds K (fdOf K d_within) ["x", "low", "high"] [] := FunD.bindsN (ps := ["x", "low", "high"]) T.F_within fun _ _ _ _ _ _ us hl => match us, hl with | [_, _, _], _ => rfl
theorem Tx.F_is_tuple : FunD K d_is_tuple.name d_is_tuple.qual (defArgs s_is_tuple) (defBody s_is_tuple) (defScope s_is_tuple) (d_is_tuple.dvs K) [] (He.fAd K d_is_tuple.at_) (fdOf K d_is_tuple) := T.def_ 2 rfl
theorem Tx.k_is_tuple : PySem.W.keepIn K (.ref (He.fAd K d_is_tuple.at_)) = true := T.F_is_tuple.kp
theorem Tx.B_is_tuple : Binds K (fdOf K d_is_tuple) ["thing", "least", "most"] [] := FunD.bindsN (ps := ["thing", "least", "most"]) T.F_is_tuple fun _ _ _ _ _ _ us hl => match us, hl with | [_, _, _], _ => rfl
theorem Tx.F_is_name : FunD K d_is_name.name d_is_name.qual (defArgs s_is_name) (defBody s_is_name) (defScope s_is_name) (d_is_name.dvs K) [] (He.fAd K d_is_name.at_) (fdOf K d_is_name) := T.def_ 3 rfl
theorem Tx.k_is_name : PySem.W.keepIn K (.ref (He.fAd K d_is_name.at_)) = true := T.F_is_name.kp
theorem Tx.B_is_name : Binds K (fdOf K d_is_name) ["x"] [] := FunD.bindsN (ps := ["x"]) T.F_is_name fun _ _ _ _ _ _ us hl => match us, hl with | [_], _ => rfl
theorem Tx.F_is_high : FunD K d_is_high.name d_is_high.qual (defArgs s_is_high) (defBody s_is_high) (defScope s_is_high) (d_is_high.dvs K) [] (He.fAd K d_is_high.at_) (fdOf K d_is_high) := T.def_ 4 rfl
theorem Tx.k_is_high : PySem.W.keepIn K (.ref (He.fAd K d_is_high.at_)) = true := T.F_is_high.kp
theorem Tx.B_is_high : Binds K (fdOf K d_is_high) ["x"] [] := FunD.bindsN (ps := ["x"]) T.F_is_high fun _ _ _ _ _ _ us hl => match us, hl with | [_], _ => rfl
theorem Tx.F_inner_of : FunD K d_inner_of.name d_inner_of.qual (defArgs s_inner_of) (defBody s_inner_of) (defScope s_inner_of) (d_inner_of.dvs K) [] (He.fAd K d_inner_of.at_) (fdOf K d_inner_of) := T.def_ 5 rfl
theorem Tx.k_inner_of : PySem.W.keepIn K (.ref (He.fAd K d_inner_of.at_)) = true := T.F_inner_of.kp
theorem Tx.B_inner_of : Binds K (fdOf K d_inner_of) ["thing", "many"] [] := FunD.bindsN (ps := ["thing", "many"]) T.F_inner_of fun _ _ _ _ _ _ us hl => match us, hl with | [_, _], _ => rfl
theorem Tx.F_is_shaped : FunD K d_is_shaped.name d_is_shaped.qual (defArgs s_is_shaped) (defBody s_is_shaped) (defScope s_is_shaped) (d_is_shaped.dvs K) [] (He.fAd K d_is_shaped.at_) (fdOf K d_is_shaped) := T.def_ 6 rfl
theorem Tx.k_is_shaped : PySem.W.keepIn K (.ref (He.fAd K d_is_shaped.at_)) = true := T.F_is_shaped.kp
theorem Tx.B_is_shaped : Binds K (fdOf K d_is_shaped) ["thing", "many", "deepest", "most"] [] := FunD.bindsN (ps := ["thing", "many", "deepest", "most"]) T.F_is_shaped fun _ _ _ _ _ _ us hl => match us, hl with | [_, _, _, _], _ => rfl
theorem Tx.F_is_type : FunD K d_is_type.name d_is_type.qual (defArgs s_is_type) (defBody s_is_type) (defScope s_is_type) (d_is_type.dvs K) [] (He.fAd K d_is_type.at_) (fdOf K d_is_type) := T.def_ 7 rfl
theorem Tx.k_is_type : PySem.W.keepIn K (.ref (He.fAd K d_is_type.at_)) = true := T.F_is_type.kp
theorem Tx.F_is_open : FunD K d_is_open.name d_is_open.qual (defArgs s_is_open) (defBody s_is_open) (defScope s_is_open) (d_is_open.dvs K) [] (He.fAd K d_is_open.at_) (fdOf K d_is_open) := T.def_ 8 rfl
theorem Tx.k_is_open : PySem.W.keepIn K (.ref (He.fAd K d_is_open.at_)) = true := T.F_is_open.kp
theorem Tx.B_is_open : Binds K (fdOf K d_is_open) ["thing", "many"] [] := FunD.bindsN (ps := ["thing", "many"]) T.F_is_open fun _ _ _ _ _ _ us hl => match us, hl with | [_, _], _ => rfl
theorem Tx.F_parts_of : FunD K d_parts_of.name d_parts_of.qual (defArgs s_parts_of) (defBody s_parts_of) (defScope s_parts_of) (d_parts_of.dvs K) [] (He.fAd K d_parts_of.at_) (fdOf K d_parts_of) := T.def_ 9 rfl
theorem Tx.k_parts_of : PySem.W.keepIn K (.ref (He.fAd K d_parts_of.at_)) = true := T.F_parts_of.kp
theorem Tx.B_parts_of : Binds K (fdOf K d_parts_of) ["thing"] [] := FunD.bindsN (ps := ["thing"]) T.F_parts_of fun _ _ _ _ _ _ us hl => match us, hl with | [_], _ => rfl
theorem Tx.F_kinds_in : FunD K d_kinds_in.name d_kinds_in.qual (defArgs s_kinds_in) (defBody s_kinds_in) (defScope s_kinds_in) (d_kinds_in.dvs K) [] (He.fAd K d_kinds_in.at_) (fdOf K d_kinds_in) := T.def_ 10 rfl
theorem Tx.k_kinds_in : PySem.W.keepIn K (.ref (He.fAd K d_kinds_in.at_)) = true := T.F_kinds_in.kp
theorem Tx.B_kinds_in : Binds K (fdOf K d_kinds_in) ["thing"] [] := FunD.bindsN (ps := ["thing"]) T.F_kinds_in fun _ _ _ _ _ _ us hl => match us, hl with | [_], _ => rfl
theorem Tx.F_goes_with : FunD K d_goes_with.name d_goes_with.qual (defArgs s_goes_with) (defBody s_goes_with) (defScope s_goes_with) (d_goes_with.dvs K) [] (He.fAd K d_goes_with.at_) (fdOf K d_goes_with) := T.def_ 11 rfl
theorem Tx.k_goes_with : PySem.W.keepIn K (.ref (He.fAd K d_goes_with.at_)) = true := T.F_goes_with.kp
theorem Tx.B_goes_with : Binds K (fdOf K d_goes_with) ["kinds", "thing"] [] := FunD.bindsN (ps := ["kinds", "thing"]) T.F_goes_with fun _ _ _ _ _ _ us hl => match us, hl with | [_, _], _ => rfl
theorem Tx.F_is_open_in : FunD K d_is_open_in.name d_is_open_in.qual (defArgs s_is_open_in) (defBody s_is_open_in) (defScope s_is_open_in) (d_is_open_in.dvs K) [] (He.fAd K d_is_open_in.at_) (fdOf K d_is_open_in) := T.def_ 12 rfl
theorem Tx.k_is_open_in : PySem.W.keepIn K (.ref (He.fAd K d_is_open_in.at_)) = true := T.F_is_open_in.kp
theorem Tx.B_is_open_in : Binds K (fdOf K d_is_open_in) ["book", "thing", "many"] [] := FunD.bindsN (ps := ["book", "thing", "many"]) T.F_is_open_in fun _ _ _ _ _ _ us hl => match us, hl with | [_, _, _], _ => rfl
theorem Tx.F_is_closed_in : FunD K d_is_closed_in.name d_is_closed_in.qual (defArgs s_is_closed_in) (defBody s_is_closed_in) (defScope s_is_closed_in) (d_is_closed_in.dvs K) [] (He.fAd K d_is_closed_in.at_) (fdOf K d_is_closed_in) := T.def_ 13 rfl
theorem Tx.k_is_closed_in : PySem.W.keepIn K (.ref (He.fAd K d_is_closed_in.at_)) = true := T.F_is_closed_in.kp
theorem Tx.B_is_closed_in : Binds K (fdOf K d_is_closed_in) ["book", "thing"] [] := FunD.bindsN (ps := ["book", "thing"]) T.F_is_closed_in fun _ _ _ _ _ _ us hl => match us, hl with | [_, _], _ => rfl
theorem Tx.F_is_maker : FunD K d_is_maker.name d_is_maker.qual (defArgs s_is_maker) (defBody s_is_maker) (defScope s_is_maker) (d_is_maker.dvs K) [] (He.fAd K d_is_maker.at_) (fdOf K d_is_maker) := T.def_ 14 rfl
theorem Tx.k_is_maker : PySem.W.keepIn K (.ref (He.fAd K d_is_maker.at_)) = true := T.F_is_maker.kp
theorem Tx.B_is_maker : Binds K (fdOf K d_is_maker) ["thing", "many"] [] := FunD.bindsN (ps := ["thing", "many"]) T.F_is_maker fun _ _ _ _ _ _ us hl => match us, hl with | [_, _], _ => rfl
theorem Tx.F_is_kind : FunD K d_is_kind.name d_is_kind.qual (defArgs s_is_kind) (defBody s_is_kind) (defScope s_is_kind) (d_is_kind.dvs K) [] (He.fAd K d_is_kind.at_) (fdOf K d_is_kind) := T.def_ 15 rfl
theorem Tx.k_is_kind : PySem.W.keepIn K (.ref (He.fAd K d_is_kind.at_)) = true := T.F_is_kind.kp
theorem Tx.B_is_kind : Binds K (fdOf K d_is_kind) ["thing"] [] := FunD.bindsN (ps := ["thing"]) T.F_is_kind fun _ _ _ _ _ _ us hl => match us, hl with | [_], _ => rfl
theorem Tx.F_is_tree : FunD K d_is_tree.name d_is_tree.qual (defArgs s_is_tree) (defBody s_is_tree) (defScope s_is_tree) (d_is_tree.dvs K) [] (He.fAd K d_is_tree.at_) (fdOf K d_is_tree) := T.def_ 16 rfl
theorem Tx.k_is_tree : PySem.W.keepIn K (.ref (He.fAd K d_is_tree.at_)) = true := T.F_is_tree.kp
theorem Tx.B_is_tree : Binds K (fdOf K d_is_tree) ["thing"] [] := FunD.bindsN (ps := ["thing"]) T.F_is_tree fun _ _ _ _ _ _ us hl => match us, hl with | [_], _ => rfl
theorem Tx.F_is_program : FunD K d_is_program.name d_is_program.qual (defArgs s_is_program) (defBody s_is_program) (defScope s_is_program) (d_is_program.dvs K) [] (He.fAd K d_is_program.at_) (fdOf K d_is_program) := T.def_ 17 rfl
theorem Tx.k_is_program : PySem.W.keepIn K (.ref (He.fAd K d_is_program.at_)) = true := T.F_is_program.kp
theorem Tx.B_is_program : Binds K (fdOf K d_is_program) ["thing"] [] := FunD.bindsN (ps := ["thing"]) T.F_is_program fun _ _ _ _ _ _ us hl => match us, hl with | [_], _ => rfl
theorem Tx.F_need_program : FunD K d_need_program.name d_need_program.qual (defArgs s_need_program) (defBody s_need_program) (defScope s_need_program) (d_need_program.dvs K) [] (He.fAd K d_need_program.at_) (fdOf K d_need_program) := T.def_ 18 rfl
theorem Tx.k_need_program : PySem.W.keepIn K (.ref (He.fAd K d_need_program.at_)) = true := T.F_need_program.kp
theorem Tx.B_need_program : Binds K (fdOf K d_need_program) ["thing"] [] := FunD.bindsN (ps := ["thing"]) T.F_need_program fun _ _ _ _ _ _ us hl => match us, hl with | [_], _ => rfl
theorem Tx.F_Heads_init : FunD K d_Heads_init.name d_Heads_init.qual (defArgs s_Heads_init) (defBody s_Heads_init) (defScope s_Heads_init) (d_Heads_init.dvs K) [] (He.fAd K d_Heads_init.at_) (fdOf K d_Heads_init) := T.def_ 19 rfl
theorem Tx.k_Heads_init : PySem.W.keepIn K (.ref (He.fAd K d_Heads_init.at_)) = true := T.F_Heads_init.kp
theorem Tx.B_Heads_init : Binds K (fdOf K d_Heads_init) ["self", "program"] [] := FunD.bindsN (ps := ["self", "program"]) T.F_Heads_init fun _ _ _ _ _ _ us hl => match us, hl with | [_, _], _ => rfl
theorem Tx.F_Heads_check_type : FunD K d_Heads_check_type.name d_Heads_check_type.qual (defArgs s_Heads_check_type) (defBody s_Heads_check_type) (defScope s_Heads_check_type) (d_Heads_check_type.dvs K) [] (He.fAd K d_Heads_check_type.at_) (fdOf K d_Heads_check_type) := T.def_ 20 rfl
theorem Tx.k_Heads_check_type : PySem.W.keepIn K (.ref (He.fAd K d_Heads_check_type.at_)) = true := T.F_Heads_check_type.kp
theorem Tx.B_Heads_check_type : Binds K (fdOf K d_Heads_check_type) ["self", "thing"] [] := FunD.bindsN (ps := ["self", "thing"]) T.F_Heads_check_type fun _ _ _ _ _ _ us hl => match us, hl with | [_, _], _ => rfl
theorem Tx.F_Heads_check_kind : FunD K d_Heads_check_kind.name d_Heads_check_kind.qual (defArgs s_Heads_check_kind) (defBody s_Heads_check_kind) (defScope s_Heads_check_kind) (d_Heads_check_kind.dvs K) [] (He.fAd K d_Heads_check_kind.at_) (fdOf K d_Heads_check_kind) := T.def_ 21 rfl
theorem Tx.k_Heads_check_kind : PySem.W.keepIn K (.ref (He.fAd K d_Heads_check_kind.at_)) = true := T.F_Heads_check_kind.kp
theorem Tx.B_Heads_check_kind : Binds K (fdOf K d_Heads_check_kind) ["self", "entry", "kinds", "makers"] [] := FunD.bindsN (ps := ["self", "entry", "kinds", "makers"]) T.F_Heads_check_kind fun _ _ _ _ _ _ us hl => match us, hl with | [_, _, _, _], _ => rfl
theorem Tx.F_heads_checked : FunD K d_heads_checked.name d_heads_checked.qual (defArgs s_heads_checked) (defBody s_heads_checked) (defScope s_heads_checked) (d_heads_checked.dvs K) [] (He.fAd K d_heads_checked.at_) (fdOf K d_heads_checked) := T.def_ 22 rfl
theorem Tx.k_heads_checked : PySem.W.keepIn K (.ref (He.fAd K d_heads_checked.at_)) = true := T.F_heads_checked.kp
theorem Tx.B_heads_checked : Binds K (fdOf K d_heads_checked) ["program"] [] := FunD.bindsN (ps := ["program"]) T.F_heads_checked fun _ _ _ _ _ _ us hl => match us, hl with | [_], _ => rfl
theorem Tx.F_check : FunD K d_check.name d_check.qual (defArgs s_check) (defBody s_check) (defScope s_check) (d_check.dvs K) [] (He.fAd K d_check.at_) (fdOf K d_check) := T.def_ 23 rfl
theorem Tx.k_check : PySem.W.keepIn K (.ref (He.fAd K d_check.at_)) = true := T.F_check.kp
theorem Tx.B_check : Binds K (fdOf K d_check) ["program"] [] := FunD.bindsN (ps := ["program"]) T.F_check fun _ _ _ _ _ _ us hl => match us, hl with | [_], _ => rfl
theorem Tx.F_need_checked : FunD K d_need_checked.name d_need_checked.qual (defArgs s_need_checked) (defBody s_need_checked) (defScope s_need_checked) (d_need_checked.dvs K) [] (He.fAd K d_need_checked.at_) (fdOf K d_need_checked) := T.def_ 24 rfl
theorem Tx.k_need_checked : PySem.W.keepIn K (.ref (He.fAd K d_need_checked.at_)) = true := T.F_need_checked.kp
theorem Tx.B_need_checked : Binds K (fdOf K d_need_checked) ["program"] [] := FunD.bindsN (ps := ["program"]) T.F_need_checked fun _ _ _ _ _ _ us hl => match us, hl with | [_], _ => rfl
theorem Tx.F_book_inside : FunD K d_book_inside.name d_book_inside.qual (defArgs s_book_inside) (defBody s_book_inside) (defScope s_book_inside) (d_book_inside.dvs K) [] (He.fAd K d_book_inside.at_) (fdOf K d_book_inside) := T.def_ 25 rfl
theorem Tx.k_book_inside : PySem.W.keepIn K (.ref (He.fAd K d_book_inside.at_)) = true := T.F_book_inside.kp
theorem Tx.B_book_inside : Binds K (fdOf K d_book_inside) ["heads", "program"] [] := FunD.bindsN (ps := ["heads", "program"]) T.F_book_inside fun _ _ _ _ _ _ us hl => match us, hl with | [_, _], _ => rfl
theorem Tx.F_Plan_init : FunD K d_Plan_init.name d_Plan_init.qual (defArgs s_Plan_init) (defBody s_Plan_init) (defScope s_Plan_init) (d_Plan_init.dvs K) [] (He.fAd K d_Plan_init.at_) (fdOf K d_Plan_init) := T.def_ 26 rfl
theorem Tx.k_Plan_init : PySem.W.keepIn K (.ref (He.fAd K d_Plan_init.at_)) = true := T.F_Plan_init.kp
theorem Tx.B_Plan_init : Binds K (fdOf K d_Plan_init) ["self", "program", "heads"] [] := FunD.bindsN (ps := ["self", "program", "heads"]) T.F_Plan_init fun _ _ _ _ _ _ us hl => match us, hl with | [_, _, _], _ => rfl
theorem Tx.F_Plan_all_fns : FunD K d_Plan_all_fns.name d_Plan_all_fns.qual (defArgs s_Plan_all_fns) (defBody s_Plan_all_fns) (defScope s_Plan_all_fns) (d_Plan_all_fns.dvs K) [] (He.fAd K d_Plan_all_fns.at_) (fdOf K d_Plan_all_fns) := T.def_ 27 rfl
theorem Tx.k_Plan_all_fns : PySem.W.keepIn K (.ref (He.fAd K d_Plan_all_fns.at_)) = true := T.F_Plan_all_fns.kp
theorem Tx.B_Plan_all_fns : Binds K (fdOf K d_Plan_all_fns) ["self"] [] := FunD.bindsN (ps := ["self"]) T.F_Plan_all_fns fun _ _ _ _ _ _ us hl => match us, hl with | [_], _ => rfl
theorem Tx.F_planned : FunD K d_planned.name d_planned.qual (defArgs s_planned) (defBody s_planned) (defScope s_planned) (d_planned.dvs K) [] (He.fAd K d_planned.at_) (fdOf K d_planned) := T.def_ 28 rfl
theorem Tx.k_planned : PySem.W.keepIn K (.ref (He.fAd K d_planned.at_)) = true := T.F_planned.kp
theorem Tx.B_planned : Binds K (fdOf K d_planned) ["program"] [] := FunD.bindsN (ps := ["program"]) T.F_planned fun _ _ _ _ _ _ us hl => match us, hl with | [_], _ => rfl
theorem Tx.F_Bank_init : FunD K d_Bank_init.name d_Bank_init.qual (defArgs s_Bank_init) (defBody s_Bank_init) (defScope s_Bank_init) (d_Bank_init.dvs K) [] (He.fAd K d_Bank_init.at_) (fdOf K d_Bank_init) := T.def_ 29 rfl
theorem Tx.k_Bank_init : PySem.W.keepIn K (.ref (He.fAd K d_Bank_init.at_)) = true := T.F_Bank_init.kp
theorem Tx.B_Bank_init : Binds K (fdOf K d_Bank_init) ["self"] [] := FunD.bindsN (ps := ["self"]) T.F_Bank_init fun _ _ _ _ _ _ us hl => match us, hl with | [_], _ => rfl
theorem Tx.F_Bank_put : FunD K d_Bank_put.name d_Bank_put.qual (defArgs s_Bank_put) (defBody s_Bank_put) (defScope s_Bank_put) (d_Bank_put.dvs K) [] (He.fAd K d_Bank_put.at_) (fdOf K d_Bank_put) := T.def_ 30 rfl
theorem Tx.k_Bank_put : PySem.W.keepIn K (.ref (He.fAd K d_Bank_put.at_)) = true := T.F_Bank_put.kp
theorem Tx.B_Bank_put : Binds K (fdOf K d_Bank_put) ["self", "node"] [] := FunD.bindsN (ps := ["self", "node"]) T.F_Bank_put fun _ _ _ _ _ _ us hl => match us, hl with | [_, _], _ => rfl
theorem Tx.F_Bank_parts_of : FunD K d_Bank_parts_of.name d_Bank_parts_of.qual (defArgs s_Bank_parts_of) (defBody s_Bank_parts_of) (defScope s_Bank_parts_of) (d_Bank_parts_of.dvs K) [] (He.fAd K d_Bank_parts_of.at_) (fdOf K d_Bank_parts_of) := T.def_ 31 rfl
theorem Tx.k_Bank_parts_of : PySem.W.keepIn K (.ref (He.fAd K d_Bank_parts_of.at_)) = true := T.F_Bank_parts_of.kp
theorem Tx.B_Bank_parts_of : Binds K (fdOf K d_Bank_parts_of) ["self", "node"] [] := FunD.bindsN (ps := ["self", "node"]) T.F_Bank_parts_of fun _ _ _ _ _ _ us hl => match us, hl with | [_, _], _ => rfl
theorem Tx.F_Bank_number : FunD K d_Bank_number.name d_Bank_number.qual (defArgs s_Bank_number) (defBody s_Bank_number) (defScope s_Bank_number) (d_Bank_number.dvs K) [] (He.fAd K d_Bank_number.at_) (fdOf K d_Bank_number) := T.def_ 32 rfl
theorem Tx.k_Bank_number : PySem.W.keepIn K (.ref (He.fAd K d_Bank_number.at_)) = true := T.F_Bank_number.kp
theorem Tx.B_Bank_number : Binds K (fdOf K d_Bank_number) ["self", "thing", "args"] [] := FunD.bindsN (ps := ["self", "thing", "args"]) T.F_Bank_number fun _ _ _ _ _ _ us hl => match us, hl with | [_, _, _], _ => rfl
theorem Tx.F_Bank_head : FunD K d_Bank_head.name d_Bank_head.qual (defArgs s_Bank_head) (defBody s_Bank_head) (defScope s_Bank_head) (d_Bank_head.dvs K) [] (He.fAd K d_Bank_head.at_) (fdOf K d_Bank_head) := T.def_ 33 rfl
theorem Tx.k_Bank_head : PySem.W.keepIn K (.ref (He.fAd K d_Bank_head.at_)) = true := T.F_Bank_head.kp
theorem Tx.B_Bank_head : Binds K (fdOf K d_Bank_head) ["self", "number"] [] := FunD.bindsN (ps := ["self", "number"]) T.F_Bank_head fun _ _ _ _ _ _ us hl => match us, hl with | [_, _], _ => rfl
theorem Tx.F_Bank_args_at : FunD K d_Bank_args_at.name d_Bank_args_at.qual (defArgs s_Bank_args_at) (defBody s_Bank_args_at) (defScope s_Bank_args_at) (d_Bank_args_at.dvs K) [] (He.fAd K d_Bank_args_at.at_) (fdOf K d_Bank_args_at) := T.def_ 34 rfl
theorem Tx.k_Bank_args_at : PySem.W.keepIn K (.ref (He.fAd K d_Bank_args_at.at_)) = true := T.F_Bank_args_at.kp
theorem Tx.B_Bank_args_at : Binds K (fdOf K d_Bank_args_at) ["self", "number"] [] := FunD.bindsN (ps := ["self", "number"]) T.F_Bank_args_at fun _ _ _ _ _ _ us hl => match us, hl with | [_, _], _ => rfl
theorem Tx.F_label_arity : FunD K d_label_arity.name d_label_arity.qual (defArgs s_label_arity) (defBody s_label_arity) (defScope s_label_arity) (d_label_arity.dvs K) [] (He.fAd K d_label_arity.at_) (fdOf K d_label_arity) := T.def_ 35 rfl
theorem Tx.k_label_arity : PySem.W.keepIn K (.ref (He.fAd K d_label_arity.at_)) = true := T.F_label_arity.kp
theorem Tx.B_label_arity : Binds K (fdOf K d_label_arity) ["plan", "fns", "word"] [] := FunD.bindsN (ps := ["plan", "fns", "word"]) T.F_label_arity fun _ _ _ _ _ _ us hl => match us, hl with | [_, _, _], _ => rfl
theorem Tx.F_arity : FunD K d_arity.name d_arity.qual (defArgs s_arity) (defBody s_arity) (defScope s_arity) (d_arity.dvs K) [] (He.fAd K d_arity.at_) (fdOf K d_arity) := T.def_ 36 rfl
theorem Tx.k_arity : PySem.W.keepIn K (.ref (He.fAd K d_arity.at_)) = true := T.F_arity.kp
theorem Tx.B_arity : Binds K (fdOf K d_arity) ["plan", "fns", "word"] [] := FunD.bindsN (ps := ["plan", "fns", "word"]) T.F_arity fun _ _ _ _ _ _ us hl => match us, hl with | [_, _, _], _ => rfl
theorem Tx.F_are_words : FunD K d_are_words.name d_are_words.qual (defArgs s_are_words) (defBody s_are_words) (defScope s_are_words) (d_are_words.dvs K) [] (He.fAd K d_are_words.at_) (fdOf K d_are_words) := T.def_ 37 rfl
theorem Tx.k_are_words : PySem.W.keepIn K (.ref (He.fAd K d_are_words.at_)) = true := T.F_are_words.kp
theorem Tx.B_are_words : Binds K (fdOf K d_are_words) ["plan", "thing"] [] := FunD.bindsN (ps := ["plan", "thing"]) T.F_are_words fun _ _ _ _ _ _ us hl => match us, hl with | [_, _], _ => rfl
theorem Tx.F_Fields_init : FunD K d_Fields_init.name d_Fields_init.qual (defArgs s_Fields_init) (defBody s_Fields_init) (defScope s_Fields_init) (d_Fields_init.dvs K) [] (He.fAd K d_Fields_init.at_) (fdOf K d_Fields_init) := T.def_ 38 rfl
theorem Tx.k_Fields_init : PySem.W.keepIn K (.ref (He.fAd K d_Fields_init.at_)) = true := T.F_Fields_init.kp
theorem Tx.B_Fields_init : Binds K (fdOf K d_Fields_init) ["self", "plan", "bank"] [] := FunD.bindsN (ps := ["self", "plan", "bank"]) T.F_Fields_init fun _ _ _ _ _ _ us hl => match us, hl with | [_, _, _], _ => rfl
theorem Tx.F_Fields_of : FunD K d_Fields_of.name d_Fields_of.qual (defArgs s_Fields_of) (defBody s_Fields_of) (defScope s_Fields_of) (d_Fields_of.dvs K) [] (He.fAd K d_Fields_of.at_) (fdOf K d_Fields_of) := T.def_ 39 rfl
theorem Tx.k_Fields_of : PySem.W.keepIn K (.ref (He.fAd K d_Fields_of.at_)) = true := T.F_Fields_of.kp
theorem Tx.B_Fields_of : Binds K (fdOf K d_Fields_of) ["self", "number"] [] := FunD.bindsN (ps := ["self", "number"]) T.F_Fields_of fun _ _ _ _ _ _ us hl => match us, hl with | [_, _], _ => rfl
theorem Tx.F_Fields_is_plain : FunD K d_Fields_is_plain.name d_Fields_is_plain.qual (defArgs s_Fields_is_plain) (defBody s_Fields_is_plain) (defScope s_Fields_is_plain) (d_Fields_is_plain.dvs K) [] (He.fAd K d_Fields_is_plain.at_) (fdOf K d_Fields_is_plain) := T.def_ 40 rfl
theorem Tx.k_Fields_is_plain : PySem.W.keepIn K (.ref (He.fAd K d_Fields_is_plain.at_)) = true := T.F_Fields_is_plain.kp
theorem Tx.B_Fields_is_plain : Binds K (fdOf K d_Fields_is_plain) ["self", "number"] [] := FunD.bindsN (ps := ["self", "number"]) T.F_Fields_is_plain fun _ _ _ _ _ _ us hl => match us, hl with | [_, _], _ => rfl
theorem Tx.F_Fields_has_type : FunD K d_Fields_has_type.name d_Fields_has_type.qual (defArgs s_Fields_has_type) (defBody s_Fields_has_type) (defScope s_Fields_has_type) (d_Fields_has_type.dvs K) [] (He.fAd K d_Fields_has_type.at_) (fdOf K d_Fields_has_type) := T.def_ 41 rfl
theorem Tx.k_Fields_has_type : PySem.W.keepIn K (.ref (He.fAd K d_Fields_has_type.at_)) = true := T.F_Fields_has_type.kp
theorem Tx.B_Fields_has_type : Binds K (fdOf K d_Fields_has_type) ["self", "number", "words"] [] := FunD.bindsN (ps := ["self", "number", "words"]) T.F_Fields_has_type fun _ _ _ _ _ _ us hl => match us, hl with | [_, _, _], _ => rfl
theorem Tx.F_need_type_of : FunD K d_need_type_of.name d_need_type_of.qual (defArgs s_need_type_of) (defBody s_need_type_of) (defScope s_need_type_of) (d_need_type_of.dvs K) [] (He.fAd K d_need_type_of.at_) (fdOf K d_need_type_of) := T.def_ 42 rfl
theorem Tx.k_need_type_of : PySem.W.keepIn K (.ref (He.fAd K d_need_type_of.at_)) = true := T.F_need_type_of.kp
theorem Tx.B_need_type_of : Binds K (fdOf K d_need_type_of) ["plan", "thing"] [] := FunD.bindsN (ps := ["plan", "thing"]) T.F_need_type_of fun _ _ _ _ _ _ us hl => match us, hl with | [_, _], _ => rfl
theorem Tx.F_is_plain : FunD K d_is_plain.name d_is_plain.qual (defArgs s_is_plain) (defBody s_is_plain) (defScope s_is_plain) (d_is_plain.dvs K) [] (He.fAd K d_is_plain.at_) (fdOf K d_is_plain) := T.def_ 43 rfl
theorem Tx.k_is_plain : PySem.W.keepIn K (.ref (He.fAd K d_is_plain.at_)) = true := T.F_is_plain.kp
theorem Tx.B_is_plain : Binds K (fdOf K d_is_plain) ["program", "closed"] [] := FunD.bindsN (ps := ["program", "closed"]) T.F_is_plain fun _ _ _ _ _ _ us hl => match us, hl with | [_, _], _ => rfl
theorem Tx.F_is_of_type : FunD K d_is_of_type.name d_is_of_type.qual (defArgs s_is_of_type) (defBody s_is_of_type) (defScope s_is_of_type) (d_is_of_type.dvs K) [] (He.fAd K d_is_of_type.at_) (fdOf K d_is_of_type) := T.def_ 44 rfl
theorem Tx.k_is_of_type : PySem.W.keepIn K (.ref (He.fAd K d_is_of_type.at_)) = true := T.F_is_of_type.kp
theorem Tx.B_is_of_type : Binds K (fdOf K d_is_of_type) ["fields", "number", "thing"] [] := FunD.bindsN (ps := ["fields", "number", "thing"]) T.F_is_of_type fun _ _ _ _ _ _ us hl => match us, hl with | [_, _, _], _ => rfl
theorem Tx.F_is_of : FunD K d_is_of.name d_is_of.qual (defArgs s_is_of) (defBody s_is_of) (defScope s_is_of) (d_is_of.dvs K) [] (He.fAd K d_is_of.at_) (fdOf K d_is_of) := T.def_ 45 rfl
theorem Tx.k_is_of : PySem.W.keepIn K (.ref (He.fAd K d_is_of.at_)) = true := T.F_is_of.kp
theorem Tx.B_is_of : Binds K (fdOf K d_is_of) ["program", "closed", "thing"] [] := FunD.bindsN (ps := ["program", "closed", "thing"]) T.F_is_of fun _ _ _ _ _ _ us hl => match us, hl with | [_, _, _], _ => rfl
theorem Tx.F_law_urn : FunD K d_law_urn.name d_law_urn.qual (defArgs s_law_urn) (defBody s_law_urn) (defScope s_law_urn) (d_law_urn.dvs K) [] (He.fAd K d_law_urn.at_) (fdOf K d_law_urn) := T.def_ 46 rfl
theorem Tx.k_law_urn : PySem.W.keepIn K (.ref (He.fAd K d_law_urn.at_)) = true := T.F_law_urn.kp
theorem Tx.B_law_urn : Binds K (fdOf K d_law_urn) ["script"] [] := FunD.bindsN (ps := ["script"]) T.F_law_urn fun _ _ _ _ _ _ us hl => match us, hl with | [_], _ => rfl
theorem Tx.F_law_ball : FunD K d_law_ball.name d_law_ball.qual (defArgs s_law_ball) (defBody s_law_ball) (defScope s_law_ball) (d_law_ball.dvs K) [] (He.fAd K d_law_ball.at_) (fdOf K d_law_ball) := T.def_ 47 rfl
theorem Tx.k_law_ball : PySem.W.keepIn K (.ref (He.fAd K d_law_ball.at_)) = true := T.F_law_ball.kp
theorem Tx.B_law_ball : Binds K (fdOf K d_law_ball) ["urn", "many"] [] := FunD.bindsN (ps := ["urn", "many"]) T.F_law_ball fun _ _ _ _ _ _ us hl => match us, hl with | [_, _], _ => rfl
theorem Tx.F_law_like : FunD K d_law_like.name d_law_like.qual (defArgs s_law_like) (defBody s_law_like) (defScope s_law_like) (d_law_like.dvs K) [] (He.fAd K d_law_like.at_) (fdOf K d_law_like) := T.def_ 48 rfl
theorem Tx.k_law_like : PySem.W.keepIn K (.ref (He.fAd K d_law_like.at_)) = true := T.F_law_like.kp
theorem Tx.B_law_like : Binds K (fdOf K d_law_like) ["found", "wish"] [] := FunD.bindsN (ps := ["found", "wish"]) T.F_law_like fun _ _ _ _ _ _ us hl => match us, hl with | [_, _], _ => rfl
theorem Tx.F_law_type : FunD K d_law_type.name d_law_type.qual (defArgs s_law_type) (defBody s_law_type) (defScope s_law_type) (d_law_type.dvs K) [] (He.fAd K d_law_type.at_) (fdOf K d_law_type) := T.def_ 49 rfl
theorem Tx.k_law_type : PySem.W.keepIn K (.ref (He.fAd K d_law_type.at_)) = true := T.F_law_type.kp
theorem Tx.B_law_type : Binds K (fdOf K d_law_type) ["urn", "kinds", "many", "deep"] [] := FunD.bindsN (ps := ["urn", "kinds", "many", "deep"]) T.F_law_type fun _ _ _ _ _ _ us hl => match us, hl with | [_, _, _, _], _ => rfl
theorem Tx.F_law_program : FunD K d_law_program.name d_law_program.qual (defArgs s_law_program) (defBody s_law_program) (defScope s_law_program) (d_law_program.dvs K) [] (He.fAd K d_law_program.at_) (fdOf K d_law_program) := T.def_ 50 rfl
theorem Tx.k_law_program : PySem.W.keepIn K (.ref (He.fAd K d_law_program.at_)) = true := T.F_law_program.kp
theorem Tx.B_law_program : Binds K (fdOf K d_law_program) ["urn"] [] := FunD.bindsN (ps := ["urn"]) T.F_law_program fun _ _ _ _ _ _ us hl => match us, hl with | [_], _ => rfl
theorem Tx.F_law_put : FunD K d_law_put.name d_law_put.qual (defArgs s_law_put) (defBody s_law_put) (defScope s_law_put) (d_law_put.dvs K) [] (He.fAd K d_law_put.at_) (fdOf K d_law_put) := T.def_ 51 rfl
theorem Tx.k_law_put : PySem.W.keepIn K (.ref (He.fAd K d_law_put.at_)) = true := T.F_law_put.kp
theorem Tx.B_law_put : Binds K (fdOf K d_law_put) ["thing", "args"] [] := FunD.bindsN (ps := ["thing", "args"]) T.F_law_put fun _ _ _ _ _ _ us hl => match us, hl with | [_, _], _ => rfl
theorem Tx.F_law_makers : FunD K d_law_makers.name d_law_makers.qual (defArgs s_law_makers) (defBody s_law_makers) (defScope s_law_makers) (d_law_makers.dvs K) [] (He.fAd K d_law_makers.at_) (fdOf K d_law_makers) := T.def_ 52 rfl
theorem Tx.k_law_makers : PySem.W.keepIn K (.ref (He.fAd K d_law_makers.at_)) = true := T.F_law_makers.kp
theorem Tx.B_law_makers : Binds K (fdOf K d_law_makers) ["program", "thing"] [] := FunD.bindsN (ps := ["program", "thing"]) T.F_law_makers fun _ _ _ _ _ _ us hl => match us, hl with | [_, _], _ => rfl
theorem Tx.F_law_size : FunD K d_law_size.name d_law_size.qual (defArgs s_law_size) (defBody s_law_size) (defScope s_law_size) (d_law_size.dvs K) [] (He.fAd K d_law_size.at_) (fdOf K d_law_size) := T.def_ 53 rfl
theorem Tx.k_law_size : PySem.W.keepIn K (.ref (He.fAd K d_law_size.at_)) = true := T.F_law_size.kp
theorem Tx.B_law_size : Binds K (fdOf K d_law_size) ["thing"] [] := FunD.bindsN (ps := ["thing"]) T.F_law_size fun _ _ _ _ _ _ us hl => match us, hl with | [_], _ => rfl
theorem Tx.F_law_plain : FunD K d_law_plain.name d_law_plain.qual (defArgs s_law_plain) (defBody s_law_plain) (defScope s_law_plain) (d_law_plain.dvs K) [] (He.fAd K d_law_plain.at_) (fdOf K d_law_plain) := T.def_ 54 rfl
theorem Tx.k_law_plain : PySem.W.keepIn K (.ref (He.fAd K d_law_plain.at_)) = true := T.F_law_plain.kp
theorem Tx.B_law_plain : Binds K (fdOf K d_law_plain) ["program", "start"] [] := FunD.bindsN (ps := ["program", "start"]) T.F_law_plain fun _ _ _ _ _ _ us hl => match us, hl with | [_, _], _ => rfl
theorem Tx.F_law_words : FunD K d_law_words.name d_law_words.qual (defArgs s_law_words) (defBody s_law_words) (defScope s_law_words) (d_law_words.dvs K) [] (He.fAd K d_law_words.at_) (fdOf K d_law_words) := T.def_ 55 rfl
theorem Tx.k_law_words : PySem.W.keepIn K (.ref (He.fAd K d_law_words.at_)) = true := T.F_law_words.kp
theorem Tx.B_law_words : Binds K (fdOf K d_law_words) ["urn", "program", "thing", "deep"] [] := FunD.bindsN (ps := ["urn", "program", "thing", "deep"]) T.F_law_words fun _ _ _ _ _ _ us hl => match us, hl with | [_, _, _, _], _ => rfl
theorem Tx.F_law_is_of : FunD K d_law_is_of.name d_law_is_of.qual (defArgs s_law_is_of) (defBody s_law_is_of) (defScope s_law_is_of) (d_law_is_of.dvs K) [] (He.fAd K d_law_is_of.at_) (fdOf K d_law_is_of) := T.def_ 56 rfl
theorem Tx.k_law_is_of : PySem.W.keepIn K (.ref (He.fAd K d_law_is_of.at_)) = true := T.F_law_is_of.kp
theorem Tx.B_law_is_of : Binds K (fdOf K d_law_is_of) ["program", "thing", "words"] [] := FunD.bindsN (ps := ["program", "thing", "words"]) T.F_law_is_of fun _ _ _ _ _ _ us hl => match us, hl with | [_, _, _], _ => rfl
theorem Tx.F_law_near : FunD K d_law_near.name d_law_near.qual (defArgs s_law_near) (defBody s_law_near) (defScope s_law_near) (d_law_near.dvs K) [] (He.fAd K d_law_near.at_) (fdOf K d_law_near) := T.def_ 57 rfl
theorem Tx.k_law_near : PySem.W.keepIn K (.ref (He.fAd K d_law_near.at_)) = true := T.F_law_near.kp
theorem Tx.B_law_near : Binds K (fdOf K d_law_near) ["urn", "words"] [] := FunD.bindsN (ps := ["urn", "words"]) T.F_law_near fun _ _ _ _ _ _ us hl => match us, hl with | [_, _], _ => rfl
theorem Tx.F_law : FunD K d_law.name d_law.qual (defArgs s_law) (defBody s_law) (defScope s_law) (d_law.dvs K) [] (He.fAd K d_law.at_) (fdOf K d_law) := T.def_ 58 rfl
theorem Tx.k_law : PySem.W.keepIn K (.ref (He.fAd K d_law.at_)) = true := T.F_law.kp
theorem Tx.B_law : Binds K (fdOf K d_law) ["script"] [] := FunD.bindsN (ps := ["script"]) T.F_law fun _ _ _ _ _ _ us hl => match us, hl with | [_], _ => rfl
end
theorem sc_is_int : FnScope ["x"] ["x"] (defScope s_is_int) := ⟨rfl, rfl, rfl, by decide +kernel, rfl, by decide +kernel, by decide +kernel⟩
theorem sc_within : FnScope ["x", "low", "high"] ["x", "low", "high"] (defScope s_within) := ⟨rfl, rfl, rfl, by decide +kernel, rfl, by decide +kernel, by decide +kernel⟩
theorem sc_is_tuple : FnScope ["thing", "least", "most"] ["thing", "least", "most"] (defScope s_is_tuple) := ⟨rfl, rfl, rfl, by decide +kernel, rfl, by decide +kernel, by decide +kernel⟩
theorem sc_is_name : FnScope ["x", "sign"] ["x"] (defScope s_is_name) := ⟨rfl, rfl, rfl, by decide +kernel, rfl, by decide +kernel, by decide +kernel⟩
theorem sc_is_high : FnScope ["x"] ["x"] (defScope s_is_high) := ⟨rfl, rfl, rfl, by decide +kernel, rfl, by decide +kernel, by decide +kernel⟩
theorem sc_inner_of : FnScope ["thing", "many"] ["thing", "many"] (defScope s_inner_of) := ⟨rfl, rfl, rfl, by decide +kernel, rfl, by decide +kernel, by decide +kernel⟩
theorem sc_is_shaped : FnScope ["thing", "many", "deepest", "most", "waiting", "spare", "one", "deep", "inner", "part"] ["thing", "many", "deepest", "most"] (defScope s_is_shaped) := ⟨rfl, rfl, rfl, by decide +kernel, rfl, by decide +kernel, by decide +kernel⟩
theorem sc_is_type : FnScope ["thing", "many", "deepest", "most"] ["thing", "many", "deepest", "most"] (defScope s_is_type) := ⟨rfl, rfl, rfl, by decide +kernel, rfl, by decide +kernel, by decide +kernel⟩
theorem sc_is_open : FnScope ["thing", "many"] ["thing", "many"] (defScope s_is_open) := ⟨rfl, rfl, rfl, by decide +kernel, rfl, by decide +kernel, by decide +kernel⟩
theorem sc_parts_of : FnScope ["thing"] ["thing"] (defScope s_parts_of) := ⟨rfl, rfl, rfl, by decide +kernel, rfl, by decide +kernel, by decide +kernel⟩
theorem sc_kinds_in : FnScope ["thing", "found", "part"] ["thing"] (defScope s_kinds_in) := ⟨rfl, rfl, rfl, by decide +kernel, rfl, by decide +kernel, by decide +kernel⟩
theorem sc_goes_with : FnScope ["kinds", "thing", "name", "many"] ["kinds", "thing"] (defScope s_goes_with) := ⟨rfl, rfl, rfl, by decide +kernel, rfl, by decide +kernel, by decide +kernel⟩
theorem sc_is_open_in : FnScope ["book", "thing", "many"] ["book", "thing", "many"] (defScope s_is_open_in) := ⟨rfl, rfl, rfl, by decide +kernel, rfl, by decide +kernel, by decide +kernel⟩
theorem sc_is_closed_in : FnScope ["book", "thing"] ["book", "thing"] (defScope s_is_closed_in) := ⟨rfl, rfl, rfl, by decide +kernel, rfl, by decide +kernel, by decide +kernel⟩
theorem sc_is_maker : FnScope ["thing", "many", "field"] ["thing", "many"] (defScope s_is_maker) := ⟨rfl, rfl, rfl, by decide +kernel, rfl, by decide +kernel, by decide +kernel⟩
theorem sc_is_kind : FnScope ["thing", "maker"] ["thing"] (defScope s_is_kind) := ⟨rfl, rfl, rfl, by decide +kernel, rfl, by decide +kernel, by decide +kernel⟩
theorem sc_is_tree : FnScope ["thing", "entry"] ["thing"] (defScope s_is_tree) := ⟨rfl, rfl, rfl, by decide +kernel, rfl, by decide +kernel, by decide +kernel⟩
theorem sc_is_program : FnScope ["thing", "name"] ["thing"] (defScope s_is_program) := ⟨rfl, rfl, rfl, by decide +kernel, rfl, by decide +kernel, by decide +kernel⟩
theorem sc_need_program : FnScope ["thing"] ["thing"] (defScope s_need_program) := ⟨rfl, rfl, rfl, by decide +kernel, rfl, by decide +kernel, by decide +kernel⟩
theorem sc_Heads_init : FnScope ["self", "program", "kind", "many", "makers", "maker", "fields", "c", "name", "uppers", "methods", "k", "method", "told", "entry"] ["self", "program"] (defScope s_Heads_init) := ⟨rfl, rfl, rfl, by decide +kernel, rfl, by decide +kernel, by decide +kernel⟩
theorem sc_Heads_check_type : FnScope ["self", "thing", "kind", "many"] ["self", "thing"] (defScope s_Heads_check_type) := ⟨rfl, rfl, rfl, by decide +kernel, rfl, by decide +kernel, by decide +kernel⟩
theorem sc_Heads_check_kind : FnScope ["self", "entry", "kinds", "makers", "maker", "fields", "field"] ["self", "entry", "kinds", "makers"] (defScope s_Heads_check_kind) := ⟨rfl, rfl, rfl, by decide +kernel, rfl, by decide +kernel, by decide +kernel⟩
theorem sc_heads_checked : FnScope ["program", "heads", "where", "e", "entry", "defs", "kinds", "makers", "ahead", "methods"] ["program"] (defScope s_heads_checked) := ⟨rfl, rfl, rfl, by decide +kernel, rfl, by decide +kernel, by decide +kernel⟩
theorem sc_check : FnScope ["program"] ["program"] (defScope s_check) := ⟨rfl, rfl, rfl, by decide +kernel, rfl, by decide +kernel, by decide +kernel⟩
theorem sc_need_checked : FnScope ["program", "heads", "what"] ["program"] (defScope s_need_checked) := ⟨rfl, rfl, rfl, by decide +kernel, rfl, by decide +kernel, by decide +kernel⟩
theorem sc_book_inside : FnScope ["heads", "program", "kinds", "name", "many", "makers", "classes", "uppers", "own", "one", "ways", "head", "needs"] ["heads", "program"] (defScope s_book_inside) := ⟨rfl, rfl, rfl, by decide +kernel, rfl, by decide +kernel, by decide +kernel⟩
theorem sc_Plan_init : FnScope ["self", "program", "heads", "entry", "number", "unit", "way", "own", "name", "head", "needs", "bodies", "k", "e"] ["self", "program", "heads"] (defScope s_Plan_init) := ⟨rfl, rfl, rfl, by decide +kernel, rfl, by decide +kernel, by decide +kernel⟩
theorem sc_Plan_all_fns : FnScope ["self", "order", "number", "place"] ["self"] (defScope s_Plan_all_fns) := ⟨rfl, rfl, rfl, by decide +kernel, rfl, by decide +kernel, by decide +kernel⟩
theorem sc_planned : FnScope ["program"] ["program"] (defScope s_planned) := ⟨rfl, rfl, rfl, by decide +kernel, rfl, by decide +kernel, by decide +kernel⟩
theorem sc_Bank_init : FnScope ["self"] ["self"] (defScope s_Bank_init) := ⟨rfl, rfl, rfl, by decide +kernel, rfl, by decide +kernel, by decide +kernel⟩
theorem sc_Bank_put : FnScope ["self", "node", "part"] ["self", "node"] (defScope s_Bank_put) := ⟨rfl, rfl, rfl, by decide +kernel, rfl, by decide +kernel, by decide +kernel⟩
theorem sc_Bank_parts_of : FnScope ["self", "node"] ["self", "node"] (defScope s_Bank_parts_of) := ⟨rfl, rfl, rfl, by decide +kernel, rfl, by decide +kernel, by decide +kernel⟩
theorem sc_Bank_number : FnScope ["self", "thing", "args", "part"] ["self", "thing", "args"] (defScope s_Bank_number) := ⟨rfl, rfl, rfl, by decide +kernel, rfl, by decide +kernel, by decide +kernel⟩
theorem sc_Bank_head : FnScope ["self", "number", "node"] ["self", "number"] (defScope s_Bank_head) := ⟨rfl, rfl, rfl, by decide +kernel, rfl, by decide +kernel, by decide +kernel⟩
theorem sc_Bank_args_at : FnScope ["self", "number", "node"] ["self", "number"] (defScope s_Bank_args_at) := ⟨rfl, rfl, rfl, by decide +kernel, rfl, by decide +kernel, by decide +kernel⟩
theorem sc_label_arity : FnScope ["plan", "fns", "word", "number", "place", "many"] ["plan", "fns", "word"] (defScope s_label_arity) := ⟨rfl, rfl, rfl, by decide +kernel, rfl, by decide +kernel, by decide +kernel⟩
theorem sc_arity : FnScope ["plan", "fns", "word"] ["plan", "fns", "word"] (defScope s_arity) := ⟨rfl, rfl, rfl, by decide +kernel, rfl, by decide +kernel, by decide +kernel⟩
theorem sc_are_words : FnScope ["plan", "thing", "fns", "due", "word", "many"] ["plan", "thing"] (defScope s_are_words) := ⟨rfl, rfl, rfl, by decide +kernel, rfl, by decide +kernel, by decide +kernel⟩
theorem sc_Fields_init : FnScope ["self", "plan", "bank"] ["self", "plan", "bank"] (defScope s_Fields_init) := ⟨rfl, rfl, rfl, by decide +kernel, rfl, by decide +kernel, by decide +kernel⟩
theorem sc_Fields_of : FnScope ["self", "number", "told", "maker", "kind", "args", "field"] ["self", "number"] (defScope s_Fields_of) := ⟨rfl, rfl, rfl, by decide +kernel, rfl, by decide +kernel, by decide +kernel⟩
theorem sc_Fields_is_plain : FnScope ["self", "number", "met", "due", "one", "numbers", "other"] ["self", "number"] (defScope s_Fields_is_plain) := ⟨rfl, rfl, rfl, by decide +kernel, rfl, by decide +kernel, by decide +kernel⟩
theorem sc_Fields_has_type : FnScope ["self", "number", "words", "due", "word", "wanted"] ["self", "number", "words"] (defScope s_Fields_has_type) := ⟨rfl, rfl, rfl, by decide +kernel, rfl, by decide +kernel, by decide +kernel⟩
theorem sc_need_type_of : FnScope ["plan", "thing"] ["plan", "thing"] (defScope s_need_type_of) := ⟨rfl, rfl, rfl, by decide +kernel, rfl, by decide +kernel, by decide +kernel⟩
theorem sc_is_plain : FnScope ["program", "closed", "plan", "bank"] ["program", "closed"] (defScope s_is_plain) := ⟨rfl, rfl, rfl, by decide +kernel, rfl, by decide +kernel, by decide +kernel⟩
theorem sc_is_of_type : FnScope ["fields", "number", "thing"] ["fields", "number", "thing"] (defScope s_is_of_type) := ⟨rfl, rfl, rfl, by decide +kernel, rfl, by decide +kernel, by decide +kernel⟩
theorem sc_is_of : FnScope ["program", "closed", "thing", "plan", "bank"] ["program", "closed", "thing"] (defScope s_is_of) := ⟨rfl, rfl, rfl, by decide +kernel, rfl, by decide +kernel, by decide +kernel⟩
theorem sc_law_urn : FnScope ["script", "mixed", "cell"] ["script"] (defScope s_law_urn) := ⟨rfl, rfl, rfl, by decide +kernel, rfl, by decide +kernel, by decide +kernel⟩
theorem sc_law_ball : FnScope ["urn", "many", "found"] ["urn", "many"] (defScope s_law_ball) := ⟨rfl, rfl, rfl, by decide +kernel, rfl, by decide +kernel, by decide +kernel⟩
theorem sc_law_like : FnScope ["found", "wish", "k"] ["found", "wish"] (defScope s_law_like) := ⟨rfl, rfl, rfl, by decide +kernel, rfl, by decide +kernel, by decide +kernel⟩
theorem sc_law_type : FnScope ["urn", "kinds", "many", "deep", "way", "some", "one", "name", "arity_v", "k"] ["urn", "kinds", "many", "deep"] (defScope s_law_type) := ⟨rfl, rfl, rfl, by decide +kernel, rfl, by decide +kernel, by decide +kernel⟩
theorem sc_law_program : FnScope ["urn", "lots", "kinds", "name", "many", "makers", "m", "turn", "some", "k"] ["urn"] (defScope s_law_program) := ⟨rfl, rfl, rfl, by decide +kernel, rfl, by decide +kernel, by decide +kernel⟩
theorem sc_law_put : FnScope ["thing", "args", "one"] ["thing", "args"] (defScope s_law_put) := ⟨rfl, rfl, rfl, by decide +kernel, rfl, by decide +kernel, by decide +kernel⟩
theorem sc_law_makers : FnScope ["program", "thing", "found", "name", "many", "makers", "maker", "fields", "field"] ["program", "thing"] (defScope s_law_makers) := ⟨rfl, rfl, rfl, by decide +kernel, rfl, by decide +kernel, by decide +kernel⟩
theorem sc_law_size : FnScope ["thing", "one"] ["thing"] (defScope s_law_size) := ⟨rfl, rfl, rfl, by decide +kernel, rfl, by decide +kernel, by decide +kernel⟩
theorem sc_law_plain : FnScope ["program", "start", "found", "due", "thing", "maker", "fields", "field", "one"] ["program", "start"] (defScope s_law_plain) := ⟨rfl, rfl, rfl, by decide +kernel, rfl, by decide +kernel, by decide +kernel⟩
theorem sc_law_words : FnScope ["urn", "program", "thing", "deep", "options", "one", "maker", "fields", "found", "field"] ["urn", "program", "thing", "deep"] (defScope s_law_words) := ⟨rfl, rfl, rfl, by decide +kernel, rfl, by decide +kernel, by decide +kernel⟩
theorem sc_law_is_of : FnScope ["program", "thing", "words", "due", "word", "wanted", "some", "one"] ["program", "thing", "words"] (defScope s_law_is_of) := ⟨rfl, rfl, rfl, by decide +kernel, rfl, by decide +kernel, by decide +kernel⟩
theorem sc_law_near : FnScope ["urn", "words", "at", "some", "word", "found"] ["urn", "words"] (defScope s_law_near) := ⟨rfl, rfl, rfl, by decide +kernel, rfl, by decide +kernel, by decide +kernel⟩
theorem sc_law : FnScope ["script", "urn", "turn", "program", "pairs", "k", "thing", "plain", "words", "one", "name", "many", "makers", "bend"] ["script"] (defScope s_law) := ⟨rfl, rfl, rfl, by decide +kernel, rfl, by decide +kernel, by decide +kernel⟩
theorem bb_isinstance : bootBuiltins "isinstance" = some (.builtin "isinstance") := by decide +kernel
theorem bb_int : bootBuiltins "int" = some (.type "int") := by decide +kernel
theorem bb_bool : bootBuiltins "bool" = some (.type "bool") := by decide +kernel
theorem bb_str : bootBuiltins "str" = some (.type "str") := by decide +kernel
theorem bb_tuple : bootBuiltins "tuple" = some (.type "tuple") := by decide +kernel
theorem bb_all : bootBuiltins "all" = some (.builtin "all") := by decide +kernel
theorem bb_any : bootBuiltins "any" = some (.builtin "any") := by decide +kernel
theorem bb_len : bootBuiltins "len" = some (.builtin "len") := by decide +kernel
theorem bb_list : bootBuiltins "list" = some (.type "list") := by decide +kernel
theorem bb_sorted : bootBuiltins "sorted" = some (.builtin "sorted") := by decide +kernel
theorem bb_dict : bootBuiltins "dict" = some (.type "dict") := by decide +kernel
theorem bb_enumerate : bootBuiltins "enumerate" = some (.type "enumerate") := by decide +kernel
theorem bb_range : bootBuiltins "range" = some (.type "range") := by decide +kernel
theorem bb_zip : bootBuiltins "zip" = some (.type "zip") := by decide +kernel
theorem bb_min : bootBuiltins "min" = some (.builtin "min") := by decide +kernel
theorem bb_max : bootBuiltins "max" = some (.builtin "max") := by decide +kernel
theorem bb_sum : bootBuiltins "sum" = some (.builtin "sum") := by decide +kernel
end K55
/-! rules in one for several kinds of values -/
namespace W5
open PySem PySem.Spec PyProof.Rows L2
section
variable {X : Cx}
theorem pe_gint {x : Str} {n : Int} {pos : Pos} (hg : Gl X x) (hm : ∃ t, X.mg x = some (.int n t)) (hd : (x == ("__debug__" : Str)) = false := by decide) : PE X (.Name x pos) (tC (.int n)) := by
  obtain ⟨t, h⟩ := hm
  exact pe_glob hg h ⟨t, rfl⟩ hd
theorem pe_gstr {x z : Str} {pos : Pos} (hg : Gl X x) (hm : ∃ t, X.mg x = some (.str z t)) (hd : (x == ("__debug__" : Str)) = false := by decide) : PE X (.Name x pos) (tC (.str z)) := by
  obtain ⟨t, h⟩ := hm
  exact pe_glob hg h ⟨t, rfl⟩ hd
/-! ### sums -/
def rAddS : R2 := fun x y H Q => ∃ i j, x = .str i ∧ y = .str j ∧ i.length + j.length ≤ sizeLine ∧ Q (.str (i ++ j)) H
def rAddA (K : PySem.W.Frag) : R2 := fun x y H Q => rI0 (fun i j => .int (i + j)) x y H Q ∨ (rAddS x y H Q ∨ (rCat x y H Q ∨ rCatA K x y H Q))
theorem op_addA : OpR X (binaryOp .Add) (rAddA X.K) := op_add.or (OpR.or (r := rAddS) op_add_str (op_cat.or op_catA))
section
variable {K : PySem.W.Frag} {H : Hp} {Q : VK}
theorem add_i {i j : Int} (q : Q (.int (i + j)) H) : rAddA K (.int i) (.int j) H Q := .inl ⟨i, j, rfl, rfl, q⟩
theorem add_s {i j : Str} (h : i.length + j.length ≤ sizeLine) (q : Q (.str (i ++ j)) H) : rAddA K (.str i) (.str j) H Q := .inr (.inl ⟨i, j, rfl, rfl, h, q⟩)
theorem add_l {a b : Addr} {xs ys : List V} (ha : H a = some (.lst xs)) (hb : H b = some (.lst ys)) (h : xs.length + ys.length ≤ sizeLine) (q : ∀ p, H p = none → Q (.ref p) (upd H p (.lst (xs ++ ys)))) : rAddA K (.ref a) (.ref b) H Q :=
  .inr (.inr (.inl ⟨a, b, xs, ys, rfl, rfl, ha, hb, h, q⟩))
theorem add_t {a b : Addr} {xs ys : List V} (ha : SqT K H a xs) (hb : SqT K H b ys) (h : xs.length + ys.length ≤ sizeLine) (q0 : xs = [] → Q (.ref b) H) (q1 : xs ≠ [] → ys = [] → Q (.ref a) H) (q : xs ≠ [] → ys ≠ [] → ∀ p, H p = none → Q (.ref p) (upd H p (.tup (xs ++ ys)))) : rAddA K (.ref a) (.ref b) H Q :=
  .inr (.inr (.inr ⟨a, b, xs, ys, rfl, rfl, ha, hb, h, q0, q1, q⟩))
end
/-! ### equal data -/
def rEqP (K : PySem.W.Frag) (B : Nat) : R2 := fun x y H Q => ∃ d e, Dp K H x d ∧ Dp K H y e ∧ d.plain = true ∧ e.plain = true ∧ min d.depth e.depth ≤ B ∧ Q (.bl (PyData.eqv d e)) H
def rNeP (K : PySem.W.Frag) (B : Nat) : R2 := fun x y H Q => ∃ d e, Dp K H x d ∧ Dp K H y e ∧ d.plain = true ∧ e.plain = true ∧ min d.depth e.depth ≤ B ∧ Q (.bl (!PyData.eqv d e)) H
theorem op_eqP {B : Nat} (hu : X.A.units + B < cLine) : OpR X (compareOp .Eq) (rEqP X.K B) := by
  intro pins s σ H x y v u Q I rx ry h
  obtain ⟨d, e, hd, he, sd, se, hB, q⟩ := h
  obtain ⟨as, r1⟩ := Dp.reads I d x v hd rx
  obtain ⟨bs, r2⟩ := Dp.reads I e y u he ry
  exact SeqAt.eq_plain r1 r2 sd se (by omega) ⟨.bl _, H, I, rfl, q⟩
theorem op_neP {B : Nat} (hu : X.A.units + B < cLine) : OpR X (compareOp .NotEq) (rNeP X.K B) := by
  intro pins s σ H x y v u Q I rx ry h
  obtain ⟨d, e, hd, he, sd, se, hB, q⟩ := h
  obtain ⟨as, r1⟩ := Dp.reads I d x v hd rx
  obtain ⟨bs, r2⟩ := Dp.reads I e y u he ry
  exact SeqAt.ne_plain r1 r2 sd se (by omega) ⟨.bl _, H, I, rfl, q⟩
abbrev lineOf (k : Nat) : Nat := 16 * k + 199
theorem hu_line {k : Nat} {A : Around} (hr : Room k A) : A.units + lineOf k < cLine := by have := hr.un; show A.units + (16 * k + 199) < cLine; omega
theorem op_eqA {k : Nat} (hr : Room k X.A) : OpR X (compareOp .Eq) (rEqP X.K (lineOf k)) := op_eqP (hu_line hr)
theorem op_neA {k : Nat} (hr : Room k X.A) : OpR X (compareOp .NotEq) (rNeP X.K (lineOf k)) := op_neP (hu_line hr)
/-! ### in -/
def rInP (K : PySem.W.Frag) (B : Nat) : R2 := fun x y H Q => ∃ d ds, Dp K H x d ∧ (Dp K H y (.list ds) ∨ Dp K H y (.tuple ds)) ∧ d.plain = true ∧ PyData.plainAll ds = true ∧ min (PyData.depthAll ds) d.depth ≤ B ∧ Q (.bl (ds.any fun z => PyData.eqv z d)) H
def rNiP (K : PySem.W.Frag) (B : Nat) : R2 := fun x y H Q => ∃ d ds, Dp K H x d ∧ (Dp K H y (.list ds) ∨ Dp K H y (.tuple ds)) ∧ d.plain = true ∧ PyData.plainAll ds = true ∧ min (PyData.depthAll ds) d.depth ≤ B ∧ Q (.bl (!ds.any fun z => PyData.eqv z d)) H
theorem op_inP {B : Nat} (hu : X.A.units + 1 + B < cLine) : OpR X (compareOp .In) (rInP X.K B) := by
  intro pins s σ H x y v u Q I rx ry h
  obtain ⟨d, ds, hd, he, sd, se, hB, q⟩ := h
  obtain ⟨as, r1⟩ := Dp.reads I d x v hd rx
  rcases he with he | he
  · obtain ⟨bs, r2⟩ := Dp.reads I _ y u he ry
    exact SeqAt.in_list_data r2 r1 se sd (by omega) ⟨.bl _, H, I, rfl, q⟩
  · obtain ⟨bs, r2⟩ := Dp.reads I _ y u he ry
    exact SeqAt.in_tuple_data r2 r1 se sd (by omega) ⟨.bl _, H, I, rfl, q⟩
theorem op_niP {B : Nat} (hu : X.A.units + 1 + B < cLine) : OpR X (compareOp .NotIn) (rNiP X.K B) := by
  intro pins s σ H x y v u Q I rx ry h
  obtain ⟨d, ds, hd, he, sd, se, hB, q⟩ := h
  obtain ⟨as, r1⟩ := Dp.reads I d x v hd rx
  rcases he with he | he
  · obtain ⟨bs, r2⟩ := Dp.reads I _ y u he ry
    exact SeqAt.notIn_list_data r2 r1 se sd (by omega) ⟨.bl _, H, I, rfl, q⟩
  · obtain ⟨bs, r2⟩ := Dp.reads I _ y u he ry
    exact SeqAt.notIn_tuple_data r2 r1 se sd (by omega) ⟨.bl _, H, I, rfl, q⟩
def rInD (neg : Bool) : R2 := fun y x H Q => ∃ a o, x = .ref a ∧ DGet H a y o ∧ Q (.bl (if neg then !o.isSome else o.isSome)) H
theorem op_inDict (hu : X.A.units + 1 < cLine) : OpR X (compareOp .In) (rInD false) := by
  intro pins s σ H y x u v Q I ry rx h
  obtain ⟨a, o, rfl, g, q⟩ := h
  cases rx
  exact d_in hu I g ry fun s' I' => ⟨.bl _, H, I', rfl, q⟩
theorem op_niDict (hu : X.A.units + 1 < cLine) : OpR X (compareOp .NotIn) (rInD true) := by
  intro pins s σ H y x u v Q I ry rx h
  obtain ⟨a, o, rfl, g, q⟩ := h
  cases rx
  exact d_notIn hu I g ry fun s' I' => ⟨.bl _, H, I', rfl, q⟩
def rInSg : R2 := fun x y H Q => ∃ (c : Nat) (z : Str), x = .str ⟨#[c]⟩ ∧ y = .str z ∧ Q (.bl (decide (c ∈ z.cps.toList))) H
def rNiSg : R2 := fun x y H Q => ∃ (c : Nat) (z : Str), x = .str ⟨#[c]⟩ ∧ y = .str z ∧ Q (.bl (!decide (c ∈ z.cps.toList))) H
def rInA (K : PySem.W.Frag) (B : Nat) : R2 := fun x y H Q => rInP K B x y H Q ∨ (rInD false x y H Q ∨ rInSg x y H Q)
def rNiA (K : PySem.W.Frag) (B : Nat) : R2 := fun x y H Q => rNiP K B x y H Q ∨ (rInD true x y H Q ∨ rNiSg x y H Q)
abbrev lineI (k : Nat) : Nat := 16 * k + 198
theorem hu_lineI {k : Nat} {A : Around} (hr : Room k A) : A.units + 1 + lineI k < cLine := by have := hr.un; show A.units + 1 + (16 * k + 198) < cLine; omega
theorem op_inA {k : Nat} (hr : Room k X.A) : OpR X (compareOp .In) (rInA X.K (lineI k)) := (op_inP (hu_lineI hr)).or (OpR.or (r := rInD false) (r' := rInSg) (op_inDict (hu_of hr)) op_in_sign)
theorem op_ninA {k : Nat} (hr : Room k X.A) : OpR X (compareOp .NotIn) (rNiA X.K (lineI k)) := (op_niP (hu_lineI hr)).or (OpR.or (r := rInD true) (r' := rNiSg) (op_niDict (hu_of hr)) op_notIn_sign)
/-! ### is -/
def rIsA : R2 := fun x y H Q => (y = .non ∧ Q (.bl (decide (x = .non))) H) ∨ rIsB x y H Q
def rIsnA : R2 := fun x y H Q => (y = .non ∧ Q (.bl (!decide (x = .non))) H) ∨ rNotB x y H Q
theorem op_isA : OpR X (compareOp .Is) rIsA := op_isN.or op_isBl
theorem op_isnA : OpR X (compareOp .IsNot) rIsnA := op_notN.or op_notBl
/-! ### len -/
def rLenD : List V → Hp → VK → Prop := fun xs H Q => ∃ a kvs, xs = [V.ref a] ∧ H a = some (.dK kvs) ∧ Q (.int kvs.length) H
def rLenN (K : PySem.W.Frag) : List V → Hp → VK → Prop := fun xs H Q => ∃ x n, xs = [x] ∧ LenV K x H n ∧ Q (.int n) H
def rLenA (K : PySem.W.Frag) : List V → Hp → VK → Prop := fun xs H Q => rLenN K xs H Q ∨ rLenD xs H Q
theorem call_lenA : CallR X (.builtin "len") (rLenA X.K) := CallR.or (r := rLenN X.K) (r' := rLenD) call_len call_lenD
section
variable {K : PySem.W.Frag} {H : Hp} {Q : VK}
theorem len_l {a : Addr} {xs : List V} (h : SqL K H a xs) (q : Q (.int xs.length) H) : rLenA K [.ref a] H Q := .inl ⟨_, _, rfl, .inl ⟨xs, h, rfl⟩, q⟩
theorem len_t {a : Addr} {xs : List V} (h : SqT K H a xs) (q : Q (.int xs.length) H) : rLenA K [.ref a] H Q := .inl ⟨_, _, rfl, .inr ⟨xs, h, rfl⟩, q⟩
theorem len_s {x : Str} (h : x.length ≤ sizeLine) (q : Q (.int x.length) H) : rLenA K [.str x] H Q := .inl ⟨_, _, rfl, ⟨h, rfl⟩, q⟩
theorem len_d {a : Addr} {kvs : List (L2.Key × V)} (h : H a = some (.dK kvs)) (q : Q (.int kvs.length) H) : rLenA K [.ref a] H Q := .inr ⟨_, _, rfl, h, q⟩
end
end
/-! ### the rules with the frozen part named (for blocks of comprehensions) -/
section
variable {X : Cx} {K : PySem.W.Frag} {k : Nat} {e : Expr} {te : TE}
theorem op_addK (hK : X.K = K) : OpR X (binaryOp .Add) (rAddA K) := hK ▸ op_addA
theorem op_eqK (hK : X.K = K) (hr : Room k X.A) : OpR X (compareOp .Eq) (rEqP K (lineOf k)) := hK ▸ op_eqA hr
theorem op_neK (hK : X.K = K) (hr : Room k X.A) : OpR X (compareOp .NotEq) (rNeP K (lineOf k)) := hK ▸ op_neA hr
theorem op_inK (hK : X.K = K) (hr : Room k X.A) : OpR X (compareOp .In) (rInA K (lineI k)) := hK ▸ op_inA hr
theorem op_ninK (hK : X.K = K) (hr : Room k X.A) : OpR X (compareOp .NotIn) (rNiA K (lineI k)) := hK ▸ op_ninA hr
theorem ix_seqK (hK : X.K = K) : IxR X (rIx K) := hK ▸ ix_seq
theorem call_lenK (hK : X.K = K) : CallR X (.builtin "len") (rLenA K) := hK ▸ call_lenA
theorem call_isiK' (hK : X.K = K) : CallR X (.builtin "isinstance") (rIsi K) := hK ▸ call_isi
theorem cr_allK (hK : X.K = K) (hc : X.calm = true) : CallR X (.builtin "all") (rAll K) := hK ▸ cr_all hc
theorem cr_anyK (hK : X.K = K) (hc : X.calm = true) : CallR X (.builtin "any") (rAny K) := hK ▸ cr_any hc
theorem cr_sumK (hK : X.K = K) (hc : X.calm = true) : CallR X (.builtin "sum") (rSum K) := hK ▸ cr_sum hc
theorem cr_maxK (hK : X.K = K) (hc : X.calm = true) : CallR X (.builtin "max") (rMax K) := hK ▸ cr_max hc
def rListOf (K : PySem.W.Frag) : List V → Hp → VK → Prop := fun xs H Q => ∃ p ys, xs = [.ref p] ∧ (SqL K H p ys ∨ SqT K H p ys) ∧ ∀ l, H l = none → Q (.ref l) (upd H l (.lst ys))
def rTupOf (K : PySem.W.Frag) : List V → Hp → VK → Prop := fun xs H Q => ∃ p ys, xs = [.ref p] ∧ ((SqL K H p ys ∧ ∀ l, H l = none → Q (.ref l) (upd H l (.tup ys))) ∨ (SqT K H p ys ∧ Q (.ref p) H))
theorem call_list_ofK (hK : X.K = K) : CallR X (.type "list") (rListOf K) := by subst hK; exact call_list_of
theorem call_tuple_ofK (hK : X.K = K) : CallR X (.type "tuple") (rTupOf K) := by subst hK; exact call_tuple_of
theorem sl_tupK (hK : X.K = K) : SlR X (rSlA K) := hK ▸ sl_tupA
theorem pi_listK {tg : Expr} (hK : X.K = K) (h : PE X e te) : PI X tg e (iList K te) := hK ▸ pi_list h
theorem pi_tupK {tg : Expr} (hK : X.K = K) (h : PE X e te) : PI X tg e (iTup K te) := hK ▸ pi_tup h
theorem pe_fldK {f : Str} {pos : Pos} (hK : X.K = K) (he : PE X e te) (hb : attributeBase e f X.env (eval e X.env) = eval e X.env) : PE X (.Attribute e f pos) (tFld K te f) := hK ▸ pe_fld he hb
theorem pg_tupK {es : List Expr} {k : Nat} {t : TGs} {n : Nat} {pos : Pos} (hK : X.K = K) (hc : X.calm = true) (h : PGs X es t)
    (hn : (assignEach es X.env).length = n := by rfl) (hst : (assignEach es X.env).findIdx? (·.1) = none := by rfl) : PG X (.Tuple es k pos) (gTup K n t) := hK ▸ pg_tup hc h hn hst
end
section
variable {X : Cx}
/-! ### what is never asked -/
theorem pe_never {e : Expr} : PE X e (fun _ _ _ => False) := ⟨fun _ _ _ _ _ _ h => h.elim⟩
/-! ### either of two -/
theorem PE.or {e : Expr} {t u : TE} (a : PE X e t) (b : PE X e u) : PE X e (fun σ H Q => t σ H Q ∨ u σ H Q) := ⟨fun pins s σ H Q I h => h.elim (a.run pins s σ H Q I) (b.run pins s σ H Q I)⟩
theorem PE.cast {e : Expr} {t u : TE} (a : PE X e t) (h : t = u) : PE X e u := h ▸ a
theorem PG.cast {e : Expr} {t u : TG} (a : PG X e t) (h : t = u) : PG X e u := h ▸ a
theorem PTs.cast {e : List Expr} {t u : TT} (a : PTs X e t) (h : t = u) : PTs X e u := h ▸ a
theorem PI.or {tg e : Expr} {t u : TI} (a : PI X tg e t) (b : PI X tg e u) : PI X tg e (fun σ H R => t σ H R ∨ u σ H R) := ⟨fun pins s σ H R I h => h.elim (a.run pins s σ H R I) (b.run pins s σ H R I)⟩
theorem PG.or {tg : Expr} {t u : TG} (a : PG X tg t) (b : PG X tg u) : PG X tg (fun v σ H Q => t v σ H Q ∨ u v σ H Q) := ⟨fun pins s σ H v w Q I r h => h.elim (a.run pins s σ H v w Q I r) (b.run pins s σ H v w Q I r)⟩
end
end W5
/-! what a reading evaluates to, as data -/
namespace W5
open PySem PySem.Spec PyProof.Rows L2
open Evl (Ex)
theorem Tk.ex {H H' : Hp} (e : Ex H H') : Tk H H' := Tk.of fun a o h => e a o h
section
variable {K : PySem.W.Frag} {σ : L2.St} {H H' : Hp}
theorem Im.ex {v : V} {d : PyData} (e : Ex H H') (h : Im K H v d) : Im K H' v d := h.mono (Tk.ex e)
theorem ImAll.ex {v : List V} {d : List PyData} (e : Ex H H') (h : ImAll K H v d) : ImAll K H' v d := h.mono (Tk.ex e)
mutual
theorem Im.plain {K : PySem.W.Frag} {H : Hp} : ∀ {v : V} {d : PyData}, Im K H v d → d.plain = true
  | _, _, .non => rfl
  | _, _, .bl b => rfl
  | _, _, .int i => rfl
  | _, _, .str x => rfl
  | _, _, .tup h hs => ImAll.plain hs
theorem ImAll.plain {K : PySem.W.Frag} {H : Hp} : ∀ {vs : List V} {ds : List PyData}, ImAll K H vs ds → PyData.plainAll ds = true
  | _, _, .nil => rfl
  | _, _, .cons h hs => by
    show (_ && _) = true
    rw [Im.plain h, ImAll.plain hs]
    rfl
end
def isNoneD : PyData → Bool
  | .none => true
  | _ => false
/-- te gives the datum d, whatever more stands in the heap -/
def Ed (K : PySem.W.Frag) (te : TE) (σ : L2.St) (H : Hp) (d : PyData) : Prop := ∀ H1, Ex H H1 → ∀ Q : VK, (∀ v H2, Ex H1 H2 → Im K H2 v d → Q v H2) → te σ H1 Q
def Eb (tt : TT) (σ : L2.St) (H : Hp) (b : Bool) : Prop := ∀ H1, Ex H H1 → ∀ Q : Bool → Hp → Prop, (∀ H2, Ex H1 H2 → Q b H2) → tt σ H1 Q
def Ea (K : PySem.W.Frag) (ta : TA) (σ : L2.St) (H : Hp) (ds : List PyData) : Prop := ∀ H1, Ex H H1 → ∀ Q : List V → Hp → Prop, (∀ vs H2, Ex H1 H2 → ImAll K H2 vs ds → Q vs H2) → ta σ H1 Q
/-- a new list of data -/
def El (K : PySem.W.Frag) (te : TE) (σ : L2.St) (H : Hp) (ds : List PyData) : Prop := ∀ H1, Ex H H1 → ∀ Q : VK, (∀ p vs H2, H1 p = none → Ex H1 H2 → H2 p = some (.lst vs) → ImAll K H2 vs ds → Q (.ref p) H2) → te σ H1 Q
/-- a part of a slice -/
def Eo (to : TO) (σ : L2.St) (H : Hp) (o : Option Int) : Prop := ∀ H1, Ex H H1 → ∀ Q : Option Int → Hp → Prop, (∀ H2, Ex H1 H2 → Q o H2) → to σ H1 Q
/-- a block returns d -/
def Sr (K : PySem.W.Frag) (ts : TS) (σ : L2.St) (H : Hp) (d : PyData) : Prop := ∀ H1, Ex H H1 → ∀ D : Ends, (∀ v H2, Ex H1 H2 → Im K H2 v d → D.rt v H2) → ts D σ H1
/-- data rules of operations, calls -/
def Rd2 (K : PySem.W.Frag) (r : R2) (x y z : PyData) : Prop := ∀ H v w (Q : VK), Im K H v x → Im K H w y → (∀ u H2, Ex H H2 → Im K H2 u z → Q u H2) → r v w H Q
def RdC (K : PySem.W.Frag) (r : List V → Hp → VK → Prop) (xs : List PyData) (z : PyData) : Prop := ∀ H vs (Q : VK), ImAll K H vs xs → (∀ u H2, Ex H H2 → Im K H2 u z → Q u H2) → r vs H Q

variable {te ta tb tc : TE} {t u : TT} {d x y z : PyData} {ds : List PyData} {b c : Bool}
theorem Ed.mono (e : Ex H H') (h : Ed K te σ H d) : Ed K te σ H' d := fun H1 a Q q => h H1 (e.trans a) Q q
theorem Eb.mono (e : Ex H H') (h : Eb t σ H b) : Eb t σ H' b := fun H1 a Q q => h H1 (e.trans a) Q q
theorem Ea.mono {ta : TA} (e : Ex H H') (h : Ea K ta σ H ds) : Ea K ta σ H' ds := fun H1 a Q q => h H1 (e.trans a) Q q
theorem El.mono (e : Ex H H') (h : El K te σ H ds) : El K te σ H' ds := fun H1 a Q q => h H1 (e.trans a) Q q
theorem Sr.mono {ts : TS} (e : Ex H H') (h : Sr K ts σ H d) : Sr K ts σ H' d := fun H1 a D q => h H1 (e.trans a) D q
theorem Ed.at (h : Ed K te σ H d) {Q : VK} (q : ∀ v H2, Ex H H2 → Im K H2 v d → Q v H2) : te σ H Q := h H (Ex.refl H) Q q
theorem Eb.at (h : Eb t σ H b) {Q : Bool → Hp → Prop} (q : ∀ H2, Ex H H2 → Q b H2) : t σ H Q := h H (Ex.refl H) Q q
theorem El.at (h : El K te σ H ds) {Q : VK} (q : ∀ p vs H2, H p = none → Ex H H2 → H2 p = some (.lst vs) → ImAll K H2 vs ds → Q (.ref p) H2) : te σ H Q := h H (Ex.refl H) Q q
theorem Sr.at {ts : TS} (h : Sr K ts σ H d) {D : Ends} (q : ∀ v H2, Ex H H2 → Im K H2 v d → D.rt v H2) : ts D σ H := h H (Ex.refl H) D q

theorem Ed.to {d' : PyData} (h : Ed K te σ H d') (e : d' = d) : Ed K te σ H d := e ▸ h
theorem Eb.to {b' : Bool} (h : Eb t σ H b') (e : b' = b) : Eb t σ H b := e ▸ h
theorem El.to {ds' : List PyData} (h : El K te σ H ds') (e : ds' = ds) : El K te σ H ds := e ▸ h
theorem Rd2.to {r : R2} {z' : PyData} (h : Rd2 K r x y z') (e : z' = z) : Rd2 K r x y z := e ▸ h
theorem ed_var {i : Nat} {v : V} (h : σ[i]? = some (some v)) (im : Im K H v d) : Ed K (tVar i) σ H d := fun H1 e Q q => ⟨v, h, q v H1 (Ex.refl H1) (im.ex e)⟩
theorem ed_int {i : Int} : Ed K (tC (.int i)) σ H (.int i) := fun H1 e Q q => q _ H1 (Ex.refl H1) (.int i)
theorem ed_str {i : Str} : Ed K (tC (.str i)) σ H (.str i) := fun H1 e Q q => q _ H1 (Ex.refl H1) (.str i)
theorem ed_bl {i : Bool} : Ed K (tC (.bl i)) σ H (.bool i) := fun H1 e Q q => q _ H1 (Ex.refl H1) (.bl i)
theorem ed_non : Ed K (tC .non) σ H .none := fun H1 e Q q => q _ H1 (Ex.refl H1) .non
theorem ed_ref {a : Addr} {xs : List V} (h : ∀ H, SqT K H a xs) (hs : ∀ H, ImAll K H xs ds) : Ed K (tC (.ref a)) σ H (.tuple ds) := fun H1 e Q q => q _ H1 (Ex.refl H1) (.tup (h H1) (hs H1))
theorem ed_op {r : R2} (ha : Ed K ta σ H x) (hb : Ed K tb σ H y) (hr : Rd2 K r x y z) : Ed K (tOp r ta tb) σ H z := fun H1 e Q q =>
  ha H1 e _ fun v H2 e2 i2 => hb H2 (e.trans e2) _ fun w H3 e3 i3 => hr H3 v w Q (i2.ex e3) i3 fun u H4 e4 i4 => q u H4 ((e2.trans e3).trans e4) i4
theorem ed_un {r : V → Hp → VK → Prop} (ha : Ed K ta σ H x) (hr : ∀ H v (Q : VK), Im K H v x → (∀ u H2, Ex H H2 → Im K H2 u z → Q u H2) → r v H Q) : Ed K (tUn r ta) σ H z := fun H1 e Q q =>
  ha H1 e _ fun v H2 e2 i2 => hr H2 v Q i2 fun u H4 e4 i4 => q u H4 (e2.trans e4) i4
theorem ea_nil : Ea K tNil σ H [] := fun H1 e Q q => q [] H1 (Ex.refl H1) .nil
theorem ea_cons {tr : TA} (ha : Ed K ta σ H d) (hr : Ea K tr σ H ds) : Ea K (tCons ta tr) σ H (d :: ds) := fun H1 e Q q =>
  ha H1 e _ fun v H2 e2 i2 => hr H2 (e.trans e2) _ fun vs H3 e3 i3 => q _ H3 (e2.trans e3) (.cons (i2.ex e3) i3)
theorem ed_tup {tr : TA} (hr : Ea K tr σ H ds) (hz : ds.length ≤ 100000 := by first | decide | simp) : Ed K (tTup tr) σ H (.tuple ds) := fun H1 e Q q =>
  hr H1 e _ fun vs H2 e2 i2 => ⟨by rw [i2.length]; exact Nat.le_trans hz (by decide), fun p hp => q _ _ (e2.trans (Ex.new hp)) (.tup (Evl.st_of (upd_same ..)) (i2.ex (Ex.new hp)))⟩
theorem ed_tup0 : Ed K (tTup tNil) σ H (.tuple []) := ed_tup ea_nil (Nat.zero_le _)
theorem el_lst {tr : TA} (hr : Ea K tr σ H ds) (hz : ds.length ≤ 100000 := by first | decide | simp) : El K (tLst tr) σ H ds := fun H1 e Q q =>
  hr H1 e _ fun vs H2 e2 i2 => ⟨by rw [i2.length]; exact Nat.le_trans hz (by decide), fun p hp => by
    have hp1 := Evl.fresh_back e2 hp
    exact q _ _ _ hp1 (e2.trans (Ex.new hp)) (upd_same ..) (i2.ex (Ex.new hp))⟩
theorem ed_cb {r : List V → Hp → VK → Prop} {tr : TA} (hr : Ea K tr σ H ds) (h : RdC K r ds d) : Ed K (tCB r tr) σ H d := fun H1 e Q q =>
  hr H1 e _ fun vs H2 e2 i2 => h H2 vs Q i2 fun u H3 e3 i3 => q u H3 (e2.trans e3) i3
/-! ### isinstance, len -/
theorem ed_isi {T : String} (ha : Ed K ta σ H d) (hT : T ∈ ["bool", "int", "str", "tuple"] := by decide) : Ed K (tCB (rIsi K) (tCons ta (tCons (tC (.ty T)) tNil))) σ H (.bool (isT d T)) := fun H1 e Q q =>
  ha H1 e _ fun v H2 e2 i2 => isi_im (d := d) i2 hT (q _ H2 e2 (.bl _))
theorem ed_isS (ha : Ed K ta σ H d) (e : isT d "str" = b) : Ed K (tCB (rIsi K) (tCons ta (tCons (tC (.ty "str")) tNil))) σ H (.bool b) := e ▸ ed_isi ha
theorem ed_isI (ha : Ed K ta σ H d) (e : isT d "int" = b) : Ed K (tCB (rIsi K) (tCons ta (tCons (tC (.ty "int")) tNil))) σ H (.bool b) := e ▸ ed_isi ha
theorem ed_isT (ha : Ed K ta σ H d) (e : isT d "tuple" = b) : Ed K (tCB (rIsi K) (tCons ta (tCons (tC (.ty "tuple")) tNil))) σ H (.bool b) := e ▸ ed_isi ha
theorem ed_isB (ha : Ed K ta σ H d) (e : isT d "bool" = b) : Ed K (tCB (rIsi K) (tCons ta (tCons (tC (.ty "bool")) tNil))) σ H (.bool b) := e ▸ ed_isi ha
theorem ed_len (ha : Ed K ta σ H (.tuple ds)) : Ed K (tCB (rLenA K) (tCons ta tNil)) σ H (.int ds.length) := fun H1 e Q q =>
  ha H1 e _ fun v H2 e2 i2 => by
    obtain ⟨a, vs, rfl, h, hs⟩ := i2.tup_of
    exact len_t h (q _ H2 e2 (by rw [hs.length]; exact .int _))
theorem ed_lens {s : Str} (ha : Ed K ta σ H (.str s)) (hz : s.length ≤ 100000) : Ed K (tCB (rLenA K) (tCons ta tNil)) σ H (.int s.length) := fun H1 e Q q =>
  ha H1 e _ fun v H2 e2 i2 => by
    obtain rfl := i2.str_of
    exact len_s (Evl.sz_of hz) (q _ H2 e2 (.int _))
/-! ### operations on data -/
theorem rd_int0 {g : Int → Int → Int} {i j : Int} : Rd2 K (rI0 fun i j => .int (g i j)) (.int i) (.int j) (.int (g i j)) := fun H v w Q a b q => by
  obtain rfl := a.int_of
  obtain rfl := b.int_of
  exact ⟨i, j, rfl, rfl, q _ H (Ex.refl H) (.int _)⟩
theorem rd_cmp {g : Int → Int → Bool} {i j : Int} : Rd2 K (rI0 fun i j => .bl (g i j)) (.int i) (.int j) (.bool (g i j)) := fun H v w Q a b q => by
  obtain rfl := a.int_of
  obtain rfl := b.int_of
  exact ⟨i, j, rfl, rfl, q _ H (Ex.refl H) (.bl _)⟩
theorem rd_addi {i j : Int} : Rd2 K (rAddA K) (.int i) (.int j) (.int (i + j)) := fun H v w Q a b q => by
  obtain rfl := a.int_of
  obtain rfl := b.int_of
  exact add_i (q _ H (Ex.refl H) (.int _))
theorem rd_adds {i j : Str} (hz : i.length + j.length ≤ 100000) : Rd2 K (rAddA K) (.str i) (.str j) (.str (i ++ j)) := fun H v w Q a b q => by
  obtain rfl := a.str_of
  obtain rfl := b.str_of
  exact add_s (Evl.sz_of hz) (q _ H (Ex.refl H) (.str _))
theorem rd_addt {xs ys : List PyData} (hz : xs.length + ys.length ≤ 100000) : Rd2 K (rAddA K) (.tuple xs) (.tuple ys) (.tuple (xs ++ ys)) := fun H v w Q a b q => by
  obtain ⟨a1, as, rfl, ha, ia⟩ := a.tup_of
  obtain ⟨b1, bs, rfl, hb, ib⟩ := b.tup_of
  have l1 := ia.length
  have l2 := ib.length
  refine add_t ha hb (by rw [l1, l2]; exact Evl.sz_of hz) (fun e => ?_) (fun _ e => ?_) fun _ _ p hp => ?_
  · subst e
    cases ia
    exact q _ H (Ex.refl H) (.tup hb ib)
  · subst e
    cases ib
    exact q _ H (Ex.refl H) (.tup ha (by simpa using ia))
  · exact q _ _ (Ex.new hp) (.tup (Evl.st_of (upd_same ..)) ((ia.append ib).ex (Ex.new hp)))
theorem rd_eq {B : Nat} (hd : min x.depth y.depth ≤ B) : Rd2 K (rEqP K B) x y (.bool (PyData.eqv x y)) := fun H v w Q a b q =>
  ⟨x, y, a.dp, b.dp, a.plain, b.plain, hd, q _ H (Ex.refl H) (.bl _)⟩
theorem rd_ne {B : Nat} (hd : min x.depth y.depth ≤ B) : Rd2 K (rNeP K B) x y (.bool (!PyData.eqv x y)) := fun H v w Q a b q =>
  ⟨x, y, a.dp, b.dp, a.plain, b.plain, hd, q _ H (Ex.refl H) (.bl _)⟩
theorem rd_in {B : Nat} (hd : min (PyData.depthAll ds) x.depth ≤ B) : Rd2 K (rInA K B) x (.tuple ds) (.bool (ds.any fun z => PyData.eqv z x)) := fun H v w Q a b q =>
  .inl ⟨x, ds, a.dp, .inr b.dp, a.plain, b.plain, hd, q _ H (Ex.refl H) (.bl _)⟩
theorem rd_nin {B : Nat} (hd : min (PyData.depthAll ds) x.depth ≤ B) : Rd2 K (rNiA K B) x (.tuple ds) (.bool (!ds.any fun z => PyData.eqv z x)) := fun H v w Q a b q =>
  .inl ⟨x, ds, a.dp, .inr b.dp, a.plain, b.plain, hd, q _ H (Ex.refl H) (.bl _)⟩
theorem rd_insg {B c : Nat} {s : Str} : Rd2 K (rInA K B) (.str ⟨#[c]⟩) (.str s) (.bool (decide (c ∈ s.cps.toList))) := fun H v w Q a b q => by
  obtain rfl := a.str_of
  obtain rfl := b.str_of
  exact .inr (.inr ⟨c, s, rfl, rfl, q _ H (Ex.refl H) (.bl _)⟩)
theorem rd_ninsg {B c : Nat} {s : Str} : Rd2 K (rNiA K B) (.str ⟨#[c]⟩) (.str s) (.bool (!decide (c ∈ s.cps.toList))) := fun H v w Q a b q => by
  obtain rfl := a.str_of
  obtain rfl := b.str_of
  exact .inr (.inr ⟨c, s, rfl, rfl, q _ H (Ex.refl H) (.bl _)⟩)
theorem rd_isN : Rd2 K rIsA x .none (.bool (isNoneD x)) := fun H v w Q a b q => by
  obtain rfl := b.non_of
  refine .inl ⟨rfl, ?_⟩
  have e : decide (v = V.non) = isNoneD x := by cases a <;> simp [isNoneD]
  rw [e]
  exact q _ H (Ex.refl H) (.bl _)
theorem rd_isnN : Rd2 K rIsnA x .none (.bool (!isNoneD x)) := fun H v w Q a b q => by
  obtain rfl := b.non_of
  refine .inl ⟨rfl, ?_⟩
  have e : decide (v = V.non) = isNoneD x := by cases a <;> simp [isNoneD]
  rw [e]
  exact q _ H (Ex.refl H) (.bl _)
theorem rd_isB {i j : Bool} : Rd2 K rIsA (.bool i) (.bool j) (.bool (decide (i = j))) := fun H v w Q a b q => by
  obtain rfl := a.bl_of
  obtain rfl := b.bl_of
  exact .inr ⟨i, j, rfl, rfl, q _ H (Ex.refl H) (.bl _)⟩
theorem rd_isnB {i j : Bool} : Rd2 K rIsnA (.bool i) (.bool j) (.bool (!decide (i = j))) := fun H v w Q a b q => by
  obtain rfl := a.bl_of
  obtain rfl := b.bl_of
  exact .inr ⟨i, j, rfl, rfl, q _ H (Ex.refl H) (.bl _)⟩
theorem ImAll.atI {vs : List V} {i : Int} (h : ImAll K H vs ds) (e : atI ds i = some d) : ∃ v, L2.atI vs i = some v ∧ Im K H v d := by
  unfold L2.atI at e ⊢
  rw [h.length]
  cases hk : ixN ds.length i with
  | none => rw [hk] at e; cases e
  | some j => rw [hk] at e; exact h.get e
theorem rd_ix {i : Int} (e : atI ds i = some d) : Rd2 K (rIx K) (.tuple ds) (.int i) d := fun H v w Q a b q => by
  obtain ⟨a1, as, rfl, ha, ia⟩ := a.tup_of
  obtain rfl := b.int_of
  obtain ⟨v, hv, iv⟩ := ia.atI e
  exact .inr (.inl ⟨a1, as, i, v, rfl, rfl, ha, hv, q _ H (Ex.refl H) iv⟩)
theorem rd_ixs {i : Int} {s : Str} {c : Nat} (hz : s.length ≤ 100000) (e : atI s.cps.toList i = some c) : Rd2 K (rIx K) (.str s) (.int i) (.str ⟨#[c]⟩) := fun H v w Q a b q => by
  obtain rfl := a.str_of
  obtain rfl := b.int_of
  exact .inr (.inr ⟨s, i, c, rfl, rfl, Evl.sz_of hz, e, q _ H (Ex.refl H) (.str _)⟩)
/-! ### a slice of a tuple -/
theorem eo_none : Eo tNoPart σ H none := fun H1 _ _ q => q H1 (Ex.refl H1)
theorem eo_some {i : Int} (h : Ed K te σ H (.int i)) : Eo (tPart te) σ H (some i) := fun H1 e _ q => h H1 e _ fun v H2 e2 i2 => by
  obtain rfl := i2.int_of
  exact ⟨i, rfl, q H2 e2⟩
def cutD (xs : List PyData) (lo hi : Option Int) : List PyData := (xs.drop (HT.sIx xs.length 0 lo)).take (HT.sIx xs.length xs.length hi - HT.sIx xs.length 0 lo)
theorem ImAll.cut {vs : List V} {lo hi : Option Int} (h : ImAll K H vs ds) : ImAll K H (cutV vs lo hi) (cutD ds lo hi) := by
  unfold cutV cutD
  rw [h.length]
  exact (h.drop _).take _
theorem ed_sl {tl th : TO} {lo hi : Option Int} (ha : Ed K te σ H (.tuple ds)) (hl : Eo tl σ H lo) (hh : Eo th σ H hi) : Ed K (tSl (rSlA K) te tl th) σ H (.tuple (cutD ds lo hi)) := fun H1 e Q q =>
  ha H1 e _ fun v H2 e2 i2 => hl H2 (e.trans e2) _ fun H3 e3 => hh H3 ((e.trans e2).trans e3) _ fun H4 e4 => by
    have i4 := i2.ex (e3.trans e4)
    have ee := (e2.trans e3).trans e4
    obtain ⟨a, vs, rfl, h, hs⟩ := i4.tup_of
    refine ⟨a, vs, rfl, h, fun w => ?_, fun w p hp => ?_⟩
    · have : cutD ds lo hi = ds := by
        unfold cutD
        rw [← hs.length, w.1, w.2, hs.length]
        simp
      exact q _ H4 ee (by rw [this]; exact i4)
    · exact q _ _ (ee.trans (Ex.new hp)) (.tup (Evl.st_of (upd_same ..)) (hs.cut.ex (Ex.new hp)))
/-! ### truth -/
theorem eb_b (h : Ed K te σ H (.bool b)) : Eb (tB te) σ H b := fun H1 e Q q => h H1 e _ fun v H2 e2 i2 => by
  obtain rfl := i2.bl_of
  exact ⟨b, rfl, q H2 e2⟩
theorem eb_t (h : Ed K te σ H (.bool b)) : Eb (tTest te) σ H b := fun H1 e Q q => h H1 e _ fun v H2 e2 i2 => by
  obtain rfl := i2.bl_of
  exact ⟨b, rfl, q H2 e2⟩
theorem eb_and (h : Eb t σ H b) (k : b = true → Eb u σ H c) : Eb (tAnd t u) σ H (b && c) := fun H1 e Q q => h H1 e _ fun H2 e2 => by
  cases b with
  | true => exact k rfl H2 (e.trans e2) _ fun H3 e3 => q H3 (e2.trans e3)
  | false => exact q H2 e2
theorem eb_or (h : Eb t σ H b) (k : b = false → Eb u σ H c) : Eb (tOr t u) σ H (b || c) := fun H1 e Q q => h H1 e _ fun H2 e2 => by
  cases b with
  | false => exact k rfl H2 (e.trans e2) _ fun H3 e3 => q H3 (e2.trans e3)
  | true => exact q H2 e2
theorem eb_not (h : Eb t σ H b) : Eb (tNot t) σ H (!b) := fun H1 e Q q => h H1 e _ fun H2 e2 => q H2 e2
theorem ed_and (h : Ed K ta σ H (.bool b)) (k : b = true → Ed K tb σ H (.bool c)) : Ed K (tAndV ta tb) σ H (.bool (b && c)) := fun H1 e Q q => h H1 e _ fun v H2 e2 i2 => by
  obtain rfl := i2.bl_of
  refine ⟨b, rfl, ?_⟩
  cases b with
  | true => exact k rfl H2 (e.trans e2) _ fun v H3 e3 i3 => q v H3 (e2.trans e3) i3
  | false => exact q _ H2 e2 (.bl _)
theorem ed_or (h : Ed K ta σ H (.bool b)) (k : b = false → Ed K tb σ H (.bool c)) : Ed K (tOrV ta tb) σ H (.bool (b || c)) := fun H1 e Q q => h H1 e _ fun v H2 e2 i2 => by
  obtain rfl := i2.bl_of
  refine ⟨b, rfl, ?_⟩
  cases b with
  | false => exact k rfl H2 (e.trans e2) _ fun v H3 e3 i3 => q v H3 (e2.trans e3) i3
  | true => exact q _ H2 e2 (.bl _)
theorem ed_not (h : Ed K ta σ H (.bool b)) : Ed K (tNotV ta) σ H (.bool (!b)) := fun H1 e Q q => h H1 e _ fun v H2 e2 i2 => by
  obtain rfl := i2.bl_of
  exact ⟨b, rfl, q _ H2 e2 (.bl _)⟩
theorem ed_if (h : Eb t σ H b) (k1 : b = true → Ed K ta σ H d) (k2 : b = false → Ed K tb σ H d) : Ed K (tIf t ta tb) σ H d := fun H1 e Q q => h H1 e _ fun H2 e2 => by
  cases b with
  | true => exact iteT (k1 rfl H2 (e.trans e2) _ fun v H3 e3 i3 => q v H3 (e2.trans e3) i3)
  | false => exact iteF (k2 rfl H2 (e.trans e2) _ fun v H3 e3 i3 => q v H3 (e2.trans e3) i3)
/-- a < b < c -/
theorem ed_chain {r r' : R2} (ha : Ed K ta σ H x) (hb : Ed K tb σ H y) (hr : Rd2 K r x y (.bool b)) (hc : b = true → Ed K tc σ H z) (hr' : b = true → Rd2 K r' y z (.bool c)) : Ed K (tChain r r' ta tb tc) σ H (.bool (b && c)) := fun H1 e Q q =>
  ha H1 e _ fun v H2 e2 i2 => hb H2 (e.trans e2) _ fun w H3 e3 i3 => hr H3 v w _ (i2.ex e3) i3 fun u H4 e4 i4 => by
    obtain rfl := i4.bl_of
    refine ⟨b, rfl, ?_⟩
    cases b with
    | false => exact q _ H4 ((e2.trans e3).trans e4) (.bl _)
    | true => exact hc rfl H4 (((e.trans e2).trans e3).trans e4) _ fun o H5 e5 i5 => hr' rfl H5 w o _ (i3.ex (e4.trans e5)) i5 fun u H6 e6 i6 => q _ H6 ((((e2.trans e3).trans e4).trans e5).trans e6) i6
/-! ### statements -/
theorem sr_ret (h : Ed K te σ H d) : Sr K (tRet te) σ H d := fun H1 e D q => h H1 e _ q
theorem sr_seq {ts us : TS} (h : Sr K ts σ H d) : Sr K (tSeq ts us) σ H d := fun H1 e D q => h H1 e _ q
/-- if c: (a block that returns) -/
theorem sr_if {ts us : TS} (h : Eb t σ H b) (k1 : b = true → Sr K ts σ H d) (k2 : b = false → Sr K us σ H d) : Sr K (tSeq (tIfS t ts tNext) us) σ H d := fun H1 e D q => h H1 e _ fun H2 e2 => by
  cases b with
  | true => exact iteT (k1 rfl H2 (e.trans e2) _ fun v H3 e3 i3 => q v H3 (e2.trans e3) i3)
  | false => exact iteF (k2 rfl H2 (e.trans e2) _ fun v H3 e3 i3 => q v H3 (e2.trans e3) i3)
/-- slot i = e -/
theorem sr_set {us : TS} {i : Nat} (h : Ed K te σ H x) (k : ∀ v H2, Ex H H2 → Im K H2 v x → Sr K us (σ.set i (some v)) H2 d) : Sr K (tSeq (tAsg te (gName i)) us) σ H d := fun H1 e D q => h H1 e _ fun v H2 e2 i2 =>
  k v H2 (e.trans e2) i2 H2 (Ex.refl H2) _ fun v H3 e3 i3 => q v H3 (e2.trans e3) i3
/-- anything first -/
theorem sr_of {ts : TS} (h : ∀ H1, Ex H H1 → ∀ D : Ends, (∀ v H2, Ex H1 H2 → Im K H2 v d → D.rt v H2) → ts D σ H1) : Sr K ts σ H d := h
/-! ### calls of pure defs -/
/-- a pure def: from data of one kind a datum, nothing else changed -/
def Pu (K : PySem.W.Frag) (R : List PyData → PyData → Prop) : Sp := fun vs H Q E => ∃ ds r, ImAll K H vs ds ∧ R ds r ∧ ∀ v H2, Ex H H2 → Im K H2 v r → Q v H2
theorem ed_call {R : List PyData → PyData → Prop} {E : XK} {tr : TA} (ha : Ea K tr σ H ds) (hR : R ds d) : Ed K (tCall (Pu K R) [] E tr) σ H d := fun H1 e Q q =>
  ha H1 e _ fun vs H2 e2 i2 => ⟨ds, d, by simpa using i2, hR, fun v H3 e3 i3 => q v H3 (e2.trans e3) i3⟩
/-- a new list of data in place: all, any, tuple -/
theorem ed_all {bs : List Bool} (h : El K te σ H (bs.map .bool)) : Ed K (tCB (rAll K) (tCons te tNil)) σ H (.bool (bs.all id)) := fun H1 e Q q => h H1 e _ fun p vs H2 hp e2 h2 i2 => by
  have ev : vs = bs.map V.bl := by
    clear h2 h q
    induction bs generalizing vs with
    | nil => cases i2; rfl
    | cons b bs ih =>
      obtain ⟨v, ws, rfl, h1, h3⟩ := ImAll.cons_of i2
      obtain rfl := h1.bl_of
      rw [ih ws h3]
      rfl
  subst ev
  exact ⟨p, bs, rfl, Evl.sq_of h2, q _ H2 e2 (.bl _)⟩
theorem ed_tupOf (h : El K te σ H ds) : Ed K (tCB (rTupOf K) (tCons te tNil)) σ H (.tuple ds) := fun H1 e Q q => h H1 e _ fun p vs H2 hp e2 h2 i2 =>
  ⟨p, vs, rfl, .inl ⟨Evl.sq_of h2, fun l hl => q _ _ (e2.trans (Ex.new hl)) (.tup (Evl.st_of (upd_same ..)) (i2.ex (Ex.new hl)))⟩⟩
theorem ed_eqnil {B : Nat} {n : Nat} (h : El K te σ H ds) (hb : 1 ≤ B) (hn : El K tb σ H []) : Ed K (tOp (rEqP K B) te tb) σ H (.bool ds.isEmpty) := fun H1 e Q q => h H1 e _ fun p vs H2 hp e2 h2 i2 => hn H2 (e.trans e2) _ fun p3 vs3 H3 hp3 e3 h3 i3 => by
  cases i3
  refine ⟨.list ds, .list [], .lst (Evl.sq_of (e3 _ _ h2)) (i2.ex e3).dp, .lst (Evl.sq_of h3) .nil, i2.plain, rfl, ?_, ?_⟩
  · exact Nat.le_trans (Nat.min_le_right _ _) hb
  · have : PyData.eqv (.list ds) (.list []) = ds.isEmpty := by cases ds <;> simp [PyData.eqv, PyData.eqvAll]
    rw [this]
    exact q _ H3 (e2.trans e3) (.bl _)
/-! ### comprehensions over a tuple -/
theorem wipe_set (σ : L2.St) (i : Nat) (v : V) : wipe ((wipe σ [i]).set i (some v)) [i] = wipe σ [i] := by
  simp [wipe, List.set_set]
/-- [e for x in t] -/
theorem el_lcT {i : Nat} {f : PyData → PyData} (ht : Ed K ta σ H (.tuple ds)) (hz : ds.length < 100000)
    (hb : ∀ (j : Nat) x v H1, ds[j]? = some x → Ex H H1 → Im K H1 v x → Ed K te ((wipe σ [i]).set i (some v)) H1 (f x)) : El K (tLc (iTup K ta) (gName i) tYes te [i]) σ H (ds.map f) := fun H1 e Q q => by
  refine ht H1 e _ fun v H2 e2 i2 => ?_
  obtain ⟨a, vs, rfl, h, hs⟩ := i2.tup_of
  refine ⟨a, rfl, ⟨vs, h⟩, fun D hD => ?_⟩
  have hl := hs.length
  refine lc_tup (K := K) (a := a) (xs := vs) (fun j H3 => Ex H2 H3 ∧ ∃ acc, H3 D = some (.lst acc) ∧ ImAll K H3 acc ((ds.take j).map f) ∧ j ≤ ds.length) ?_ ?_ ?_ ?_
  · exact ⟨Ex.new hD, [], upd_same .., .nil, Nat.zero_le _⟩
  · rintro j H3 _ ⟨e3, _⟩
    exact (Tk.ex e3).sq h
  · rintro j x H3 hx ⟨e3, acc, h3, i3, hj⟩
    obtain ⟨d1, hd, im⟩ := hs.getV hx
    refine ⟨wipe_set _ _ _, ?_⟩
    show te _ _ _
    refine hb j d1 x H3 hd ((e.trans e2).trans e3) (im.ex e3) H3 (Ex.refl H3) _ fun y H4 e4 i4 => ?_
    have hjl : j < ds.length := (List.getElem?_eq_some_iff.mp hd).1
    refine ⟨acc, e4 _ _ h3, ?_, ?_, ?_⟩
    · have := i3.length
      rw [this, List.length_map, List.length_take]
      exact Evl.sz_lt (by omega)
    · have := Ex.mut (e3.trans e4) hD (o := .lst (acc ++ [y]))
      exact this
    · refine ⟨_, upd_same .., ?_, hjl⟩
      have t : Tk H4 (upd H4 D (.lst (acc ++ [y]))) := Tk.upd (no_lst (e4 _ _ h3))
      rw [List.take_succ, hd, List.map_append]
      exact ((i3.ex e4).append (.cons i4 .nil)).mono t
  · rintro H3 ⟨e3, acc, h3, i3, _⟩
    rw [hl, List.take_length] at i3
    exact q D acc H3 (Evl.fresh_back e2 hD) (e2.trans e3) h3 i3
end
end W5
namespace K55
open PySem PySem.Spec PyProof.Rows L2 W5
open Evl (Ex)
section
variable {P : Program} {w : World} {K : PySem.W.Frag} {mg : Str → Option Value} {base : Heap}
theorem pu_len {R : List PyData → PyData → Prop} {n : Nat} (h : ∀ ds r, R ds r → ds.length = n) : ∀ vs H Q E, Pu K R vs H Q E → vs.length = n := fun vs H Q E ⟨ds, r, i, hr, _⟩ => by rw [i.length]; exact h _ _ hr
def isIntD (x : PyData) : Bool := isT x "int" && !isT x "bool"
def RisInt : List PyData → PyData → Prop := fun ds r => ∃ x, ds = [x] ∧ r = .bool (isIntD x)
theorem ok_is_int (T : Tx K mg) : Ok P w K mg base 1 d_is_int ["x"] (Pu K RisInt) := by
  refine (T.F_is_int).ok sc_is_int (pu_len (by rintro _ _ ⟨x, rfl, _⟩; rfl)) (fun cdv A outer s H vs Q E hr h => ?_)
  obtain ⟨ds, r, im, ⟨x, rfl, rfl⟩, q⟩ := h
  obtain ⟨v0, _, rfl, i0, im⟩ := im.cons_of
  obtain rfl := im.nil_of
  refine ⟨_, PSs.nox ((pss_one (ps_ret (pe_and (pe_callB (call_isiK' (K := K) rfl) rfl T.b_isinstance bb_isinstance (pa_cons (pv 0) (pa_cons (pe_bltn (v := .ty "int") (by rfl) T.b_int bb_int rfl) pa_nil))) (pe_one (pe_not (pe_callB (call_isiK' (K := K) rfl) rfl T.b_isinstance bb_isinstance (pa_cons (pv 0) (pa_cons (pe_bltn (v := .ty "bool") (by rfl) T.b_bool bb_bool rfl) pa_nil))))))))), ?_⟩
  refine Sr.at (d := .bool (isIntD x)) ?_ q
  exact sr_ret (ed_and (ed_isi (ed_var rfl i0)) fun _ => ed_not (ed_isi (ed_var rfl i0)))
end
end K55
/-! the plain side: types, programs, as data -/
namespace M5
open PySem W5
inductive Ty where
  | whole
  | var (i : Nat)
  | to (a b : Ty)
  | of (k : Str) (ts : List Ty)
  deriving Inhabited
namespace Ty
mutual
def d : Ty → PyData
  | whole => .str "whole"
  | var i => .tuple [.str "var", .int (i : Nat)]
  | to a b => .tuple [.str "to", a.d, b.d]
  | of k ts => .tuple [.str "of", .str k, .tuple (dAll ts)]
def dAll : List Ty → List PyData
  | [] => []
  | t :: ts => t.d :: dAll ts
end
theorem dAll_map : ∀ ts : List Ty, dAll ts = ts.map d
  | [] => rfl
  | t :: ts => by simp only [dAll, dAll_map ts, List.map_cons]
mutual
def size : Ty → Nat
  | whole => 1
  | var _ => 1
  | to a b => 1 + (a.size + b.size)
  | of _ ts => 1 + sizeAll ts
def sizeAll : List Ty → Nat
  | [] => 0
  | t :: ts => t.size + sizeAll ts
end
mutual
def depth : Ty → Nat
  | whole => 1
  | var _ => 1
  | to a b => 1 + max a.depth b.depth
  | of _ ts => 1 + depthAll ts
def depthAll : List Ty → Nat
  | [] => 0
  | t :: ts => max t.depth (depthAll ts)
end
mutual
/-- well formed over kinds with their arities, fewer than n variables -/
def Wf (KS : List (Str × Nat)) (n : Nat) : Ty → Prop
  | whole => True
  | var i => i < n
  | to a b => Wf KS n a ∧ Wf KS n b
  | of k ts => (k, ts.length) ∈ KS ∧ WfAll KS n ts
def WfAll (KS : List (Str × Nat)) (n : Nat) : List Ty → Prop
  | [] => True
  | t :: ts => Wf KS n t ∧ WfAll KS n ts
end
def parts : Ty → List Ty
  | whole => []
  | var _ => []
  | to a b => [a, b]
  | of _ ts => ts
/-- the parts that the check of shapes looks at -/
def head : Ty → List (Str × Nat)
  | of k ts => [(k, ts.length)]
  | _ => []
mutual
def kinds : Ty → List (Str × Nat)
  | whole => []
  | var _ => []
  | to a b => kinds a ++ kinds b
  | of k ts => (k, ts.length) :: kindsAll ts
def kindsAll : List Ty → List (Str × Nat)
  | [] => []
  | t :: ts => kinds t ++ kindsAll ts
end
theorem WfAll_mem {KS : List (Str × Nat)} {n : Nat} : ∀ {ts : List Ty}, WfAll KS n ts → ∀ t ∈ ts, Wf KS n t
  | [], _, t, h => nomatch h
  | t :: ts, h, u, hu => by
    rcases List.mem_cons.mp hu with rfl | hu
    · exact h.1
    · exact WfAll_mem h.2 u hu
theorem WfAll_of {KS : List (Str × Nat)} {n : Nat} : ∀ {ts : List Ty}, (∀ t ∈ ts, Wf KS n t) → WfAll KS n ts
  | [], _ => trivial
  | t :: ts, h => ⟨h t (List.mem_cons_self ..), WfAll_of fun u hu => h u (List.mem_cons_of_mem _ hu)⟩
theorem Wf.parts {KS : List (Str × Nat)} {n : Nat} : ∀ {t : Ty}, Wf KS n t → ∀ u ∈ t.parts, Wf KS n u
  | whole, _, u, h => nomatch h
  | var _, _, u, h => nomatch h
  | to a b, w, u, h => by
    simp only [Ty.parts, List.mem_cons, List.not_mem_nil, or_false] at h
    rcases h with rfl | rfl
    · exact w.1
    · exact w.2
  | of k ts, w, u, h => WfAll_mem w.2 u h
theorem size_parts : ∀ t : Ty, t.size = 1 + sizeAll t.parts
  | whole => rfl
  | var _ => rfl
  | to a b => by simp [size, Ty.parts, sizeAll]
  | of k ts => rfl
theorem depth_parts : ∀ t : Ty, t.depth = 1 + depthAll t.parts
  | whole => rfl
  | var _ => rfl
  | to a b => by simp [depth, Ty.parts, depthAll]
  | of k ts => rfl
theorem depthAll_mem : ∀ {ts : List Ty} {t : Ty}, t ∈ ts → t.depth ≤ depthAll ts
  | [], _, h => nomatch h
  | t :: ts, u, h => by
    rcases List.mem_cons.mp h with rfl | h
    · exact Nat.le_max_left _ _
    · exact Nat.le_trans (depthAll_mem h) (Nat.le_max_right _ _)
theorem size_pos : ∀ t : Ty, 0 < t.size := fun t => by rw [size_parts]; omega
theorem len_sizeAll : ∀ ts : List Ty, ts.length ≤ sizeAll ts
  | [] => Nat.le_refl _
  | t :: ts => by
    have := size_pos t
    have := len_sizeAll ts
    simp only [List.length_cons, sizeAll]
    omega
theorem sizeAll_append : ∀ ts us : List Ty, sizeAll (ts ++ us) = sizeAll ts + sizeAll us
  | [], us => by simp [sizeAll]
  | t :: ts, us => by simp only [List.cons_append, sizeAll, sizeAll_append ts us]; omega
mutual
theorem kinds_len : ∀ t : Ty, t.kinds.length ≤ t.size
  | whole => Nat.zero_le _
  | var _ => Nat.zero_le _
  | to a b => by
    have := kinds_len a
    have := kinds_len b
    simp only [kinds, size, List.length_append]
    omega
  | of k ts => by
    have := kindsAll_len ts
    simp only [kinds, size, List.length_cons]
    omega
theorem kindsAll_len : ∀ ts : List Ty, (kindsAll ts).length ≤ sizeAll ts
  | [] => Nat.le_refl _
  | t :: ts => by
    have := kinds_len t
    have := kindsAll_len ts
    simp only [kindsAll, sizeAll, List.length_append]
    omega
end
mutual
theorem kinds_wf {KS : List (Str × Nat)} {n : Nat} : ∀ {t : Ty}, Wf KS n t → ∀ x ∈ t.kinds, x ∈ KS
  | whole, _, x, h => nomatch h
  | var _, _, x, h => nomatch h
  | to a b, w, x, h => by
    rcases List.mem_append.mp h with h | h
    · exact kinds_wf w.1 x h
    · exact kinds_wf w.2 x h
  | of k ts, w, x, h => by
    rcases List.mem_cons.mp h with rfl | h
    · exact w.1
    · exact kindsAll_wf w.2 x h
theorem kindsAll_wf {KS : List (Str × Nat)} {n : Nat} : ∀ {ts : List Ty}, WfAll KS n ts → ∀ x ∈ kindsAll ts, x ∈ KS
  | [], _, x, h => nomatch h
  | t :: ts, w, x, h => by
    rcases List.mem_append.mp h with h | h
    · exact kinds_wf w.1 x h
    · exact kindsAll_wf w.2 x h
end
end Ty
/-- the kinds of the law -/
abbrev LOTS : List (Str × Nat) := [("Aa", 0), ("Bb", 1), ("Cc", 2), ("Dd", 1), ("Ee", 0)]
abbrev NAMES : List Str := ["Aa", "Bb", "Cc", "Dd", "Ee", "NAa", "MAa0", "MAa1", "NBb", "MBb0", "MBb1", "NCc", "MCc0", "MCc1", "NDd", "MDd0", "MDd1", "NEe", "MEe0", "MEe1"]
end M5
/-! loops, as data -/
namespace W5
open PySem PySem.Spec PyProof.Rows L2
open Evl (Ex)
section
variable {K : PySem.W.Frag} {σ : L2.St} {H H' : Hp} {te ta tb tc : TE} {t u : TT} {d x y z : PyData} {ds : List PyData} {b c : Bool}
theorem lc_str {s : Str} {g : TG} {tt : TT} {te : TE} {vs : List Nat} {σ : L2.St} {H1 : Hp} {D : Addr} {Qd : Hp → Prop} (Pv : Nat → Hp → Prop) (h0 : Pv 0 (upd H1 D (.lst [])))
    (hs : ∀ i c H, s.cps.toList[i]? = some c → Pv i H → g (.str ⟨#[c]⟩) (wipe σ vs) H fun σ2 H2 => wipe σ2 vs = wipe σ vs ∧ tt σ2 H2 fun b H3 =>
      if b = true then te σ2 H3 fun y H4 => ∃ acc, H4 D = some (.lst acc) ∧ acc.length < sizeLine ∧ Pv (i + 1) (upd H4 D (.lst (acc ++ [y]))) else Pv (i + 1) H3) (hd : ∀ H, Pv s.cps.toList.length H → Qd H) :
    ∃ W : Nat → Nat → Hp → Prop, (∃ m, W 0 m (upd H1 D (.lst []))) ∧ ∀ i m H, W i m H →
      ((Its s).stop i H ∧ Qd H) ∨ ((Its s).go i H ∧ ∃ Nx : Hp → Prop, (∀ H', Nx H' → ∃ m', m' < m ∧ W (i + 1) m' H') ∧ ∀ x H', (Its s).yld i H x H' → g x (wipe σ vs) H' fun σ2 H2 => wipe σ2 vs = wipe σ vs ∧ tt σ2 H2 fun b H3 =>
        if b = true then te σ2 H3 fun y H4 => ∃ acc, H4 D = some (.lst acc) ∧ acc.length < sizeLine ∧ Nx (upd H4 D (.lst (acc ++ [y]))) else Nx H3) := by
  refine ⟨fun i m H => m = s.cps.toList.length - i ∧ i ≤ s.cps.toList.length ∧ Pv i H, ⟨s.cps.toList.length, by simp, Nat.zero_le _, h0⟩, ?_⟩
  rintro i m H ⟨rfl, hi, p⟩
  have hl : s.cps.toList.length = s.cps.size := by simp
  by_cases hlt : i < s.cps.toList.length
  · refine .inr ⟨(by show i < s.cps.size; omega), Pv (i + 1), fun H' p' => ⟨s.cps.toList.length - (i + 1), by omega, rfl, hlt, p'⟩, fun x H' y => ?_⟩
    obtain ⟨rfl, c, hc, rfl⟩ := y
    exact hs i c _ (by simpa using hc) p
  · have e : i = s.cps.toList.length := by omega
    subst e
    exact .inl ⟨Nat.le_of_eq hl.symm, hd H p⟩
/-- [e for c in s] -/
theorem el_lcS {i : Nat} {s : Str} {f : Nat → PyData} (ht : Ed K ta σ H (.str s)) (hz : s.cps.toList.length < 100000)
    (hb : ∀ (j c : Nat) H1, s.cps.toList[j]? = some c → Ex H H1 → Ed K te ((wipe σ [i]).set i (some (.str ⟨#[c]⟩))) H1 (f c)) : El K (tLc (iStr ta) (gName i) tYes te [i]) σ H (s.cps.toList.map f) := fun H1 e Q q => by
  refine ht H1 e _ fun v H2 e2 i2 => ?_
  obtain rfl := i2.str_of
  refine ⟨s, rfl, fun D hD => ?_⟩
  refine lc_str (s := s) (fun j H3 => Ex H2 H3 ∧ ∃ acc, H3 D = some (.lst acc) ∧ ImAll K H3 acc ((s.cps.toList.take j).map f) ∧ j ≤ s.cps.toList.length) ?_ ?_ ?_
  · exact ⟨Ex.new hD, [], upd_same .., .nil, Nat.zero_le _⟩
  · rintro j x H3 hx ⟨e3, acc, h3, i3, hj⟩
    refine ⟨wipe_set _ _ _, ?_⟩
    show te _ _ _
    refine hb j x H3 hx ((e.trans e2).trans e3) H3 (Ex.refl H3) _ fun y H4 e4 i4 => ?_
    have hjl : j < s.cps.toList.length := (List.getElem?_eq_some_iff.mp hx).1
    refine ⟨acc, e4 _ _ h3, ?_, ?_, ?_⟩
    · have := i3.length
      rw [this, List.length_map, List.length_take]
      exact Evl.sz_lt (by omega)
    · exact Ex.mut (e3.trans e4) hD (o := .lst (acc ++ [y]))
    · refine ⟨_, upd_same .., ?_, hjl⟩
      have t : Tk H4 (upd H4 D (.lst (acc ++ [y]))) := Tk.upd (no_lst (e4 _ _ h3))
      rw [List.take_succ, hx, List.map_append]
      exact ((i3.ex e4).append (.cons i4 .nil)).mono t
  · rintro H3 ⟨e3, acc, h3, i3, _⟩
    rw [List.take_length] at i3
    exact q D acc H3 (Evl.fresh_back e2 hD) (e2.trans e3) h3 i3
/-- [e for x in t if c] over a tuple, a test -/
theorem el_lcTi {i : Nat} {p : PyData → Bool} {f : PyData → PyData} (ht : Ed K ta σ H (.tuple ds)) (hz : ds.length < 100000)
    (hc : ∀ (j : Nat) x v H1, ds[j]? = some x → Ex H H1 → Im K H1 v x → Eb t ((wipe σ [i]).set i (some v)) H1 (p x))
    (hb : ∀ (j : Nat) x v H1, ds[j]? = some x → p x = true → Ex H H1 → Im K H1 v x → Ed K te ((wipe σ [i]).set i (some v)) H1 (f x)) : El K (tLc (iTup K ta) (gName i) t te [i]) σ H ((ds.filter p).map f) := fun H1 e Q q => by
  refine ht H1 e _ fun v H2 e2 i2 => ?_
  obtain ⟨a, vs, rfl, h, hs⟩ := i2.tup_of
  refine ⟨a, rfl, ⟨vs, h⟩, fun D hD => ?_⟩
  have hl := hs.length
  refine lc_tup (K := K) (a := a) (xs := vs) (fun j H3 => Ex H2 H3 ∧ ∃ acc, H3 D = some (.lst acc) ∧ ImAll K H3 acc (((ds.take j).filter p).map f) ∧ j ≤ ds.length) ?_ ?_ ?_ ?_
  · exact ⟨Ex.new hD, [], upd_same .., .nil, Nat.zero_le _⟩
  · rintro j H3 _ ⟨e3, _⟩
    exact (Tk.ex e3).sq h
  · rintro j x H3 hx ⟨e3, acc, h3, i3, hj⟩
    obtain ⟨d1, hd, im⟩ := hs.getV hx
    have hjl : j < ds.length := (List.getElem?_eq_some_iff.mp hd).1
    refine ⟨wipe_set _ _ _, ?_⟩
    refine hc j d1 x H3 hd ((e.trans e2).trans e3) (im.ex e3) H3 (Ex.refl H3) _ fun H3' e3' => ?_
    have ht : ds.take (j + 1) = ds.take j ++ [d1] := by rw [List.take_succ, hd]; rfl
    cases hp : p d1 with
    | false =>
      refine iteF ⟨e3.trans e3', acc, e3' _ _ h3, ?_, hjl⟩
      rw [ht, List.filter_append]
      simpa [hp] using i3.ex e3'
    | true =>
      refine iteT ?_
      refine hb j d1 x H3' hd hp ((e.trans e2).trans (e3.trans e3')) (im.ex (e3.trans e3')) H3' (Ex.refl H3') _ fun y H4 e4 i4 => ?_
      refine ⟨acc, e4 _ _ (e3' _ _ h3), ?_, ?_, ?_⟩
      · have := i3.length
        rw [this, List.length_map]
        refine Evl.sz_lt (Nat.lt_of_le_of_lt (Nat.le_trans (List.length_filter_le ..) ?_) hz)
        rw [List.length_take]
        omega
      · exact Ex.mut ((e3.trans e3').trans e4) hD (o := .lst (acc ++ [y]))
      · refine ⟨_, upd_same .., ?_, hjl⟩
        have t : Tk H4 (upd H4 D (.lst (acc ++ [y]))) := Tk.upd (no_lst (e4 _ _ (e3' _ _ h3)))
        rw [ht, List.filter_append]
        have := ((i3.ex (e3'.trans e4)).append (.cons i4 .nil)).mono t
        simpa [hp] using this
  · rintro H3 ⟨e3, acc, h3, i3, _⟩
    rw [hl, List.take_length] at i3
    exact q D acc H3 (Evl.fresh_back e2 hD) (e2.trans e3) h3 i3
/-! ### equality with a text, with None and the like -/
theorem eqv_str (a b : Str) : PyData.eqv (.str a) (.str b) = (a == b) := by simp [PyData.eqv]
theorem rd_eqs {k : Nat} {s : Str} (e : PyData.eqv x (.str s) = b) : Rd2 K (rEqP K (lineOf k)) x (.str s) (.bool b) := e ▸ rd_eq (Nat.le_trans (Nat.min_le_right _ _) (by simp only [PyData.depth, lineOf]; omega))
theorem rd_nes {k : Nat} {s : Str} (e : PyData.eqv x (.str s) = !b) : Rd2 K (rNeP K (lineOf k)) x (.str s) (.bool b) := by
  have h : b = !PyData.eqv x (.str s) := by rw [e]; simp
  rw [h]
  exact rd_ne (Nat.le_trans (Nat.min_le_right _ _) (by simp only [PyData.depth, lineOf]; omega))
theorem rd_eqi {k : Nat} {i j : Int} : Rd2 K (rEqP K (lineOf k)) (.int i) (.int j) (.bool (decide (i = j))) := (rd_eq (Nat.le_trans (Nat.min_le_right _ _) (by simp only [PyData.depth, lineOf]; omega))).to (by simp only [PyData.eqv]; rfl)
theorem rd_nei {k : Nat} {i j : Int} : Rd2 K (rNeP K (lineOf k)) (.int i) (.int j) (.bool (!decide (i = j))) := (rd_ne (Nat.le_trans (Nat.min_le_right _ _) (by simp only [PyData.depth, lineOf]; omega))).to (by simp only [PyData.eqv]; rfl)
/-! ### steps of a reading -/
theorem Ed.cn {tr : TA} {Q : List V → Hp → Prop} (h : Ed K ta σ H d) (q : ∀ v H2, Ex H H2 → Im K H2 v d → tr σ H2 fun xs H3 => Q (v :: xs) H3) : tCons ta tr σ H Q := h H (Ex.refl H) _ q
theorem El.cn {tr : TA} {Q : List V → Hp → Prop} (h : El K ta σ H ds) (q : ∀ p vs H2, H p = none → Ex H H2 → H2 p = some (.lst vs) → ImAll K H2 vs ds → tr σ H2 fun xs H3 => Q (.ref p :: xs) H3) : tCons ta tr σ H Q := h H (Ex.refl H) _ q
theorem st_seq {ts us : TS} {D : Ends} (h : ts { D with nx := us D } σ H) : tSeq ts us D σ H := h
theorem st_par {i j : Nat} {tr : TA} {D : Ends} (h : tr σ H fun vs H1 => ∃ v w, vs = [v, w] ∧ D.nx ((σ.set i (some v)).set j (some w)) H1) : tPar i j tr D σ H := h
theorem st_asg {g : TG} {D : Ends} (h : te σ H fun x H1 => g x σ H1 D.nx) : tAsg te g D σ H := h
theorem st_drop {D : Ends} (h : te σ H fun _ H1 => D.nx σ H1) : tDrop te D σ H := h
theorem st_ret {D : Ends} (h : te σ H D.rt) : tRet te D σ H := h
theorem st_if {ts us : TS} {D : Ends} (h : Eb t σ H b) (k : ∀ H2, Ex H H2 → if b = true then ts D σ H2 else us D σ H2) : tIfS t ts us D σ H := h H (Ex.refl H) _ k
theorem sq_par {us : TS} {i j : Nat} {tr : TA} {D : Ends} (h : tr σ H fun vs H1 => ∃ v w, vs = [v, w] ∧ us D ((σ.set i (some v)).set j (some w)) H1) : tSeq (tPar i j tr) us D σ H := h
theorem sq_asg {us : TS} {g : TG} {D : Ends} (h : te σ H fun x H1 => g x σ H1 (us D)) : tSeq (tAsg te g) us D σ H := h
theorem sq_set {us : TS} {i : Nat} {D : Ends} (h : te σ H fun x H1 => us D (σ.set i (some x)) H1) : tSeq (tAsg te (gName i)) us D σ H := h
theorem sq_drop {us : TS} {D : Ends} (h : te σ H fun _ H1 => us D σ H1) : tSeq (tDrop te) us D σ H := h
theorem sq_if {ts us : TS} {D : Ends} (h : Eb t σ H b) (k1 : b = true → ∀ H2, Ex H H2 → ts { D with nx := us D } σ H2) (k2 : b = false → ∀ H2, Ex H H2 → us D σ H2) : tSeq (tIfS t ts tNext) us D σ H := h H (Ex.refl H) _ fun H2 e2 => by
  cases b with
  | true => exact iteT (k1 rfl H2 e2)
  | false => exact iteF (k2 rfl H2 e2)
/-- a local list's last item taken off -/
theorem te_pop {i : Nat} {p : Addr} {vs : List V} {v : V} {Q : VK} (hv : σ[i]? = some (some (.ref p))) (h : H p = some (.lst vs)) (e : vs[vs.length - 1]? = some v) (q : Q v (upd H p (.lst vs.dropLast))) : tBM0 K "list" rPop (tVar i) σ H Q :=
  ⟨_, hv, .inl ⟨rfl, vs, Evl.sq_of h⟩, p, vs, v, rfl, rfl, h, e, q⟩
/-- xs.append(e), xs.extend([..]) on a local list -/
theorem te_append {i : Nat} {p : Addr} {vs : List V} {Q : VK} (hv : σ[i]? = some (some (.ref p))) (h : H p = some (.lst vs)) (he : Ed K te σ H d) (hz : vs.length < 100000) (q : ∀ v H2, Ex H H2 → Im K H2 v d → Q .non (upd H2 p (.lst (vs ++ [v])))) : tBM K "list" rAppend (tVar i) (tCons te tNil) σ H Q :=
  ⟨_, hv, .inl ⟨rfl, vs, Evl.sq_of h⟩, he.cn fun v H2 e2 i2 => ⟨p, vs, v, rfl, rfl, e2 _ _ h, Evl.sz_lt hz, q v H2 e2 i2⟩⟩
theorem te_extend {i : Nat} {p : Addr} {vs : List V} {Q : VK} (hv : σ[i]? = some (some (.ref p))) (h : H p = some (.lst vs)) (he : El K te σ H ds) (hz : vs.length + ds.length ≤ 100000) (q : ∀ ws H2, Ex H H2 → ImAll K H2 ws ds → Q .non (upd H2 p (.lst (vs ++ ws)))) : tBM K "list" rExtend (tVar i) (tCons te tNil) σ H Q :=
  ⟨_, hv, .inl ⟨rfl, vs, Evl.sq_of h⟩, he.cn fun a ws H2 ha e2 h2 i2 => ⟨p, a, vs, ws, rfl, rfl, e2 _ _ h, h2, by rw [i2.length]; exact Evl.sz_of hz, q ws H2 e2 i2⟩⟩
theorem nil_or_concat {α : Type} : ∀ xs : List α, xs = [] ∨ ∃ ys y, xs = ys ++ [y]
  | [] => .inl rfl
  | x :: xs => .inr ⟨(x :: xs).dropLast, (x :: xs).getLast (by simp), (List.dropLast_concat_getLast _).symm⟩
theorem ImAll.concat_of {d : PyData} : ∀ {ds : List PyData} {vs : List V}, ImAll K H vs (ds ++ [d]) → ∃ ws v, vs = ws ++ [v] ∧ ImAll K H ws ds ∧ Im K H v d
  | [], vs, h => by
    obtain ⟨v, ws, rfl, h1, h2⟩ := ImAll.cons_of h
    obtain rfl := h2.nil_of
    exact ⟨[], v, rfl, .nil, h1⟩
  | e :: ds, vs, h => by
    obtain ⟨v, ws, rfl, h1, h2⟩ := ImAll.cons_of h
    obtain ⟨us, u, rfl, h3, h4⟩ := ImAll.concat_of h2
    exact ⟨v :: us, u, rfl, .cons h1 h3, h4⟩
/-- l != [] for a local list of data -/
theorem eb_nenil {k i : Nat} {p : Addr} {ws : List V} (hv : σ[i]? = some (some (.ref p))) (h : H p = some (.lst ws)) (im : ImAll K H ws ds) : Eb (tTest (tOp (rNeP K (lineOf k)) (tVar i) (tLst tNil))) σ H (!ds.isEmpty) := fun H1 e Q q => by
  refine ⟨_, hv, ⟨Nat.zero_le _, fun p2 hp2 => ?_⟩⟩
  have ne : p2 ≠ p := fun z => by
    have := e _ _ h
    rw [← z, hp2] at this
    cases this
  have e2 : Ex H1 (upd H1 p2 (.lst [])) := Ex.new hp2
  refine ⟨.list ds, .list [], .lst (Evl.sq_of (e2 _ _ (e _ _ h))) (im.ex (e.trans e2)).dp, .lst (Evl.sq_of (upd_same ..)) .nil, im.plain, rfl, ?_, ?_⟩
  · exact Nat.le_trans (Nat.min_le_right _ _) (by simp [PyData.depth, PyData.depthAll, lineOf])
  · have : PyData.eqv (.list ds) (.list []) = ds.isEmpty := by cases ds <;> simp [PyData.eqv, PyData.eqvAll]
    rw [this]
    exact ⟨_, rfl, q _ e2⟩
/-- while, by an invariant with a measure -/
theorem while_m {c : TT} {tb : TS} {D : Ends} (Pv : Nat → L2.St → Hp → Prop) (h0 : ∃ m, Pv m σ H)
    (hs : ∀ m σ H, Pv m σ H → ∃ b, Eb c σ H b ∧ ∀ H1, Ex H H1 → if b = true then tb { D with nx := fun σ' H' => ∃ m', m' < m ∧ Pv m' σ' H', ct := fun σ' H' => ∃ m', m' < m ∧ Pv m' σ' H', bk := D.nx } σ H1 else D.nx σ H1) : tWhile c tb D σ H := by
  refine ⟨Pv, h0, fun m σ H p => ?_⟩
  obtain ⟨b, hb, hk⟩ := hs m σ H p
  refine hb H (Ex.refl H) _ fun H1 e1 => ?_
  have hk := hk H1 e1
  cases b with
  | true => exact iteT ⟨_, fun σ' H' p => p, (by simpa using hk)⟩
  | false => exact iteF (by simpa using hk)
theorem sq_while {c : TT} {tb us : TS} {D : Ends} (Pv : Nat → L2.St → Hp → Prop) (h0 : ∃ m, Pv m σ H)
    (hs : ∀ m σ H, Pv m σ H → ∃ b, Eb c σ H b ∧ ∀ H1, Ex H H1 → if b = true then tb { D with nx := fun σ' H' => ∃ m', m' < m ∧ Pv m' σ' H', ct := fun σ' H' => ∃ m', m' < m ∧ Pv m' σ' H', bk := us D } σ H1 else us D σ H1) : tSeq (tWhile c tb) us D σ H := while_m (D := { D with nx := us D }) Pv h0 hs
/-- while, the test by Eb -/
theorem while_d {c : TT} {tb : TS} {D : Ends} (Pv : L2.St → Hp → Prop) (μ : L2.St → Hp → Nat → Prop) (h0 : Pv σ H) (hμ : ∀ σ H, Pv σ H → ∃ n, μ σ H n)
    (hs : ∀ σ H n, Pv σ H → μ σ H n → ∃ b, Eb c σ H b ∧ ∀ H1, Ex H H1 → if b = true then tb { D with nx := fun σ' H' => Pv σ' H' ∧ ∃ m, m < n ∧ μ σ' H' m, ct := fun σ' H' => Pv σ' H' ∧ ∃ m, m < n ∧ μ σ' H' m, bk := D.nx } σ H1 else D.nx σ H1) : tWhile c tb D σ H := by
  refine ⟨fun m σ H => μ σ H m ∧ Pv σ H, (by obtain ⟨n, hn⟩ := hμ σ H h0; exact ⟨n, hn, h0⟩), ?_⟩
  rintro m σ H ⟨hm, p⟩
  obtain ⟨b, hb, hk⟩ := hs σ H m p hm
  refine hb H (Ex.refl H) _ fun H1 e1 => ?_
  have hk := hk H1 e1
  cases b with
  | true => exact iteT (Exists.intro (fun σ' H' => Pv σ' H' ∧ ∃ m', m' < m ∧ μ σ' H' m') ⟨fun σ' H' p => ⟨p.2.choose, p.2.choose_spec.1, p.2.choose_spec.2, p.1⟩, (by simpa using hk)⟩)
  | false => exact iteF (by simpa using hk)
end
end W5
namespace K55
open PySem PySem.Spec PyProof.Rows L2 W5 M5
open Evl (Ex)
section
variable {P : Program} {w : World} {K : PySem.W.Frag} {mg : Str → Option Value} {base : Heap}
def withinD (x : PyData) (lo hi : Int) : Bool := match x with | .int i => decide (lo ≤ i) && decide (i ≤ hi) | _ => false
def Rwithin : List PyData → PyData → Prop := fun ds r => ∃ x lo hi, ds = [x, .int lo, .int hi] ∧ r = .bool (withinD x lo hi)
theorem ok_within (T : Tx K mg) : Ok P w K mg base 2 d_within ["x", "low", "high"] (Pu K Rwithin) := by
  have G_is_int := ok_is_int (P := P) (w := w) (base := base) T
  refine (T.F_within).ok sc_within (pu_len (by rintro _ _ ⟨x, lo, hi, rfl, _⟩; rfl)) (fun cdv A outer s H vs Q E hr h => ?_)
  obtain ⟨ds, r, im, ⟨x, lo, hi, rfl, rfl⟩, q⟩ := h
  obtain ⟨v0, _, rfl, i0, im⟩ := im.cons_of
  obtain ⟨v1, _, rfl, i1, im⟩ := im.cons_of
  obtain ⟨v2, _, rfl, i2, im⟩ := im.cons_of
  obtain rfl := im.nil_of
  refine ⟨_, PSs.nox ((pss_one (ps_ret (pe_and (pe_call G_is_int (hr.mono (by omega)) rfl T.g_is_int T.k_is_int T.B_is_int .nil pass0 (pa_cons (pv 0) pa_nil)) (pe_one (pe_chain op_le op_le (pv 1) (pv 0) (pv 2))))))), ?_⟩
  refine Sr.at (d := .bool (withinD x lo hi)) ?_ q
  have e : withinD x lo hi = (isIntD x && withinD x lo hi) := by cases x <;> simp [withinD, isIntD, isT, tyN]
  rw [e]
  refine sr_ret (ed_and (ed_call (R := RisInt) (ea_cons (ed_var rfl i0) ea_nil) ⟨x, rfl, rfl⟩) fun hb => ?_)
  cases x with
  | int i => exact ed_chain (ed_var rfl i1) (ed_var rfl i0) rd_cmp (fun _ => ed_var rfl i2) fun _ => rd_cmp
  | _ => cases hb
def isTupD (x : PyData) (lo hi : Int) : Bool := match x with | .tuple ds => decide (lo ≤ (ds.length : Int)) && decide ((ds.length : Int) ≤ hi) | _ => false
def RisTup : List PyData → PyData → Prop := fun ds r => ∃ x lo hi, ds = [x, .int lo, .int hi] ∧ r = .bool (isTupD x lo hi)
theorem ok_is_tuple (T : Tx K mg) : Ok P w K mg base 1 d_is_tuple ["thing", "least", "most"] (Pu K RisTup) := by
  refine (T.F_is_tuple).ok sc_is_tuple (pu_len (by rintro _ _ ⟨x, lo, hi, rfl, _⟩; rfl)) (fun cdv A outer s H vs Q E hr h => ?_)
  obtain ⟨ds, r, im, ⟨x, lo, hi, rfl, rfl⟩, q⟩ := h
  obtain ⟨v0, _, rfl, i0, im⟩ := im.cons_of
  obtain ⟨v1, _, rfl, i1, im⟩ := im.cons_of
  obtain ⟨v2, _, rfl, i2, im⟩ := im.cons_of
  obtain rfl := im.nil_of
  refine ⟨_, PSs.nox ((pss_one (ps_ret (pe_and (pe_callB (call_isiK' (K := K) rfl) rfl T.b_isinstance bb_isinstance (pa_cons (pv 0) (pa_cons (pe_bltn (v := .ty "tuple") (by rfl) T.b_tuple bb_tuple rfl) pa_nil))) (pe_one (pe_chain op_le op_le (pv 1) (pe_callB (call_lenK (K := K) rfl) rfl T.b_len bb_len (pa_cons (pv 0) pa_nil)) (pv 2))))))), ?_⟩
  refine Sr.at (d := .bool (isTupD x lo hi)) ?_ q
  have e : isTupD x lo hi = (isT x "tuple" && isTupD x lo hi) := by cases x <;> simp [isTupD, isT, tyN]
  rw [e]
  refine sr_ret (ed_and (ed_isi (ed_var rfl i0)) fun hb => ?_)
  cases x with
  | tuple es => exact ed_chain (ed_var rfl i1) (ed_len (ed_var rfl i0)) rd_cmp (fun _ => ed_var rfl i2) fun _ => rd_cmp
  | _ => cases hb
/-! ### names -/
def wordsS : List Str := ["class", "def", "else", "fn", "give", "if", "kind", "let", "match", "upper", "way", "whole"]
theorem words_s (K : PySem.W.Frag) : K55.words.map (He.Dv.v K) = wordsS.map V.str := rfl
theorem im_strs {H : Hp} : ∀ xs : List Str, ImAll K H (xs.map V.str) (xs.map PyData.str)
  | [] => .nil
  | x :: xs => .cons (.str x) (im_strs xs)
theorem names_ok : ∀ s ∈ NAMES, 1 ≤ s.length ∧ s.length ≤ 10 ∧ s ∉ wordsS := by decide +kernel
abbrev LET : Str := "abcdefghijklmnopqrstuvwxyzABCDEFGHIJKLMNOPQRSTUVWXYZ"
abbrev SML : Str := "abcdefghijklmnopqrstuvwxyz"
abbrev DIG : Str := "0123456789"
theorem names_cps : ∀ s ∈ NAMES, s.cps.toList.length ≤ 10 ∧ (∀ c ∈ s.cps.toList, c ∈ LET.cps.toList ∨ c ∈ DIG.cps.toList) ∧ (s.cps.toList[0]?).all (fun c => decide (c ∈ LET.cps.toList) && !decide (c ∈ SML.cps.toList)) = true := by decide +kernel
theorem any_str (s : Str) : ∀ xs : List Str, ((xs.map PyData.str).any fun z => PyData.eqv z (.str s)) = decide (s ∈ xs)
  | [] => rfl
  | x :: xs => by
    rw [List.map_cons, List.any_cons, any_str s xs]
    by_cases h : x = s
    · subst h; simp [PyData.eqv]
    · have h2 : ¬ s = x := fun e => h e.symm
      simp [PyData.eqv, h, h2]
theorem depth_strs : ∀ xs : List Str, PyData.depthAll (xs.map PyData.str) ≤ 1
  | [] => Nat.zero_le _
  | x :: xs => by
    have := depth_strs xs
    simp only [List.map_cons, PyData.depthAll, PyData.depth]
    omega
def Rname : List PyData → PyData → Prop := fun ds r => ∃ s ∈ NAMES, ds = [.str s] ∧ r = .bool true
theorem ed_glob {X : Cx} {x : Str} {n : Int} {σ : L2.St} {H : Hp} : Ed K (tC (.int n)) σ H (.int n) := ed_int
theorem ok_is_name (T : Tx K mg) : Ok P w K mg base 1 d_is_name ["x"] (Pu K Rname) := by
  refine (T.F_is_name).ok sc_is_name (pu_len (by rintro _ _ ⟨s, _, rfl, _⟩; rfl)) (fun cdv A outer s H vs Q E hr h => ?_)
  obtain ⟨ds, r, im, ⟨s, hs, rfl, rfl⟩, q⟩ := h
  obtain ⟨v0, _, rfl, i0, im⟩ := im.cons_of
  obtain rfl := im.nil_of
  obtain ⟨h1, h2, h3⟩ := names_ok s hs
  obtain ⟨c1, c2, c3⟩ := names_cps s hs
  refine ⟨_, PSs.nox ((pss_cons (ps_if (PW.pt (pw_or (pt_not (pt_val (pe_callB (call_isiK' (K := K) rfl) rfl T.b_isinstance bb_isinstance (pa_cons (pv 0) (pa_cons (pe_bltn (v := .ty "str") (by rfl) T.b_str bb_str rfl) pa_nil))))) (pw_or (pt_not (pt_chain op_le op_le pe_int (pe_callB (call_lenK (K := K) rfl) rfl T.b_len bb_len (pa_cons (pv 0) pa_nil)) (pe_gint (by rfl) T.i_LONGEST_NAME))) (pw_or1 (pt_cmpR (op_inK (K := K) rfl hr) (pv 0) (pe_glob (v := .ref (He.ga K "WORDS")) (by rfl) T.g_WORDS rfl) rfl))))) (pss_one (ps_ret pe_bl)) pss_nil)
  (pss_cons (ps_if (pt_cmpR (op_ninK (K := K) rfl hr) (pe_ix (ix_seqK (K := K) rfl) (pv 0) pe_int (fun _ _ => rfl)) (pe_gstr (by rfl) T.s_LETTERS) rfl) (pss_one (ps_ret pe_bl)) pss_nil)
  (pss_one (ps_ret (pe_callB (cr_allK (K := K) rfl rfl) rfl T.b_all bb_all (pa_cons (pe_lc (own := [("sign", 1)]) (by rfl) sc_is_name.nd (pi_str (pv 0)) (blkOk_by (own := [("sign", 1)]) (N := ["x", "sign"]) (sc := defScope s_is_name) (by decide +kernel)) (fun _ _ _ _ _ => pg_name (i := 1) sc_is_name.nd rfl (by first | exact Or.inl rfl | exact Or.inr rfl)) (fun _ _ _ _ _ => pts_nil) (fun _ _ _ _ _ => (pe_or (pe_cmpR (op_inK (K := K) rfl hr) (pv 1) (pe_gstr (by rfl) T.s_LETTERS) rfl) (pe_one (pe_cmpR (op_inK (K := K) rfl hr) (pv 1) (pe_gstr (by rfl) T.s_DIGITS) rfl))))) pa_nil))))))), ?_⟩
  refine Sr.at (d := .bool true) ?_ q
  have hl : decide ((1 : Int) ≤ (s.length : Int)) = true := decide_eq_true (by omega)
  have hl2 : decide ((s.length : Int) ≤ 10) = true := decide_eq_true (by omega)
  obtain ⟨c, hc⟩ : ∃ c, s.cps.toList[0]? = some c := by
    have : 0 < s.cps.toList.length := by have : s.length = s.cps.toList.length := by simp [PySem.Str.length]
                                         omega
    exact ⟨_, List.getElem?_eq_getElem this⟩
  rw [hc] at c3
  simp only [Option.all_some, Bool.and_eq_true, Bool.not_eq_true'] at c3
  refine sr_if (b := false) (eb_or (b := false) (c := false) (eb_not (b := true) (eb_b (ed_isi (ed_var rfl i0)))) fun _ => eb_or (b := false) (c := false) (eb_not (b := true) ?_) fun _ => ?_) (fun z => by cases z) fun _ => ?_
  · exact eb_t (K := K) ((ed_chain (b := true) (c := true) ed_int (ed_lens (ed_var rfl i0) (by omega)) (rd_cmp.to (by rw [hl])) (fun _ => ed_int) fun _ => rd_cmp.to (by rw [hl2])))
  · refine eb_t (K := K) (ed_op (ed_var rfl i0) (ed_ref T.words fun H => ?_) ((rd_in (Nat.le_trans (Nat.min_le_left _ _) (Nat.le_trans (depth_strs wordsS) (by show 1 ≤ 16 * 0 + 198; decide)))).to ?_))
    · rw [words_s]
      exact im_strs _
    · rw [any_str]
      simp [h3]
  refine sr_if (b := false) (eb_t (K := K) (ed_op (ed_op (ed_var rfl i0) ed_int (rd_ixs (by omega) (atI_nat (j := 0) hc))) ed_str (rd_ninsg.to (by rw [c3.1]; rfl)))) (fun z => by cases z) fun _ => ?_
  refine sr_ret ((ed_all (bs := s.cps.toList.map fun c => decide (c ∈ LET.cps.toList) || decide (c ∈ DIG.cps.toList)) ?_).to ?_)
  · rw [List.map_map]
    exact el_lcS (ed_var rfl i0) (by omega) fun j c H1 hc e => ed_or (ed_op (ed_var rfl (.str _)) ed_str rd_insg) fun _ => ed_op (ed_var rfl (.str _)) ed_str rd_insg
  · congr 1
    rw [List.all_map, List.all_eq_true]
    intro c hc
    show (decide _ || decide _) = true
    rw [Bool.or_eq_true]
    exact (c2 c hc).imp decide_eq_true decide_eq_true
theorem ok_is_high (T : Tx K mg) : Ok P w K mg base 2 d_is_high ["x"] (Pu K Rname) := by
  have G_is_name := ok_is_name (P := P) (w := w) (base := base) T
  refine (T.F_is_high).ok sc_is_high (pu_len (by rintro _ _ ⟨s, _, rfl, _⟩; rfl)) (fun cdv A outer s H vs Q E hr h => ?_)
  obtain ⟨ds, r, im, ⟨s, hs, rfl, rfl⟩, q⟩ := h
  obtain ⟨v0, _, rfl, i0, im⟩ := im.cons_of
  obtain rfl := im.nil_of
  obtain ⟨h1, h2, h3⟩ := names_ok s hs
  obtain ⟨c1, c2, c3⟩ := names_cps s hs
  refine ⟨_, PSs.nox ((pss_one (ps_ret (pe_and (pe_call G_is_name (hr.mono (by omega)) rfl T.g_is_name T.k_is_name T.B_is_name .nil pass0 (pa_cons (pv 0) pa_nil)) (pe_one (pe_cmpR (op_ninK (K := K) rfl hr) (pe_ix (ix_seqK (K := K) rfl) (pv 0) pe_int (fun _ _ => rfl)) (pe_gstr (by rfl) T.s_SMALL) rfl)))))), ?_⟩
  refine Sr.at (d := .bool true) ?_ q
  obtain ⟨c, hc⟩ : ∃ c, s.cps.toList[0]? = some c := by
    have : 0 < s.cps.toList.length := by have : s.length = s.cps.toList.length := by simp [PySem.Str.length]
                                         omega
    exact ⟨_, List.getElem?_eq_getElem this⟩
  rw [hc] at c3
  simp only [Option.all_some, Bool.and_eq_true, Bool.not_eq_true'] at c3
  exact sr_ret (ed_and (b := true) (c := true) (ed_call (R := Rname) (ea_cons (ed_var rfl i0) ea_nil) ⟨s, hs, rfl, rfl⟩) fun _ => ed_op (ed_op (ed_var rfl i0) ed_int (rd_ixs (by omega) (atI_nat (j := 0) hc))) ed_str (rd_ninsg.to (by rw [c3.2]; rfl)))
end
end K55
namespace K55
open PySem PySem.Spec PyProof.Rows L2 W5 M5
open Evl (Ex)
section
variable {P : Program} {w : World} {K : PySem.W.Frag} {mg : Str → Option Value} {base : Heap}
/-- kinds of the law -/
def KsOk (KS : List (Str × Nat)) : Prop := ∀ x ∈ KS, x ∈ LOTS
theorem lots_ok : ∀ x ∈ LOTS, x.1 ∈ NAMES ∧ x.2 ≤ 2 := by decide +kernel
def Rinner : List PyData → PyData → Prop := fun ds r => ∃ (t : Ty) (KS : List (Str × Nat)) (n : Nat), KsOk KS ∧ t.Wf KS n ∧ ds = [t.d, .int n] ∧ r = .tuple (Ty.dAll t.parts)
theorem ok_inner_of (T : Tx K mg) : Ok P w K mg base 3 d_inner_of ["thing", "many"] (Pu K Rinner) := by
  have G_is_tuple := ok_is_tuple (P := P) (w := w) (base := base) T
  have G_is_high := ok_is_high (P := P) (w := w) (base := base) T
  have G_within := ok_within (P := P) (w := w) (base := base) T
  refine (T.F_inner_of).ok sc_inner_of (pu_len (by rintro _ _ ⟨t, KS, n, _, _, rfl, _⟩; rfl)) (fun cdv A outer s H vs Q E hr h => ?_)
  obtain ⟨ds, r, im, ⟨t, KS, n, hK, hw, rfl, rfl⟩, q⟩ := h
  obtain ⟨v0, _, rfl, i0, im⟩ := im.cons_of
  obtain ⟨v1, _, rfl, i1, im⟩ := im.cons_of
  obtain rfl := im.nil_of
  refine ⟨_, PSs.nox ((pss_cons (ps_if (pt_val (pe_callB (call_isiK' (K := K) rfl) rfl T.b_isinstance bb_isinstance (pa_cons (pv 0) (pa_cons (pe_bltn (v := .ty "str") (by rfl) T.b_str bb_str rfl) pa_nil)))) (pss_one (ps_ret (pe_ifExp (pt_cmpR (op_eqK (K := K) rfl hr) (pv 0) pe_str (nomark _)) (pe_tup pa_nil) pe_non))) pss_nil)
  (pss_cons (ps_if (PW.pt (pw_or (pt_not (pt_val (pe_call G_is_tuple (hr.mono (by omega)) rfl T.g_is_tuple T.k_is_tuple T.B_is_tuple .nil pass0 (pa_cons (pv 0) (pa_cons pe_int (pa_cons pe_int pa_nil)))))) (pw_or1 (pt_not (pt_val (pe_callB (call_isiK' (K := K) rfl) rfl T.b_isinstance bb_isinstance (pa_cons (pe_ix (ix_seqK (K := K) rfl) (pv 0) pe_int (fun _ _ => rfl)) (pa_cons (pe_bltn (v := .ty "str") (by rfl) T.b_str bb_str rfl) pa_nil)))))))) (pss_one (ps_ret pe_non)) pss_nil)
  (pss_cons (ps_if (pt_cmpR (op_eqK (K := K) rfl hr) (pe_ix (ix_seqK (K := K) rfl) (pv 0) pe_int (fun _ _ => rfl)) pe_str (nomark _)) (pss_one (ps_ret (pe_ifExp (PW.pt (pw_and (pt_cmpR (op_eqK (K := K) rfl hr) (pe_callB (call_lenK (K := K) rfl) rfl T.b_len bb_len (pa_cons (pv 0) pa_nil)) pe_int (nomark _)) (pw_and1 (pt_val (pe_call G_within (hr.mono (by omega)) rfl T.g_within T.k_within T.B_within .nil pass0 (pa_cons (pe_ix (ix_seqK (K := K) rfl) (pv 0) pe_int (fun _ _ => rfl)) (pa_cons pe_int (pa_cons (pe_op op_sub (pv 1) pe_int) pa_nil)))))))) (pe_tup pa_nil) pe_non))) pss_nil)
  (pss_cons (ps_if (PW.pt (pw_and (pt_cmpR (op_eqK (K := K) rfl hr) (pe_ix (ix_seqK (K := K) rfl) (pv 0) pe_int (fun _ _ => rfl)) pe_str (nomark _)) (pw_and1 (pt_cmpR (op_eqK (K := K) rfl hr) (pe_callB (call_lenK (K := K) rfl) rfl T.b_len bb_len (pa_cons (pv 0) pa_nil)) pe_int (nomark _))))) (pss_one (ps_ret (pe_slice (sl_tupK (K := K) rfl) (pv 0) (po_some pe_int) po_none))) pss_nil)
  (pss_cons (ps_if (PW.pt (pw_or (pt_cmpR (op_neK (K := K) rfl hr) (pe_ix (ix_seqK (K := K) rfl) (pv 0) pe_int (fun _ _ => rfl)) pe_str (nomark _)) (pw_or (pt_cmpR (op_neK (K := K) rfl hr) (pe_callB (call_lenK (K := K) rfl) rfl T.b_len bb_len (pa_cons (pv 0) pa_nil)) pe_int (nomark _)) (pw_or (pt_not (pt_val (pe_call G_is_high (hr.mono (by omega)) rfl T.g_is_high T.k_is_high T.B_is_high .nil pass0 (pa_cons (pe_ix (ix_seqK (K := K) rfl) (pv 0) pe_int (fun _ _ => rfl)) pa_nil)))) (pw_or1 (pt_not (pt_val (pe_call G_is_tuple (hr.mono (by omega)) rfl T.g_is_tuple T.k_is_tuple T.B_is_tuple .nil pass0 (pa_cons (pe_ix (ix_seqK (K := K) rfl) (pv 0) pe_int (fun _ _ => rfl)) (pa_cons pe_int (pa_cons (pe_gint (by rfl) T.i_MOST_PARAMS_types) pa_nil))))))))))) (pss_one (ps_ret pe_non)) pss_nil)
  (pss_one (ps_ret (pe_ix (ix_seqK (K := K) rfl) (pv 0) pe_int (fun _ _ => rfl)))))))))), ?_⟩
  refine Sr.at (d := .tuple (Ty.dAll t.parts)) ?_ q
  cases t with
  | whole =>
    refine sr_if (b := true) (eb_b (ed_isS (ed_var rfl i0) rfl)) (fun _ => ?_) (fun z => by cases z)
    exact sr_ret (ed_if (b := true) (eb_t (K := K) (ed_op (ed_var rfl i0) ed_str (rd_eqs rfl))) (fun _ => ed_tup0) (fun z => by cases z))
  | var i =>
    refine sr_if (b := false) (eb_b (ed_isS (ed_var rfl i0) rfl)) (fun z => by cases z) fun _ => ?_
    refine sr_if (b := false) (eb_or (b := false) (c := false) (eb_not (b := true) (eb_b (ed_call (R := RisTup) (ea_cons (ed_var rfl i0) (ea_cons ed_int (ea_cons ed_int ea_nil))) ⟨_, _, _, rfl, rfl⟩))) fun _ => eb_not (b := true) (eb_b (ed_isS (ed_op (ed_var rfl i0) ed_int (rd_ix rfl)) rfl))) (fun z => by cases z) fun _ => ?_
    refine sr_if (b := true) (eb_t (K := K) (ed_op (ed_op (ed_var rfl i0) ed_int (rd_ix rfl)) ed_str (rd_eqs rfl))) (fun _ => ?_) (fun z => by cases z)
    refine sr_ret (ed_if (b := true) (eb_and (b := true) (c := true) (eb_t (K := K) (ed_op (ed_len (ed_var rfl i0)) ed_int rd_eqi)) fun _ => ?_) (fun _ => ed_tup0) (fun z => by cases z))
    refine eb_b (ed_call (R := Rwithin) (ea_cons (ed_op (ed_var rfl i0) ed_int (rd_ix rfl)) (ea_cons ed_int (ea_cons (ed_op (ed_var rfl i1) ed_int rd_int0) ea_nil))) ⟨_, _, _, rfl, ?_⟩)
    have hi : i < n := hw
    have h1 : decide ((0 : Int) ≤ (i : Int)) = true := decide_eq_true (by omega)
    have h2 : decide ((i : Int) ≤ (n : Int) - 1) = true := decide_eq_true (by omega)
    simp only [withinD, h1, h2]
    rfl
  | to a b =>
    refine sr_if (b := false) (eb_b (ed_isS (ed_var rfl i0) rfl)) (fun z => by cases z) fun _ => ?_
    refine sr_if (b := false) (eb_or (b := false) (c := false) (eb_not (b := true) (eb_b (ed_call (R := RisTup) (ea_cons (ed_var rfl i0) (ea_cons ed_int (ea_cons ed_int ea_nil))) ⟨_, _, _, rfl, rfl⟩))) fun _ => eb_not (b := true) (eb_b (ed_isS (ed_op (ed_var rfl i0) ed_int (rd_ix rfl)) rfl))) (fun z => by cases z) fun _ => ?_
    refine sr_if (b := false) (eb_t (K := K) (ed_op (ed_op (ed_var rfl i0) ed_int (rd_ix rfl)) ed_str (rd_eqs rfl))) (fun z => by cases z) fun _ => ?_
    refine sr_if (b := true) (eb_and (b := true) (c := true) (eb_t (K := K) (ed_op (ed_op (ed_var rfl i0) ed_int (rd_ix rfl)) ed_str (rd_eqs rfl))) fun _ => eb_t (K := K) (ed_op (ed_len (ed_var rfl i0)) ed_int rd_eqi)) (fun _ => ?_) (fun z => by cases z)
    exact sr_ret ((ed_sl (lo := some 1) (hi := none) (ed_var rfl i0) (eo_some (K := K) ed_int) eo_none).to rfl)
  | of k ts =>
    have hk := lots_ok _ (hK _ hw.1)
    refine sr_if (b := false) (eb_b (ed_isS (ed_var rfl i0) rfl)) (fun z => by cases z) fun _ => ?_
    refine sr_if (b := false) (eb_or (b := false) (c := false) (eb_not (b := true) (eb_b (ed_call (R := RisTup) (ea_cons (ed_var rfl i0) (ea_cons ed_int (ea_cons ed_int ea_nil))) ⟨_, _, _, rfl, rfl⟩))) fun _ => eb_not (b := true) (eb_b (ed_isS (ed_op (ed_var rfl i0) ed_int (rd_ix rfl)) rfl))) (fun z => by cases z) fun _ => ?_
    refine sr_if (b := false) (eb_t (K := K) (ed_op (ed_op (ed_var rfl i0) ed_int (rd_ix rfl)) ed_str (rd_eqs rfl))) (fun z => by cases z) fun _ => ?_
    refine sr_if (b := false) (eb_and (b := false) (c := false) (eb_t (K := K) (ed_op (ed_op (ed_var rfl i0) ed_int (rd_ix rfl)) ed_str (rd_eqs rfl))) fun z => by cases z) (fun z => by cases z) fun _ => ?_
    refine sr_if (b := false) (eb_or (b := false) (c := false) (eb_t (K := K) (ed_op (ed_op (ed_var rfl i0) ed_int (rd_ix rfl)) ed_str (rd_nes rfl))) fun _ => eb_or (b := false) (c := false) (eb_t (K := K) (ed_op (ed_len (ed_var rfl i0)) ed_int rd_nei)) fun _ =>
      eb_or (b := false) (c := false) (eb_not (b := true) (eb_b (ed_call (R := Rname) (ea_cons (ed_op (ed_var rfl i0) ed_int (rd_ix rfl)) ea_nil) ⟨_, hk.1, rfl, rfl⟩))) fun _ => eb_not (b := true) (eb_b (ed_call (R := RisTup) (ea_cons (ed_op (ed_var rfl i0) ed_int (rd_ix rfl)) (ea_cons ed_int (ea_cons ed_int ea_nil))) ⟨_, _, _, rfl, ?_⟩))) (fun z => by cases z) fun _ => ?_
    · have h2 : ts.length ≤ 2 := hk.2
      have hl : (Ty.dAll ts).length = ts.length := by rw [Ty.dAll_map, List.length_map]
      have h3 : decide ((0 : Int) ≤ ((Ty.dAll ts).length : Int)) = true := decide_eq_true (by omega)
      have h4 : decide (((Ty.dAll ts).length : Int) ≤ 2) = true := decide_eq_true (by omega)
      simp only [isTupD, h3, h4]
      rfl
    exact sr_ret (ed_op (ed_var rfl i0) ed_int (rd_ix rfl))
/-- what waits: types with how deep they stand -/
def wD (x : Ty × Nat) : PyData := .tuple [x.1.d, .int (x.2 : Nat)]
def wSize : List (Ty × Nat) → Nat
  | [] => 0
  | x :: xs => x.1.size + wSize xs
theorem wSize_append : ∀ xs ys : List (Ty × Nat), wSize (xs ++ ys) = wSize xs + wSize ys
  | [], ys => by simp [wSize]
  | x :: xs, ys => by simp only [List.cons_append, wSize, wSize_append xs ys]; omega
theorem wSize_map (n : Nat) : ∀ ts : List Ty, wSize (ts.map fun t => (t, n)) = Ty.sizeAll ts
  | [] => rfl
  | t :: ts => by simp only [List.map_cons, wSize, Ty.sizeAll, wSize_map n ts]
theorem wSize_len : ∀ xs : List (Ty × Nat), xs.length ≤ wSize xs
  | [] => Nat.le_refl _
  | x :: xs => by
    have := Ty.size_pos x.1
    have := wSize_len xs
    simp only [List.length_cons, wSize]
    omega
def Rshaped : List PyData → PyData → Prop := fun ds r => ∃ (t : Ty) (KS : List (Str × Nat)) (n dp ms : Nat), KsOk KS ∧ t.Wf KS n ∧ t.depth ≤ dp ∧ t.size ≤ ms ∧ ms ≤ 10000 ∧ ds = [t.d, .int n, .int dp, .int ms] ∧ r = .bool true
theorem ok_is_shaped (T : Tx K mg) : Ok P w K mg base 4 d_is_shaped ["thing", "many", "deepest", "most"] (Pu K Rshaped) := by
  have G_inner_of := ok_inner_of (P := P) (w := w) (base := base) T
  refine (T.F_is_shaped).ok sc_is_shaped (pu_len (by rintro _ _ ⟨t, KS, n, dp, ms, _, _, _, _, _, rfl, _⟩; rfl)) (fun cdv A outer s H vs Q E hr h => ?_)
  obtain ⟨ds, r, im, ⟨t, KS, n, dp, ms, hK, hw, hdp, hms, hms2, rfl, rfl⟩, q⟩ := h
  obtain ⟨v0, _, rfl, i0, im⟩ := im.cons_of
  obtain ⟨v1, _, rfl, i1, im⟩ := im.cons_of
  obtain ⟨v2, _, rfl, i2, im⟩ := im.cons_of
  obtain ⟨v3, _, rfl, i3, im⟩ := im.cons_of
  obtain rfl := im.nil_of
  obtain rfl := i1.int_of
  obtain rfl := i2.int_of
  obtain rfl := i3.int_of
  refine ⟨_, PSs.nox ((pss_cons (ps_par (i := 4) (j := 5) (by rfl) sc_is_shaped.nd rfl rfl (by decide) rfl rfl (pa_cons (pe_lst (pa_cons (pe_tup (pa_cons (pv 0) (pa_cons pe_int pa_nil))) pa_nil)) (pa_cons (pv 3) pa_nil)) (by rfl))
  (pss_cons (ps_while PassesOwn.never (pt_cmpR (op_neK (K := K) rfl hr) (pv 4) (pe_lst pa_nil) (nomark _)) (pss_cons (ps_asg (pe_bm0 PySem.F.plainAttrs_list PySem.F.slot_list_pop PySem.F.type_list_pop mt_pop (pv 4)) (pg_tupK (K := K) (n := 2) rfl rfl (pgs_cons (pg_name (i := 6) sc_is_shaped.nd rfl (by first | exact Or.inl rfl | exact Or.inr rfl)) (pgs_cons (pg_name (i := 7) sc_is_shaped.nd rfl (by first | exact Or.inl rfl | exact Or.inr rfl)) pgs_nil))))
  (pss_cons (ps_par (i := 8) (j := 5) (by rfl) sc_is_shaped.nd rfl rfl (by decide) rfl rfl (pa_cons (pe_call G_inner_of (hr.mono (by omega)) rfl T.g_inner_of T.k_inner_of T.B_inner_of .nil pass0 (pa_cons (pv 6) (pa_cons (pv 1) pa_nil))) (pa_cons (pe_op op_sub (pv 5) pe_int) pa_nil)) (by rfl))
  (pss_cons (ps_if (PW.pt (pw_or (pt_cmpR op_isA (pv 8) pe_non (nomark _)) (pw_or (pt_cmpR op_gt (pv 7) (pv 2) (nomark _)) (pw_or1 (pt_cmpR op_lt (pv 5) pe_int (nomark _)))))) (pss_one (ps_ret pe_bl)) pss_nil)
  (pss_one (ps_expr (pe_bm PySem.F.plainAttrs_list PySem.F.slot_list_extend PySem.F.type_list_extend mt_extend (pv 4) (pa_cons (pe_lc (own := [("part", 9)]) (by rfl) sc_is_shaped.nd (pi_tupK (K := K) rfl (pv 8)) (blkOk_by (own := [("part", 9)]) (N := ["thing", "many", "deepest", "most", "waiting", "spare", "one", "deep", "inner", "part"]) (sc := defScope s_is_shaped) (by decide +kernel)) (fun _ _ _ _ _ => pg_name (i := 9) sc_is_shaped.nd rfl (by first | exact Or.inl rfl | exact Or.inr rfl)) (fun _ _ _ _ _ => pts_nil) (fun _ _ _ _ _ => (pe_tup (pa_cons (pv 9) (pa_cons (pe_op (op_addK (K := K) rfl) (pv 7) pe_int) pa_nil))))) pa_nil))))))))
  (pss_one (ps_ret pe_bl))))), ?_⟩
  refine sq_par ?_
  refine El.cn (ds := [wD (t, 1)]) (el_lst (ea_cons (ed_tup (ea_cons (ed_var rfl i0) (ea_cons ed_int ea_nil))) ea_nil)) fun p ws H1 hp e1 h1 j1 => ?_
  refine ⟨_, rfl, _, _, rfl, ?_⟩
  refine sq_while (fun m σ H' => ∃ (xs : List (Ty × Nat)) (ws : List V) (o6 o7 o8 o9 : Option V) (sp : Nat), m = wSize xs ∧ σ = [some v0, some (.int n), some (.int dp), some (.int ms), some (.ref p), some (.int sp), o6, o7, o8, o9] ∧ Ex H H' ∧ H' p = some (.lst ws) ∧ ImAll K H' ws (xs.map wD) ∧
    (∀ x ∈ xs, x.1.Wf KS n ∧ x.2 + x.1.depth ≤ dp + 1) ∧ wSize xs ≤ sp ∧ sp ≤ ms) ⟨_, [(t, 1)], ws, none, none, none, none, ms, rfl, rfl, e1, h1, j1, ?_, ?_, Nat.le_refl _⟩ ?_
  · intro x hx
    obtain rfl := List.mem_singleton.mp hx
    exact ⟨hw, by show 1 + t.depth ≤ dp + 1; omega⟩
  · simpa [wSize] using hms
  rintro m σ H1 ⟨xs, ws, o6, o7, o8, o9, sp, rfl, rfl, e1, h1, j1, hx, hs, hsp⟩
  refine ⟨_, eb_nenil rfl h1 j1, fun H2 e2 => ?_⟩
  have h2 := e2 _ _ h1
  have j2 := j1.ex e2
  have e02 := e1.trans e2
  rcases nil_or_concat xs with rfl | ⟨xs, x, rfl⟩
  · exact iteF (st_ret (ed_bl.at fun v H3 e3 i3 => q v H3 (e02.trans e3) i3))
  refine (ite2 (fun _ => ?_) (fun z => absurd (by simp) z))
  have hxs : wSize (xs ++ [x]) = wSize xs + x.1.size := by rw [wSize_append]; simp [wSize]
  rw [List.map_append] at j2
  obtain ⟨ws, v, rfl, k2, jv⟩ := ImAll.concat_of j2
  obtain ⟨wx, dx⟩ := hx x (by simp)
  obtain ⟨a, us, rfl, ha, ja⟩ := jv.tup_of
  obtain ⟨u0, _, rfl, ju, ja⟩ := ja.cons_of
  obtain ⟨u1, _, rfl, ju1, ja⟩ := ja.cons_of
  obtain rfl := ja.nil_of
  obtain rfl := ju1.int_of
  have t3 : Tk H2 (upd H2 p (.lst (ws ++ [V.ref a]).dropLast)) := Tk.upd (no_lst h2)
  refine sq_asg (te_pop (v := .ref a) rfl h2 (by simp) ?_)
  refine ⟨a, [u0, .int x.2], rfl, t3.sq ha, rfl, u0, _, rfl, ?_⟩
  refine ⟨_, _, rfl, rfl, ?_⟩
  rw [List.dropLast_concat] at t3 ⊢
  have h3 : upd H2 p (.lst ws) p = some (.lst ws) := upd_same ..
  have e3 : Ex H (upd H2 p (.lst ws)) := Ex.mut e02 hp
  have j3 := k2.mono t3
  have ju := ju.mono t3
  generalize upd H2 p (.lst ws) = H3 at h3 e3 j3 ju
  refine sq_par ?_
  refine (ed_call (R := Rinner) (ea_cons (ed_var rfl ju) (ea_cons (ed_var rfl (.int n)) ea_nil)) ⟨x.1, KS, n, hK, wx, rfl, rfl⟩).cn fun vi H4 e4 ji => ?_
  have hpos := Ty.size_pos x.1
  obtain ⟨sp, rfl⟩ : ∃ sp' : Nat, sp = sp' + 1 := ⟨sp - 1, by omega⟩
  have hsp1 : ((sp + 1 : Nat) : Int) - 1 = (sp : Int) := by omega
  refine (ed_op (K := K) (z := .int (sp : Int)) (ed_var rfl (.int _)) ed_int (rd_int0.to (by rw [hsp1]))).cn fun vsp H5 e5 jsp => ?_
  obtain rfl := jsp.int_of
  refine ⟨_, _, rfl, ?_⟩
  have hd5 : decide ((dp : Int) < (x.2 : Int)) = false := decide_eq_false (by have := Ty.depth_parts x.1; omega)
  have hs5 : decide ((sp : Int) < 0) = false := decide_eq_false (by omega)
  refine sq_if (b := false) (eb_or (b := false) (c := false) (eb_t (K := K) (ed_op (ed_var rfl (ji.ex e5)) ed_non rd_isN)) fun _ => eb_or (b := false) (c := false) (eb_t (K := K) (ed_op (ed_var rfl (.int x.2)) (ed_var rfl (.int dp)) (rd_cmp.to (by rw [hd5])))) fun _ => eb_t (K := K) (ed_op (ed_var rfl (.int _)) ed_int (rd_cmp.to (by rw [hs5])))) (fun z => by cases z) fun _ H6 e6 => ?_
  have e36 := (e4.trans e5).trans e6
  have hpl : x.1.parts.length ≤ Ty.sizeAll x.1.parts := Ty.len_sizeAll _
  have hpx := Ty.size_parts x.1
  have hwl := wSize_len xs
  have hlw : ws.length = xs.length := by have := j3.length; rw [this, List.length_map]
  refine st_drop (te_extend (ds := (Ty.dAll x.1.parts).map fun d => .tuple [d, .int ((x.2 : Int) + 1)]) rfl (e36 _ _ h3) (el_lcT (ed_var rfl ((ji.ex (e5.trans e6)))) ?_ fun j y vy H7 hj e7 i7 => ed_tup (ea_cons (ed_var rfl i7) (ea_cons (ed_op (ed_var rfl (.int x.2)) ed_int rd_addi) ea_nil))) ?_ fun us H7 e7 j7 => ?_)
  · rw [Ty.dAll_map, List.length_map]; omega
  · rw [List.length_map, Ty.dAll_map, List.length_map, hlw]; omega
  have hm : (Ty.dAll x.1.parts).map (fun d => PyData.tuple [d, .int ((x.2 : Int) + 1)]) = (x.1.parts.map fun t => (t, x.2 + 1)).map wD := by
    rw [Ty.dAll_map, List.map_map, List.map_map]
    rfl
  rw [hm] at j7
  have t7 : Tk H7 (upd H7 p (.lst (ws ++ us))) := Tk.upd (no_lst (e7 _ _ (e36 _ _ h3)))
  refine ⟨wSize (xs ++ x.1.parts.map fun t => (t, x.2 + 1)), ?_, _, _, some u0, some (.int x.2), some vi, o9, sp, rfl, rfl, Ex.mut ((e3.trans e36).trans e7) hp, upd_same .., ?_, ?_, ?_, by omega⟩
  · rw [wSize_append, hxs, wSize_map]; omega
  · rw [List.map_append]
    exact ((j3.ex (e36.trans e7)).append j7).mono t7
  · intro y hy
    rcases List.mem_append.mp hy with hy | hy
    · exact hx y (by simp [hy])
    · obtain ⟨u, hu, rfl⟩ := List.mem_map.mp hy
      have := Ty.depthAll_mem hu
      have := Ty.depth_parts x.1
      exact ⟨wx.parts u hu, by show x.2 + 1 + u.depth ≤ dp + 1; omega⟩
  · rw [wSize_append, wSize_map]; omega
end
end K55
/-! rules that the hand layer lacks -/
namespace W5
open PySem PySem.Spec PyProof.Rows L2
open AutoSeq1 (wpAny_loadPart')
/-! ### enumerate of an empty tuple -/
theorem meets_enum_newT (l : Addr) (items : Array Value) (n : Nat) (dct : Option Addr) (sl : Array (Option Value)) :
    Meets (Builtin.«enumerate.__new__» ⟨[.type "enumerate", .ref l], []⟩) (fun _ R s => s.heap.get? l = some { cls := .type "tuple", dict := dct, data := .seq items n, slots := sl } ∧
      R (.ok (.ret (.ref (s.heap.push { cls := .type "tuple_iterator", data := .fields #[.ref l, .int 0 0] }).objs.size)))
        { s with heap := (s.heap.push { cls := .type "tuple_iterator", data := .fields #[.ref l, .int 0 0] }).push { cls := .type "enumerate", data := .fields #[.none, .bool false, .ref s.heap.objs.size, rawInt 0, .none, .none] } }) :=
  .of_wp fun prog w A R s h => by
    obtain ⟨hp, g, d, tk, os⟩ := s; obtain ⟨hl, h⟩ := h
    have hsub := sub_enumerate
    have hL : Heap.IsTuple (Shared.heap ⟨hp, g, d, tk, os⟩) l items := ⟨_, hl, rfl, n, rfl⟩
    wp_walk using wpAny_loadPart' hl
    refine wpAny_stack_any fun st => wpAny_pure ?_
    split
    · rename_i c _ _ _ _ _
      cases (c == Value.type "enumerate")
      · wp_walk using wpAny_loadPart' hl, wpAny_pyIter_tuple hL
        exact ⟨_, rfl, h⟩
      · wp_walk using wpAny_loadPart' hl, wpAny_pyIter_tuple hL
        exact ⟨_, rfl, h⟩
    · wp_walk using wpAny_loadPart' hl, wpAny_pyIter_tuple hL
      exact ⟨_, rfl, h⟩
section
variable {prog : Program} {w : World} {A : Around} {E : Value → Shared → Prop} {s : Shared}
theorem call_enum_tuple {l : Addr} {items : Array Value} {Q : Value → Shared → Prop} (hL : s.heap.IsTuple l items)
    (h : ∀ h', IsEnum h' (s.heap.objs.size + 1) s.heap.objs.size 0 .none → h'.IsTupleIter s.heap.objs.size l 0 → h'.objs.size = s.heap.objs.size + 2 →
      (∀ b o, s.heap.get? b = some o → h'.get? b = some o) → Q (.ref (s.heap.objs.size + 1)) { s with heap := h' }) :
    wpAny (model prog w) A (call (.type "enumerate") [.ref l]) Q E s := by
  obtain ⟨⟨c, dct, dt, sl⟩, hl, hc, n, hd⟩ := hL
  replace hc : c = .type "tuple" := hc
  replace hd : dt = .seq items n := hd
  subst hc hd
  refine callType_new F.called_enumerate (by decide) (F.typeCall_enumerate_1 _) (F.newCall_enumerate_1 _) (fun obj => F.args_object_init_2 obj _) F.entry_enumerate_new
    (meets_enum_newT l items n dct sl) ⟨hl, ?_⟩
  have hz : (s.heap.push { cls := .type "tuple_iterator", data := .fields #[.ref l, .int 0 0] }).objs.size = s.heap.objs.size + 1 := Heap.size_push ..
  show _ ∧ _
  rw [hz]
  have he : IsEnum ((s.heap.push { cls := .type "tuple_iterator", data := .fields #[.ref l, .int 0 0] }).push
      { cls := .type "enumerate", data := .fields #[.none, .bool false, .ref s.heap.objs.size, rawInt 0, .none, .none] }) (s.heap.objs.size + 1) s.heap.objs.size 0 .none := by
    have := Heap.get?_push_size (s.heap.push { cls := .type "tuple_iterator", data := .fields #[.ref l, .int 0 0] })
      (o := { cls := .type "enumerate", data := .fields #[.none, .bool false, .ref s.heap.objs.size, rawInt 0, .none, .none] }) rfl
    rw [hz] at this; exact this
  refine ⟨⟨_, he, rfl⟩, h _ he ⟨_, Heap.get?_push_of_some _ (Heap.get?_push_size _ rfl), rfl, rfl⟩ (by rw [Heap.size_push, hz]) fun b o x => Heap.get?_push_of_some _ (Heap.get?_push_of_some _ x)⟩
end
def Itt0 (K : PySem.W.Frag) (a : Addr) : It := ⟨fun _ _ => False, fun _ _ _ _ => False, fun _ H => SqT K H a []⟩
theorem turn_enum0 {P : Program} {w : World} {K : PySem.W.Frag} {tg : Expr} (a e it : Addr) :
    Turn P w K tg (Itt0 K a) [e, it] e (fun _ h => (∃ old, IsEnum h e it 0 old) ∧ h.IsTupleIter it a 0 ∧ e ≠ it) where
  mem := by simp
  obj := fun i h st b hb => by
    obtain ⟨⟨old, he⟩, ⟨o, ho, hc, hd⟩, _⟩ := st
    have e' : b = e ∨ b = it := by simpa using hb
    rcases e' with z | z
    · rw [z]; exact ⟨_, he, fun v q => nomatch q⟩
    · rw [z]; exact ⟨o, ho, fun v q => by rw [hd] at q; cases q⟩
  keep := fun i h h' st k => let ⟨⟨old, he⟩, hi, hne⟩ := st; ⟨⟨old, k e (by simp) _ he⟩, hi.at fun o q => k it (by simp) o q, hne⟩
  item := fun X hP hw hK hc i pins s σ H E I hf st hg => hg.elim
  done := by
    intro X hP hw hK hc i pins s σ H E I hf st hg
    subst hP hw hK
    obtain ⟨⟨old, he⟩, hit, hne⟩ := st
    obtain ⟨its, rv, p, hz⟩ := I.tuple hg
    cases rv
    obtain ⟨f0, f1, f2, f3, f4, f5⟩ := hf it (by simp)
    have hne2 : a ≠ it := fun z => by
      obtain ⟨o, ho, hc, _⟩ := hit
      obtain ⟨o', ho', hc', _⟩ := p
      rw [← z, ho'] at ho
      cases ho
      rw [hc] at hc'
      exact absurd hc' (by decide)
    refine wpAny_pyNext_enum_endD (Draws.tuple (w := X.w) (A := X.A.in1) (I.ok.hd hc) it a hne2 #[]) (i := 0) he ⟨hit, p⟩ fun h' eb => ⟨rfl, I.turned (t' := s.toks) (fun b o hb q => eb b o hb q) f0 f1 f3 f4 f5⟩
  self := fun A i s Q E st h => let ⟨⟨_, he⟩, _⟩ := st; wpAny_pyIter_enum he h
def iEnum0 (K : PySem.W.Frag) (ta : TA) : TI := fun σ H R => ta σ H fun vs H1 => ∃ a, vs = [.ref a] ∧ SqT K H1 a [] ∧ R (Itt0 K a) H1
theorem pi_enum0 {X : Cx} {tg e : Expr} {ta : TA} {p pos : Pos} (hg : Gl X "enumerate") (hm : X.mg "enumerate" = none) (ha : PA X [e] ta) (hs : starEach [e] X.env = [(false, eval e X.env)] := by rfl) :
    PI X tg (.Call (.Name "enumerate" p) [e] [] pos) (iEnum0 X.K ta) := by
  refine ⟨fun pins s σ H R I h => ?_⟩
  refine Call_ (ld_blt I hg hm boot_enumerate (PyProof.Rows.callWith_type1 (thn (ha.run pos pins s σ H _ I h) fun us s1 ⟨vs, H1, I1, r1, q1⟩ => ?_) hs rfl))
  obtain ⟨a, ex, hq, q⟩ := q1
  subst ex
  cases r1 with
  | cons r rr =>
    cases rr
    cases r
    obtain ⟨its, rv, p', hz⟩ := I1.tuple hq
    refine call_enum_tuple p' fun h' he hit hsz hk => wpAny_pyIter_enum he ?_
    have I2 : Inv X pins σ H1 { s1 with heap := h' } := I1.kept (t' := s1.toks) hk
    refine ⟨s1.heap.objs.size + 1, [s1.heap.objs.size + 1, s1.heap.objs.size], _, _, H1, rfl, I2, turn_enum0 a (s1.heap.objs.size + 1) s1.heap.objs.size, ⟨⟨.none, he⟩, hit, Nat.succ_ne_self _⟩, fun b hb => ?_, q⟩
    have e' : b = s1.heap.objs.size + 1 ∨ b = s1.heap.objs.size := by simpa using hb
    have hle : s1.heap.objs.size ≤ b := by
      rcases e' with z | z
      · rw [z]; exact Nat.le_add_right _ _
      · rw [z]; exact Nat.le_refl _
    exact I1.fpOk hle (I1.hok.fresh hle)
/-! ### tuple(list): the tuple's object told; dict of such a tuple of pairs -/
theorem call_tuple_ofZ {X : Cx} : CallR X (.type "tuple") (fun xs H Q => ∃ p ys, xs = [.ref p] ∧ SqL X.K H p ys ∧ ∀ l o, H l = none → o.dict = none → Q (.ref l) (upd H l (.frz o (.tup ys)))) := by
  intro pins s σ H xs us Q I r h
  obtain ⟨p, ys, rfl, hq, q⟩ := h
  obtain ⟨u, rfl, rx⟩ := vals1 r
  cases rx
  obtain ⟨its, r', pl, hz⟩ := I.list hq
  have hlen := r'.length
  refine call_tuple_list pl.isList (fun h' kp => ?_) (by simp only [List.size_toArray] <;> omega)
  have I1 : Inv X pins σ H { s with heap := h' } := I.kept (t' := s.toks) kp
  have I2 : Inv X pins σ (upd H h'.objs.size (.frz { cls := .type "tuple", data := .seq its.toArray } (.tup ys))) { s with heap := h'.push { cls := .type "tuple", data := .seq its.toArray } } :=
    I1.laid (t' := s.toks) (fun b o e => Heap.get?_push_of_some _ e) (Nat.le_refl _) (show ObjOk X.prog X.w _ _ _ (.frz _ (.tup ys)) from ⟨Heap.get?_push_size _ rfl, hz, its, r', IsTup.new _ _⟩)
  exact ⟨.ref h'.objs.size, _, I2, rfl, q _ _ (I1.hok.fresh (Nat.le_refl _)) rfl⟩
theorem pairs_of2 {X : Cx} {pins : List (Addr × Obj)} {σ : L2.St} {H : Hp} {s : Shared} (I : Inv X pins σ H s) : ∀ {ps : List Addr} {kvs : List (Key × V)}, Paired (fun p kv => SqT X.K H p [kV kv.1, kv.2]) ps kvs →
    ∃ (prs : List (Key × Value)) (pv : List (Value × Value)), KV kvs prs ∧ prs.length = ps.length ∧ pv.length = ps.length ∧ ∀ (j : Nat) (u y : Value), pv[j]? = some (u, y) → ∃ (b : Addr) (k : Key), ps[j]? = some b ∧ prs[j]? = some (k, y) ∧ IsTup s.heap b #[u, y] ∧ keyIs k u = true
  | _, _, .nil => ⟨[], [], .nil, rfl, rfl, fun j u y e => by simp at e⟩
  | _, _, .cons (a := p) (b := kv) h t => by
    obtain ⟨prs, pv, r, hl, hl2, hp⟩ := pairs_of2 I t
    obtain ⟨its, rv, ht, _⟩ := I.tuple h
    obtain ⟨u, y, ei, ru, ry⟩ := vals2 rv
    subst ei
    refine ⟨(kv.1, y) :: prs, (u, y) :: pv, .cons ⟨rfl, ry⟩ r, by rw [List.length_cons, List.length_cons, hl], by rw [List.length_cons, List.length_cons, hl2], fun j u' y' e => ?_⟩
    cases j with
    | zero =>
      have e' : (u, y) = (u', y') := Option.some.inj e
      cases e'
      exact ⟨p, kv.1, rfl, rfl, ht, kV_is (P := X.prog) (w := X.w) ru⟩
    | succ j =>
      obtain ⟨b, k, e1, e2, e3⟩ := hp j u' y' (by simpa using e)
      exact ⟨b, k, by simpa using e1, by simpa using e2, e3⟩
theorem call_dictT {X : Cx} (hcalm : X.calm = true) : CallR X (.type "dict") (fun xs H Q => ∃ (a : Addr) (o : Obj) (ps : List Addr) (kvs : List (Key × V)), xs = [.ref a] ∧ H a = some (.frz o (.tup (ps.map V.ref))) ∧ o.dict = none ∧ Paired (fun p kv => SqT X.K H p [kV kv.1, kv.2]) ps kvs ∧
    ∀ p, H p = none → Q (.ref p) (upd H p (.dK (mergeK [] kvs)))) := by
  intro pins s σ H xs us Q I r q
  obtain ⟨a, o, ps, kvs, ex, hq, hod, hp, q⟩ := q
  subst ex
  obtain ⟨u, eu, rx⟩ := vals1 r
  subst eu
  cases rx
  obtain ⟨ho, hz, its, rv, pl⟩ := I.hok a _ hq
  have ei := refs_at rv
  subst ei
  rw [List.length_map] at hz
  obtain ⟨prs, pv, rel, hl, hl2, hpr⟩ := pairs_of2 I hp
  obtain ⟨o', ho', hc, n, hdat⟩ := pl
  rw [ho] at ho'
  cases ho'
  refine PySem.call_dict_pairs (knd := mixKind X.prog X.w) (kvs := prs) (PairArg.tuple a (ps.map Value.ref).toArray (fun j => ps.getD j 0) pv) (I.ok.hd hcalm) ⟨⟨o, n, ho, hc, hod, hdat⟩, by simp [hl2], fun j k v e => ?_⟩ ⟨hl.trans hl2.symm, fun i key v e => ?_⟩ (by rw [hl2]; exact hz) fun h' tk hd' k => ?_
  · obtain ⟨b, k', e1, e2, e3, e4⟩ := hpr j k v e
    have eb : ps.getD j 0 = b := by simp [List.getD, e1]
    refine ⟨by simp [e1, List.getD], ?_⟩
    simp only [eb]
    exact .inl e3
  · obtain ⟨b, k', e1, e2, e3, e4⟩ := hpr i key v e
    exact ⟨k', e2, e4⟩
  · have hm : (s.heap.objs.size == sysModules) = false := beq_eq_false_iff_ne.mpr (Nat.ne_of_gt I.big)
    have hlen : (mergeK [] kvs).length ≤ sizeLine := by
      refine Nat.le_trans (length_mergeK kvs []) ?_
      rw [List.length_nil, Nat.zero_add, rel.length, hl]
      exact hz
    exact ⟨.ref s.heap.objs.size, upd H s.heap.objs.size (.dK (mergeK [] kvs)), I.laid (t' := tk) (fun b o e => k b o (by simp) e) (Nat.le_refl _) (show ObjOk X.prog X.w _ _ _ (.dK (mergeK [] kvs)) from ⟨hlen, hm, merged [] prs, KV.merge rel .nil, hd'⟩), rfl, q _ (I.hok.fresh (Nat.le_refl _))⟩
end W5
/-! d.update(dict); dicts whose keys are nested tuples -/
namespace W5
open PySem PySem.Spec PyProof.Rows L2
open Evl (Ex)
def rUpdK : V → List V → Hp → VK → Prop := fun x vs H Q => ∃ (a b : Addr) (kvs more : List (Key × V)), x = .ref a ∧ vs = [.ref b] ∧ H a = some (.dK kvs) ∧ H b = some (.dK more) ∧ a ≠ b ∧ kvs.length + more.length ≤ sizeLine ∧ Q .non (upd H a (.dK (mergeK kvs more)))
theorem mt_update {X : Cx} : MtR X "dict.update" rUpdK := by
  intro pins s σ H x vs v us Q I rx rv h
  obtain ⟨a, b, kvs, more, rfl, rfl, ha, hb, hne, hz, q⟩ := h
  cases rx
  obtain ⟨u, rfl, ru⟩ := vals1 rv
  cases ru
  obtain ⟨z, hd, vs, rel, dd⟩ := dk_of I.hok ha
  obtain ⟨z2, hd2, vs2, rel2, dd2⟩ := dk_of I.hok hb
  refine call_meetsIn PySem.F.slot_dict_update dd.typeIs PySem.F.entry_dict_update (PySem.F.args_dict_update_2 _ _) (meets_dict_update (mixKind X.prog X.w) a b hne hd2)
    ⟨vs, vs2, dd, dd2, by rw [← rel.length, ← rel2.length]; exact hz, fun h' dd' _ hs => ?_⟩
  have he : ∃ q, h'.get? a = some q := let ⟨q, _, _, hq, _⟩ := dd'; ⟨q, hq⟩
  have hl : (mergeK kvs more).length ≤ sizeLine := Nat.le_trans (length_mergeK more kvs) hz
  exact ⟨.non, _, d_write (t' := s.toks) I (by rw [ha]; exact True.intro) hs he (dk_new hl hd (KV.merge rel2 rel) dd'), rfl, q⟩
/-! ### keys that are nested tuples -/
abbrev NK := NestedKey
mutual
theorem Im.nk {X : Cx} {pins : List (Addr × Obj)} {σ : L2.St} {H : Hp} {s : Shared} (I : Inv X pins σ H s) : ∀ (k : NK) (v : V) (u : Value), Im X.K H v k.data → RelV v u → NestedIs s.heap k u
  | .none, _, _, h, r => by
    cases h
    cases r
    exact .none
  | .num i, _, _, h, r => by
    cases h
    obtain ⟨t, rfl⟩ := r
    exact .int i t
  | .text x, _, _, h, r => by
    cases h
    obtain ⟨t, rfl⟩ := r
    exact .text x t
  | .tup ks, _, _, h, r => by
    obtain ⟨a, vs, rfl, ha, hs⟩ := Im.tup_of (show Im X.K H _ (.tuple (NestedKey.datas ks)) from h)
    cases r
    obtain ⟨its, rv, p, hz⟩ := I.tuple ha
    obtain ⟨o, ho, hc, n, hd⟩ := p
    exact .tup ho hc hd (by simpa using ImAll.nk I ks vs its hs rv)
theorem ImAll.nk {X : Cx} {pins : List (Addr × Obj)} {σ : L2.St} {H : Hp} {s : Shared} (I : Inv X pins σ H s) : ∀ (ks : List NK) (vs : List V) (us : List Value), ImAll X.K H vs (NestedKey.datas ks) → Vals vs us → NestedAll s.heap ks us
  | [], _, _, h, r => by
    cases (show ImAll X.K H _ [] from h)
    cases r
    exact .nil
  | k :: ks, _, _, h, r => by
    obtain ⟨v, ws, rfl, h1, h2⟩ := ImAll.cons_of (show ImAll X.K H _ (k.data :: NestedKey.datas ks) from h)
    cases r with
    | cons r1 r2 => exact .cons (Im.nk I k v _ h1 r1) (ImAll.nk I ks ws _ h2 r2)
end
/-- what the dict's own object holds -/
def ndF (P : Program) (w : World) (a : Addr) (xs : List (NK × Addr × Value)) : Heap → Prop := fun h => ∃ o es ep, h.get? a = some o ∧ o.ExactDict ∧ o.data = .dict es ep ∧ es.toList = xs.map (entryOfKey (nestedKind P w)) ∧ (xs.map (·.1)).Nodup
theorem ndF.stays {P : Program} {w : World} {a : Addr} {xs : List (NK × Addr × Value)} : ∀ h1 h2 : Heap, ndF P w a xs h1 → (∀ o, h1.get? a = some o → h2.get? a = some o) → ndF P w a xs h2 := fun h1 h2 ⟨o, es, ep, e, r⟩ k => ⟨o, es, ep, k o e, r⟩
def ndR (K : PySem.W.Frag) (H : Hp) : (NK × V) → (NK × Addr × Value) → Prop := fun p q => p.1 = q.1 ∧ (Im K H (.ref q.2.1) q.1.data ∧ q.1.depth ≤ 8) ∧ RelV p.2 q.2.2
/-- at a stands a dict with these nested keys -/
def Nd (P : Program) (w : World) (K : PySem.W.Frag) (H : Hp) (a : Addr) (kvs : List (NK × V)) : Prop := (a == sysModules) = false ∧ kvs.length ≤ sizeLine ∧ ∃ xs, H a = some (.ext (ndF P w a xs)) ∧ Paired (ndR K H) kvs xs
section
variable {K : PySem.W.Frag} {H H' : Hp} {kvs : List (NK × V)} {xs : List (NK × Addr × Value)}
theorem nd_val (r : Paired (ndR K H) kvs xs) (k : NK) : RelO (valV kvs k) ((atKey xs k).map (·.2)) := by
  induction r with
  | nil => exact True.intro
  | @cons p q ps qs h t ih =>
    obtain ⟨h1, _, h2⟩ := h
    by_cases e : p.1 = k
    · have e' : q.1 = k := h1.symm.trans e
      have b : atKey (q :: qs) k = some q.2 := by simp [atKey, List.find?_cons, e']
      rw [valV_pos e, b]; exact h2
    · have e' : ¬ q.1 = k := fun z => e (h1.trans z)
      have b : atKey (q :: qs) k = atKey qs k := by simp [atKey, List.find?_cons, e']
      rw [valV_neg e, b]; exact ih
theorem nd_repl (r : Paired (ndR K H) kvs xs) (k : NK) {y : V} {u : Value} (ry : RelV y u) : Paired (ndR K H) (kvs.map fun kv => if kv.1 = k then (kv.1, y) else kv) (xs.map (putAt k u)) := by
  induction r with
  | nil => exact .nil
  | @cons p q ps qs h t ih =>
    rw [List.map_cons, List.map_cons]
    refine .cons ?_ ih
    obtain ⟨h1, h2, h3⟩ := h
    unfold putAt
    by_cases e : p.1 = k
    · rw [if_pos e, if_pos (h1.symm.trans e)]; exact ⟨h1, h2, ry⟩
    · rw [if_neg e, if_neg (fun z => e (h1.trans z))]; exact ⟨h1, h2, h3⟩
theorem nd_put (r : Paired (ndR K H) kvs xs) (k : NK) {b : Addr} {y : V} {u : Value} (hb : Im K H (.ref b) k.data ∧ k.depth ≤ 8) (ry : RelV y u) : Paired (ndR K H) (putK kvs k y) (storedH xs k b u) := by
  have e : (kvs.any fun kv => decide (kv.1 = k)) = (atKey xs k).isSome := by
    rw [valV_any, (nd_val r k).isSome_eq, Option.isSome_map]
  unfold putK storedH
  rw [e]
  by_cases q : (atKey xs k).isSome = true
  · rw [if_pos q, if_pos q]; exact nd_repl r k ry
  · rw [if_neg q, if_neg q]; exact Paired.snoc r ⟨rfl, hb, ry⟩
theorem nd_keeps (t : Tk H H') (r : Paired (ndR K H) kvs xs) : Paired (ndR K H') kvs xs := Paired.mapP r fun _ _ z => ⟨z.1, ⟨z.2.1.1.mono t, z.2.1.2⟩, z.2.2⟩
end
theorem Nd.keep {P : Program} {w : World} {K : PySem.W.Frag} {H H' : Hp} {a : Addr} {kvs : List (NK × V)} (h : Nd P w K H a kvs) (e : H' a = H a) (t : Tk H H') : Nd P w K H' a kvs :=
  let ⟨h1, h2, xs, h3, h4⟩ := h
  ⟨h1, h2, xs, e.trans h3, nd_keeps t h4⟩
theorem Nd.no_tup {P : Program} {w : World} {K : PySem.W.Frag} {H : Hp} {a : Addr} {kvs : List (NK × V)} (h : Nd P w K H a kvs) : ∀ xs, ¬ Rd H a (.tup xs) :=
  let ⟨_, _, _, h3, _⟩ := h
  W5.no_tup h3 (fun _ z => nomatch z) fun _ _ z => nomatch z
section
variable {X : Cx} {pins : List (Addr × Obj)} {σ : L2.St} {H : Hp} {s : Shared} {a b : Addr} {k : NK} {kvs : List (NK × V)}
theorem Nd.of (I : Inv X pins σ H s) (h : Nd X.prog X.w X.K H a kvs) : ∃ xs, Paired (ndR X.K H) kvs xs ∧ s.heap.DictOfH (nestedKind X.prog X.w) a xs ∧ xs.length = kvs.length := by
  obtain ⟨h1, h2, xs, h3, h4⟩ := h
  obtain ⟨⟨o, es, ep, e1, e2, e3, e4, e5⟩, _, _⟩ := I.hok a _ h3
  refine ⟨xs, h4, ⟨o, es, ep, e1, e2, e3, e4, ?_, e5⟩, (Paired.length h4).symm⟩
  have all : ∀ {l : List (NK × V)} {m : List (NK × Addr × Value)}, Paired (ndR X.K H) l m → ∀ x ∈ m, (nestedKind X.prog X.w).is s.heap x.1 x.2.1 := by
    intro l m q
    induction q with
    | nil => intro x hx; exact nomatch hx
    | @cons p q ps qs hq t ih =>
      intro x hx
      rcases List.mem_cons.mp hx with e | hx
      · subst e
        exact ⟨Im.nk I _ _ _ hq.2.1.1 rfl, hq.2.1.2⟩
      · exact ih x hx
  exact all h4
theorem nd_room {k : Nat} (hr : Room k X.A) : (nestedKind X.prog X.w).room X.A.in1 := by
  have := hr.un
  show X.A.in1.units + 8 < cLine
  have e : X.A.in1.units ≤ X.A.units + 1 := by first | exact Nat.le_refl _ | simp [Around.in1]
  omega
theorem Im.isK (I : Inv X pins σ H s) (hb : Im X.K H (.ref b) k.data) (hk : k.depth ≤ 8) : (nestedKind X.prog X.w).is s.heap k b := ⟨Im.nk I _ _ _ hb rfl, hk⟩
def rNdNotIn (P : Program) (w : World) (K : PySem.W.Frag) : R2 := fun x y H Q => ∃ a b k kvs, x = .ref b ∧ y = .ref a ∧ Nd P w K H a kvs ∧ Im K H (.ref b) k.data ∧ k.depth ≤ 8 ∧ Q (.bl (!(valV kvs k).isSome)) H
theorem op_ndNotIn {n : Nat} (hr : Room n X.A) : OpR X (compareOp .NotIn) (rNdNotIn X.prog X.w X.K) := by
  intro pins s σ H x y v u Q I rx ry h
  obtain ⟨a, b, k, kvs, rfl, rfl, hn, hb, hk, q⟩ := h
  cases rx
  cases ry
  obtain ⟨xs, r, m, _⟩ := hn.of I
  refine wpAny_notIn_heap (nd_room hr) (hb.isK I hk) hn.1 m ?_
  have e := (nd_val r k).isSome_eq
  rw [Option.isSome_map] at e
  exact ⟨.bl _, H, I.tok _, by rw [e]; rfl, q⟩
def rNdGet (P : Program) (w : World) (K : PySem.W.Frag) : R2 := fun x y H Q => ∃ a b k kvs v, x = .ref a ∧ y = .ref b ∧ Nd P w K H a kvs ∧ Im K H (.ref b) k.data ∧ k.depth ≤ 8 ∧ valV kvs k = some v ∧ Q v H
theorem nd_get {n : Nat} (hr : Room n X.A) {v : V} {Q : VK} (I : Inv X pins σ H s) (hn : Nd X.prog X.w X.K H a kvs) (hb : Im X.K H (.ref b) k.data) (hk : k.depth ≤ 8) (e : valV kvs k = some v) (q : Q v H) :
    wpAny (model X.prog X.w) X.A (getItem (.ref a) (.ref b)) (EP X pins σ Q) X.xe s := by
  obtain ⟨xs, r, m, _⟩ := hn.of I
  obtain ⟨w', hw, rw'⟩ := RelO.some_of (v := v) (o := (atKey xs k).map (·.2)) (by rw [← e]; exact nd_val r k)
  obtain ⟨p, hp, hp2⟩ := Option.map_eq_some_iff.mp hw
  refine wpAny_getItem_heap (nd_room hr) (hb.isK I hk) m hp ?_
  rw [hp2]
  exact ⟨v, H, I.tok _, rw', q⟩
def rNdSet (P : Program) (w : World) (K : PySem.W.Frag) : TSet := fun x y v H Q => ∃ a b k kvs, x = .ref a ∧ y = .ref b ∧ Nd P w K H a kvs ∧ Im K H (.ref b) k.data ∧ k.depth ≤ 8 ∧ kvs.length < sizeLine ∧ ∀ H', Nd P w K H' a (putK kvs k v) → (∀ c, c ≠ a → H' c = H c) → Tk H H' → Q H'
theorem set_nd {n : Nat} (hr : Room n X.A) : PSet X (rNdSet X.prog X.w X.K) := by
  intro pins s σ H o i v ov iv u Q I ro ri rv h
  obtain ⟨a, b, k, kvs, rfl, rfl, hn, hb, hk, hz, q⟩ := h
  cases ro
  cases ri
  obtain ⟨xs, r, m, hl⟩ := hn.of I
  obtain ⟨h1, h2, xs0, h3, h4⟩ := id hn
  refine wpAny_setItem_heap (hsz := by omega) (nd_room hr) (hb.isK I hk) m fun h' dd' hs => ?_
  obtain ⟨q', es, ep, hq, e2, e3, e4, _, e5⟩ := dd'
  have t : Tk H (upd H a (.ext (ndF X.prog X.w a (storedH xs k b u)))) := Tk.upd hn.no_tup
  refine ⟨_, d_write I (by rw [h3]; exact True.intro) hs ⟨q', hq⟩ (show ObjOk X.prog X.w _ _ _ (.ext _) from ⟨⟨q', es, ep, hq, e2, e3, e4, e5⟩, ⟨q', hq⟩, ndF.stays⟩), q _ ⟨h1, ?_, _, upd_same .., nd_keeps t (nd_put r k ⟨hb, hk⟩ rv)⟩ (fun c hc => upd_ne hc) t⟩
  have := length_putK kvs k v
  omega
def tDNewN (P : Program) (w : World) (K : PySem.W.Frag) : TE := fun _ H Q => ∀ p H', H p = none → Nd P w K H' p [] → (∀ c, c ≠ p → H' c = H c) → Ex H H' → Q (.ref p) H'
theorem pe_dnewN {pos : Pos} : PE X (.Dict [] [] pos) (tDNewN X.prog X.w X.K) := ⟨fun pins s σ H Q I h => by
  have hf := I.hok.fresh (Nat.le_refl s.heap.objs.size)
  refine wpAny_Dict_empty ⟨.ref s.heap.objs.size, _, I.laid (a := s.heap.objs.size) (o := .ext (ndF X.prog X.w s.heap.objs.size [])) (t' := s.toks) (fun _ _ q => Heap.get?_push_of_some _ q) (Nat.le_refl _) ?_, rfl, h _ _ hf ⟨beq_eq_false_iff_ne.mpr (Ne.symm (Nat.ne_of_lt I.big)), Nat.zero_le _, [], upd_same .., .nil⟩ (fun c hc => upd_ne hc) (Ex.new hf)⟩
  exact ⟨⟨_, #[], 0, Heap.get?_push_size _ rfl, ⟨rfl, rfl, rfl⟩, rfl, rfl, List.nodup_nil⟩, ⟨_, Heap.get?_push_size _ rfl⟩, ndF.stays⟩⟩
end
end W5
/-! sorted of pairs (name, number) whose names ascend -/
namespace W5
open PySem PySem.Spec PyProof.Rows L2 SrtO M5
def NM : List Str := ["Aa", "Bb", "Cc", "Dd", "Ee"]
def nmI (x : Str) : Int := (NM.idxOf x : Nat)
theorem nm_lt : ∀ x ∈ NM, ∀ y ∈ NM, (decide (x.cps.toList < y.cps.toList) = decide (nmI x < nmI y)) ∧ (decide (x = y) = decide (nmI x = nmI y)) := by decide +kernel
def IsPairN (h : Heap) (v : Value) (x : Str) (y : Int) : Prop := ∃ a o t u n, v = .ref a ∧ h.get? a = some o ∧ o.cls = .type "tuple" ∧ o.data = .seq #[.str x t, .int y u] n
theorem IsPairN.keeps {h h' : Heap} {v : Value} {x : Str} {y : Int} (p : IsPairN h v x y) (k : ∀ b o, h.get? b = some o → o.cls = .type "tuple" → h'.get? b = some o) : IsPairN h' v x y := by
  obtain ⟨a, o, t, u, n, e, ho, hc, hd⟩ := p
  exact ⟨a, o, t, u, n, e, k _ _ ho hc, hc, hd⟩
/-- the sort's key of a pair in a heap -/
def keyN (h : Heap) : Value → Int × Int
  | .ref a => match h.get? a with
    | some o => match o.data with
      | .seq its _ => match its.toList with
        | [.str x _, .int y _] => (nmI x, y)
        | _ => (0, 0)
      | _ => (0, 0)
    | none => (0, 0)
  | _ => (0, 0)
theorem IsPairN.key {h : Heap} {v : Value} {x : Str} {y : Int} (p : IsPairN h v x y) : keyN h v = (nmI x, y) := by
  obtain ⟨a, o, t, u, n, rfl, ho, hc, hd⟩ := p
  simp only [keyN, ho, hd]
section
variable {prog : Program} {w : World} {A : Around} {s : Shared}
theorem pairN_cmp {vs : List Value} {k : Value → Int × Int} (hp : ∀ v ∈ vs, ∃ x ∈ NM, ∃ y, IsPairN s.heap v x y ∧ k v = (nmI x, y)) : Cmp prog w A s (tuples' true) (fun p => p.1 ∈ vs) (lt2 fun v u => lexB (k v) (k u)) := by
  intro p q hm hm'
  obtain ⟨x, hx, y, h1, k1⟩ := hp _ hm
  obtain ⟨x', hx', y', h2, k2⟩ := hp _ hm'
  show wpAny (model prog w) A (keyLt' (tuples' true) p.1 q.1) (fun r s' => s' = s ∧ r = lexB (k p.1) (k q.1)) (fun _ _ => False) s
  obtain ⟨n1, n2⟩ := nm_lt x hx x' hx'
  rw [k1, k2]
  unfold lexB
  obtain ⟨a, o, t, u, n, e, ho, hc, hd⟩ := h1
  obtain ⟨a', o', t', u', n', e', ho', hc', hd'⟩ := h2
  rw [e, e']
  refine PySem.W.kat_lt ho hd ho' hd' ?_
  show PySem.W.KatLex prog w A true (decide (2 < 2)) _ [(.str x t, .str x' t'), (.int y u, .int y' u')] 0 s
  refine PySem.W.kat_cons (SeqAt.EqAt.str_str x t x' t' prog w _ _ ?_)
  refine PySem.W.kat_go (fun e1 => ?_) (fun e1 => ?_)
  · have ex : x = x' := by simpa using e1
    refine PySem.W.kat_yes (PySem.W.kat_cons (SeqAt.EqAt.int_int y u y' u' prog w _ _ ?_))
    refine PySem.W.kat_go (fun e2 => ?_) (fun e2 => ?_)
    · have ey : y = y' := by simpa using e2
      refine PySem.W.kat_yes (PySem.W.kat_nil ⟨rfl, ?_⟩)
      subst ex ey
      simp
    · refine PySem.W.kat_no (PySem.W.kat_one _ _ (PyProof.Rows.lt_int ?_))
      refine (show s = s ∧ decide (y < y') = _ from ⟨rfl, ?_⟩)
      subst ex
      simp
  · have ex : ¬ x = x' := by simpa using e1
    refine PySem.W.kat_no (oneLt_str ⟨rfl, ?_⟩)
    rw [n1]
    have : ¬ nmI x = nmI x' := by
      rw [decide_eq_false ex] at n2
      exact of_decide_eq_false n2.symm
    simp [this]
theorem firstsN_of {h : Heap} : ∀ {vs : List Value}, (∀ v ∈ vs, ∃ x y, IsPairN h v x y) → ∃ fs : List Value, PySem.W.KatTups h vs fs ∧ fs.length = vs.length ∧ ∀ f ∈ fs, ∃ x t, f = Value.str x t
  | [], _ => ⟨[], PySem.W.KatTups.nil, rfl, fun _ hm => by simp at hm⟩
  | v :: vs, hp => by
    obtain ⟨fs, h1, h2, h3⟩ := firstsN_of (vs := vs) fun v' hm => hp v' (List.mem_cons_of_mem _ hm)
    obtain ⟨x, y, a, o, t, u, n, e, ho, hc, hd⟩ := hp v (List.mem_cons_self ..)
    subst e
    refine ⟨.str x t :: fs, PySem.W.KatTups.cons ho hc hd rfl h1, by rw [List.length_cons, List.length_cons, h2], fun f hm => ?_⟩
    rcases List.mem_cons.mp hm with rfl | hm
    · exact ⟨x, t, rfl⟩
    · exact h3 f hm
theorem sorted_pairsN {l : Addr} {vs : List Value} {Q : Value → Shared → Prop} {E : Value → Shared → Prop} (hl : s.heap.IsList l vs.toArray) (hz : vs.length ≤ sizeLine) (hp : ∀ v ∈ vs, ∃ x ∈ NM, ∃ y, IsPairN s.heap v x y)
    (ho : Srtd (fun v u => lexB (keyN s.heap v) (keyN s.heap u)) vs)
    (h : ∀ (h' : Heap) (d : Addr), (∀ b o, s.heap.get? b = some o → h'.get? b = some o) → s.heap.objs.size ≤ d → (∃ n, h'.get? d = some (seqObj "list" vs.toArray n)) → Q (.ref d) { s with heap := h' }) :
    wpAny (model prog w) A (call (.builtin "sorted") [.ref l]) Q E s := by
  refine sorted_ord (swo_lex (keyN s.heap)) hl hz (fun h2 h₁ a ha kk => ?_) fun out hs hb => ?_
  · intro h' keep
    have hp' : ∀ v ∈ vs, ∃ x ∈ NM, ∃ y, IsPairN h' v x y ∧ keyN s.heap v = (nmI x, y) := fun v hm => by
      obtain ⟨x, hx, y, p⟩ := hp v hm
      refine ⟨x, hx, y, p.keeps fun b o e c => keep b o (fun z => ?_) (kk b o e).2, p.key⟩
      have e' := (kk b o e).2
      rw [z, ha] at e'
      cases e'
      exact absurd (Value.type.inj c) (by decide)
    obtain ⟨fs, h1, h2', h3⟩ := firstsN_of (h := h') (vs := vs) fun v hm => by
      obtain ⟨x, _, y, p, _⟩ := hp' v hm
      exact ⟨x, y, p⟩
    refine ⟨tuples' true, fun Q E hq => ?_, pairN_cmp (s := { s with heap := h' }) hp'⟩
    refine PySem.W.kat_kind (T := .type "str") h1 (by omega) (fun f hm => ?_) (by rfl) ?_
    · obtain ⟨x, t, rfl⟩ := h3 f hm
      exact PySem.W.Looks.now
    · have e : (Value.type "str" != Value.type "tuple") = true := by first | decide +kernel | rfl | decide
      rw [e]
      exact hq
  · have eo : out = vs := stb_uniq (swo_lex (keyN s.heap)) hs ho hb
    subst eo
    exact h _ _ (fun b o e => sortedAll_old e) (Nat.le_succ _) (sortedAll_at s.heap out out.toArray)
end
/-- sorted(xs), xs a list of pairs (name, number), the names ascending: the same list anew -/
def rSortedN (K : PySem.W.Frag) : List V → Hp → VK → Prop := fun vs H Q => ∃ (a : Addr) (ps : List Addr) (ks : List (Str × Int)), vs = [V.ref a] ∧ SqL K H a (ps.map V.ref) ∧ Paired (fun p k => SqT K H p [.str k.1, .int k.2]) ps ks ∧ (∀ k ∈ ks, k.1 ∈ NM) ∧ ks.Pairwise (fun k l => NM.idxOf k.1 < NM.idxOf l.1) ∧
  ∀ p, H p = none → Q (.ref p) (upd H p (.lst (ps.map V.ref)))
theorem pairedN {X : Cx} {pins : List (Addr × Obj)} {σ : L2.St} {H : Hp} {s : Shared} (I : Inv X pins σ H s) : ∀ {ps : List Addr} {ks : List (Str × Int)}, Paired (fun p k => SqT X.K H p [.str k.1, .int k.2]) ps ks → Paired (fun v k => IsPairN s.heap v k.1 k.2) (ps.map Value.ref) ks
  | _, _, .nil => .nil
  | _, _, .cons h t => by
    obtain ⟨its2, r2, ⟨o, ho, hc, n, hd⟩, _⟩ := I.tuple h
    obtain ⟨u1, u2, rfl, ri, rj⟩ := vals2 r2
    obtain ⟨t1, rfl⟩ := ri
    obtain ⟨t2, rfl⟩ := rj
    exact .cons ⟨_, o, t1, t2, n, rfl, ho, hc, hd⟩ (pairedN I t)
theorem srtd_of {h : Heap} {vs : List Value} {ks : List (Str × Int)} (r : Paired (fun v k => IsPairN h v k.1 k.2) vs ks) (hk : ks.Pairwise (fun k l => NM.idxOf k.1 < NM.idxOf l.1)) : Srtd (fun v u => lexB (keyN h v) (keyN h u)) vs ∧ ∀ v ∈ vs, ∃ k ∈ ks, IsPairN h v k.1 k.2 := by
  induction r with
  | nil => exact ⟨List.Pairwise.nil, fun v hv => nomatch hv⟩
  | @cons v k vs ks hp t ih =>
    obtain ⟨h1, h2⟩ := List.pairwise_cons.mp hk
    obtain ⟨i1, i2⟩ := ih h2
    refine ⟨List.pairwise_cons.mpr ⟨fun u hu => ?_, i1⟩, fun u hu => ?_⟩
    · obtain ⟨l, hl, p⟩ := i2 u hu
      have := h1 l hl
      show lexB (keyN h u) (keyN h v) = false
      rw [hp.key, p.key]
      refine lexB_no.mpr ?_
      show ¬ (nmI l.1 < nmI k.1 ∨ _)
      simp only [nmI]
      omega
    · rcases List.mem_cons.mp hu with rfl | hu
      · exact ⟨k, List.mem_cons_self .., hp⟩
      · obtain ⟨l, hl, p⟩ := i2 u hu
        exact ⟨l, List.mem_cons_of_mem _ hl, p⟩
theorem cr_sortedN {X : Cx} : CallR X (.builtin "sorted") (rSortedN X.K) := by
  intro pins s σ H vs us Q I r h
  obtain ⟨a, ps, ks, rfl, hs, hp, hn, hk, q⟩ := h
  obtain ⟨its, rv, hl, hz⟩ := I.list hs
  obtain ⟨u, rfl, ru⟩ := vals1 r
  obtain rfl : u = Value.ref a := ru
  have ei := refs_at rv
  subst ei
  rw [List.length_map] at hz
  obtain ⟨h1, h2⟩ := srtd_of (pairedN I hp) hk
  refine sorted_pairsN hl.isList (by rw [List.length_map]; exact hz) (fun v hv => ?_) h1 fun h' d kp hd ⟨n, hn⟩ => ?_
  · obtain ⟨k, hk, p⟩ := h2 v hv
    exact ⟨k.1, hn k hk, k.2, p⟩
  · exact ⟨.ref d, upd H d (.lst (ps.map V.ref)), I.laid (t' := s.toks) kp hd ⟨by rw [List.length_map]; exact hz, ps.map Value.ref, n, rv, hn⟩, rfl, q d (I.hok.fresh hd)⟩
end W5
/-! further rules -/
namespace W5
open PySem PySem.Spec PyProof.Rows L2
open Evl (Ex)
/-! ### t[::-1] of a tuple -/
section
variable {prog : Program} {w : World} {A : Around} {E : Value → Shared → Prop} {s : Shared}
theorem sliceApplied_rev {sl : Addr} {tk : Tok} {n : Nat} {Q : Int × Int × Nat → Shared → Prop} (hs : s.heap.IsSliceOf sl .none .none (.int (-1) tk))
    (h : Q ((n : Int) - 1, -1, n) s) : wpAny (model prog w) A (Builtin.Slice.sliceApplied (.ref sl) (pure (n : Int))) Q E s := by
  obtain ⟨os, hos, hcs, hds⟩ := id hs
  unfold Builtin.Slice.sliceApplied Builtin.Slice.sliceFields
  refine wpAny_bind (wpAny_bind (wpAny_field hos hds (x := .none) rfl (wpAny_bind (wpAny_field hos hds (x := .none) rfl (wpAny_bind (wpAny_field hos hds (x := .int (-1) tk) rfl (wpAny_pure ?_)))))))
  refine wpAny_bind (HT.slicePart_ (.int (-1) tk) ?_)
  show wpAny _ _ (if ((-1 : Int) == 0) = true then _ else _) _ _ s
  rw [if_neg (by decide)]
  refine wpAny_bind (HT.slicePart_ .none (wpAny_bind (HT.slicePart_ .none (wpAny_bind (wpAny_pure ?_)))))
  show wpAny _ _ (match Builtin.Slice.sliceAdjust none none (-1) (n : Int) with | (lo, hi) => pure (lo, (-1 : Int), Builtin.Slice.slicePlaces lo hi (-1))) _ _ s
  have e : Builtin.Slice.sliceAdjust none none (-1) (n : Int) = ((n : Int) - 1, -1) := by
    unfold Builtin.Slice.sliceAdjust
    simp
  rw [e]
  show wpAny _ _ (pure ((n : Int) - 1, (-1 : Int), Builtin.Slice.slicePlaces ((n : Int) - 1) (-1) (-1))) _ _ s
  have e2 : Builtin.Slice.slicePlaces ((n : Int) - 1) (-1) (-1) = n := by
    unfold Builtin.Slice.slicePlaces
    have h1 : ¬ ((-1 : Int) > 0) := by decide
    have h2 : (- -1 : Int) = 1 := by decide
    simp only [h1, if_false, h2, Int.ediv_one]
    split <;> omega
  rw [e2]
  exact wpAny_pure h
theorem fm_congr {α β : Type} {f g : α → Option β} : ∀ {l : List α}, (∀ x ∈ l, f x = g x) → l.filterMap f = l.filterMap g
  | [], _ => rfl
  | x :: l, h => by
    rw [List.filterMap_cons, List.filterMap_cons, h x (List.mem_cons_self ..), fm_congr fun y hy => h y (List.mem_cons_of_mem _ hy)]
theorem pick_rev (xs : Array Value) : ((List.range xs.size).filterMap fun (m : Nat) => xs[(((xs.size : Int) - 1) + (m : Int) * (-1)).toNat]?).toArray = xs.toList.reverse.toArray := by
  have e : ((List.range xs.size).filterMap fun (m : Nat) => xs[(((xs.size : Int) - 1) + (m : Int) * (-1)).toNat]?) = ((List.range xs.size).map fun k => xs.size - 1 - k).filterMap (xs[·]?) := by
    rw [List.filterMap_map]
    refine fm_congr fun m hm => ?_
    have : m < xs.size := List.mem_range.mp hm
    have e1 : ((xs.size : Int) - 1 + (m : Int) * (-1)).toNat = xs.size - 1 - m := by omega
    rw [e1]
    rfl
  rw [e, PySem.W.krv_range, List.filterMap_reverse, PySem.W.krv_all]
theorem getItem_tuple_rev {t sl : Addr} {items : Array Value} {tk : Tok} {Q : Value → Shared → Prop} (ht : IsTup s.heap t items) (hs : s.heap.IsSliceOf sl .none .none (.int (-1) tk))
    (h : Q (.ref s.heap.objs.size) { s with heap := s.heap.push { cls := .type "tuple", data := .seq items.toList.reverse.toArray } })
    (hsz : items.size ≤ sizeLine) : wpAny (model prog w) A (getItem (.ref t) (.ref sl)) Q E s := by
  have htake : sizeOk (.seq items.toList.reverse.toArray) := by
    show items.toList.reverse.toArray.size ≤ sizeLine
    rw [List.size_toArray, List.length_reverse, Array.length_toList]
    exact hsz
  obtain ⟨os, hos, hcs, hds⟩ := id hs
  have hTs : s.TypeIs (.ref sl) "slice" := ⟨os, hos, hcs⟩
  unfold getItem
  try with_reducible refine wpAny_holding ?_
  first | refine wpAny_bind (wpAny_pure ?_) | skip
  refine wpAny_bind (wpAny_sequenceKey ht.typeIs (by decide) ?_)
  refine wpAny_bind (wpAny_callSpecial?_slot (name := Str.ofString "__getitem__") ht.typeIs PyProof.Rows.slot_tuple_getitem
    (wpAny_call_entry PyProof.Rows.slot_tuple_getitem ht.typeIs entry_tuple_getitem ?_ (args_tuple_getitem _ _)))
  show wpAny _ _ (Builtin.Tuple.tupleItemsOf (.ref t) >>= _) _ _ s
  refine wpAny_bind (tupleItemsOf_ ht ?_)
  refine wpAny_bind (wpAny_typeOf hTs ?_)
  rw [if_pos (by decide)]
  refine wpAny_bind (sliceApplied_rev hs ?_)
  have hno : ¬ ((((items.size : Int) - 1 == 0 && (-1 : Int) == 1 && items.size == items.size)) = true) := by simp
  show wpAny _ _ (if ((items.size : Int) - 1 == 0 && (-1 : Int) == 1 && items.size == items.size) = true then _ else _) _ _ s
  rw [if_neg hno, pick_rev]
  first
    | exact wpAny_bind (m := Builtin.Tuple.tupleExact _) (wpAny_newObj_type (wpAny_pure ⟨_, rfl, wpAny_pure h⟩) htake)
    | exact wpAny_bind (m := Builtin.Tuple.tupleExact _) (wpAny_newObj_type (wpAny_bind (wpAny_pure (wpAny_pure ⟨_, rfl, wpAny_pure h⟩))) htake)
end
def tRevT (K : PySem.W.Frag) (te : TE) : TE := fun σ H Q => te σ H fun x H1 => ∃ a xs, x = .ref a ∧ SqT K H1 a xs ∧ ∀ p, H1 p = none → Q (.ref p) (upd H1 p (.tup xs.reverse))
section
variable {X : Cx}
theorem pe_revT {e : Expr} {te : TE} {k : Nat} {p1 p2 p3 pos : Pos} (he : PE X e te) : PE X (.Subscript e (.Slice none none (some (.UnaryOp .USub (.Constant (.int 1) k p1) p2)) p3) pos) (tRevT X.K te) := by
  refine ⟨fun pins s σ H Q I h => ?_⟩
  refine Subscript_ (thn (he.run pins s σ H _ I h) fun v s1 ⟨x, H1, I1, r1, q1⟩ => ?_)
  obtain ⟨a, xs, ex, hx, q⟩ := q1
  subst ex
  cases r1
  have hst : PO X (some (.UnaryOp .USub (.Constant (.int 1) k p1) p2)) (tPart (tUn (rU fun i => .int (-i)) (tC (.int 1)))) := po_some (pe_un un_neg pe_int)
  refine wpAny_Slice (thn (po_none.run pins s1 σ H1 (fun o H2 => o = none ∧ H2 = H1) I1 ⟨rfl, rfl⟩) fun vl s2 ⟨l, H2, I2, pl, el, e2⟩ => ?_)
  subst el e2
  refine thn (po_none.run pins s2 σ H2 (fun o H3 => o = none ∧ H3 = H2) I2 ⟨rfl, rfl⟩) fun vu s3 ⟨u, H3, I3, pu, eu, e3⟩ => ?_
  subst eu e3
  refine thn (hst.run pins s3 σ H3 (fun o H4 => o = some (-1) ∧ H4 = H3) I3 ⟨1, rfl, -1, rfl, rfl, rfl⟩) fun vs s4 ⟨o, H4, I4, ps, eo, e4⟩ => ?_
  subst eo e4
  cases pl
  cases pu
  cases ps with
  | int i tk =>
    have I5 : Inv X pins σ H4 { s4 with heap := s4.heap.push { cls := .type "slice", data := .fields #[.none, .none, .int (-1) tk] } } := I4.kept (t' := s4.toks) fun b ob q => Heap.get?_push_of_some _ q
    obtain ⟨its, r, ht, hz⟩ := I5.tuple hx
    have hlen := r.length
    show wpAny (model X.prog X.w) X.A (subscriptTail e (.Slice none none (some (.UnaryOp .USub (.Constant (.int 1) k p1) p2)) p3) (.ref a) (.ref s4.heap.objs.size)) (EP X pins σ Q) X.xe { s4 with heap := s4.heap.push { cls := .type "slice", data := .fields #[.none, .none, .int (-1) tk] } }
    refine tail_any (ops := [.ref a, .ref s4.heap.objs.size]) ht.typeIs (PyProof.Rows.slot_tuple_getitem.lookup) ?_ (by with_unfolding_all rfl)
    refine getItem_tuple_rev ht (Heap.IsSliceOf.new _ .none .none (.int (-1) tk)) ?_ (by rw [List.size_toArray]; omega)
    refine ⟨.ref _, _, I5.laid (t' := s4.toks) (o := .tup xs.reverse) (fun b ob q => Heap.get?_push_of_some _ q) (Nat.le_refl _) ?_, rfl, q _ (I5.hok.fresh (Nat.le_refl _))⟩
    exact ⟨by rw [List.length_reverse]; exact hz, its.reverse, r.reverse, IsTup.new _ _⟩
/-! ### a dict read in place: frozen when the expression is done, thawed when the statement is done -/
def tFrz (te : TE) : TE := fun σ H Q => te σ H fun x H1 => ∃ d u, H1 d = some u ∧ Mut (some u) ∧ ∀ od, Q x (upd H1 d (.frz od u))
theorem pe_frz {e : Expr} {te : TE} (h : PE X e te) : PE X e (tFrz te) := by
  refine ⟨fun pins s σ H Q I hw => ?_⟩
  refine thn (h.run pins s σ H _ I hw) fun v s1 ⟨x, H1, I1, r, d, u, hd, mu, q⟩ => ?_
  obtain ⟨od, I2⟩ := I1.lock hd mu
  exact ⟨x, _, I2, r, q od⟩
def Thw (H H' : Hp) (q : Hp → Prop) : Prop := ∃ d od u, H' d = some (.frz od u) ∧ (∀ o' u', H d ≠ some (.frz o' u')) ∧ q (upd H' d u)
def tThaw (t : TS) : TS := fun D σ H => t ⟨fun σ' H' => Thw H H' (D.nx σ'), fun v H' => Thw H H' (D.rt v), fun σ' H' => Thw H H' (D.bk σ'), fun σ' H' => Thw H H' (D.ct σ')⟩ σ H
theorem ps_thaw {st : Stmt} {t : TS} (h : PS X st t) : PS X st (tThaw t) := by
  refine ⟨fun pins s σ H D I hw => ?_⟩
  have nf : ∀ {d : Addr}, (∀ o' u', H d ≠ some (.frz o' u')) → ∀ o' u', X.H_0 d ≠ some (.frz o' u') := fun {d} hd o' u' e => hd o' u' (I.base.frzs d o' u' e)
  refine thn (h.run pins s σ _ _ I hw) fun f s1 q => ?_
  cases f with
  | next => obtain ⟨σ', H', I2, d, od, u, e, hd, q⟩ := q; exact ⟨σ', _, I2.unlock e (nf hd), q⟩
  | brk => obtain ⟨σ', H', I2, d, od, u, e, hd, q⟩ := q; exact ⟨σ', _, I2.unlock e (nf hd), q⟩
  | cont => obtain ⟨σ', H', I2, d, od, u, e, hd, q⟩ := q; exact ⟨σ', _, I2.unlock e (nf hd), q⟩
  | ret v => obtain ⟨x, σ', H', I2, r, d, od, u, e, hd, q⟩ := q; exact ⟨x, σ', _, I2.unlock e (nf hd), r, q⟩
theorem for_vals {d : Addr} {o : Obj} {kvs : List (Key × V)} {g : TG} {tb : TS} {D : Ends} {σ : L2.St} {H : Hp} (Pv : Nat → L2.St → Hp → Prop) (h0 : Pv 0 σ H) (hl : ∀ i σ H, i ≤ kvs.length → Pv i σ H → H d = some (.frz o (.dK kvs)))
    (hs : ∀ i k x σ H, kvs[i]? = some (k, x) → Pv i σ H → g x σ H fun σ2 H2 => tb { D with nx := Pv (i + 1), ct := Pv (i + 1), bk := D.nx } σ2 H2) (hd : ∀ σ H, Pv kvs.length σ H → D.nx σ H) :
    ∃ W : Nat → Nat → L2.St → Hp → Prop, (∃ m, W 0 m σ H) ∧ ∀ i m σ H, W i m σ H →
      ((Itd d o kvs).stop i H ∧ D.nx σ H) ∨ ((Itd d o kvs).go i H ∧ ∃ N : L2.St → Hp → Prop, (∀ σ' H', N σ' H' → ∃ m', m' < m ∧ W (i + 1) m' σ' H') ∧ ∀ x H', (Itd d o kvs).yld i H x H' → g x σ H' fun σ2 H2 => tb { D with nx := N, ct := N, bk := D.nx } σ2 H2) := by
  refine ⟨fun i m σ H => m = kvs.length - i ∧ i ≤ kvs.length ∧ Pv i σ H, ⟨kvs.length, by simp, Nat.zero_le _, h0⟩, ?_⟩
  rintro i m σ H ⟨rfl, hi, p⟩
  have q := hl i σ H hi p
  by_cases hlt : i < kvs.length
  · refine .inr ⟨⟨q, hlt⟩, Pv (i + 1), fun σ' H' p' => ⟨kvs.length - (i + 1), by omega, rfl, hlt, p'⟩, fun x H' y => ?_⟩
    obtain ⟨rfl, k, e⟩ := y
    exact hs i k x σ _ e p
  · have e : i = kvs.length := by omega
    subst e
    exact .inl ⟨⟨q, Nat.le_refl _⟩, hd σ H p⟩
/-! ### f(k = v, ..) without positional arguments -/
theorem pe_callK0 {CX : CXT} {k : Nat} {f : Addr} {fd : FuncData} {ps ks : List Str} {sp : Sp} {E : XK} {x : Str} {p pos : Pos} {kws : List Keyword} {tk : TA} {g : List Value → List Value → List Value} {gV : List V → List V → List V}
    (F : FnOk X.prog X.w X.K X.mg X.base CX k f fd ps sp) (hr : Room k X.A) (hg : Gl X x) (hm : X.mg x = some (.ref f)) (hk : PySem.W.keepIn X.K (.ref f) = true) (hb : KBinds X.K fd ps ks g gV) (hx : Passes CX X E)
    (hkw : PK X kws tk) (hall : (backToKw pos (keywordEach kws X.env)).all (·.1.isSome) = true := by rfl) (hks : (backToKw pos (keywordEach kws X.env)).filterMap (·.1) = ks := by rfl)
    (hdb : (x == ("__debug__" : Str)) = false := by decide)
    (hpl : ((backTo pos (starEach [] X.env)).any (·.1) || (backToKw pos (keywordEach kws X.env)).any (·.1.isNone)) = false := by rfl) :
    PE X (.Call (.Name x p) [] kws pos) (tCallK sp gV E tNil tk) := by
  refine ⟨fun pins s σ H Q I h => ?_⟩
  refine wpAny_Call_Name_kw (ld_glob I hg hm ?_ hdb)
  refine PySem.W.callWith_KW0 (h₀ := X.base) I.ok.mod.kin hk hall (thn (hkw.run pos pins s σ H _ I h) fun ws s2 ⟨zs, H2, I2, rz, q2⟩ => ⟨I2.kIn, ?_⟩) hpl
  rw [hks]
  exact run_fnk F hr hb hx I2 .nil rz q2
/-! ### d[k] for nested keys -/
def tNdGet (P : Program) (w : World) (K : PySem.W.Frag) (td ty : TE) : TE := fun σ H Q => td σ H fun x H1 => ty σ H1 fun y H2 => rNdGet P w K x y H2 Q
theorem pe_ndGet {n : Nat} {o i : Expr} {td ty : TE} {pos : Pos} (hr : Room n X.A) (ho : PE X o td) (hi : PE X i ty) (hs : NoSl i) : PE X (.Subscript o i pos) (tNdGet X.prog X.w X.K td ty) := by
  refine ⟨fun pins s σ H Q I h => ?_⟩
  refine subD_of PySem.F.slot_dict_getitem.lookup hs (thn (ho.run pins s σ H _ I h) fun u s1 ⟨x, H1, I1, rx, q1⟩ => thn (hi.run pins s1 σ H1 _ I1 q1) fun iv s2 ⟨y, H2, I2, ry, a, b, k, kvs, v, ex, ey, hn, hb, hk, e, q⟩ => ?_)
  subst ex ey
  obtain rfl : u = Value.ref a := rx
  obtain rfl : iv = Value.ref b := ry
  obtain ⟨xs, _, m, _⟩ := hn.of I2
  exact ⟨m.typeIs, nd_get hr I2 hn hb hk e q⟩
end
end W5
/-! loops and comprehensions over data -/
namespace W5
open PySem PySem.Spec PyProof.Rows L2
open Evl (Ex)
section
variable {K : PySem.W.Frag} {σ : L2.St} {H H' : Hp} {te ta tb tc : TE} {t u : TT} {d x y z : PyData} {ds es : List PyData} {b c : Bool}
theorem sq_forT {g : TG} {tb us : TS} {D : Ends} (ht : Ed K te σ H (.tuple ds))
    (k : ∀ H1, Ex H H1 → ∃ Pv : Nat → L2.St → Hp → Prop, Pv 0 σ H1 ∧ (∀ i σ H, Pv i σ H → Tk H1 H) ∧
      (∀ i x v σ H, ds[i]? = some x → Im K H v x → Pv i σ H → g v σ H fun σ2 H2 => tb { D with nx := Pv (i + 1), ct := Pv (i + 1), bk := us D } σ2 H2) ∧ ∀ σ H, Pv ds.length σ H → us D σ H) : tSeq (tFor (iTup K te) g tb) us D σ H := by
  refine ht H (Ex.refl H) _ fun v H1 e1 i1 => ?_
  obtain ⟨a, vs, rfl, ha, hs⟩ := i1.tup_of
  obtain ⟨Pv, h0, hk, hst, hd⟩ := k H1 e1
  refine ⟨a, rfl, ⟨vs, ha⟩, ?_⟩
  refine for_tup (K := K) (a := a) (xs := vs) (D := { D with nx := us D }) Pv h0 (fun i σ' H' _ p => (hk i σ' H' p).sq ha) (fun i v σ' H' e p => ?_) (fun σ' H' p => hd σ' H' (by rw [← hs.length]; exact p))
  obtain ⟨x, hx, im⟩ := hs.getV e
  exact hst i x v σ' H' hx (im.mono (hk i σ' H' p)) p
/-- a list somewhere, of data -/
def Es (K : PySem.W.Frag) (te : TE) (σ : L2.St) (H : Hp) (ds : List PyData) : Prop := ∀ H1, Ex H H1 → ∀ Q : VK, (∀ p vs H2, Ex H1 H2 → SqL K H2 p vs → ImAll K H2 vs ds → Q (.ref p) H2) → te σ H1 Q
theorem El.toS (h : El K te σ H ds) : Es K te σ H ds := fun H1 e Q q => h H1 e Q fun p vs H2 _ e2 h2 i2 => q p vs H2 e2 (Evl.sq_of h2) i2
theorem es_var {i : Nat} {p : Addr} {vs : List V} (h : σ[i]? = some (some (.ref p))) (hp : SqL K H p vs) (im : ImAll K H vs ds) : Es K (tVar i) σ H ds := fun H1 e Q q => ⟨_, h, q p vs H1 (Ex.refl H1) (Evl.ex_l e hp) (im.ex e)⟩
/-- over a list that no turn changes (each turn keeps all) -/
theorem sq_forL {g : TG} {tb us : TS} {D : Ends} (ht : Es K te σ H ds)
    (k : ∀ H1, Ex H H1 → ∃ Pv : Nat → L2.St → Hp → Prop, Pv 0 σ H1 ∧ (∀ i σ H, Pv i σ H → Tk H1 H ∧ ∀ p vs, SqL K H1 p vs → ImAll K H1 vs ds → SqL K H p vs) ∧
      (∀ i x v σ H, ds[i]? = some x → Im K H v x → Pv i σ H → g v σ H fun σ2 H2 => tb { D with nx := Pv (i + 1), ct := Pv (i + 1), bk := us D } σ2 H2) ∧ ∀ σ H, Pv ds.length σ H → us D σ H) : tSeq (tFor (iList K te) g tb) us D σ H := by
  refine ht H (Ex.refl H) _ fun a vs H1 e1 ha hs => ?_
  obtain ⟨Pv, h0, hk, hst, hd⟩ := k H1 e1
  refine ⟨a, rfl, ⟨vs, ha⟩, ?_⟩
  refine for_list (K := K) (a := a) (xs := vs) (D := { D with nx := us D }) Pv h0 (fun i σ' H' _ p => (hk i σ' H' p).2 a vs ha hs) (fun i v σ' H' e p => ?_) (fun σ' H' p => hd σ' H' (by rw [← hs.length]; exact p))
  obtain ⟨x, hx, im⟩ := hs.getV e
  exact hst i x v σ' H' hx (im.mono (hk i σ' H' p).1) p
/-! ### comprehensions, any target, with a test -/
/-- how a target takes a datum: the slots behind it -/
def Gd (g : TG) (v : V) (σ : L2.St) (H : Hp) (σ2 : L2.St) : Prop := ∀ Q : L2.St → Hp → Prop, Q σ2 H → g v σ H Q
theorem gd_name {i : Nat} {v : V} : Gd (gName i) v σ H (σ.set i (some v)) := fun Q q => q
theorem gd_two {i j : Nat} {a : Addr} {v w : V} (h : SqT K H a [v, w]) : Gd (gTup K 2 (gCons (gName i) (gCons (gName j) gNil))) (.ref a) σ H ((σ.set i (some v)).set j (some w)) := fun Q q =>
  ⟨a, [v, w], rfl, h, rfl, v, [w], rfl, w, [], rfl, rfl, q⟩
theorem gd_three {i j k : Nat} {a : Addr} {u v w : V} (h : SqT K H a [u, v, w]) : Gd (gTup K 3 (gCons (gName i) (gCons (gName j) (gCons (gName k) gNil)))) (.ref a) σ H (((σ.set i (some u)).set j (some v)).set k (some w)) := fun Q q =>
  ⟨a, [u, v, w], rfl, h, rfl, u, [v, w], rfl, v, [w], rfl, w, [], rfl, rfl, q⟩
theorem lc_data {wi : TI} {g : TG} {own : List Nat} {D : Addr} {J : It} {H2 : Hp} {p : PyData → Bool} {f : PyData → PyData} {Qd : Hp → Prop} {vs : List V} (hD : H2 D = none) (hz : ds.length < 100000) (hs : ImAll K H2 vs ds)
    (hc : ∀ (j : Nat) x v H1, ds[j]? = some x → Ex H2 H1 → Im K H1 v x → ∃ σ2, Gd g v (wipe σ own) H1 σ2 ∧ wipe σ2 own = wipe σ own ∧ Eb t σ2 H1 (p x) ∧ (p x = true → Ed K te σ2 H1 (f x)))
    (hd : ∀ H3 acc, Ex H2 H3 → H3 D = some (.lst acc) → ImAll K H3 acc ((ds.filter p).map f) → Qd H3) :
    ∃ Pv : Nat → Hp → Prop, Pv 0 (upd H2 D (.lst [])) ∧ (∀ i H, Pv i H → Ex H2 H) ∧ (∀ i x H, vs[i]? = some x → Pv i H → g x (wipe σ own) H fun σ2 H2 => wipe σ2 own = wipe σ own ∧ t σ2 H2 fun b H3 =>
      if b = true then te σ2 H3 fun y H4 => ∃ acc, H4 D = some (.lst acc) ∧ acc.length < sizeLine ∧ Pv (i + 1) (upd H4 D (.lst (acc ++ [y]))) else Pv (i + 1) H3) ∧ ∀ H, Pv vs.length H → Qd H := by
  refine ⟨fun j H3 => Ex H2 H3 ∧ ∃ acc, H3 D = some (.lst acc) ∧ ImAll K H3 acc (((ds.take j).filter p).map f) ∧ j ≤ ds.length, ?_, fun _ _ q => q.1, ?_, ?_⟩
  · exact ⟨Ex.new hD, [], upd_same .., .nil, Nat.zero_le _⟩
  · rintro j x H3 hx ⟨e3, acc, h3, i3, hj⟩
    obtain ⟨d1, hd1, im⟩ := hs.getV hx
    have hjl : j < ds.length := (List.getElem?_eq_some_iff.mp hd1).1
    obtain ⟨σ2, hg, hw, hb, he⟩ := hc j d1 x H3 hd1 e3 (im.ex e3)
    refine hg _ ⟨hw, ?_⟩
    refine hb H3 (Ex.refl H3) _ fun H3' e3' => ?_
    have ht : ds.take (j + 1) = ds.take j ++ [d1] := by rw [List.take_succ, hd1]; rfl
    cases hp : p d1 with
    | false =>
      refine iteF ⟨e3.trans e3', acc, e3' _ _ h3, ?_, hjl⟩
      rw [ht, List.filter_append]
      simpa [hp] using i3.ex e3'
    | true =>
      refine iteT ?_
      refine he hp H3' e3' _ fun y H4 e4 i4 => ?_
      refine ⟨acc, e4 _ _ (e3' _ _ h3), ?_, ?_, ?_⟩
      · have := i3.length
        rw [this, List.length_map]
        refine Evl.sz_lt (Nat.lt_of_le_of_lt (Nat.le_trans (List.length_filter_le ..) ?_) hz)
        rw [List.length_take]
        omega
      · exact Ex.mut ((e3.trans e3').trans e4) hD (o := .lst (acc ++ [y]))
      · refine ⟨_, upd_same .., ?_, hjl⟩
        have t : Tk H4 (upd H4 D (.lst (acc ++ [y]))) := Tk.upd (no_lst (e4 _ _ (e3' _ _ h3)))
        rw [ht, List.filter_append]
        have := ((i3.ex (e3'.trans e4)).append (.cons i4 .nil)).mono t
        simpa [hp] using this
  · rintro H3 ⟨e3, acc, h3, i3, _⟩
    rw [hs.length, List.take_length] at i3
    exact hd H3 acc e3 h3 i3
theorem el_lc {g : TG} {own : List Nat} {p : PyData → Bool} {f : PyData → PyData} (ht : Ed K ta σ H (.tuple ds)) (hz : ds.length < 100000)
    (hc : ∀ (j : Nat) x v H1, ds[j]? = some x → Ex H H1 → Im K H1 v x → ∃ σ2, Gd g v (wipe σ own) H1 σ2 ∧ wipe σ2 own = wipe σ own ∧ Eb t σ2 H1 (p x) ∧ (p x = true → Ed K te σ2 H1 (f x))) :
    El K (tLc (iTup K ta) g t te own) σ H ((ds.filter p).map f) := fun H1 e Q q => by
  refine ht H1 e _ fun v H2 e2 i2 => ?_
  obtain ⟨a, vs, rfl, h, hs⟩ := i2.tup_of
  refine ⟨a, rfl, ⟨vs, h⟩, fun D hD => ?_⟩
  obtain ⟨Pv, h0, hk, hst, hd⟩ := lc_data (wi := iTup K ta) (J := Itt K a) hD hz hs (fun j x v H3 hx e3 im => hc j x v H3 hx ((e.trans e2).trans e3) im) (Qd := fun H3 => Q (.ref D) H3) (fun H3 acc e3 h3 i3 => q D acc H3 (Evl.fresh_back e2 hD) (e2.trans e3) h3 i3)
  exact lc_tup (K := K) (a := a) (xs := vs) Pv h0 (fun i H' _ p => (Tk.ex (hk i H' p)).sq h) hst hd
theorem el_lcL {g : TG} {own : List Nat} {p : PyData → Bool} {f : PyData → PyData} (ht : Es K ta σ H ds) (hz : ds.length < 100000)
    (hc : ∀ (j : Nat) x v H1, ds[j]? = some x → Ex H H1 → Im K H1 v x → ∃ σ2, Gd g v (wipe σ own) H1 σ2 ∧ wipe σ2 own = wipe σ own ∧ Eb t σ2 H1 (p x) ∧ (p x = true → Ed K te σ2 H1 (f x))) :
    El K (tLc (iList K ta) g t te own) σ H ((ds.filter p).map f) := fun H1 e Q q => by
  refine ht H1 e _ fun a vs H2 e2 h hs => ?_
  refine ⟨a, rfl, ⟨vs, h⟩, fun D hD => ?_⟩
  obtain ⟨Pv, h0, hk, hst, hd⟩ := lc_data (wi := iList K ta) (J := Itl K a) hD hz hs (fun j x v H3 hx e3 im => hc j x v H3 hx ((e.trans e2).trans e3) im) (Qd := fun H3 => Q (.ref D) H3) (fun H3 acc e3 h3 i3 => q D acc H3 (Evl.fresh_back e2 hD) (e2.trans e3) h3 i3)
  exact lc_list (K := K) (a := a) (xs := vs) Pv h0 (fun i H' _ p => Evl.ex_l (hk i H' p) h) hst hd
theorem eb_yes : Eb tYes σ H true := fun H1 _ _ q => q H1 (Ex.refl H1)
/-! ### defs that give a new list -/
def Pl (K : PySem.W.Frag) (R : List PyData → List PyData → Prop) : Sp := fun vs H Q E => ∃ ds es, ImAll K H vs ds ∧ R ds es ∧ ∀ p us H2, H p = none → Ex H H2 → H2 p = some (.lst us) → ImAll K H2 us es → Q (.ref p) H2
theorem el_call {R : List PyData → List PyData → Prop} {E : XK} {tr : TA} (ha : Ea K tr σ H ds) (hR : R ds es) : El K (tCall (Pl K R) [] E tr) σ H es := fun H1 e Q q =>
  ha H1 e _ fun vs H2 e2 i2 => ⟨ds, es, by simpa using i2, hR, fun p us H3 hp e3 h3 i3 => q p us H3 (Evl.fresh_back e2 hp) (e2.trans e3) h3 i3⟩
theorem pl_len {R : List PyData → List PyData → Prop} {n : Nat} (h : ∀ ds r, R ds r → ds.length = n) : ∀ vs H Q E, Pl K R vs H Q E → vs.length = n := fun vs H Q E ⟨ds, r, i, hr, _⟩ => by rw [i.length]; exact h _ _ hr
theorem el_if (h : Eb t σ H b) (k1 : b = true → El K ta σ H ds) (k2 : b = false → El K tb σ H ds) : El K (tIf t ta tb) σ H ds := fun H1 e Q q => h H1 e _ fun H2 e2 => by
  cases b with
  | true => exact iteT (k1 rfl H2 (e.trans e2) _ fun p v H3 hp e3 h3 i3 => q p v H3 (Evl.fresh_back e2 hp) (e2.trans e3) h3 i3)
  | false => exact iteF (k2 rfl H2 (e.trans e2) _ fun p v H3 hp e3 h3 i3 => q p v H3 (Evl.fresh_back e2 hp) (e2.trans e3) h3 i3)
/-- with defaults: the last data -/
theorem ed_callD {R : List PyData → PyData → Prop} {E : XK} {tr : TA} {dvs : List V} {dd : List PyData} (hd : ∀ H, ImAll K H dvs dd) (ha : Ea K tr σ H ds) (hR : R (ds ++ dd) d) : Ed K (tCall (Pu K R) dvs E tr) σ H d := fun H1 e Q q =>
  ha H1 e _ fun vs H2 e2 i2 => ⟨ds ++ dd, d, i2.append (hd H2), hR, fun v H3 e3 i3 => q v H3 (e2.trans e3) i3⟩
end
end W5
namespace K55
open PySem PySem.Spec PyProof.Rows L2 W5 M5
open Evl (Ex)
section
variable {P : Program} {w : World} {K : PySem.W.Frag} {mg : Str → Option Value} {base : Heap}
theorem Tx.BV_is_type (T : Tx K mg) : ∃ ds, Vals [.int 6, .int 30] ds ∧ Binds K (fdOf K d_is_type) ["thing", "many", "deepest", "most"] ds := FunD.binds1 T.F_is_type 2 0 (by simp [He.DefD.dvs, d_is_type]) rfl (fun T kV doc pm an cdv ct us its hl hi => by
  match us, hl, its, hi with
  | [a, b], _, [c, d], _ => exact ⟨_, rfl, rfl⟩)
theorem ok_is_type (T : Tx K mg) : Ok P w K mg base 5 d_is_type ["thing", "many", "deepest", "most"] (Pu K Rshaped) := by
  have G_is_shaped := ok_is_shaped (P := P) (w := w) (base := base) T
  refine (T.F_is_type).ok sc_is_type (pu_len (by rintro _ _ ⟨t, KS, n, dp, ms, _, _, _, _, _, rfl, _⟩; rfl)) (fun cdv A outer s H vs Q E hr h => ?_)
  obtain ⟨ds, r, im, ⟨t, KS, n, dp, ms, hK, hw, hdp, hms, hms2, rfl, rfl⟩, q⟩ := h
  obtain ⟨v0, _, rfl, i0, im⟩ := im.cons_of
  obtain ⟨v1, _, rfl, i1, im⟩ := im.cons_of
  obtain ⟨v2, _, rfl, i2, im⟩ := im.cons_of
  obtain ⟨v3, _, rfl, i3, im⟩ := im.cons_of
  obtain rfl := im.nil_of
  refine ⟨_, PSs.nox ((pss_one (ps_ret (pe_call G_is_shaped (hr.mono (by omega)) rfl T.g_is_shaped T.k_is_shaped T.B_is_shaped .nil pass0 (pa_cons (pv 0) (pa_cons (pv 1) (pa_cons (pv 2) (pa_cons (pv 3) pa_nil)))))))), ?_⟩
  refine Sr.at (d := .bool true) ?_ q
  exact sr_ret (ed_call (R := Rshaped) (ea_cons (ed_var rfl i0) (ea_cons (ed_var rfl i1) (ea_cons (ed_var rfl i2) (ea_cons (ed_var rfl i3) ea_nil)))) ⟨t, KS, n, dp, ms, hK, hw, hdp, hms, hms2, rfl, rfl⟩)
def Ropen : List PyData → PyData → Prop := fun ds r => ∃ (t : Ty) (KS : List (Str × Nat)) (n : Nat), KsOk KS ∧ t.Wf KS n ∧ t.depth ≤ 60 ∧ t.size ≤ 1000 ∧ ds = [t.d, .int n] ∧ r = .bool true
theorem ok_is_open (T : Tx K mg) : Ok P w K mg base 5 d_is_open ["thing", "many"] (Pu K Ropen) := by
  have G_is_shaped := ok_is_shaped (P := P) (w := w) (base := base) T
  refine (T.F_is_open).ok sc_is_open (pu_len (by rintro _ _ ⟨t, KS, n, _, _, _, _, rfl, _⟩; rfl)) (fun cdv A outer s H vs Q E hr h => ?_)
  obtain ⟨ds, r, im, ⟨t, KS, n, hK, hw, hdp, hms, rfl, rfl⟩, q⟩ := h
  obtain ⟨v0, _, rfl, i0, im⟩ := im.cons_of
  obtain ⟨v1, _, rfl, i1, im⟩ := im.cons_of
  obtain rfl := im.nil_of
  refine ⟨_, PSs.nox ((pss_one (ps_ret (pe_call G_is_shaped (hr.mono (by omega)) rfl T.g_is_shaped T.k_is_shaped T.B_is_shaped .nil pass0 (pa_cons (pv 0) (pa_cons (pv 1) (pa_cons (pe_gint (by rfl) T.i_DEEPEST_CLOSED) (pa_cons (pe_gint (by rfl) T.i_MOST_CLOSED_PARTS) pa_nil)))))))), ?_⟩
  refine Sr.at (d := .bool true) ?_ q
  exact sr_ret (ed_call (R := Rshaped) (ea_cons (ed_var rfl i0) (ea_cons (ed_var rfl i1) (ea_cons ed_int (ea_cons ed_int ea_nil)))) ⟨t, KS, n, 60, 1000, hK, hw, hdp, hms, by decide, rfl, rfl⟩)
def Rparts : List PyData → PyData → Prop := fun ds r => ∃ t : Ty, ds = [t.d] ∧ r = .tuple (Ty.dAll t.parts)
theorem ok_parts_of (T : Tx K mg) : Ok P w K mg base 1 d_parts_of ["thing"] (Pu K Rparts) := by
  refine (T.F_parts_of).ok sc_parts_of (pu_len (by rintro _ _ ⟨t, rfl, _⟩; rfl)) (fun cdv A outer s H vs Q E hr h => ?_)
  obtain ⟨ds, r, im, ⟨t, rfl, rfl⟩, q⟩ := h
  obtain ⟨v0, _, rfl, i0, im⟩ := im.cons_of
  obtain rfl := im.nil_of
  refine ⟨_, PSs.nox ((pss_cons (ps_if (PW.pt (pw_or (pt_val (pe_callB (call_isiK' (K := K) rfl) rfl T.b_isinstance bb_isinstance (pa_cons (pv 0) (pa_cons (pe_bltn (v := .ty "str") (by rfl) T.b_str bb_str rfl) pa_nil)))) (pw_or1 (pt_cmpR (op_eqK (K := K) rfl hr) (pe_ix (ix_seqK (K := K) rfl) (pv 0) pe_int (fun _ _ => rfl)) pe_str (nomark _))))) (pss_one (ps_ret (pe_tup pa_nil))) pss_nil)
  (pss_one (ps_ret (pe_ifExp (pt_cmpR (op_eqK (K := K) rfl hr) (pe_ix (ix_seqK (K := K) rfl) (pv 0) pe_int (fun _ _ => rfl)) pe_str (nomark _)) (pe_slice (sl_tupK (K := K) rfl) (pv 0) (po_some pe_int) po_none) (pe_ix (ix_seqK (K := K) rfl) (pv 0) pe_int (fun _ _ => rfl))))))), ?_⟩
  refine Sr.at (d := .tuple (Ty.dAll t.parts)) ?_ q
  cases t with
  | whole => exact sr_if (b := true) (eb_or (b := true) (c := true) (eb_b (ed_isS (ed_var rfl i0) rfl)) fun z => by cases z) (fun _ => sr_ret ed_tup0) fun z => by cases z
  | var i => exact sr_if (b := true) (eb_or (b := false) (c := true) (eb_b (ed_isS (ed_var rfl i0) rfl)) fun _ => eb_t (K := K) (ed_op (ed_op (ed_var rfl i0) ed_int (rd_ix rfl)) ed_str (rd_eqs rfl))) (fun _ => sr_ret ed_tup0) fun z => by cases z
  | to a b =>
    refine sr_if (b := false) (eb_or (b := false) (c := false) (eb_b (ed_isS (ed_var rfl i0) rfl)) fun _ => eb_t (K := K) (ed_op (ed_op (ed_var rfl i0) ed_int (rd_ix rfl)) ed_str (rd_eqs rfl))) (fun z => by cases z) fun _ => ?_
    exact sr_ret (ed_if (b := true) (eb_t (K := K) (ed_op (ed_op (ed_var rfl i0) ed_int (rd_ix rfl)) ed_str (rd_eqs rfl))) (fun _ => (ed_sl (lo := some 1) (hi := none) (ed_var rfl i0) (eo_some (K := K) ed_int) eo_none).to rfl) fun z => by cases z)
  | of k ts =>
    refine sr_if (b := false) (eb_or (b := false) (c := false) (eb_b (ed_isS (ed_var rfl i0) rfl)) fun _ => eb_t (K := K) (ed_op (ed_op (ed_var rfl i0) ed_int (rd_ix rfl)) ed_str (rd_eqs rfl))) (fun z => by cases z) fun _ => ?_
    exact sr_ret (ed_if (b := false) (eb_t (K := K) (ed_op (ed_op (ed_var rfl i0) ed_int (rd_ix rfl)) ed_str (rd_eqs rfl))) (fun z => by cases z) fun _ => ed_op (ed_var rfl i0) ed_int (rd_ix rfl))
/-! ### the kinds in a type -/
def kD (x : Str × Nat) : PyData := .tuple [.str x.1, .int (x.2 : Nat)]
def Rkinds (m : Nat) : List PyData → List PyData → Prop := fun ds es => ∃ t : Ty, t.depth ≤ m ∧ t.size ≤ 10000 ∧ ds = [t.d] ∧ es = t.kinds.map kD
theorem kinds_parts : ∀ t : Ty, t.kinds = t.head ++ Ty.kindsAll t.parts
  | .whole => rfl
  | .var _ => rfl
  | .to a b => by simp [Ty.kinds, Ty.head, Ty.parts, Ty.kindsAll]
  | .of k ts => rfl
theorem kindsAll_take : ∀ (ts : List Ty) (j : Nat) (t : Ty), ts[j]? = some t → Ty.kindsAll (ts.take (j + 1)) = Ty.kindsAll (ts.take j) ++ t.kinds
  | [], _, _, h => by simp at h
  | u :: ts, 0, t, h => by
    simp only [List.getElem?_cons_zero, Option.some.injEq] at h
    subst h
    simp [Ty.kindsAll]
  | u :: ts, j + 1, t, h => by
    have := kindsAll_take ts j t (by simpa using h)
    simp only [List.take_succ_cons, Ty.kindsAll, this, List.append_assoc]
theorem kindsAll_take_len : ∀ (ts : List Ty) (j : Nat), (Ty.kindsAll (ts.take j)).length ≤ Ty.sizeAll ts
  | [], j => by simp [Ty.kindsAll]
  | t :: ts, 0 => by simp [Ty.kindsAll]
  | t :: ts, j + 1 => by
    have := kindsAll_take_len ts j
    have := Ty.kinds_len t
    simp only [List.take_succ_cons, Ty.kindsAll, Ty.sizeAll, List.length_append]
    omega
theorem sizeAll_mem : ∀ {ts : List Ty} {t : Ty}, t ∈ ts → t.size ≤ Ty.sizeAll ts
  | [], _, h => nomatch h
  | t :: ts, u, h => by
    simp only [Ty.sizeAll]
    rcases List.mem_cons.mp h with rfl | h
    · omega
    · have := sizeAll_mem h
      omega
/-- all but the object at p stay -/
def Exb (p : Addr) (H H' : Hp) : Prop := ∀ a o, a ≠ p → H a = some o → H' a = some o
theorem _root_.Evl.Ex.trans' {p : Addr} {H H1 H2 : Hp} (a : Ex H H1) (b : Exb p H1 H2) (h : H p = none) : Ex H H2 := fun x o e => b x o (fun z => by rw [z, h] at e; cases e) (a x o e)
theorem Exb.ex {p : Addr} {H H1 H2 : Hp} (a : Exb p H H1) (b : Ex H1 H2) : Exb p H H2 := fun x o n e => b x o (a x o n e)
theorem Exb.upd {p : Addr} {H H1 : Hp} {u : HO} (a : Exb p H H1) : Exb p H (upd H1 p u) := fun x o n e => by rw [upd_ne n]; exact a x o n e
theorem Exb.refl (p : Addr) (H : Hp) : Exb p H H := fun _ _ _ e => e
theorem kinds_tail {m : Nat} {v0 : V} {p : Addr} {us : List V} {H : Hp} {Q : VK} {t : Ty} (ht : t.depth ≤ m + 1) (hsz : t.size ≤ 10000) (i0 : Im K H v0 t.d) (h1 : H p = some (.lst us)) (i1 : ImAll K H us (t.head.map kD))
    (q : ∀ us H2, Exb p H H2 → H2 p = some (.lst us) → ImAll K H2 us (t.kinds.map kD) → Q (.ref p) H2) :
    (tSeq (tFor (iTup K (tCall (Pu K Rparts) [] E0 (tCons (tVar 0) tNil))) (gName 2) (tDrop (tBM K "list" rExtend (tVar 1) (tCons (tCall (Pl K (Rkinds m)) [] E0 (tCons (tVar 2) tNil)) tNil)))) (tRet (tVar 1)))
      { nx := fun x H' => Q V.non H', rt := Q } [some v0, some (.ref p), none] H := by
  refine sq_forT (ed_call (R := Rparts) (ea_cons (ed_var rfl i0) ea_nil) ⟨t, rfl, rfl⟩) fun H1 e1 => ?_
  refine ⟨fun j σ H2 => ∃ us o, σ = [some v0, some (.ref p), o] ∧ Exb p H1 H2 ∧ H2 p = some (.lst us) ∧ Tk H1 H2 ∧ ImAll K H2 us (t.head.map kD ++ (Ty.kindsAll (t.parts.take j)).map kD), ?_, ?_, ?_, ?_⟩
  · exact ⟨us, none, rfl, Exb.refl _ _, e1 _ _ h1, Tk.refl _, by simpa [Ty.kindsAll] using i1.ex e1⟩
  · rintro i σ H2 ⟨us, o, _, _, _, t, _⟩
    exact t
  · rintro i x v σ H2 hx iv ⟨us, o, rfl, e2, h2, t2, i2⟩
    rw [Ty.dAll_map, List.getElem?_map] at hx
    obtain ⟨u, hu, rfl⟩ := Option.map_eq_some_iff.mp hx
    have hm := List.mem_of_getElem? hu
    have l1 := Ty.depthAll_mem hm
    have l2 := sizeAll_mem hm
    have l3 := Ty.depth_parts t
    have l4 := Ty.size_parts t
    have l5 := kindsAll_take_len t.parts i
    have l6 := Ty.kinds_len u
    have l7 := i2.length
    have l8 : t.head.length ≤ 1 := by cases t <;> simp [Ty.head]
    refine st_drop (te_extend rfl h2 (el_call (R := Rkinds m) (ea_cons (ed_var rfl iv) ea_nil) ⟨u, by omega, by omega, rfl, rfl⟩) ?_ fun ws H3 e3 i3 => ?_)
    · rw [l7]
      simp only [List.length_append, List.length_map]
      omega
    · have t3 : Tk H3 (upd H3 p (.lst (us ++ ws))) := Tk.upd (no_lst (e3 _ _ h2))
      refine ⟨us ++ ws, _, rfl, (e2.ex e3).upd, upd_same .., (t2.trans (Tk.ex e3)).trans t3, ?_⟩
      rw [kindsAll_take _ _ _ hu, List.map_append, ← List.append_assoc]
      exact ((i2.ex e3).append i3).mono t3
  · rintro σ H2 ⟨us, o, rfl, e2, h2, t2, i2⟩
    rw [Ty.dAll_map, List.length_map, List.take_length, ← List.map_append, ← kinds_parts] at i2
    refine st_ret ⟨_, rfl, ?_⟩
    exact q us H2 (fun a o n e => e2 a o n (e1 a o e)) h2 i2
theorem ok_kinds_in (T : Tx K mg) : ∀ m : Nat, Ok P w K mg base (m + 2) d_kinds_in ["thing"] (Pl K (Rkinds m))
  | 0 => by
    refine (T.F_kinds_in).ok sc_kinds_in (pl_len (by rintro _ _ ⟨t, _, _, rfl, _⟩; rfl)) (fun cdv A outer s H vs Q E hr h => ?_)
    obtain ⟨ds, r, im, ⟨t, ht, _⟩, q⟩ := h
    have := Ty.depth_parts t
    omega
  | m + 1 => by
    have G_kinds_in := ok_kinds_in T m
    have G_parts_of := ok_parts_of (P := P) (w := w) (base := base) T
    refine (T.F_kinds_in).ok sc_kinds_in (pl_len (by rintro _ _ ⟨t, _, _, rfl, _⟩; rfl)) (fun cdv A outer s H vs Q E hr h => ?_)
    obtain ⟨ds, r, im, ⟨t, ht, hsz, rfl, rfl⟩, q⟩ := h
    obtain ⟨v0, _, rfl, i0, im⟩ := im.cons_of
    obtain rfl := im.nil_of
    refine ⟨_, PSs.nox ((pss_cons (ps_if (PW.pt (pw_or (pt_val (pe_callB (call_isiK' (K := K) rfl) rfl T.b_isinstance bb_isinstance (pa_cons (pv 0) (pa_cons (pe_bltn (v := .ty "str") (by rfl) T.b_str bb_str rfl) pa_nil)))) (pw_or1 (pt_cmpR (op_eqK (K := K) rfl hr) (pe_ix (ix_seqK (K := K) rfl) (pv 0) pe_int (fun _ _ => rfl)) pe_str (nomark _))))) (pss_one (ps_ret (pe_lst pa_nil))) pss_nil)
  (pss_cons (ps_set (i := 1) sc_kinds_in.nd rfl (by first | exact Or.inl rfl | exact Or.inr rfl) (pe_ifExp (pt_cmpR (op_eqK (K := K) rfl hr) (pe_ix (ix_seqK (K := K) rfl) (pv 0) pe_int (fun _ _ => rfl)) pe_str (nomark _)) (pe_lst (pa_cons (pe_tup (pa_cons (pe_ix (ix_seqK (K := K) rfl) (pv 0) pe_int (fun _ _ => rfl)) (pa_cons (pe_callB (call_lenK (K := K) rfl) rfl T.b_len bb_len (pa_cons (pe_ix (ix_seqK (K := K) rfl) (pv 0) pe_int (fun _ _ => rfl)) pa_nil)) pa_nil))) pa_nil)) (pe_lst pa_nil)))
  (pss_cons (ps_for PassesOwn.never rfl (pi_tupK (K := K) rfl (pe_call G_parts_of (hr.mono (by omega)) rfl T.g_parts_of T.k_parts_of T.B_parts_of .nil pass0 (pa_cons (pv 0) pa_nil))) (pg_name (i := 2) sc_kinds_in.nd rfl (by first | exact Or.inl rfl | exact Or.inr rfl)) (pss_one (ps_expr (pe_bm PySem.F.plainAttrs_list PySem.F.slot_list_extend PySem.F.type_list_extend mt_extend (pv 1) (pa_cons (pe_call G_kinds_in (hr.mono (by omega)) rfl T.g_kinds_in T.k_kinds_in T.B_kinds_in .nil pass0 (pa_cons (pv 2) pa_nil)) pa_nil)))))
  (pss_one (ps_ret (pv 1))))))), ?_⟩
    cases t with
    | whole =>
      refine sq_if (b := true) (eb_or (b := true) (c := true) (eb_b (ed_isS (ed_var rfl i0) rfl)) fun z => by cases z) (fun _ H1 e1 => ?_) fun z => by cases z
      exact st_ret (El.at (el_lst ea_nil) fun p us H2 hp e2 h2 i2 => q p us H2 (Evl.fresh_back e1 hp) (e1.trans e2) h2 i2)
    | var i =>
      refine sq_if (b := true) (eb_or (b := false) (c := true) (eb_b (ed_isS (ed_var rfl i0) rfl)) fun _ => eb_t (K := K) (ed_op (ed_op (ed_var rfl i0) ed_int (rd_ix rfl)) ed_str (rd_eqs rfl))) (fun _ H1 e1 => ?_) fun z => by cases z
      exact st_ret (El.at (el_lst ea_nil) fun p us H2 hp e2 h2 i2 => q p us H2 (Evl.fresh_back e1 hp) (e1.trans e2) h2 i2)
    | to a b =>
      refine sq_if (b := false) (eb_or (b := false) (c := false) (eb_b (ed_isS (ed_var rfl i0) rfl)) fun _ => eb_t (K := K) (ed_op (ed_op (ed_var rfl i0) ed_int (rd_ix rfl)) ed_str (rd_eqs rfl))) (fun z => by cases z) fun _ H0 e0 => ?_
      refine sq_set (El.at (K := K) (ds := (Ty.head (.to a b)).map kD) (el_if (b := false) (eb_t (K := K) (ed_op (ed_op (ed_var rfl (i0.ex e0)) ed_int (rd_ix rfl)) ed_str (rd_eqs rfl))) (fun z => by cases z) fun _ => el_lst ea_nil (Nat.zero_le _)) fun p us H1 hp e1 h1 i1 => ?_)
      exact kinds_tail (t := .to a b) ht hsz (i0.ex (e0.trans e1)) h1 i1 fun us' H2 e2 h2 i2 => q p us' H2 (Evl.fresh_back e0 hp) ((e0.trans e1).trans' e2 (Evl.fresh_back e0 hp)) h2 i2
    | of k ts =>
      refine sq_if (b := false) (eb_or (b := false) (c := false) (eb_b (ed_isS (ed_var rfl i0) rfl)) fun _ => eb_t (K := K) (ed_op (ed_op (ed_var rfl i0) ed_int (rd_ix rfl)) ed_str (rd_eqs rfl))) (fun z => by cases z) fun _ H0 e0 => ?_
      have hl : (Ty.dAll ts).length = ts.length := by rw [Ty.dAll_map, List.length_map]
      refine sq_set (El.at (K := K) (ds := (Ty.head (.of k ts)).map kD) (el_if (b := true) (eb_t (K := K) (ed_op (ed_op (ed_var rfl (i0.ex e0)) ed_int (rd_ix rfl)) ed_str (rd_eqs rfl))) (fun _ => (el_lst (ea_cons (ed_tup (ea_cons (ed_op (ed_var rfl (i0.ex e0)) ed_int (rd_ix rfl)) (ea_cons (ed_len (ed_op (ed_var rfl (i0.ex e0)) ed_int (rd_ix rfl))) ea_nil))) ea_nil)).to (by rw [hl]; rfl)) fun z => by cases z) fun p us H1 hp e1 h1 i1 => ?_)
      exact kinds_tail (t := .of k ts) ht hsz (i0.ex (e0.trans e1)) h1 i1 fun us' H2 e2 h2 i2 => q p us' H2 (Evl.fresh_back e0 hp) ((e0.trans e1).trans' e2 (Evl.fresh_back e0 hp)) h2 i2
end
end K55
namespace K55
open PySem PySem.Spec PyProof.Rows L2 W5 M5
open Evl (Ex)
section
variable {P : Program} {w : World} {K : PySem.W.Frag} {mg : Str → Option Value} {base : Heap}
/-- the dict of kinds -/
def kvsOf (KS : List (Str × Nat)) : List (L2.Key × V) := KS.map fun x => (.inr x.1, .int (x.2 : Nat))
theorem ed_dget2 {i : Nat} {d : Addr} {kvs : List (L2.Key × V)} {x : Str} {y : PyData} {n : Int} {σ : L2.St} {H : Hp} {tk tx : TE} (hs : σ[i]? = some (some (.ref d))) (hd : H d = some (.dK kvs)) (hk : Ed K tk σ H (.str x)) (hx : Ed K tx σ H y) (e : valV kvs (.inr x) = some (.int n)) : Ed K (tDGet2 (tVar i) tk tx) σ H (.int n) := fun H1 e1 Q q =>
  ⟨_, hs, d, rfl, .inl ⟨kvs, .inl (e1 _ _ hd)⟩, hk H1 e1 _ fun v H2 e2 i2 => hx H2 (e1.trans e2) _ fun z H3 e3 i3 => by
    obtain rfl := i2.str_of
    exact ⟨some (.int n), .inl ⟨kvs, .inr x, .inl (e3 _ _ (e2 _ _ (e1 _ _ hd))), rfl, e.symm⟩, q _ H3 (e2.trans e3) (.int n)⟩⟩
def SgoesWith (K : PySem.W.Frag) : Sp := fun vs H Q E => ∃ (d : Addr) (v : V) (t : Ty) (KS : List (Str × Nat)) (n : Nat), vs = [.ref d, v] ∧ H d = some (.dK (kvsOf KS)) ∧ (∀ x ∈ KS, valV (kvsOf KS) (.inr x.1) = some (.int (x.2 : Nat))) ∧ t.Wf KS n ∧ t.depth ≤ 8 ∧ t.size ≤ 1000 ∧ Im K H v t.d ∧ ∀ H2, Ex H H2 → Q (.bl true) H2
theorem ok_goes_with (T : Tx K mg) : Ok P w K mg base 11 d_goes_with ["kinds", "thing"] (SgoesWith K) := by
  have G_kinds_in := ok_kinds_in (P := P) (w := w) (base := base) T 8
  refine (T.F_goes_with).ok sc_goes_with (fun vs H Q E ⟨d, v, t, KS, n, e, _⟩ => by rw [e]; rfl) (fun cdv A outer s H vs Q E hr h => ?_)
  obtain ⟨d, v, t, KS, n, rfl, hd, hv, hw, hdp, hsz, iv, q⟩ := h
  refine ⟨_, PSs.nox ((pss_one (ps_ret (pe_callB (cr_allK (K := K) rfl rfl) rfl T.b_all bb_all (pa_cons (pe_lc (own := [("name", 2), ("many", 3)]) (by rfl) sc_goes_with.nd (pi_listK (K := K) rfl (pe_call G_kinds_in (hr.mono (by omega)) rfl T.g_kinds_in T.k_kinds_in T.B_kinds_in .nil pass0 (pa_cons (pv 1) pa_nil))) (blkOk_by (own := [("name", 2), ("many", 3)]) (N := ["kinds", "thing", "name", "many"]) (sc := defScope s_goes_with) (by decide +kernel)) (fun _ _ _ _ _ => pg_tupK (K := K) (n := 2) rfl rfl (pgs_cons (pg_name (i := 2) sc_goes_with.nd rfl (by first | exact Or.inl rfl | exact Or.inr rfl)) (pgs_cons (pg_name (i := 3) sc_goes_with.nd rfl (by first | exact Or.inl rfl | exact Or.inr rfl)) pgs_nil))) (fun _ _ _ _ _ => pts_nil) (fun _ _ _ _ _ => (pe_cmpR (op_eqK (K := K) rfl hr) (pe_dget2 (hu_of hr) (pv 0) (pv 2) (pe_un un_neg pe_int) ⟨rfl, rfl, rfl, rfl⟩) (pv 3) (nomark _)))) pa_nil))))), ?_⟩
  have l := Ty.kinds_len t
  refine st_ret (Ed.at (d := .bool true) ((ed_all (K := K) (bs := t.kinds.map fun _ => true) ((el_lcL (p := fun _ => true) (f := fun _ => .bool true) (El.toS (el_call (R := Rkinds 8) (ea_cons (ed_var rfl iv) ea_nil) ⟨t, hdp, by omega, rfl, rfl⟩)) (by rw [List.length_map]; omega) fun j x v1 H1 hx e1 i1 => ?_).to ?_)).to ?_) fun u H2 e2 i2 => ?_)
  · rw [List.getElem?_map] at hx
    obtain ⟨y, hy, rfl⟩ := Option.map_eq_some_iff.mp hx
    have hm := Ty.kinds_wf hw y (List.mem_of_getElem? hy)
    obtain ⟨a, us, rfl, ha, hs⟩ := i1.tup_of
    obtain ⟨u0, _, rfl, j0, hs⟩ := hs.cons_of
    obtain ⟨u1, _, rfl, j1, hs⟩ := hs.cons_of
    obtain rfl := hs.nil_of
    obtain rfl := j0.str_of
    obtain rfl := j1.int_of
    refine ⟨_, gd_two ha, rfl, eb_yes, fun _ => ?_⟩
    exact ed_op (ed_dget2 rfl (e1 _ _ hd) (ed_var rfl (.str _)) (ed_un (K := K) (x := .int 1) (z := .int (-1)) ed_int (fun H v Q a q => by obtain rfl := a.int_of; exact ⟨1, rfl, q _ H (Ex.refl H) (.int _)⟩)) (hv y hm)) (ed_var rfl (.int _)) (rd_eqi.to (by simp))
  · rw [List.filter_eq_self.mpr (fun _ _ => rfl), List.map_map, List.map_map]
    rfl
  · simp
  · obtain rfl := i2.bl_of
    exact q H2 e2
/-- kinds that a dict takes as they come -/
structure KsG (KS : List (Str × Nat)) : Prop where
  ok : KsOk KS
  m : mergeK [] (kvsOf KS) = kvsOf KS
  v : ∀ x ∈ KS, valV (kvsOf KS) (.inr x.1) = some (.int (x.2 : Nat))
  s : KS.length ≤ 5
theorem ksG_take : ∀ c : Nat, c ≤ 5 → KsG (LOTS.take c) := by
  intro c hc
  have h1 : ∀ c : Fin 6, (∀ x ∈ LOTS.take c.val, x ∈ LOTS) ∧ mergeK [] (kvsOf (LOTS.take c.val)) = kvsOf (LOTS.take c.val) ∧ (∀ x ∈ LOTS.take c.val, valV (kvsOf (LOTS.take c.val)) (.inr x.1) = some (.int (x.2 : Nat))) ∧ (LOTS.take c.val).length ≤ 5 := by decide +kernel
  obtain ⟨a, b, d, e⟩ := h1 ⟨c, by omega⟩
  exact ⟨a, b, d, e⟩
/-- a program's book -/
def Book (K : PySem.W.Frag) (H : Hp) (vb : V) (KS : List (Str × Nat)) : Prop := ∃ b kt o ps r1 r2, vb = .ref b ∧ SqT K H b [.ref kt, r1, r2] ∧ H kt = some (.frz o (.tup (ps.map V.ref))) ∧ o.dict = none ∧ Paired (fun p kv => SqT K H p [kV kv.1, kv.2]) ps (kvsOf KS)
theorem Book.tk {H H' : Hp} {vb : V} {KS : List (Str × Nat)} (h : Book K H vb KS) (e : Ex H H') : Book K H' vb KS := by
  obtain ⟨b, kt, o, ps, r1, r2, rfl, hb, hk, ho, hp⟩ := h
  exact ⟨b, kt, o, ps, r1, r2, rfl, Evl.ex_t e hb, e _ _ hk, ho, Paired.mapP hp fun _ _ z => Evl.ex_t e z⟩
def SopenIn (K : PySem.W.Frag) : Sp := fun vs H Q E => ∃ (vb v : V) (t : Ty) (KS : List (Str × Nat)) (n : Nat), vs = [vb, v, .int n] ∧ KsG KS ∧ Book K H vb KS ∧ t.Wf KS n ∧ t.depth ≤ 8 ∧ t.size ≤ 1000 ∧ Im K H v t.d ∧ ∀ H2, Ex H H2 → Q (.bl true) H2
theorem ok_is_open_in (T : Tx K mg) : Ok P w K mg base 12 d_is_open_in ["book", "thing", "many"] (SopenIn K) := by
  have G_is_open := ok_is_open (P := P) (w := w) (base := base) T
  have G_goes_with := ok_goes_with (P := P) (w := w) (base := base) T
  refine (T.F_is_open_in).ok sc_is_open_in (fun vs H Q E ⟨vb, v, t, KS, n, e, _⟩ => by rw [e]; rfl) (fun cdv A outer s H vs Q E hr h => ?_)
  obtain ⟨vb, v, t, KS, n, rfl, hK, hB, hw, hdp, hsz, iv, q⟩ := h
  refine ⟨_, PSs.nox ((pss_one (ps_ret (pe_and (pe_call G_is_open (hr.mono (by omega)) rfl T.g_is_open T.k_is_open T.B_is_open .nil pass0 (pa_cons (pv 1) (pa_cons (pv 2) pa_nil))) (pe_one (pe_call G_goes_with (hr.mono (by omega)) rfl T.g_goes_with T.k_goes_with T.B_goes_with .nil pass0 (pa_cons (pe_callTy (call_dictT rfl) rfl T.b_dict bb_dict (pa_cons (pe_ix (ix_seqK (K := K) rfl) (pv 0) pe_int (fun _ _ => rfl)) pa_nil)) (pa_cons (pv 1) pa_nil)))))))), ?_⟩
  refine st_ret (Ed.at (d := .bool true) (ed_call (R := Ropen) (ea_cons (ed_var rfl iv) (ea_cons (ed_var rfl (.int n)) ea_nil)) ⟨t, KS, n, hK.ok, hw, by omega, hsz, rfl, rfl⟩) fun u H1 e1 i1 => ?_)
  obtain rfl := i1.bl_of
  refine ⟨true, rfl, ?_⟩
  obtain ⟨b, kt, o, ps, r1, r2, rfl, hb, hk, ho, hp⟩ := hB.tk e1
  refine iteT ?_
  refine ⟨_, rfl, .inr (.inl ⟨b, [.ref kt, r1, r2], 0, .ref kt, rfl, rfl, hb, rfl, ?_⟩)⟩
  refine ⟨kt, o, ps, kvsOf KS, rfl, hk, ho, hp, fun p hp => ⟨_, rfl, ?_⟩⟩
  rw [hK.m]
  exact ⟨p, v, t, KS, n, rfl, upd_same .., hK.v, hw, hdp, hsz, iv.ex (e1.trans (Ex.new hp)), fun H2 e2 => q H2 ((e1.trans (Ex.new hp)).trans e2)⟩
def SclosedIn (K : PySem.W.Frag) : Sp := fun vs H Q E => ∃ (vb v : V) (t : Ty) (KS : List (Str × Nat)), vs = [vb, v] ∧ KsG KS ∧ Book K H vb KS ∧ t.Wf KS 0 ∧ t.depth ≤ 8 ∧ t.size ≤ 1000 ∧ Im K H v t.d ∧ ∀ H2, Ex H H2 → Q (.bl true) H2
theorem ok_is_closed_in (T : Tx K mg) : Ok P w K mg base 13 d_is_closed_in ["book", "thing"] (SclosedIn K) := by
  have G_is_open_in := ok_is_open_in (P := P) (w := w) (base := base) T
  refine (T.F_is_closed_in).ok sc_is_closed_in (fun vs H Q E ⟨vb, v, t, KS, e, _⟩ => by rw [e]; rfl) (fun cdv A outer s H vs Q E hr h => ?_)
  obtain ⟨vb, v, t, KS, rfl, hK, hB, hw, hdp, hsz, iv, q⟩ := h
  refine ⟨_, PSs.nox ((pss_one (ps_ret (pe_call G_is_open_in (hr.mono (by omega)) rfl T.g_is_open_in T.k_is_open_in T.B_is_open_in .nil pass0 (pa_cons (pv 0) (pa_cons (pv 1) (pa_cons pe_int pa_nil))))))), ?_⟩
  exact st_ret ⟨_, rfl, _, rfl, vb, v, t, KS, 0, rfl, hK, hB, hw, hdp, hsz, iv, q⟩
/-! ### makers, kinds, trees -/
/-- a maker: its name, its fields -/
abbrev Mkr := Str × List Ty
def mD (m : Mkr) : PyData := .tuple [.str m.1, .tuple (Ty.dAll m.2)]
/-- well formed makers of a kind -/
def MkOk (KS : List (Str × Nat)) (n : Nat) (m : Mkr) : Prop := m.1 ∈ NAMES ∧ m.2.length ≤ 3 ∧ ∀ t ∈ m.2, t.Wf KS n ∧ t.depth ≤ 4 ∧ t.size ≤ 8
def Rmaker : List PyData → PyData → Prop := fun ds r => ∃ (m : Mkr) (KS : List (Str × Nat)) (n : Nat), KsOk KS ∧ MkOk KS n m ∧ ds = [mD m, .int n] ∧ r = .bool true
theorem isTup_true {ds : List PyData} {lo hi : Int} (h1 : lo ≤ ds.length) (h2 : (ds.length : Int) ≤ hi) : isTupD (.tuple ds) lo hi = true := by
  simp [isTupD, h1, h2]
theorem ok_is_maker (T : Tx K mg) : Ok P w K mg base 6 d_is_maker ["thing", "many"] (Pu K Rmaker) := by
  have G_is_tuple := ok_is_tuple (P := P) (w := w) (base := base) T
  have G_is_high := ok_is_high (P := P) (w := w) (base := base) T
  have G_is_type := ok_is_type (P := P) (w := w) (base := base) T
  obtain ⟨dvT, V_is_type, B_is_type⟩ := T.BV_is_type
  refine (T.F_is_maker).ok sc_is_maker (pu_len (by rintro _ _ ⟨m, KS, n, _, _, rfl, _⟩; rfl)) (fun cdv A outer s H vs Q E hr h => ?_)
  obtain ⟨ds, r, im, ⟨m, KS, n, hK, ⟨hm1, hm2, hm3⟩, rfl, rfl⟩, q⟩ := h
  obtain ⟨v0, _, rfl, i0, im⟩ := im.cons_of
  obtain ⟨v1, _, rfl, i1, im⟩ := im.cons_of
  obtain rfl := im.nil_of
  obtain rfl := i1.int_of
  refine ⟨_, PSs.nox ((pss_cons (ps_if (PW.pt (pw_or (pt_not (pt_val (pe_call G_is_tuple (hr.mono (by omega)) rfl T.g_is_tuple T.k_is_tuple T.B_is_tuple .nil pass0 (pa_cons (pv 0) (pa_cons pe_int (pa_cons pe_int pa_nil)))))) (pw_or (pt_not (pt_val (pe_call G_is_high (hr.mono (by omega)) rfl T.g_is_high T.k_is_high T.B_is_high .nil pass0 (pa_cons (pe_ix (ix_seqK (K := K) rfl) (pv 0) pe_int (fun _ _ => rfl)) pa_nil)))) (pw_or1 (pt_not (pt_val (pe_call G_is_tuple (hr.mono (by omega)) rfl T.g_is_tuple T.k_is_tuple T.B_is_tuple .nil pass0 (pa_cons (pe_ix (ix_seqK (K := K) rfl) (pv 0) pe_int (fun _ _ => rfl)) (pa_cons pe_int (pa_cons (pe_gint (by rfl) T.i_MOST_FIELDS) pa_nil)))))))))) (pss_one (ps_ret pe_bl)) pss_nil)
  (pss_one (ps_ret (pe_callB (cr_allK (K := K) rfl rfl) rfl T.b_all bb_all (pa_cons (pe_lc (own := [("field", 2)]) (by rfl) sc_is_maker.nd (pi_tupK (K := K) rfl (pe_ix (ix_seqK (K := K) rfl) (pv 0) pe_int (fun _ _ => rfl))) (blkOk_by (own := [("field", 2)]) (N := ["thing", "many", "field"]) (sc := defScope s_is_maker) (by decide +kernel)) (fun _ _ _ _ _ => pg_name (i := 2) sc_is_maker.nd rfl (by first | exact Or.inl rfl | exact Or.inr rfl)) (fun _ _ _ _ _ => pts_nil) (fun _ _ _ _ _ => (pe_call G_is_type (hr.mono (by omega)) rfl T.g_is_type T.k_is_type B_is_type V_is_type pass0 (pa_cons (pv 2) (pa_cons (pv 1) pa_nil))))) pa_nil)))))), ?_⟩
  refine Sr.at (d := .bool true) ?_ q
  have hl : (Ty.dAll m.2).length = m.2.length := by rw [Ty.dAll_map, List.length_map]
  refine sr_if (b := false) (eb_or (b := false) (c := false) (eb_not (b := true) (eb_b (ed_call (R := RisTup) (ea_cons (ed_var rfl i0) (ea_cons ed_int (ea_cons ed_int ea_nil))) ⟨_, _, _, rfl, rfl⟩))) fun _ => eb_or (b := false) (c := false) (eb_not (b := true) (eb_b (ed_call (R := Rname) (ea_cons (ed_op (ed_var rfl i0) ed_int (rd_ix rfl)) ea_nil) ⟨_, hm1, rfl, rfl⟩))) fun _ =>
    eb_not (b := true) (eb_b (ed_call (R := RisTup) (ea_cons (ed_op (ed_var rfl i0) ed_int (rd_ix rfl)) (ea_cons ed_int (ea_cons ed_int ea_nil))) ⟨_, _, _, rfl, ?_⟩))) (fun z => by cases z) fun _ => ?_
  · rw [isTup_true (by omega) (by omega)]
  refine sr_ret ((ed_all (K := K) (bs := m.2.map fun _ => true) ((el_lc (p := fun _ => true) (f := fun _ => .bool true) (ed_op (ed_var rfl i0) ed_int (rd_ix rfl)) (by omega) fun j x v1 H1 hx e1 i1 => ?_).to ?_)).to ?_)
  · rw [Ty.dAll_map, List.getElem?_map] at hx
    obtain ⟨t, ht, rfl⟩ := Option.map_eq_some_iff.mp hx
    obtain ⟨w1, w2, w3⟩ := hm3 t (List.mem_of_getElem? ht)
    refine ⟨_, gd_name, rfl, eb_yes, fun _ => ?_⟩
    exact ed_callD (R := Rshaped) (dd := [.int 6, .int 30]) (fun H => .cons (.int 6) (.cons (.int 30) .nil)) (ea_cons (ed_var rfl i1) (ea_cons (ed_var rfl (.int n)) ea_nil)) ⟨t, KS, n, 6, 30, hK, w1, by omega, by omega, by decide, rfl, rfl⟩
  · rw [List.filter_eq_self.mpr (fun _ _ => rfl), Ty.dAll_map, List.map_map, List.map_map]
    rfl
  · simp
abbrev Knd := Str × Nat × List Mkr
def knD (k : Knd) : PyData := .tuple [.str k.1, .int (k.2.1 : Nat), .tuple (k.2.2.map mD)]
def KnOk (KS : List (Str × Nat)) (k : Knd) : Prop := (k.1, k.2.1) ∈ KS ∧ 1 ≤ k.2.2.length ∧ k.2.2.length ≤ 3 ∧ ∀ m ∈ k.2.2, MkOk KS k.2.1 m
def Rkind : List PyData → PyData → Prop := fun ds r => ∃ (k : Knd) (KS : List (Str × Nat)), KsOk KS ∧ KnOk KS k ∧ ds = [knD k] ∧ r = .bool true
theorem ok_is_kind (T : Tx K mg) : Ok P w K mg base 7 d_is_kind ["thing"] (Pu K Rkind) := by
  have G_is_tuple := ok_is_tuple (P := P) (w := w) (base := base) T
  have G_is_high := ok_is_high (P := P) (w := w) (base := base) T
  have G_within := ok_within (P := P) (w := w) (base := base) T
  have G_is_maker := ok_is_maker (P := P) (w := w) (base := base) T
  refine (T.F_is_kind).ok sc_is_kind (pu_len (by rintro _ _ ⟨k, KS, _, _, rfl, _⟩; rfl)) (fun cdv A outer s H vs Q E hr h => ?_)
  obtain ⟨ds, r, im, ⟨k, KS, hK, ⟨hk1, hk2, hk3, hk4⟩, rfl, rfl⟩, q⟩ := h
  obtain ⟨v0, _, rfl, i0, im⟩ := im.cons_of
  obtain rfl := im.nil_of
  refine ⟨_, PSs.nox ((pss_cons (ps_if (PW.pt (pw_or (pt_not (pt_val (pe_call G_is_tuple (hr.mono (by omega)) rfl T.g_is_tuple T.k_is_tuple T.B_is_tuple .nil pass0 (pa_cons (pv 0) (pa_cons pe_int (pa_cons pe_int pa_nil)))))) (pw_or (pt_not (pt_val (pe_call G_is_high (hr.mono (by omega)) rfl T.g_is_high T.k_is_high T.B_is_high .nil pass0 (pa_cons (pe_ix (ix_seqK (K := K) rfl) (pv 0) pe_int (fun _ _ => rfl)) pa_nil)))) (pw_or1 (pt_not (pt_val (pe_call G_within (hr.mono (by omega)) rfl T.g_within T.k_within T.B_within .nil pass0 (pa_cons (pe_ix (ix_seqK (K := K) rfl) (pv 0) pe_int (fun _ _ => rfl)) (pa_cons pe_int (pa_cons (pe_gint (by rfl) T.i_MOST_PARAMS_types) pa_nil)))))))))) (pss_one (ps_ret pe_bl)) pss_nil)
  (pss_one (ps_ret (pe_and (pe_call G_is_tuple (hr.mono (by omega)) rfl T.g_is_tuple T.k_is_tuple T.B_is_tuple .nil pass0 (pa_cons (pe_ix (ix_seqK (K := K) rfl) (pv 0) pe_int (fun _ _ => rfl)) (pa_cons pe_int (pa_cons (pe_gint (by rfl) T.i_MOST_MAKERS) pa_nil)))) (pe_one (pe_callB (cr_allK (K := K) rfl rfl) rfl T.b_all bb_all (pa_cons (pe_lc (own := [("maker", 1)]) (by rfl) sc_is_kind.nd (pi_tupK (K := K) rfl (pe_ix (ix_seqK (K := K) rfl) (pv 0) pe_int (fun _ _ => rfl))) (blkOk_by (own := [("maker", 1)]) (N := ["thing", "maker"]) (sc := defScope s_is_kind) (by decide +kernel)) (fun _ _ _ _ _ => pg_name (i := 1) sc_is_kind.nd rfl (by first | exact Or.inl rfl | exact Or.inr rfl)) (fun _ _ _ _ _ => pts_nil) (fun _ _ _ _ _ => (pe_call G_is_maker (hr.mono (by omega)) rfl T.g_is_maker T.k_is_maker T.B_is_maker .nil pass0 (pa_cons (pv 1) (pa_cons (pe_ix (ix_seqK (K := K) rfl) (pv 0) pe_int (fun _ _ => rfl)) pa_nil))))) pa_nil)))))))), ?_⟩
  refine Sr.at (d := .bool true) ?_ q
  have hl := lots_ok _ (hK _ hk1)
  have h2 : k.2.1 ≤ 2 := hl.2
  refine sr_if (b := false) (eb_or (b := false) (c := false) (eb_not (b := true) (eb_b (ed_call (R := RisTup) (ea_cons (ed_var rfl i0) (ea_cons ed_int (ea_cons ed_int ea_nil))) ⟨_, _, _, rfl, rfl⟩))) fun _ => eb_or (b := false) (c := false) (eb_not (b := true) (eb_b (ed_call (R := Rname) (ea_cons (ed_op (ed_var rfl i0) ed_int (rd_ix rfl)) ea_nil) ⟨_, hl.1, rfl, rfl⟩))) fun _ =>
    eb_not (b := true) (eb_b (ed_call (R := Rwithin) (ea_cons (ed_op (ed_var rfl i0) ed_int (rd_ix rfl)) (ea_cons ed_int (ea_cons ed_int ea_nil))) ⟨_, _, _, rfl, ?_⟩))) (fun z => by cases z) fun _ => ?_
  · have h3 : decide ((0 : Int) ≤ (k.2.1 : Int)) = true := decide_eq_true (by omega)
    have h4 : decide ((k.2.1 : Int) ≤ 2) = true := decide_eq_true (by omega)
    simp only [withinD, h3, h4]
    rfl
  refine sr_ret (ed_and (b := true) (c := true) (ed_call (R := RisTup) (ea_cons (ed_op (ed_var rfl i0) ed_int (rd_ix rfl)) (ea_cons ed_int (ea_cons ed_int ea_nil))) ⟨_, _, _, rfl, ?_⟩) fun _ => (ed_all (K := K) (bs := k.2.2.map fun _ => true) ((el_lc (p := fun _ => true) (f := fun _ => .bool true) (ed_op (ed_var rfl i0) ed_int (rd_ix rfl)) (by rw [List.length_map]; omega) fun j x v1 H1 hx e1 i1 => ?_).to ?_)).to ?_)
  · rw [isTup_true (by rw [List.length_map]; omega) (by rw [List.length_map]; omega)]
  · rw [List.getElem?_map] at hx
    obtain ⟨m, hm, rfl⟩ := Option.map_eq_some_iff.mp hx
    refine ⟨_, gd_name, rfl, eb_yes, fun _ => ?_⟩
    exact ed_call (R := Rmaker) (ea_cons (ed_var rfl i1) (ea_cons (ed_op (ed_var rfl (i0.ex e1)) ed_int (rd_ix rfl)) ea_nil)) ⟨m, KS, k.2.1, hK, hk4 m (List.mem_of_getElem? hm), rfl, rfl⟩
  · rw [List.filter_eq_self.mpr (fun _ _ => rfl), List.map_map, List.map_map]
    rfl
  · simp
end
end K55
/-! objects, dicts, what stays -/
namespace W5
open PySem PySem.Spec PyProof.Rows L2
open Evl (Ex)
/-- all but the objects of S stay -/
def Kp (S : List Addr) (H H' : Hp) : Prop := ∀ a o, a ∉ S → H a = some o → H' a = some o
section
variable {K : PySem.W.Frag} {σ : L2.St} {H H' H1 H2 H3 : Hp} {te ta tb tc : TE} {t u : TT} {d x y z : PyData} {ds es : List PyData} {b c : Bool} {S : List Addr} {p : Addr} {o : HO}
theorem Kp.refl (S : List Addr) (H : Hp) : Kp S H H := fun _ _ _ e => e
theorem Kp.ex (a : Kp S H H1) (e : Ex H1 H2) : Kp S H H2 := fun x o n h => e x o (a x o n h)
theorem Kp.of (e : Ex H H1) : Kp S H H1 := fun x o _ h => e x o h
theorem Kp.trans (a : Kp S H H1) (b : Kp S H1 H2) : Kp S H H2 := fun x o n h => b x o n (a x o n h)
theorem Kp.upd (a : Kp S H H1) (h : p ∈ S) : Kp S H (upd H1 p o) := fun x u n e => by rw [upd_ne (fun z => n (by rw [z]; exact h))]; exact a x u n e
theorem Kp.sub {T : List Addr} (a : Kp S H H1) (h : ∀ p ∈ S, p ∈ T) : Kp T H H1 := fun x o n e => a x o (fun z => n (h x z)) e
/-- an object that was not there may change, too -/
theorem Kp.drop {q : Addr} (a : Kp (q :: S) H H1) (h : H q = none) : Kp S H H1 := fun x o n e => a x o (fun z => by
  rcases List.mem_cons.mp z with z | z
  · rw [z, h] at e; cases e
  · exact n z) e
theorem Kp.to_ex (a : Kp [] H H1) : Ex H H1 := fun x o e => a x o (by simp) e
theorem Kp.tk (a : Kp S H H1) (h : ∀ p ∈ S, ∀ xs, ¬ Rd H p (.tup xs)) : Tk H H1 := fun x xs r => by
  have n : x ∉ S := fun z => h x z xs r
  rcases r with r | ⟨o, r⟩
  · exact .inl (a _ _ n r)
  · exact .inr ⟨o, a _ _ n r⟩
theorem Kp.sqL (a : Kp S H H1) {q : Addr} {xs : List V} (n : q ∉ S) (h : SqL K H q xs) : SqL K H1 q xs := by
  rcases h with (h | ⟨o, h⟩) | h
  · exact .inl (.inl (a _ _ n h))
  · exact .inl (.inr ⟨o, a _ _ n h⟩)
  · exact .inr h
/-- self.f = {} -/
theorem sq_fldNew {i : Nat} {x C dx : Addr} {fs : List (Str × V)} {f : Str} {us : TS} {D : Ends} (hs : σ[i]? = some (some (.ref x))) (hx : H x = some (.ins C dx fs)) (c : Cls K C) (n : NoAttr K C f) (hl : fs.length < 1000)
    (k : ∀ a H1, H a = none → a ≠ x → Kp [x] H H1 → Tk H H1 → H1 x = some (.ins C dx (putF f (.ref a) fs)) → H1 a = some (.dK []) → us D σ H1) : tSeq (sFld K (tVar i) tDNewK f) us D σ H := by
  intro a ha
  have ne : a ≠ x := fun z => by rw [z, hx] at ha; cases ha
  have hx1 : (L2.upd H a (.dK [])) x = some (.ins C dx fs) := by rw [upd_ne (Ne.symm ne)]; exact hx
  refine ⟨_, hs, x, C, dx, fs, rfl, hx1, c, n, hl, ?_⟩
  refine k a _ ha ne (((Kp.of (Ex.new ha)).upd (by simp))) ((Tk.ex (Ex.new ha)).trans (Tk.upd (no_ins hx1))) (upd_same ..) ?_
  rw [upd_ne ne]
  exact upd_same ..
/-- self.f = e -/
theorem sq_fldD {i : Nat} {x C dx : Addr} {fs : List (Str × V)} {f : Str} {us : TS} {D : Ends} (hs : σ[i]? = some (some (.ref x))) (hx : H x = some (.ins C dx fs)) (c : Cls K C) (n : NoAttr K C f) (hl : fs.length < 1000)
    (he : Ed K te σ H d) (k : ∀ v H1, Ex H H1 → Im K H1 v d → us D σ (L2.upd H1 x (.ins C dx (putF f v fs)))) : tSeq (sFld K (tVar i) te f) us D σ H :=
  he H (Ex.refl H) _ fun v H1 e1 i1 => ⟨_, hs, x, C, dx, fs, rfl, e1 _ _ hx, c, n, hl, k v H1 e1 i1⟩
theorem sq_fldL {i : Nat} {x C dx : Addr} {fs : List (Str × V)} {f : Str} {us : TS} {D : Ends} (hs : σ[i]? = some (some (.ref x))) (hx : H x = some (.ins C dx fs)) (c : Cls K C) (n : NoAttr K C f) (hl : fs.length < 1000)
    (he : El K te σ H ds) (k : ∀ p vs H1, H p = none → Ex H H1 → H1 p = some (.lst vs) → ImAll K H1 vs ds → us D σ (L2.upd H1 x (.ins C dx (putF f (.ref p) fs)))) : tSeq (sFld K (tVar i) te f) us D σ H :=
  he H (Ex.refl H) _ fun p vs H1 hp e1 h1 i1 => ⟨_, hs, x, C, dx, fs, rfl, e1 _ _ hx, c, n, hl, k p vs H1 hp e1 h1 i1⟩
theorem st_fldL {i : Nat} {x C dx : Addr} {fs : List (Str × V)} {f : Str} {D : Ends} (hs : σ[i]? = some (some (.ref x))) (hx : H x = some (.ins C dx fs)) (c : Cls K C) (n : NoAttr K C f) (hl : fs.length < 1000)
    (he : El K te σ H ds) (k : ∀ p vs H1, H p = none → Ex H H1 → H1 p = some (.lst vs) → ImAll K H1 vs ds → D.nx σ (L2.upd H1 x (.ins C dx (putF f (.ref p) fs)))) : sFld K (tVar i) te f D σ H :=
  he H (Ex.refl H) _ fun p vs H1 hp e1 h1 i1 => ⟨_, hs, x, C, dx, fs, rfl, e1 _ _ hx, c, n, hl, k p vs H1 hp e1 h1 i1⟩
theorem sq_dput {td ty tv : TE} {us : TS} {D : Ends} (h : tv σ H fun v H1 => td σ H1 fun x H2 => ty σ H2 fun y H3 => ∃ a H4, x = .ref a ∧ DPut H3 a y v H4 ∧ us D σ H4) : tSeq (sDPut td ty tv) us D σ H := h
/-- x.f -/
theorem te_fld {i : Nat} {x C dx : Addr} {fs : List (Str × V)} {f : Str} {v : V} {Q : VK} (hs : σ[i]? = some (some (.ref x))) (hx : H x = some (.ins C dx fs)) (c : Cls K C) (n : NoAttr K C f) (hf : fs.lookup f = some v) (q : Q v H) : tFld K (tVar i) f σ H Q :=
  ⟨_, hs, x, C, dx, fs, v, rfl, hx, c, n, hf, q⟩
/-! ### dicts from texts to data -/
def DkR (K : PySem.W.Frag) (H : Hp) (kvs : List (Key × V)) (kd : List (Str × PyData)) : Prop := Paired (fun p q => p.1 = .inr q.1 ∧ Im K H p.2 q.2) kvs kd
theorem DkR.mono {kvs : List (Key × V)} {kd : List (Str × PyData)} (h : DkR K H kvs kd) (e : Tk H H1) : DkR K H1 kvs kd := Paired.mapP h fun _ _ z => ⟨z.1, z.2.mono e⟩
theorem DkR.none {kvs : List (Key × V)} {kd : List (Str × PyData)} (h : DkR K H kvs kd) {s : Str} (hn : s ∉ kd.map (·.1)) : valV kvs (.inr s) = .none := by
  unfold DkR at h
  induction h with
  | nil => rfl
  | @cons p q ps qs hp t ih =>
    simp only [List.map_cons, List.mem_cons, not_or] at hn
    rw [valV_neg (by rw [hp.1]; intro z; exact hn.1 (Sum.inr.inj z).symm)]
    exact ih hn.2
theorem DkR.some {kvs : List (Key × V)} {kd : List (Str × PyData)} (h : DkR K H kvs kd) (hn : (kd.map (·.1)).Nodup) {s : Str} {e : PyData} (hm : (s, e) ∈ kd) : ∃ v, valV kvs (.inr s) = some v ∧ Im K H v e := by
  unfold DkR at h
  induction h with
  | nil => cases hm
  | @cons p q ps qs hp t ih =>
    rw [List.map_cons, List.nodup_cons] at hn
    rcases List.mem_cons.mp hm with rfl | hm
    · exact ⟨p.2, valV_pos hp.1, hp.2⟩
    · have ne : ¬ p.1 = .inr s := fun z => hn.1 (by
        rw [hp.1] at z
        rw [Sum.inr.inj z]
        exact List.mem_map.mpr ⟨_, hm, rfl⟩)
      rw [valV_neg ne]
      exact ih hn.2 hm
theorem valV_merge (j : Key) : ∀ (more kvs : List (Key × V)), (more.map (·.1)).Nodup → valV (mergeK kvs more) j = (valV more j).or (valV kvs j)
  | [], kvs, _ => by simp [mergeK, valV_nil]
  | p :: more, kvs, h => by
    rw [List.map_cons, List.nodup_cons] at h
    show valV (mergeK (putK kvs p.1 p.2) more) j = _
    rw [valV_merge j more _ h.2, valV_put]
    by_cases e : j = p.1
    · subst e
      rw [if_pos rfl, valV_pos rfl]
      have : valV more p.1 = .none := by
        cases q : valV more p.1 with
        | none => rfl
        | some v => exact absurd (valV_in q) h.1
      rw [this]
      rfl
    · rw [if_neg e, valV_neg (fun z => e z.symm)]
theorem DkR.keys {kvs : List (Key × V)} {kd : List (Str × PyData)} (h : DkR K H kvs kd) : kvs.map (·.1) = kd.map fun q => .inr q.1 := by
  unfold DkR at h
  induction h with
  | nil => rfl
  | cons hp t ih => rw [List.map_cons, List.map_cons, ih, hp.1]
theorem DkR.len {kvs : List (Key × V)} {kd : List (Str × PyData)} (h : DkR K H kvs kd) : kvs.length = kd.length := Paired.length h
/-- a new dict of data -/
def Edk (K : PySem.W.Frag) (te : TE) (σ : L2.St) (H : Hp) (kd : List (Str × PyData)) : Prop := ∀ H1, Ex H H1 → ∀ Q : VK, (∀ p kvs H2, H1 p = none → Ex H1 H2 → H2 p = some (.dK kvs) → DkR K H2 kvs kd → Q (.ref p) H2) → te σ H1 Q
theorem Edk.cn {kd : List (Str × PyData)} {tr : TA} {Q : List V → Hp → Prop} (h : Edk K te σ H kd) (q : ∀ p kvs H2, H p = .none → Ex H H2 → H2 p = some (.dK kvs) → DkR K H2 kvs kd → tr σ H2 fun xs H3 => Q (.ref p :: xs) H3) : tCons te tr σ H Q := h H (Ex.refl H) _ q
theorem edk_dc {g : TG} {own : List Nat} {tk tv : TE} {key : PyData → Str} {val : PyData → PyData} (ht : Ed K ta σ H (.tuple ds)) (hz : ds.length < 100000) (hn : (ds.map key).Nodup)
    (hc : ∀ (j : Nat) x v H1, ds[j]? = some x → Ex H H1 → Im K H1 v x → ∃ σ2, Gd g v (wipe σ own) H1 σ2 ∧ wipe σ2 own = wipe σ own ∧ Ed K tk σ2 H1 (.str (key x)) ∧ Ed K tv σ2 H1 (val x)) :
    Edk K (tDc (iTup K ta) g tYes tk tv own) σ H (ds.map fun x => (key x, val x)) := fun H1 e Q q => by
  refine ht H1 e _ fun v H2 e2 i2 => ?_
  obtain ⟨a, vs, rfl, h, hs⟩ := i2.tup_of
  refine ⟨a, rfl, ⟨vs, h⟩, fun D hD => ?_⟩
  refine dc_tup (K := K) (a := a) (xs := vs) (fun j H3 => Ex H2 H3 ∧ ∃ kvs, H3 D = some (.dK kvs) ∧ DkR K H3 kvs ((ds.take j).map fun x => (key x, val x)) ∧ j ≤ ds.length) ?_ ?_ ?_ ?_
  · exact ⟨Ex.new hD, [], upd_same .., .nil, Nat.zero_le _⟩
  · rintro j H3 _ ⟨e3, _⟩
    exact (Tk.ex e3).sq h
  · rintro j x H3 hx ⟨e3, kvs, h3, i3, hj⟩
    obtain ⟨d1, hd1, im⟩ := hs.getV hx
    have hjl : j < ds.length := (List.getElem?_eq_some_iff.mp hd1).1
    obtain ⟨σ2, hg, hw, hk, he⟩ := hc j d1 x H3 hd1 ((e.trans e2).trans e3) (im.ex e3)
    refine hg _ ⟨hw, ?_⟩
    show tk _ _ _
    refine hk H3 (Ex.refl H3) _ fun y H4 e4 i4 => ?_
    obtain rfl := i4.str_of
    refine he H4 e4 _ fun z H5 e5 i5 => ?_
    have hz' : kvs.length < sizeLine := by
      have := i3.len
      rw [this, List.length_map, List.length_take]
      exact Evl.sz_lt (by omega)
    refine ⟨kvs, .inr (key d1), rfl, e5 _ _ (e4 _ _ h3), hz', ?_, ?_⟩
    · exact Ex.mut ((e3.trans e4).trans e5) hD (o := .dK (putK kvs (.inr (key d1)) z))
    · have t : Tk H5 (L2.upd H5 D (.dK (putK kvs (.inr (key d1)) z))) := Tk.upd (no_dK (e5 _ _ (e4 _ _ h3)))
      have ht : ds.take (j + 1) = ds.take j ++ [d1] := by rw [List.take_succ, hd1]; rfl
      have nk : key d1 ∉ ((ds.take j).map fun x => (key x, val x)).map (·.1) := by
        rw [List.map_map]
        intro m
        have hsub : ((ds.take (j + 1)).map key).Nodup := by
          refine List.Nodup.sublist ?_ hn
          exact (List.take_sublist _ _).map key
        rw [ht, List.map_append, List.nodup_append] at hsub
        exact hsub.2.2 (key d1) m (key d1) (by simp) rfl
      refine ⟨_, upd_same .., ?_, hjl⟩
      rw [putK_new z (i3.none nk)] at t ⊢
      rw [ht, List.map_append]
      have i3' := (DkR.mono i3 (Tk.ex (e4.trans e5))).mono t
      exact Paired.snoc i3' ⟨rfl, i5.mono t⟩
  · rintro H3 ⟨e3, kvs, h3, i3, _⟩
    rw [hs.length, List.take_length] at i3
    exact q D kvs H3 (Evl.fresh_back e2 hD) (e2.trans e3) h3 i3
end
end W5
namespace K55
open PySem PySem.Spec PyProof.Rows L2 W5 M5
open Evl (Ex)
section
variable {P : Program} {w : World} {K : PySem.W.Frag} {mg : Str → Option Value} {base : Heap}
def pD (ks : List Knd) : PyData := .tuple [.tuple (ks.map knD), .tuple [], .tuple [], .tuple []]
def ksOf (ks : List Knd) : List (Str × Nat) := ks.map fun k => (k.1, k.2.1)
structure PgOk (ks : List Knd) : Prop where
  kinds : ∃ c, 1 ≤ c ∧ c ≤ 5 ∧ ksOf ks = LOTS.take c
  kn : ∀ k ∈ ks, KnOk (ksOf ks) k
  mkr : (ks.flatMap fun k => k.2.2.map (·.1)).Nodup
theorem PgOk.g {ks : List Knd} (h : PgOk ks) : KsG (ksOf ks) := by
  obtain ⟨c, h1, h2, e⟩ := h.kinds
  rw [e]
  exact ksG_take c h2
theorem PgOk.len {ks : List Knd} (h : PgOk ks) : ks.length ≤ 5 := by
  have := h.g.s
  simpa [ksOf] using this
def Rtree : List PyData → PyData → Prop := fun ds r => ∃ ks, PgOk ks ∧ ds = [pD ks] ∧ r = .bool true
theorem all_true (n : Nat) : ((List.replicate n true).all id) = true := by simp
theorem el_none {t : TT} {g : TG} {te ta : TE} {own : List Nat} {σ : L2.St} {H : Hp} (ht : Ed K ta σ H (.tuple [])) : El K (tLc (iTup K ta) g t te own) σ H (([] : List Bool).map .bool) :=
  (el_lc (p := fun _ => true) (f := id) ht (by decide) fun j x v H1 hx => by simp at hx).to rfl
theorem ok_is_tree (T : Tx K mg) : Ok P w K mg base 8 d_is_tree ["thing"] (Pu K Rtree) := by
  have G_is_tuple := ok_is_tuple (P := P) (w := w) (base := base) T
  have G_is_kind := ok_is_kind (P := P) (w := w) (base := base) T
  refine (T.F_is_tree).ok sc_is_tree (pu_len (by rintro _ _ ⟨ks, _, rfl, _⟩; rfl)) (fun cdv A outer s H vs Q E hr h => ?_)
  obtain ⟨ds, r, im, ⟨ks, hP, rfl, rfl⟩, q⟩ := h
  obtain ⟨v0, _, rfl, i0, im⟩ := im.cons_of
  obtain rfl := im.nil_of
  refine ⟨_, PSs.nox ((pss_cons (ps_if (PW.pt (pw_or (pt_not (pt_val (pe_call G_is_tuple (hr.mono (by omega)) rfl T.g_is_tuple T.k_is_tuple T.B_is_tuple .nil pass0 (pa_cons (pv 0) (pa_cons pe_int (pa_cons pe_int pa_nil)))))) (pw_or (pt_not (pt_val (pe_call G_is_tuple (hr.mono (by omega)) rfl T.g_is_tuple T.k_is_tuple T.B_is_tuple .nil pass0 (pa_cons (pe_ix (ix_seqK (K := K) rfl) (pv 0) pe_int (fun _ _ => rfl)) (pa_cons pe_int (pa_cons (pe_gint (by rfl) T.i_MOST_KINDS) pa_nil)))))) (pw_or1 (pt_not (pt_val (pe_call G_is_tuple (hr.mono (by omega)) rfl T.g_is_tuple T.k_is_tuple T.B_is_tuple .nil pass0 (pa_cons (pe_ix (ix_seqK (K := K) rfl) (pv 0) pe_int (fun _ _ => rfl)) (pa_cons pe_int (pa_cons (pe_gint (by rfl) T.i_MOST_CLASSES) pa_nil)))))))))) (pss_one (ps_ret pe_bl)) pss_nil)
  (pss_cons (ps_if (PW.pt (pw_or (pt_not (pt_val (pe_call G_is_tuple (hr.mono (by omega)) rfl T.g_is_tuple T.k_is_tuple T.B_is_tuple .nil pass0 (pa_cons (pe_ix (ix_seqK (K := K) rfl) (pv 0) pe_int (fun _ _ => rfl)) (pa_cons pe_int (pa_cons (pe_gint (by rfl) T.i_MOST_WAYS) pa_nil)))))) (pw_or1 (pt_not (pt_val (pe_call G_is_tuple (hr.mono (by omega)) rfl T.g_is_tuple T.k_is_tuple T.B_is_tuple .nil pass0 (pa_cons (pe_ix (ix_seqK (K := K) rfl) (pv 0) pe_int (fun _ _ => rfl)) (pa_cons pe_int (pa_cons (pe_gint (by rfl) T.i_MOST_DEFS) pa_nil))))))))) (pss_one (ps_ret pe_bl)) pss_nil)
  (pss_cons (ps_if (PW.pt (pw_or (pt_not (pt_val (pe_callB (cr_allK (K := K) rfl rfl) rfl T.b_all bb_all (pa_cons (pe_lc (own := [("entry", 1)]) (by rfl) sc_is_tree.nd (pi_tupK (K := K) rfl (pe_ix (ix_seqK (K := K) rfl) (pv 0) pe_int (fun _ _ => rfl))) (blkOk_by (own := [("entry", 1)]) (N := ["thing", "entry"]) (sc := defScope s_is_tree) (by decide +kernel)) (fun _ _ _ _ _ => pg_name (i := 1) sc_is_tree.nd rfl (by first | exact Or.inl rfl | exact Or.inr rfl)) (fun _ _ _ _ _ => pts_nil) (fun _ _ _ _ _ => (pe_call G_is_kind (hr.mono (by omega)) rfl T.g_is_kind T.k_is_kind T.B_is_kind .nil pass0 (pa_cons (pv 1) pa_nil)))) pa_nil)))) (pw_or1 (pt_not (pt_val (pe_callB (cr_allK (K := K) rfl rfl) rfl T.b_all bb_all (pa_cons (pe_lc (own := [("entry", 1)]) (by rfl) sc_is_tree.nd (pi_tupK (K := K) rfl (pe_ix (ix_seqK (K := K) rfl) (pv 0) pe_int (fun _ _ => rfl))) (blkOk_by (own := [("entry", 1)]) (N := ["thing", "entry"]) (sc := defScope s_is_tree) (by decide +kernel)) (fun _ _ _ _ _ => pg_name (i := 1) sc_is_tree.nd rfl (by first | exact Or.inl rfl | exact Or.inr rfl)) (fun _ _ _ _ _ => pts_nil) (fun _ _ _ _ _ => pe_never)) pa_nil))))))) (pss_one (ps_ret pe_bl)) pss_nil)
  (pss_one (ps_ret (pe_and (pe_callB (cr_allK (K := K) rfl rfl) rfl T.b_all bb_all (pa_cons (pe_lc (own := [("entry", 1)]) (by rfl) sc_is_tree.nd (pi_tupK (K := K) rfl (pe_ix (ix_seqK (K := K) rfl) (pv 0) pe_int (fun _ _ => rfl))) (blkOk_by (own := [("entry", 1)]) (N := ["thing", "entry"]) (sc := defScope s_is_tree) (by decide +kernel)) (fun _ _ _ _ _ => pg_name (i := 1) sc_is_tree.nd rfl (by first | exact Or.inl rfl | exact Or.inr rfl)) (fun _ _ _ _ _ => pts_nil) (fun _ _ _ _ _ => pe_never)) pa_nil)) (pe_one (pe_callB (cr_allK (K := K) rfl rfl) rfl T.b_all bb_all (pa_cons (pe_lc (own := [("entry", 1)]) (by rfl) sc_is_tree.nd (pi_tupK (K := K) rfl (pe_ix (ix_seqK (K := K) rfl) (pv 0) pe_int (fun _ _ => rfl))) (blkOk_by (own := [("entry", 1)]) (N := ["thing", "entry"]) (sc := defScope s_is_tree) (by decide +kernel)) (fun _ _ _ _ _ => pg_name (i := 1) sc_is_tree.nd rfl (by first | exact Or.inl rfl | exact Or.inr rfl)) (fun _ _ _ _ _ => pts_nil) (fun _ _ _ _ _ => pe_never)) pa_nil)))))))))), ?_⟩
  refine Sr.at (d := .bool true) ?_ q
  have hl := hP.len
  refine sr_if (b := false) (eb_or (b := false) (c := false) (eb_not (b := true) (eb_b (ed_call (R := RisTup) (ea_cons (ed_var rfl i0) (ea_cons ed_int (ea_cons ed_int ea_nil))) ⟨_, _, _, rfl, rfl⟩))) fun _ => eb_or (b := false) (c := false) (eb_not (b := true) (eb_b (ed_call (R := RisTup) (ea_cons (ed_op (ed_var rfl i0) ed_int (rd_ix rfl)) (ea_cons ed_int (ea_cons ed_int ea_nil))) ⟨_, _, _, rfl, ?_⟩))) fun _ =>
    eb_not (b := true) (eb_b (ed_call (R := RisTup) (ea_cons (ed_op (ed_var rfl i0) ed_int (rd_ix rfl)) (ea_cons ed_int (ea_cons ed_int ea_nil))) ⟨_, _, _, rfl, rfl⟩))) (fun z => by cases z) fun _ => ?_
  · rw [isTup_true (by rw [List.length_map]; omega) (by rw [List.length_map]; omega)]
  refine sr_if (b := false) (eb_or (b := false) (c := false) (eb_not (b := true) (eb_b (ed_call (R := RisTup) (ea_cons (ed_op (ed_var rfl i0) ed_int (rd_ix rfl)) (ea_cons ed_int (ea_cons ed_int ea_nil))) ⟨_, _, _, rfl, rfl⟩))) fun _ => eb_not (b := true) (eb_b (ed_call (R := RisTup) (ea_cons (ed_op (ed_var rfl i0) ed_int (rd_ix rfl)) (ea_cons ed_int (ea_cons ed_int ea_nil))) ⟨_, _, _, rfl, rfl⟩))) (fun z => by cases z) fun _ => ?_
  refine sr_if (b := false) (eb_or (b := false) (c := false) (eb_not (b := true) (eb_b ((ed_all (K := K) (bs := ks.map fun _ => true) ((el_lc (p := fun _ => true) (f := fun _ => .bool true) (ed_op (ed_var rfl i0) ed_int (rd_ix rfl)) (by rw [List.length_map]; omega) fun j x v1 H1 hx e1 i1 => ?_).to ?_)).to ?_))) fun _ =>
    eb_not (b := true) (eb_b (ed_all (K := K) (el_none (ed_op (ed_var rfl i0) ed_int (rd_ix rfl)))))) (fun z => by cases z) fun _ => ?_
  · rw [List.getElem?_map] at hx
    obtain ⟨k, hk, rfl⟩ := Option.map_eq_some_iff.mp hx
    refine ⟨_, gd_name, rfl, eb_yes, fun _ => ?_⟩
    exact ed_call (R := Rkind) (ea_cons (ed_var rfl i1) ea_nil) ⟨k, ksOf ks, hP.g.ok, hP.kn k (List.mem_of_getElem? hk), rfl, rfl⟩
  · rw [List.filter_eq_self.mpr (fun _ _ => rfl), List.map_map, List.map_map]
    rfl
  · simp
  exact sr_ret (ed_and (b := true) (c := true) (ed_all (K := K) (el_none (ed_op (ed_var rfl i0) ed_int (rd_ix rfl)))) fun _ => ed_all (K := K) (el_none (ed_op (ed_var rfl i0) ed_int (rd_ix rfl))))
theorem ok_is_program (T : Tx K mg) : Ok P w K mg base 9 d_is_program ["thing"] (Pu K Rtree) := by
  have G_is_tree := ok_is_tree (P := P) (w := w) (base := base) T
  refine (T.F_is_program).ok sc_is_program (pu_len (by rintro _ _ ⟨ks, _, rfl, _⟩; rfl)) (fun cdv A outer s H vs Q E hr h => ?_)
  obtain ⟨ds, r, im, ⟨ks, hP, rfl, rfl⟩, q⟩ := h
  obtain ⟨v0, _, rfl, i0, im⟩ := im.cons_of
  obtain rfl := im.nil_of
  refine ⟨_, PSs.nox ((pss_cons (ps_if (pt_not (pt_val (pe_call G_is_tree (hr.mono (by omega)) rfl T.g_is_tree T.k_is_tree T.B_is_tree .nil pass0 (pa_cons (pv 0) pa_nil)))) (pss_one (ps_ret pe_bl)) pss_nil)
  (pss_one (ps_ret (pe_or (pe_cmpR (op_eqK (K := K) rfl hr) (pe_ix (ix_seqK (K := K) rfl) (pv 0) pe_int (fun _ _ => rfl)) (pe_tup pa_nil) (nomark _)) (pe_one (pe_not (pe_callB (cr_anyK (K := K) rfl rfl) rfl T.b_any bb_any (pa_cons (pe_lc (own := [("name", 1)]) (by rfl) sc_is_program.nd (pi_tupK (K := K) rfl pe_never) (blkOk_by (own := [("name", 1)]) (N := ["thing", "name"]) (sc := defScope s_is_program) (by decide +kernel)) (fun _ _ _ _ _ => pg_name (i := 1) sc_is_program.nd rfl (by first | exact Or.inl rfl | exact Or.inr rfl)) (fun _ _ _ _ _ => pts_nil) (fun _ _ _ _ _ => pe_never)) pa_nil))))))))), ?_⟩
  refine Sr.at (d := .bool true) ?_ q
  refine sr_if (b := false) (eb_not (b := true) (eb_b (ed_call (R := Rtree) (ea_cons (ed_var rfl i0) ea_nil) ⟨ks, hP, rfl, rfl⟩))) (fun z => by cases z) fun _ => ?_
  exact sr_ret (ed_or (b := true) (c := true) (ed_op (ed_op (ed_var rfl i0) ed_int (rd_ix rfl)) ed_tup0 ((rd_eq (Nat.le_trans (Nat.min_le_right _ _) (by simp [PyData.depth, PyData.depthAll, lineOf]))).to (by simp [PyData.eqv, PyData.eqvAll]))) fun z => by cases z)
def Rneed : List PyData → PyData → Prop := fun ds r => ∃ ks, PgOk ks ∧ ds = [pD ks] ∧ r = .none
theorem ok_need_program (T : Tx K mg) : Ok P w K mg base 10 d_need_program ["thing"] (Pu K Rneed) := by
  have G_is_program := ok_is_program (P := P) (w := w) (base := base) T
  refine (T.F_need_program).ok sc_need_program (pu_len (by rintro _ _ ⟨ks, _, rfl, _⟩; rfl)) (fun cdv A outer s H vs Q E hr h => ?_)
  obtain ⟨ds, r, im, ⟨ks, hP, rfl, rfl⟩, q⟩ := h
  obtain ⟨v0, _, rfl, i0, im⟩ := im.cons_of
  obtain rfl := im.nil_of
  refine ⟨_, PSs.nox ((pss_one (ps_if (pt_not (pt_val (pe_call G_is_program (hr.mono (by omega)) rfl T.g_is_program T.k_is_program T.B_is_program .nil pass0 (pa_cons (pv 0) pa_nil)))) (pss_one ps_never) pss_nil))), ?_⟩
  exact st_if (b := false) (eb_not (b := true) (eb_b (ed_call (R := Rtree) (ea_cons (ed_var rfl i0) ea_nil) ⟨ks, hP, rfl, rfl⟩))) fun H2 e2 => iteF (q _ H2 e2 .non)
/-! ### heads -/
theorem PgOk.nk {ks : List Knd} (h : PgOk ks) : (ks.map (·.1)).Nodup := by
  obtain ⟨c, h1, h2, e⟩ := h.kinds
  have h3 : ∀ c : Fin 6, ((LOTS.take c.val).map (·.1)).Nodup := by decide +kernel
  have h4 := h3 ⟨c, by omega⟩
  have h5 : ks.map (·.1) = (ksOf ks).map (·.1) := by simp [ksOf]
  rw [h5, e]
  exact h4
/-- the names of a kind's makers -/
abbrev nmk (k : Knd) : List Str := k.2.2.map (·.1)
theorem take_snoc {α : Type} {l : List α} {i : Nat} {x : α} (h : l[i]? = some x) : l.take (i + 1) = l.take i ++ [x] := by rw [List.take_succ, h]; rfl
theorem PgOk.apart {ks : List Knd} (h : PgOk ks) {i : Nat} {k : Knd} (hk : ks[i]? = some k) : (nmk k).Nodup ∧ ∀ s ∈ (ks.take i).flatMap nmk, s ∉ nmk k := by
  have h1 : ((ks.take (i + 1)).flatMap nmk).Nodup := by
    have hs : ((ks.take (i + 1)).flatMap nmk).Sublist (ks.flatMap nmk) := by
      rw [← List.take_append_drop (i + 1) ks, List.flatMap_append, List.take_append_drop]
      exact List.sublist_append_left _ _
    exact hs.nodup h.mkr
  rw [take_snoc hk, List.flatMap_append, List.nodup_append] at h1
  refine ⟨by simpa using h1.2.1, fun s hs hm => ?_⟩
  exact h1.2.2 s hs s (by simpa using hm) rfl
theorem PgOk.apartK {ks : List Knd} (h : PgOk ks) {i : Nat} {k : Knd} (hk : ks[i]? = some k) : k.1 ∉ (ks.take i).map (·.1) := by
  have h1 : ((ks.take (i + 1)).map (·.1)).Nodup := ((List.take_sublist _ _).map _).nodup h.nk
  rw [take_snoc hk, List.map_append, List.nodup_append] at h1
  intro hm
  exact h1.2.2 k.1 hm k.1 (by simp) rfl
/-- the table of kinds -/
def KindsT (K : PySem.W.Frag) (H : Hp) (kvs : List (L2.Key × V)) (ks : List Knd) : Prop := (∀ k ∈ ks, ∃ t l, valV kvs (.inr k.1) = some (.ref t) ∧ H t = some (.tup [.int (k.2.1 : Nat), .ref l]) ∧ H l = some (.lst (k.2.2.map fun m => V.str m.1))) ∧ ∀ s, s ∉ ks.map (·.1) → valV kvs (.inr s) = none
/-- the table of makers -/
def MakersT (K : PySem.W.Frag) (H : Hp) (kvs : List (L2.Key × V)) (ks : List Knd) : Prop := (∀ k ∈ ks, ∀ m ∈ k.2.2, ∃ v, valV kvs (.inr m.1) = some v ∧ Im K H v (.tuple [.str k.1, .tuple (Ty.dAll m.2)])) ∧ ∀ s, s ∉ (ks.flatMap fun k => k.2.2.map (·.1)) → valV kvs (.inr s) = none
theorem KindsT.ex {H H' : Hp} {kvs : List (L2.Key × V)} {ks : List Knd} (h : KindsT K H kvs ks) (e : Ex H H') : KindsT K H' kvs ks :=
  ⟨fun k hk => let ⟨t, l, h1, h2, h3⟩ := h.1 k hk; ⟨t, l, h1, e _ _ h2, e _ _ h3⟩, h.2⟩
theorem MakersT.tk {H H' : Hp} {kvs : List (L2.Key × V)} {ks : List Knd} (h : MakersT K H kvs ks) (e : Tk H H') : MakersT K H' kvs ks :=
  ⟨fun k hk m hm => let ⟨v, h1, h2⟩ := h.1 k hk m hm; ⟨v, h1, h2.mono e⟩, h.2⟩
/-- heads of a program's parts -/
def HeadsAt (K : PySem.W.Frag) (H : Hp) (x : Addr) (ks : List Knd) : Prop := ∃ dx am ak ac ame ad acp kvm kvk, H x = some (.ins (He.ga K "Heads") dx [("makers", .ref am), ("kinds", .ref ak), ("classes", .ref ac), ("methods", .ref ame), ("defs", .ref ad), ("captured", .ref acp)]) ∧
  H am = some (.dK kvm) ∧ MakersT K H kvm ks ∧ H ak = some (.dK kvk) ∧ KindsT K H kvk ks
theorem HeadsAt.ex {H H' : Hp} {x : Addr} {ks : List Knd} (h : HeadsAt K H x ks) (e : Ex H H') : HeadsAt K H' x ks := by
  obtain ⟨dx, am, ak, ac, ame, ad, acp, kvm, kvk, h1, h2, h3, h4, h5⟩ := h
  exact ⟨dx, am, ak, ac, ame, ad, acp, kvm, kvk, e _ _ h1, e _ _ h2, h3.tk (Tk.ex e), e _ _ h4, h5.ex e⟩
theorem for_enum0 {a : Addr} {g : TG} {tb : TS} {D : Ends} {σ : L2.St} {H : Hp} (h : SqT K H a []) (k : D.nx σ H) : ∃ W : Nat → Nat → L2.St → Hp → Prop, (∃ m, W 0 m σ H) ∧ ∀ i m σ H, W i m σ H →
    ((Itt0 K a).stop i H ∧ D.nx σ H) ∨ ((Itt0 K a).go i H ∧ ∃ N : L2.St → Hp → Prop, (∀ σ' H', N σ' H' → ∃ m', m' < m ∧ W (i + 1) m' σ' H') ∧ ∀ x H', (Itt0 K a).yld i H x H' → g x σ H' fun σ2 H2 => tb { D with nx := N, ct := N, bk := D.nx } σ2 H2) :=
  ⟨fun i m σ' H' => σ' = σ ∧ H' = H, ⟨0, rfl, rfl⟩, fun i m σ' H' e => .inl (by obtain ⟨rfl, rfl⟩ := e; exact ⟨h, k⟩)⟩
theorem sq_enum0 {te : TE} {g : TG} {tb us : TS} {D : Ends} {σ : L2.St} {H : Hp} (ht : Ed K te σ H (.tuple [])) (k : ∀ H1, Ex H H1 → us D σ H1) : tSeq (tFor (iEnum0 K (tCons te tNil)) g tb) us D σ H := by
  refine ht H (Ex.refl H) _ fun v H1 e1 i1 => ?_
  obtain ⟨a, vs, rfl, ha, hs⟩ := i1.tup_of
  cases hs
  exact ⟨a, rfl, ha, for_enum0 (D := { D with nx := us D }) ha (k H1 e1)⟩
theorem ims_map {α : Type} {H : Hp} (f : α → Str) : ∀ (l : List α) (vs : List V), ImAll K H vs (l.map fun m => PyData.str (f m)) → vs = l.map fun m => V.str (f m)
  | [], vs, h => h.nil_of
  | m :: l, vs, h => by
    obtain ⟨v, ws, rfl, a, b⟩ := ImAll.cons_of h
    rw [a.str_of, ims_map f l ws b]
    rfl
def SHeadsInit (K : PySem.W.Frag) : Sp := fun vs H Q E => ∃ x dx v ks, vs = [.ref x, v] ∧ H x = some (.ins (He.ga K "Heads") dx []) ∧ Im K H v (pD ks) ∧ PgOk ks ∧ ∀ H2, Kp [x] H H2 → HeadsAt K H2 x ks → Q .non H2
theorem ok_Heads_init (T : Tx K mg) : Ok P w K mg base 1 d_Heads_init ["self", "program"] (SHeadsInit K) := by
  refine (T.F_Heads_init).ok sc_Heads_init (fun vs H Q E ⟨x, dx, v, ks, e, _⟩ => by rw [e]; rfl) (fun cdv A outer s H vs Q E hr h => ?_)
  obtain ⟨x, dx, v, ks, rfl, hx, iv, hP, q⟩ := h
  refine ⟨_, PSs.nox ((pss_cons (ps_fld (pv 0) pe_dnewK rfl)
  (pss_cons (ps_fld (pv 0) pe_dnewK rfl)
  (pss_cons (ps_fld (pv 0) pe_dnewK rfl)
  (pss_cons (ps_fld (pv 0) pe_dnewK rfl)
  (pss_cons (ps_for PassesOwn.never rfl (pi_tupK (K := K) rfl (pe_ix (ix_seqK (K := K) rfl) (pv 1) pe_int (fun _ _ => rfl))) (pg_tupK (K := K) (n := 3) rfl rfl (pgs_cons (pg_name (i := 2) sc_Heads_init.nd rfl (by first | exact Or.inl rfl | exact Or.inr rfl)) (pgs_cons (pg_name (i := 3) sc_Heads_init.nd rfl (by first | exact Or.inl rfl | exact Or.inr rfl)) (pgs_cons (pg_name (i := 4) sc_Heads_init.nd rfl (by first | exact Or.inl rfl | exact Or.inr rfl)) pgs_nil)))) (pss_cons (ps_dput (hu_of hr) (pe_fldK (K := K) rfl (pv 0) rfl) (pv 2) (pe_tup (pa_cons (pv 3) (pa_cons (pe_lc (own := [("maker", 5), ("fields", 6)]) (by rfl) sc_Heads_init.nd (pi_tupK (K := K) rfl (pv 4)) (blkOk_by (own := [("maker", 5), ("fields", 6)]) (N := ["self", "program", "kind", "many", "makers", "maker", "fields", "c", "name", "uppers", "methods", "k", "method", "told", "entry"]) (sc := defScope s_Heads_init) (by decide +kernel)) (fun _ _ _ _ _ => pg_tupK (K := K) (n := 2) rfl rfl (pgs_cons (pg_name (i := 5) sc_Heads_init.nd rfl (by first | exact Or.inl rfl | exact Or.inr rfl)) (pgs_cons (pg_name (i := 6) sc_Heads_init.nd rfl (by first | exact Or.inl rfl | exact Or.inr rfl)) pgs_nil))) (fun _ _ _ _ _ => pts_nil) (fun _ _ _ _ _ => (pv 5))) pa_nil))) rfl)
  (pss_one (ps_expr (pe_bm PySem.F.plainAttrs_dict PySem.F.slot_dict_update PySem.F.type_dict_update mt_update (pe_fldK (K := K) rfl (pv 0) rfl) (pa_cons (pe_dc (own := [("maker", 5), ("fields", 6)]) (by rfl) sc_Heads_init.nd (pi_tupK (K := K) rfl (pv 4)) (blkOk_by (own := [("maker", 5), ("fields", 6)]) (N := ["self", "program", "kind", "many", "makers", "maker", "fields", "c", "name", "uppers", "methods", "k", "method", "told", "entry"]) (sc := defScope s_Heads_init) (by decide +kernel)) (fun _ _ _ _ _ => pg_tupK (K := K) (n := 2) rfl rfl (pgs_cons (pg_name (i := 5) sc_Heads_init.nd rfl (by first | exact Or.inl rfl | exact Or.inr rfl)) (pgs_cons (pg_name (i := 6) sc_Heads_init.nd rfl (by first | exact Or.inl rfl | exact Or.inr rfl)) pgs_nil))) (fun _ _ _ _ _ => pts_nil) (fun _ _ _ _ _ => (pv 5)) (fun _ _ _ _ _ => (pe_tup (pa_cons (pv 2) (pa_cons (pv 6) pa_nil))))) pa_nil))))))
  (pss_cons (ps_for PassesOwn.never rfl (pi_enum0 (by rfl) T.b_enumerate (pa_cons (pe_ix (ix_seqK (K := K) rfl) (pv 1) pe_int (fun _ _ => rfl)) pa_nil)) (pg_tupK (K := K) (n := 2) rfl rfl (pgs_cons (pg_name (i := 7) sc_Heads_init.nd rfl (by first | exact Or.inl rfl | exact Or.inr rfl)) (pgs_cons (pg_tupK (K := K) (n := 3) rfl rfl (pgs_cons (pg_name (i := 8) sc_Heads_init.nd rfl (by first | exact Or.inl rfl | exact Or.inr rfl)) (pgs_cons (pg_name (i := 9) sc_Heads_init.nd rfl (by first | exact Or.inl rfl | exact Or.inr rfl)) (pgs_cons (pg_name (i := 10) sc_Heads_init.nd rfl (by first | exact Or.inl rfl | exact Or.inr rfl)) pgs_nil)))) pgs_nil))) (pss_cons ps_never
  (pss_one ps_never)))
  (pss_cons (ps_fld (pv 0) (pe_lc (own := [("entry", 14)]) (by rfl) sc_Heads_init.nd (pi_tupK (K := K) rfl (pe_ix (ix_seqK (K := K) rfl) (pv 1) pe_int (fun _ _ => rfl))) (blkOk_by (own := [("entry", 14)]) (N := ["self", "program", "kind", "many", "makers", "maker", "fields", "c", "name", "uppers", "methods", "k", "method", "told", "entry"]) (sc := defScope s_Heads_init) (by decide +kernel)) (fun _ _ _ _ _ => pg_name (i := 14) sc_Heads_init.nd rfl (by first | exact Or.inl rfl | exact Or.inr rfl)) (fun _ _ _ _ _ => pts_nil) (fun _ _ _ _ _ => (pe_ix (ix_seqK (K := K) rfl) (pv 14) pe_int (fun _ _ => rfl)))) rfl)
  (pss_one (ps_fld (pv 0) (pe_lst pa_nil) rfl)))))))))), ?_⟩
  refine sq_fldNew rfl hx T.c_Heads T.n_Heads_makers (Nat.le_of_ble_eq_true rfl) fun am H1 fam nam k1 t1 hx1 h1 => ?_
  refine sq_fldNew rfl hx1 T.c_Heads T.n_Heads_kinds (Nat.le_of_ble_eq_true rfl) fun ak H2 fak nak k2 t2 hx2 h2 => ?_
  refine sq_fldNew rfl hx2 T.c_Heads T.n_Heads_classes (Nat.le_of_ble_eq_true rfl) fun ac H3 fac nac k3 t3 hx3 h3 => ?_
  refine sq_fldNew rfl hx3 T.c_Heads T.n_Heads_methods (Nat.le_of_ble_eq_true rfl) fun ame H4 fame name k4 t4 hx4 h4 => ?_
  have nka : ak ≠ am := fun z => by rw [z, h1] at fak; cases fak
  have fak0 : H ak = none := by
    cases e : H ak with
    | none => rfl
    | some o => rw [k1 _ _ (by simpa using nak) e] at fak; cases fak
  have ham : H4 am = some (.dK []) := k4 _ _ (by simpa using nam) (k3 _ _ (by simpa using nam) (k2 _ _ (by simpa using nam) h1))
  have hak : H4 ak = some (.dK []) := k4 _ _ (by simpa using nak) (k3 _ _ (by simpa using nak) h2)
  have k04 : Kp [x] H H4 := ((k1.trans k2).trans k3).trans k4
  have iv4 : Im K H4 v (pD ks) := iv.mono (((t1.trans t2).trans t3).trans t4)
  refine sq_forT (ed_op (ed_var rfl iv4) ed_int (rd_ix rfl)) fun H5 e5 => ?_
  refine ⟨fun j σ H' => ∃ o2 o3 o4 o5 o6 o7 o8 o9 o10 o11 o12 o13 o14 kvm kvk, σ = [some (.ref x), some v, o2, o3, o4, o5, o6, o7, o8, o9, o10, o11, o12, o13, o14] ∧ Kp [am, ak] H5 H' ∧ Tk H5 H' ∧ H' am = some (.dK kvm) ∧ H' ak = some (.dK kvk) ∧ kvm.length ≤ 3 * j ∧ kvk.length ≤ j ∧
    MakersT K H' kvm (ks.take j) ∧ KindsT K H' kvk (ks.take j) ∧ j ≤ ks.length, ?_, ?_, ?_, ?_⟩
  · exact ⟨none, none, none, none, none, none, none, none, none, none, none, none, none, [], [], rfl, Kp.refl _ _, Tk.refl _, e5 _ _ ham, e5 _ _ hak, Nat.zero_le _, Nat.zero_le _, ⟨fun k hk => by simp at hk, fun s _ => rfl⟩, ⟨fun k hk => by simp at hk, fun s _ => rfl⟩, Nat.zero_le _⟩
  · rintro i σ H' ⟨_, _, _, _, _, _, _, _, _, _, _, _, _, _, _, _, _, t, _⟩
    exact t
  · rintro i y vy σ H' hy iy ⟨o2, o3, o4, o5, o6, o7, o8, o9, o10, o11, o12, o13, o14, kvm, kvk, rfl, k6, t6, h6m, h6k, lm, lk, tm, tk, hi⟩
    rw [List.getElem?_map] at hy
    obtain ⟨k, hk, rfl⟩ := Option.map_eq_some_iff.mp hy
    have hkm := List.mem_of_getElem? hk
    have hik : i < ks.length := (List.getElem?_eq_some_iff.mp hk).1
    obtain ⟨a, us, rfl, ha, hs⟩ := iy.tup_of
    obtain ⟨u0, _, rfl, j0, hs⟩ := hs.cons_of
    obtain ⟨u1, _, rfl, j1, hs⟩ := hs.cons_of
    obtain ⟨u2, _, rfl, j2, hs⟩ := hs.cons_of
    obtain rfl := hs.nil_of
    obtain rfl := j0.str_of
    obtain rfl := j1.int_of
    refine gd_three ha _ ?_
    have hne : ∀ {b}, H b = none → b ≠ x := fun {b} hb z => by rw [z, hx] at hb; cases hb
    have hx' : H' x = some (.ins (He.ga K "Heads") dx [("makers", .ref am), ("kinds", .ref ak), ("classes", .ref ac), ("methods", .ref ame)]) := k6 _ _ (by simp [Ne.symm nam, Ne.symm nak]) (e5 _ _ hx4)
    obtain ⟨hk1, hk2, hk3, hk4⟩ := hP.kn k hkm
    refine sq_dput ⟨_, rfl, ?_⟩
    refine (el_lc (p := fun _ => true) (f := fun d => match d with | .tuple (n :: _) => n | _ => .none) (ed_var rfl j2) (by rw [List.length_map]; omega) fun j y vy H7 hy e7 i7 => ?_).cn fun l ls H7 hl e7 h7 i7 => ?_
    · rw [List.getElem?_map] at hy
      obtain ⟨m, hm, rfl⟩ := Option.map_eq_some_iff.mp hy
      obtain ⟨b, vs, rfl, hb, hbs⟩ := i7.tup_of
      obtain ⟨w0, _, rfl, y0, hbs⟩ := hbs.cons_of
      obtain ⟨w1, _, rfl, y1, hbs⟩ := hbs.cons_of
      obtain rfl := hbs.nil_of
      exact ⟨_, gd_two hb, rfl, eb_yes, fun _ => ed_var rfl y0⟩
    have ils : ls = k.2.2.map fun m => V.str m.1 := by
      have e : ((k.2.2.map mD).filter fun _ => true).map (fun d => match d with | .tuple (n :: _) => n | _ => .none) = k.2.2.map fun m => PyData.str m.1 := by
        rw [List.filter_eq_self.mpr (fun _ _ => rfl), List.map_map]
        rfl
      rw [e] at i7
      exact ims_map _ _ _ i7
    subst ils
    refine ⟨by show 2 ≤ sizeLine; decide, fun t ht => ?_⟩
    have e8 : Ex H' (upd H7 t (.tup [.int (k.2.1 : Nat), .ref l])) := e7.trans (Ex.new ht)
    have h8t : upd H7 t (.tup [.int (k.2.1 : Nat), .ref l]) t = some (.tup [.int (k.2.1 : Nat), .ref l]) := upd_same ..
    have h8l : upd H7 t (.tup [.int (k.2.1 : Nat), .ref l]) l = some (.lst (k.2.2.map fun m => V.str m.1)) := Ex.new ht _ _ h7
    generalize upd H7 t (.tup [.int (k.2.1 : Nat), .ref l]) = H8 at e8 h8t h8l
    refine te_fld rfl (e8 _ _ hx') T.c_Heads T.n_Heads_kinds rfl ?_
    refine ⟨_, rfl, ?_⟩
    refine ⟨ak, _, rfl, DPut.k (k := .inr k.1) (e8 _ _ h6k) (by have := Evl.sz_lt (n := kvk.length) (by have := hP.len; omega); exact this), ?_⟩
    have k9 : Kp [ak] H' (upd H8 ak (.dK (putK kvk (.inr k.1) (.ref t)))) := (Kp.of e8).upd (by simp)
    have t9 : Tk H' (upd H8 ak (.dK (putK kvk (.inr k.1) (.ref t)))) := (Tk.ex e8).trans (Tk.upd (no_dK (e8 _ _ h6k)))
    have h9k : upd H8 ak (.dK (putK kvk (.inr k.1) (.ref t))) ak = some (.dK (putK kvk (.inr k.1) (.ref t))) := upd_same ..
    have h9t : upd H8 ak (.dK (putK kvk (.inr k.1) (.ref t))) t = some (.tup [.int (k.2.1 : Nat), .ref l]) := by
      rw [upd_ne (fun z => by rw [z, e8 _ _ h6k] at h8t; cases h8t)]; exact h8t
    have h9l : upd H8 ak (.dK (putK kvk (.inr k.1) (.ref t))) l = some (.lst (k.2.2.map fun m => V.str m.1)) := by
      rw [upd_ne (fun z => by rw [z, e8 _ _ h6k] at h8l; cases h8l)]; exact h8l
    generalize upd H8 ak (.dK (putK kvk (.inr k.1) (.ref t))) = H9 at k9 t9 h9k h9t h9l
    have h9m : H9 am = some (.dK kvm) := k9 _ _ (by simp [Ne.symm nka]) h6m
    have h9x := k9 x _ (by simp [Ne.symm nak]) hx'
    refine st_drop ?_
    show tFld K (tVar 0) "makers" _ _ _
    refine te_fld rfl h9x T.c_Heads T.n_Heads_makers rfl ⟨.inr (.inr (.inl ⟨rfl, .inl ⟨kvm, h9m⟩⟩)), ?_⟩
    obtain ⟨nd, ap⟩ := hP.apart hk
    have dkey : ((k.2.2.map mD).map fun d => match d with | .tuple (.str n :: _) => n | _ => ("" : Str)) = nmk k := by
      rw [List.map_map]
      rfl
    refine Edk.cn (edk_dc (key := fun d => match d with | .tuple (.str n :: _) => n | _ => ("" : Str)) (val := fun d => match d with | .tuple (_ :: f :: _) => .tuple [.str k.1, f] | _ => .none) (ed_var rfl (j2.mono t9)) (by rw [List.length_map]; omega) (by rw [dkey]; exact nd) fun j y vy H10 hy e10 i10 => ?_) fun D kvd H10 hD e10 h10 i10 => ?_
    · rw [List.getElem?_map] at hy
      obtain ⟨m, hm, rfl⟩ := Option.map_eq_some_iff.mp hy
      obtain ⟨b, vs, rfl, hb, hbs⟩ := i10.tup_of
      obtain ⟨w0, _, rfl, y0, hbs⟩ := hbs.cons_of
      obtain ⟨w1, _, rfl, y1, hbs⟩ := hbs.cons_of
      obtain rfl := hbs.nil_of
      exact ⟨_, gd_two hb, rfl, ed_var rfl y0, ed_tup (ea_cons (ed_var rfl (.str k.1)) (ea_cons (ed_var rfl y1) ea_nil))⟩
    have hkd : ((k.2.2.map mD).map fun x => ((match x with | .tuple (.str n :: _) => n | _ => ("" : Str)), (match x with | .tuple (_ :: f :: _) => PyData.tuple [.str k.1, f] | _ => .none))) = k.2.2.map fun m => (m.1, PyData.tuple [.str k.1, .tuple (Ty.dAll m.2)]) := by
      rw [List.map_map]
      rfl
    rw [hkd] at i10
    have h10m := e10 _ _ h9m
    have neD : am ≠ D := fun z => by rw [← z, h9m] at hD; cases hD
    have lkd : kvd.length ≤ 3 := by rw [i10.len, List.length_map]; exact hk3
    have hil : kvm.length + kvd.length ≤ 100000 := by have := hP.len; omega
    refine ⟨am, D, kvm, kvd, rfl, rfl, h10m, h10, neD, Evl.sz_of hil, ?_⟩
    have t11 : Tk H10 (upd H10 am (.dK (mergeK kvm kvd))) := Tk.upd (no_dK h10m)
    have tt : Tk H' (upd H10 am (.dK (mergeK kvm kvd))) := (t9.trans (Tk.ex e10)).trans t11
    have h11 : ∀ {b o}, b ≠ am → H10 b = some o → upd H10 am (.dK (mergeK kvm kvd)) b = some o := fun {b o} n e => by rw [upd_ne n]; exact e
    have kk : Kp [am, ak] H' (upd H10 am (.dK (mergeK kvm kvd))) := ((k9.ex e10).sub (T := [am, ak]) (by simp)).upd (by simp)
    have nk : (kvd.map (·.1)).Nodup := by
      rw [i10.keys, List.map_map]
      have : ((fun q : Str × PyData => (Sum.inr q.1 : L2.Key)) ∘ fun m : Mkr => (m.1, PyData.tuple [.str k.1, .tuple (Ty.dAll m.2)])) = (fun s => (Sum.inr s : L2.Key)) ∘ fun m : Mkr => m.1 := rfl
      rw [this, ← List.map_map]
      exact List.Pairwise.map _ (fun a b e z => e (Sum.inr.inj z)) nd
    have nkn : (k.2.2.map fun m => (m.1, PyData.tuple [.str k.1, .tuple (Ty.dAll m.2)])).map (·.1) = nmk k := by rw [List.map_map]; rfl
    refine ⟨_, _, _, _, _, _, _, _, _, _, _, _, _, mergeK kvm kvd, putK kvk (.inr k.1) (.ref t), rfl, k6.trans kk, t6.trans tt, upd_same .., h11 (Ne.symm nka).symm (e10 _ _ h9k), ?_, ?_, ⟨?_, ?_⟩, ⟨?_, ?_⟩, hik⟩
    · have := length_mergeK kvd kvm
      omega
    · have := length_putK kvk (.inr k.1) (.ref t)
      omega
    · intro k' hk' m hm
      rw [take_snoc hk] at hk'
      rw [valV_merge _ _ _ nk]
      rcases List.mem_append.mp hk' with hk' | hk'
      · have hms : m.1 ∉ nmk k := ap m.1 (List.mem_flatMap.mpr ⟨k', hk', List.mem_map.mpr ⟨m, hm, rfl⟩⟩)
        rw [i10.none (by rw [nkn]; exact hms)]
        obtain ⟨v', e1, e2⟩ := tm.1 k' hk' m hm
        exact ⟨v', e1, e2.mono tt⟩
      · obtain rfl := List.mem_singleton.mp hk'
        obtain ⟨v', e1, e2⟩ := i10.some (by rw [nkn]; exact nd) (List.mem_map.mpr ⟨m, hm, rfl⟩)
        rw [e1]
        exact ⟨v', rfl, e2.mono t11⟩
    · intro s hs
      rw [take_snoc hk, List.flatMap_append, List.mem_append, not_or] at hs
      rw [valV_merge _ _ _ nk, i10.none (by rw [nkn]; simpa using hs.2), tm.2 s hs.1]
      rfl
    · intro k' hk'
      rw [take_snoc hk] at hk'
      rw [valV_put]
      rcases List.mem_append.mp hk' with hk' | hk'
      · have ne : ¬ (Sum.inr k'.1 : L2.Key) = .inr k.1 := fun z => hP.apartK hk (by rw [← Sum.inr.inj z]; exact List.mem_map.mpr ⟨k', hk', rfl⟩)
        rw [if_neg ne]
        obtain ⟨t', l', e1, e2, e3⟩ := tk.1 k' hk'
        have nt : t' ∉ [am, ak] := by
          intro hm
          simp only [List.mem_cons, List.not_mem_nil, or_false] at hm
          rcases hm with z | z
          · rw [z, h6m] at e2; cases e2
          · rw [z, h6k] at e2; cases e2
        refine ⟨t', l', e1, kk _ _ nt e2, ?_⟩
        have nl : l' ∉ [am, ak] := by
          intro hm
          simp only [List.mem_cons, List.not_mem_nil, or_false] at hm
          rcases hm with z | z
          · rw [z, h6m] at e3; cases e3
          · rw [z, h6k] at e3; cases e3
        exact kk _ _ nl e3
      · obtain rfl := List.mem_singleton.mp hk'
        rw [if_pos rfl]
        refine ⟨t, l, rfl, h11 (fun z => ?_) (e10 _ _ h9t), h11 (fun z => ?_) (e10 _ _ h9l)⟩
        · rw [z, h9m] at h9t; cases h9t
        · rw [z, h9m] at h9l; cases h9l
    · intro s hs
      rw [take_snoc hk, List.map_append, List.mem_append, not_or] at hs
      have ne : ¬ (Sum.inr s : L2.Key) = .inr k.1 := fun z => hs.2 (by rw [Sum.inr.inj z]; simp)
      rw [valV_put, if_neg ne]
      exact tk.2 s hs.1
  · rintro σ H6 ⟨o2, o3, o4, o5, o6, o7, o8, o9, o10, o11, o12, o13, o14, kvm, kvk, rfl, k6, t6, h6m, h6k, lm, lk, tm, tk, hi⟩
    rw [List.length_map, List.take_length] at tm tk
    have h6x : H6 x = some (.ins (He.ga K "Heads") dx [("makers", .ref am), ("kinds", .ref ak), ("classes", .ref ac), ("methods", .ref ame)]) := k6 _ _ (by simp [Ne.symm nam, Ne.symm nak]) (e5 _ _ hx4)
    have iv6 := (iv4.ex e5).mono t6
    refine sq_enum0 (ed_op (ed_var rfl iv6) ed_int (rd_ix rfl)) fun H7 e7 => ?_
    refine sq_fldL rfl (e7 _ _ h6x) T.c_Heads T.n_Heads_defs (Nat.le_of_ble_eq_true rfl) (el_none (ed_op (ed_var rfl (iv6.ex e7)) ed_int (rd_ix rfl))) fun ad vs H8 had e8 h8 i8 => ?_
    have h8x := e8 _ _ (e7 _ _ h6x)
    have nad : ad ≠ x := fun z => by rw [z, e7 _ _ h6x] at had; cases had
    refine st_fldL rfl (upd_same ..) T.c_Heads T.n_Heads_captured (Nat.le_of_ble_eq_true rfl) (el_lst ea_nil (Nat.zero_le _)) fun acp vs H9 hcp e9 h9 i9 => ?_
    have h9x := e9 _ _ (upd_same (H := H8) (a := x) ..)
    have kf : Kp [x] H6 (upd H9 x (.ins (He.ga K "Heads") dx (putF "captured" (.ref acp) (putF "defs" (.ref ad) [("makers", .ref am), ("kinds", .ref ak), ("classes", .ref ac), ("methods", .ref ame)])))) := ((((Kp.of (e7.trans e8)).upd (by simp)).ex e9)).upd (by simp)
    have fm := kf _ _ (by simpa using nam) h6m
    have fk := kf _ _ (by simpa using nak) h6k
    have tf : Tk H6 (upd H9 x (.ins (He.ga K "Heads") dx (putF "captured" (.ref acp) (putF "defs" (.ref ad) [("makers", .ref am), ("kinds", .ref ak), ("classes", .ref ac), ("methods", .ref ame)])))) := kf.tk (fun p hp xs => by
      obtain rfl := List.mem_singleton.mp hp
      exact no_ins h6x xs)
    refine q _ ?_ ⟨dx, am, ak, ac, ame, ad, acp, kvm, kvk, upd_same .., fm, tm.tk tf, fk, ⟨fun k hk => ?_, tk.2⟩⟩
    · have k1 : Kp [am, ak, x] H H6 := (((k04.sub (T := [am, ak, x]) (by simp)).trans (Kp.of e5)).trans (k6.sub (by simp)))
      exact ((k1.drop fam).drop fak0).trans kf
    · obtain ⟨t, l, e1, e2, e3⟩ := tk.1 k hk
      exact ⟨t, l, e1, kf _ _ (fun z => by rw [List.mem_singleton.mp z, h6x] at e2; cases e2) e2, kf _ _ (fun z => by rw [List.mem_singleton.mp z, h6x] at e3; cases e3) e3⟩
end
end K55
/-! objects read; a try that runs through -/
namespace W5
open PySem PySem.Spec PyProof.Rows L2
open Evl (Ex Ev)
theorem ps_try_thru {X : Cx} {body : List Stmt} {hs : List ExceptHandler} {h₀ : ExceptHandler} {pos : Pos} {t : TS} (hb : PSs X.nox body t) : PS X (.Try body (h₀ :: hs) [] [] pos) t := by
  refine ⟨fun pins s σ H D I h => ?_⟩
  refine wpAny_Try_except (wpAny_mono (hb.run pins s σ H D (I.wish _) h) (fun f s1 q => ?_) fun _ _ z => False.elim z)
  cases f with
  | next => exact wpAny_execs_nil q.unwish
  | brk => exact q.unwish
  | cont => exact q.unwish
  | ret u => exact q.unwish
theorem pi_never {X : Cx} {tg e : Expr} : PI X tg e (fun _ _ _ => False) := ⟨fun _ _ _ _ _ _ h => h.elim⟩
section
variable {K : PySem.W.Frag} {σ : L2.St} {H H' H1 H2 H3 : Hp} {te ta tb tc td tk : TE} {t u : TT} {d x y z : PyData} {ds es : List PyData} {b c : Bool} {S : List Addr} {p : Addr} {o : HO}
theorem st_forL {g : TG} {tb : TS} {D : Ends} (ht : Es K te σ H ds)
    (k : ∀ H1, Ex H H1 → ∃ Pv : Nat → L2.St → Hp → Prop, Pv 0 σ H1 ∧ (∀ i σ H, Pv i σ H → Tk H1 H ∧ ∀ p vs, SqL K H1 p vs → ImAll K H1 vs ds → SqL K H p vs) ∧
      (∀ i x v σ H, ds[i]? = some x → Im K H v x → Pv i σ H → g v σ H fun σ2 H2 => tb { D with nx := Pv (i + 1), ct := Pv (i + 1), bk := D.nx } σ2 H2) ∧ ∀ σ H, Pv ds.length σ H → D.nx σ H) : tFor (iList K te) g tb D σ H :=
  sq_forL (us := fun D σ H => D.nx σ H) ht k
theorem st_forT {g : TG} {tb : TS} {D : Ends} (ht : Ed K te σ H (.tuple ds))
    (k : ∀ H1, Ex H H1 → ∃ Pv : Nat → L2.St → Hp → Prop, Pv 0 σ H1 ∧ (∀ i σ H, Pv i σ H → Tk H1 H) ∧
      (∀ i x v σ H, ds[i]? = some x → Im K H v x → Pv i σ H → g v σ H fun σ2 H2 => tb { D with nx := Pv (i + 1), ct := Pv (i + 1), bk := D.nx } σ2 H2) ∧ ∀ σ H, Pv ds.length σ H → D.nx σ H) : tFor (iTup K te) g tb D σ H :=
  sq_forT (us := fun D σ H => D.nx σ H) ht k
theorem sq_forT0 {g : TG} {tb us : TS} {D : Ends} (ht : Ed K te σ H (.tuple [])) (k : ∀ H1, Ex H H1 → us D σ H1) : tSeq (tFor (iTup K te) g tb) us D σ H :=
  sq_forT ht fun H1 e1 => ⟨fun _ σ' H' => σ' = σ ∧ H' = H1, ⟨rfl, rfl⟩, fun _ _ _ h => h.2 ▸ Tk.refl _, fun i x v σ' H' hx => by simp at hx, fun σ' H' h => by obtain ⟨rfl, rfl⟩ := h; exact k _ e1⟩
theorem st_forT0 {g : TG} {tb : TS} {D : Ends} (ht : Ed K te σ H (.tuple [])) (k : ∀ H1, Ex H H1 → D.nx σ H1) : tFor (iTup K te) g tb D σ H := sq_forT0 (us := fun D σ H => D.nx σ H) ht k
/-- C(e): the new object, then __init__ -/
theorem te_make {C : Addr} {sp : Sp} {E : XK} {tr : TA} {Q : VK} (ha : Ea K tr σ H ds) (k : ∀ vs x dx H1, Ex H H1 → ImAll K H1 vs ds → H x = none → x ≠ dx → H1 x = some (.ins C dx []) → sp (.ref x :: vs) H1 (fun v H2 => v = .non ∧ Q (.ref x) H2) E) : tMake C sp [] E tr σ H Q :=
  ha H (Ex.refl H) _ fun vs H1 e1 i1 x dx hx hdx ne => by
    have e2 : Ex H1 (L2.upd (L2.upd H1 dx (.own x)) x (.ins C dx [])) := (Ex.new hdx).trans (Ex.new (by rw [upd_ne (Ne.symm ne)]; exact hx))
    have := k vs x dx _ (e1.trans e2) (i1.ex e2) (Evl.fresh_back e1 hx) (Ne.symm ne) (upd_same ..)
    simpa using this
theorem te_cb1 {r : List V → Hp → VK → Prop} {Q : VK} (h : te σ H fun x H1 => r [x] H1 Q) : tCB r (tCons te tNil) σ H Q := h
theorem ed_tupOfS (h : Es K te σ H ds) : Ed K (tCB (rTupOf K) (tCons te tNil)) σ H (.tuple ds) := fun H1 e Q q => h H1 e _ fun p vs H2 e2 h2 i2 =>
  ⟨p, vs, rfl, .inl ⟨h2, fun l hl => q _ _ (e2.trans (Ex.new hl)) (.tup (Evl.st_of (upd_same ..)) (i2.ex (Ex.new hl)))⟩⟩
theorem ed_lenL (h : Es K te σ H ds) : Ed K (tCB (rLenA K) (tCons te tNil)) σ H (.int ds.length) := fun H1 e Q q => h H1 e _ fun p vs H2 e2 h2 i2 => len_l h2 (q _ H2 e2 (by rw [i2.length]; exact .int _))
theorem sq_fldE {i : Nat} {x C dx : Addr} {fs : List (Str × V)} {f : Str} {v : V} {us : TS} {D : Ends} (hs : σ[i]? = some (some (.ref x))) (hx : H x = some (.ins C dx fs)) (c : Cls K C) (n : NoAttr K C f) (hl : fs.length < 1000)
    (he : Ev te σ H v) (k : ∀ H1, Ex H H1 → us D σ (L2.upd H1 x (.ins C dx (putF f v fs)))) : tSeq (sFld K (tVar i) te f) us D σ H :=
  he H (Ex.refl H) _ fun H1 e1 => ⟨_, hs, x, C, dx, fs, rfl, e1 _ _ hx, c, n, hl, k H1 e1⟩
theorem sq_fldW {i : Nat} {x C dx : Addr} {fs : List (Str × V)} {f : Str} {us : TS} {D : Ends} (h : te σ H fun v H1 => σ[i]? = some (some (.ref x)) ∧ H1 x = some (.ins C dx fs) ∧ Cls K C ∧ NoAttr K C f ∧ fs.length < 1000 ∧ us D σ (L2.upd H1 x (.ins C dx (putF f v fs)))) (mono : ∀ Q Q' : VK, (∀ v H1, Q v H1 → Q' v H1) → te σ H Q → te σ H Q') : tSeq (sFld K (tVar i) te f) us D σ H :=
  mono _ _ (fun v H1 ⟨hs, hx, c, n, hl, k⟩ => ⟨_, hs, x, C, dx, fs, rfl, hx, c, n, hl, k⟩) h
theorem te_dcE0 {a : Addr} {g : TG} {tt : TT} {tv : TE} {own : List Nat} {Q : VK} (he : Ev te σ H (.ref a)) (hl : SqL K H a []) (k : ∀ D H1, H D = none → Ex H H1 → H1 D = some (.dK []) → Q (.ref D) H1) : tDc (iEnum K (tCons te tNil)) g tt tk tv own σ H Q :=
  he H (Ex.refl H) _ fun H1 e1 => ⟨a, [], rfl, Evl.ex_l e1 hl, fun D hD => ⟨fun i m H' => H' = L2.upd H1 D (.dK []), ⟨0, rfl⟩, fun i m H' h => by
    subst h
    exact .inl ⟨⟨[], Evl.ex_l (e1.trans (Ex.new hD)) hl, Nat.zero_le _⟩, k D _ (Evl.fresh_back e1 hD) (e1.trans (Ex.new hD)) (upd_same ..)⟩⟩⟩
theorem st_enum0 {te : TE} {g : TG} {tb : TS} {D : Ends} (ht : Ed K te σ H (.tuple [])) (k : ∀ H1, Ex H H1 → D.nx σ H1) : tFor (iEnum0 K (tCons te tNil)) g tb D σ H := by
  refine ht H (Ex.refl H) _ fun v H1 e1 i1 => ?_
  obtain ⟨a, vs, rfl, ha, hs⟩ := i1.tup_of
  cases hs
  exact ⟨a, rfl, ha, fun i m σ' H' => σ' = σ ∧ H' = H1, ⟨0, rfl, rfl⟩, fun i m σ' H' e => .inl (by obtain ⟨rfl, rfl⟩ := e; exact ⟨ha, k _ e1⟩)⟩
theorem te_op {r : R2} {Q : VK} (h : ta σ H fun x H1 => tb σ H1 fun y H2 => r x y H2 Q) : tOp r ta tb σ H Q := h
theorem te_lstRg {te : L2.St → Hp → (Int → Int → Hp → Prop) → Prop} {Q : VK} (h : te σ H fun a b H1 => RgOk a b ∧ ∀ q, H1 q = none → Q (.ref q) (L2.upd H1 q (.lst (rgV a b)))) : tLstRg te σ H Q := h
theorem te_rg1 {Q : Int → Int → Hp → Prop} (h : ta σ H fun x H1 => ∃ n, x = .int n ∧ Q 0 n H1) : tRg1 ta σ H Q := h
theorem te_rg2 {Q : Int → Int → Hp → Prop} (h : ta σ H fun x H1 => tb σ H1 fun y H2 => ∃ i j, x = .int i ∧ y = .int j ∧ Q i j H2) : tRg2 ta tb σ H Q := h
theorem sq_fldR {i : Nat} {f : Str} {us : TS} {D : Ends} (h : te σ H fun v H1 => tVar i σ H1 fun x H2 => ∃ a C dx fs, x = .ref a ∧ H2 a = some (.ins C dx fs) ∧ Cls K C ∧ NoAttr K C f ∧ fs.length < 1000 ∧ us D σ (L2.upd H2 a (.ins C dx (putF f v fs)))) : tSeq (sFld K (tVar i) te f) us D σ H := h
theorem el_listT (h : Ed K te σ H (.tuple ds)) : El K (tCB (rListOf K) (tCons te tNil)) σ H ds := fun H1 e Q q => h H1 e _ fun v H2 e2 i2 => by
  obtain ⟨a, vs, rfl, ha, hs⟩ := i2.tup_of
  exact ⟨a, vs, rfl, .inr ha, fun l hl => q l vs _ (Evl.fresh_back e2 hl) (e2.trans (Ex.new hl)) (upd_same ..) (hs.ex (Ex.new hl))⟩
theorem ints_of {H : Hp} : ∀ (is : List Int) (vs : List V), ImAll K H vs (is.map .int) → vs = is.map V.int
  | [], vs, h => h.nil_of
  | i :: is, vs, h => by
    obtain ⟨v, ws, rfl, a, b⟩ := ImAll.cons_of h
    rw [a.int_of, ints_of is ws b]
    rfl
theorem im_ints {H : Hp} : ∀ (is : List Int), ImAll K H (is.map V.int) (is.map .int)
  | [] => .nil
  | i :: is => .cons (.int i) (im_ints is)
theorem ed_sum {is : List Int} (h : El K te σ H (is.map .int)) : Ed K (tCB (rSum K) (tCons te tNil)) σ H (.int is.sum) := fun H1 e Q q => h H1 e _ fun p vs H2 hp e2 h2 i2 => by
  obtain rfl := ints_of _ _ i2
  exact ⟨p, is, rfl, Evl.sq_of h2, q _ H2 e2 (.int _)⟩
theorem ed_ixL {ti : TE} {p : Addr} {vs : List V} {i : Int} {v : V} (he : Ev te σ H (.ref p)) (hp : SqL K H p vs) (hi : Ed K ti σ H (.int i)) (h : atI vs i = some v) (im : Im K H v d) : Ed K (tOp (rIx K) te ti) σ H d := fun H1 e Q q =>
  he H1 e _ fun H2 e2 => hi H2 (e.trans e2) _ fun w H3 e3 i3 => by
    obtain rfl := i3.int_of
    exact .inl ⟨p, vs, i, v, rfl, rfl, Evl.ex_l ((e.trans e2).trans e3) hp, h, q v H3 (e2.trans e3) (im.ex ((e.trans e2).trans e3))⟩
theorem te_appendE {p : Addr} {vs : List V} {to : TE} {Q : VK} (hv : Ev to σ H (.ref p)) (h : H p = some (.lst vs)) (he : Ed K te σ H d) (hz : vs.length < 100000) (q : ∀ v H2, Ex H H2 → Im K H2 v d → Q .non (L2.upd H2 p (.lst (vs ++ [v])))) : tBM K "list" rAppend to (tCons te tNil) σ H Q :=
  hv H (Ex.refl H) _ fun H1 e1 => ⟨.inl ⟨rfl, vs, Evl.sq_of (e1 _ _ h)⟩, (he.mono e1).cn fun v H2 e2 i2 => ⟨p, vs, v, rfl, rfl, e2 _ _ (e1 _ _ h), Evl.sz_lt hz, q v H2 (e1.trans e2) i2⟩⟩
theorem te_popE {p : Addr} {vs : List V} {v : V} {to : TE} {Q : VK} (hv : Ev to σ H (.ref p)) (h : H p = some (.lst vs)) (e : vs[vs.length - 1]? = some v) (q : ∀ H1, Ex H H1 → Q v (L2.upd H1 p (.lst vs.dropLast))) : tBM0 K "list" rPop to σ H Q :=
  hv H (Ex.refl H) _ fun H1 e1 => ⟨.inl ⟨rfl, vs, Evl.sq_of (e1 _ _ h)⟩, p, vs, v, rfl, rfl, e1 _ _ h, e, q H1 e1⟩
theorem te_cons {tr : TA} {Q : List V → Hp → Prop} (h : ta σ H fun x H1 => tr σ H1 fun xs H2 => Q (x :: xs) H2) : tCons ta tr σ H Q := h
theorem te_tup {tr : TA} {Q : VK} (h : tr σ H fun xs H1 => xs.length ≤ sizeLine ∧ ∀ p, H1 p = none → Q (.ref p) (L2.upd H1 p (.tup xs))) : tTup tr σ H Q := h
theorem te_c {v : V} {Q : VK} (h : Q v H) : tC v σ H Q := h
theorem sq_forE {a : Addr} {vs : List V} {g : TG} {tb us : TS} {D : Ends} (he : Ev te σ H (.ref a)) (ha : H a = some (.lst vs)) (hs : ImAll K H vs ds)
    (k : ∀ H1, Ex H H1 → ∃ Pv : Nat → L2.St → Hp → Prop, Pv 0 σ H1 ∧ (∀ i σ H, Pv i σ H → Tk H1 H ∧ H a = some (.lst vs)) ∧
      (∀ i x v σ H, ds[i]? = some x → Im K H v x → Pv i σ H → g v σ H fun σ2 H2 => tb { D with nx := Pv (i + 1), ct := Pv (i + 1), bk := us D } σ2 H2) ∧ ∀ σ H, Pv ds.length σ H → us D σ H) : tSeq (tFor (iList K te) g tb) us D σ H := by
  refine he H (Ex.refl H) _ fun H1 e1 => ?_
  obtain ⟨Pv, h0, hk, hst, hd⟩ := k H1 e1
  refine ⟨a, rfl, ⟨vs, Evl.sq_of (e1 _ _ ha)⟩, ?_⟩
  refine for_list (K := K) (a := a) (xs := vs) (D := { D with nx := us D }) Pv h0 (fun i σ' H' _ p => Evl.sq_of (hk i σ' H' p).2) (fun i v σ' H' e p => ?_) (fun σ' H' p => hd σ' H' (by rw [← hs.length]; exact p))
  obtain ⟨x, hx, im⟩ := hs.getV e
  exact hst i x v σ' H' hx ((im.ex e1).mono (hk i σ' H' p).1) p
theorem te_yes {Q : Bool → Hp → Prop} (h : Q true H) : tYes σ H Q := h
theorem ev_v {i : Nat} {v : V} (h : σ[i]? = some (some v)) : Ev (tVar i) σ H v := fun H1 _ Q q => ⟨v, h, q H1 (Ex.refl H1)⟩
theorem ev_fld {a C dx : Addr} {fs : List (Str × V)} {f : Str} {v : V} (he : Ev te σ H (.ref a)) (hx : H a = some (.ins C dx fs)) (c : Cls K C) (n : NoAttr K C f) (hf : fs.lookup f = some v) : Ev (tFld K te f) σ H v := fun H1 e Q q =>
  he H1 e _ fun H2 e2 => ⟨a, C, dx, fs, v, rfl, e2 _ _ (e _ _ hx), c, n, hf, q H2 e2⟩
theorem ev_ixT {a : Addr} {xs : List V} {i : Int} {v : V} (he : Ev te σ H (.ref a)) (hx : SqT K H a xs) (h : atI xs i = some v) : Ev (tOp (rIx K) te (tC (.int i))) σ H v := fun H1 e Q q =>
  he H1 e _ fun H2 e2 => .inr (.inl ⟨a, xs, i, v, rfl, rfl, Evl.ex_t (e.trans e2) hx, h, q H2 e2⟩)
theorem ed_ev {v : V} (h : Ev te σ H v) (im : Im K H v d) : Ed K te σ H d := fun H1 e Q q => h H1 e Q fun H2 e2 => q v H2 e2 (im.ex (e.trans e2))
theorem es_ev {a : Addr} {vs : List V} (h : Ev te σ H (.ref a)) (hp : SqL K H a vs) (im : ImAll K H vs ds) : Es K te σ H ds := fun H1 e Q q => h H1 e Q fun H2 e2 => q a vs H2 e2 (Evl.ex_l (e.trans e2) hp) (im.ex (e.trans e2))
theorem ev_dget {a : Addr} {kvs : List (Key × V)} {s : Str} {v : V} (hd : Ev td σ H (.ref a)) (hk : Ed K tk σ H (.str s)) (ha : H a = some (.dK kvs)) (e : valV kvs (.inr s) = some v) : Ev (tDGet td tk) σ H v := fun H1 e1 Q q =>
  hd H1 e1 _ fun H2 e2 => hk H2 (e1.trans e2) _ fun w H3 e3 i3 => by
    obtain rfl := i3.str_of
    exact ⟨a, v, rfl, .inl ⟨kvs, .inr s, .inl (e3 _ _ (e2 _ _ (e1 _ _ ha))), rfl, e.symm⟩, q H3 (e2.trans e3)⟩
theorem ev_dgetI {a : Addr} {kvs : List (Key × V)} {n : Int} {v : V} (hd : Ev td σ H (.ref a)) (hk : Ed K tk σ H (.int n)) (ha : H a = some (.dK kvs)) (e : valV kvs (.inl n) = some v) : Ev (tDGet td tk) σ H v := fun H1 e1 Q q =>
  hd H1 e1 _ fun H2 e2 => hk H2 (e1.trans e2) _ fun w H3 e3 i3 => by
    obtain rfl := i3.int_of
    exact ⟨a, v, rfl, .inl ⟨kvs, .inl n, .inl (e3 _ _ (e2 _ _ (e1 _ _ ha))), rfl, e.symm⟩, q H3 (e2.trans e3)⟩
theorem eb_ninD {B : Nat} {a : Addr} {kvs : List (Key × V)} {s : Str} (hk : Ed K tk σ H (.str s)) (hd : Ev td σ H (.ref a)) (ha : H a = some (.dK kvs)) : Eb (tTest (tOp (rNiA K B) tk td)) σ H (!(valV kvs (.inr s)).isSome) := fun H1 e1 Q q =>
  hk H1 e1 _ fun w H2 e2 i2 => hd H2 (e1.trans e2) _ fun H3 e3 => by
    obtain rfl := i2.str_of
    exact .inr (.inl ⟨a, _, rfl, .inl ⟨kvs, .inr s, .inl (e3 _ _ (e2 _ _ (e1 _ _ ha))), rfl, rfl⟩, ⟨_, rfl, q H3 (e2.trans e3)⟩⟩)
theorem eb_inD {B : Nat} {a : Addr} {kvs : List (Key × V)} {s : Str} (hk : Ed K tk σ H (.str s)) (hd : Ev td σ H (.ref a)) (ha : H a = some (.dK kvs)) : Eb (tTest (tOp (rInA K B) tk td)) σ H (valV kvs (.inr s)).isSome := fun H1 e1 Q q =>
  hk H1 e1 _ fun w H2 e2 i2 => hd H2 (e1.trans e2) _ fun H3 e3 => by
    obtain rfl := i2.str_of
    exact .inr (.inl ⟨a, _, rfl, .inl ⟨kvs, .inr s, .inl (e3 _ _ (e2 _ _ (e1 _ _ ha))), rfl, rfl⟩, ⟨_, rfl, q H3 (e2.trans e3)⟩⟩)
theorem eb_ninDI {B : Nat} {a : Addr} {kvs : List (Key × V)} {n : Int} (hk : Ed K tk σ H (.int n)) (hd : Ev td σ H (.ref a)) (ha : H a = some (.dK kvs)) : Eb (tTest (tOp (rNiA K B) tk td)) σ H (!(valV kvs (.inl n)).isSome) := fun H1 e1 Q q =>
  hk H1 e1 _ fun w H2 e2 i2 => hd H2 (e1.trans e2) _ fun H3 e3 => by
    obtain rfl := i2.int_of
    exact .inr (.inl ⟨a, _, rfl, .inl ⟨kvs, .inl n, .inl (e3 _ _ (e2 _ _ (e1 _ _ ha))), rfl, rfl⟩, ⟨_, rfl, q H3 (e2.trans e3)⟩⟩)
theorem any_strs (s : Str) : ∀ xs : List Str, ((xs.map PyData.str).any fun z => PyData.eqv z (.str s)) = decide (s ∈ xs)
  | [] => rfl
  | x :: xs => by
    rw [List.map_cons, List.any_cons, any_strs s xs]
    by_cases h : x = s
    · subst h; simp [PyData.eqv]
    · have h2 : ¬ s = x := fun e => h e.symm
      simp [PyData.eqv, h, h2]
theorem dp_strs {H : Hp} : ∀ xs : List Str, DpAll K H (xs.map V.str) (xs.map PyData.str)
  | [] => .nil
  | x :: xs => .cons (.str x) (dp_strs xs)
theorem plain_strs : ∀ xs : List Str, PyData.plainAll (xs.map PyData.str) = true
  | [] => rfl
  | x :: xs => by simp [PyData.plainAll, PyData.plain, plain_strs xs]
theorem eb_inL {k : Nat} {a : Addr} {ns : List Str} {s : Str} (hk : Ed K tk σ H (.str s)) (hd : Ev td σ H (.ref a)) (ha : H a = some (.lst (ns.map V.str))) : Eb (tTest (tOp (rInA K (lineI k)) tk td)) σ H (decide (s ∈ ns)) := fun H1 e1 Q q =>
  hk H1 e1 _ fun w H2 e2 i2 => hd H2 (e1.trans e2) _ fun H3 e3 => by
    obtain rfl := i2.str_of
    refine .inl ⟨.str s, ns.map PyData.str, .str s, .inl (.lst (Evl.sq_of (e3 _ _ (e2 _ _ (e1 _ _ ha)))) (dp_strs ns)), rfl, plain_strs ns, ?_, ?_⟩
    · exact Nat.le_trans (Nat.min_le_right _ _) (by simp [PyData.depth])
    · rw [any_strs]
      exact ⟨_, rfl, q H3 (e2.trans e3)⟩
/-- xs.append of a text to a list that a name holds -/
theorem te_appendS {i : Nat} {a : Addr} {vs : List V} {s : Str} {Q : VK} (hv : σ[i]? = some (some (.ref a))) (h : H a = some (.lst vs)) (he : Ed K te σ H (.str s)) (hz : vs.length < 100000) (q : ∀ H2, Ex H H2 → Q .non (L2.upd H2 a (.lst (vs ++ [V.str s])))) : tBM K "list" rAppend (tVar i) (tCons te tNil) σ H Q :=
  te_append hv h he hz fun v H2 e2 i2 => by
    obtain rfl := i2.str_of
    exact q H2 e2
end
end W5
namespace K55
open PySem PySem.Spec PyProof.Rows L2 W5 M5
open Evl (Ex Ev)
section
variable {P : Program} {w : World} {K : PySem.W.Frag} {mg : Str → Option Value} {base : Heap}
def ScheckType (K : PySem.W.Frag) : Sp := fun vs H Q E => ∃ x v t ks n, vs = [.ref x, v] ∧ HeadsAt K H x ks ∧ PgOk ks ∧ t.Wf (ksOf ks) n ∧ t.depth ≤ 8 ∧ t.size ≤ 1000 ∧ Im K H v (Ty.d t) ∧ ∀ H2, Ex H H2 → Q .non H2
theorem ksOf_mem {ks : List Knd} {y : Str × Nat} (h : y ∈ ksOf ks) : ∃ k ∈ ks, y = (k.1, k.2.1) := by
  obtain ⟨k, hk, e⟩ := List.mem_map.mp h
  exact ⟨k, hk, e.symm⟩
theorem ok_Heads_check_type (T : Tx K mg) : Ok P w K mg base 11 d_Heads_check_type ["self", "thing"] (ScheckType K) := by
  have G_kinds_in := ok_kinds_in (P := P) (w := w) (base := base) T 8
  refine (T.F_Heads_check_type).ok sc_Heads_check_type (fun vs H Q E ⟨x, v, t, ks, n, e, _⟩ => by rw [e]; rfl) (fun cdv A outer s H vs Q E hr h => ?_)
  obtain ⟨x, v, t, ks, n, rfl, hH, hP, hw, hdp, hsz, iv, q⟩ := h
  refine ⟨_, PSs.nox ((pss_one (ps_for PassesOwn.never rfl (pi_listK (K := K) rfl (pe_call G_kinds_in (hr.mono (by omega)) rfl T.g_kinds_in T.k_kinds_in T.B_kinds_in .nil pass0 (pa_cons (pv 1) pa_nil))) (pg_tupK (K := K) (n := 2) rfl rfl (pgs_cons (pg_name (i := 2) sc_Heads_check_type.nd rfl (by first | exact Or.inl rfl | exact Or.inr rfl)) (pgs_cons (pg_name (i := 3) sc_Heads_check_type.nd rfl (by first | exact Or.inl rfl | exact Or.inr rfl)) pgs_nil))) (pss_cons (ps_if (pt_cmpR (op_ninK (K := K) rfl hr) (pv 2) (pe_fldK (K := K) rfl (pv 0) rfl) rfl) (pss_one ps_never) pss_nil)
  (pss_one (ps_if (pt_cmpR (op_neK (K := K) rfl hr) (pe_ix (ix_seqK (K := K) rfl) (pe_dget (hu_of hr) (pe_fldK (K := K) rfl (pv 0) rfl) (pv 2) (fun _ _ => rfl)) pe_int (fun _ _ => rfl)) (pv 3) (nomark _)) (pss_one ps_never) pss_nil)))))), ?_⟩
  have l := Ty.kinds_len t
  refine st_forL (El.toS (el_call (R := Rkinds 8) (ea_cons (ed_var rfl iv) ea_nil) ⟨t, hdp, by omega, rfl, rfl⟩)) fun H1 e1 => ?_
  refine ⟨fun i σ' H' => ∃ o2 o3, σ' = [some (.ref x), some v, o2, o3] ∧ Ex H1 H', ⟨none, none, rfl, Ex.refl _⟩, ?_, ?_, ?_⟩
  · rintro i σ' H' ⟨o2, o3, _, e⟩
    exact ⟨Tk.ex e, fun p vs h _ => Evl.ex_l e h⟩
  · rintro i y vy σ' H' hy iy ⟨o2, o3, rfl, e2⟩
    rw [List.getElem?_map] at hy
    obtain ⟨k, hk, rfl⟩ := Option.map_eq_some_iff.mp hy
    obtain ⟨k, hkm, rfl⟩ := ksOf_mem (Ty.kinds_wf hw k (List.mem_of_getElem? hk))
    obtain ⟨a, us, rfl, ha, hs⟩ := iy.tup_of
    obtain ⟨u0, _, rfl, j0, hs⟩ := hs.cons_of
    obtain ⟨u1, _, rfl, j1, hs⟩ := hs.cons_of
    obtain rfl := hs.nil_of
    obtain rfl := j0.str_of
    obtain rfl := j1.int_of
    refine gd_two ha _ ?_
    obtain ⟨dx, am, ak, ac, ame, ad, acp, kvm, kvk, h1, h2, h3, h4, h5⟩ := hH.ex (e1.trans e2)
    obtain ⟨t', l', f1, f2, f3⟩ := h5.1 k hkm
    refine sq_if (b := false) ((eb_ninD (ed_var rfl (.str _)) (ev_fld (ev_v rfl) h1 T.c_Heads T.n_Heads_kinds rfl) h4).to (by rw [f1]; rfl)) (fun z => by cases z) fun _ H3 e3 => ?_
    refine st_if (b := false) (eb_t (K := K) (ed_op (ed_ev (ev_ixT (ev_dget (K := K) (ev_fld (ev_v rfl) (e3 _ _ h1) T.c_Heads T.n_Heads_kinds rfl) (ed_var rfl (.str _)) (e3 _ _ h4) f1) (Evl.st_of (e3 _ _ f2)) rfl) (.int _)) (ed_var rfl (.int _)) (rd_nei.to (by simp)))) fun H4 e4 => iteF ?_
    exact ⟨_, _, rfl, (e2.trans e3).trans e4⟩
  · rintro σ' H' ⟨o2, o3, rfl, e2⟩
    exact q H' (e1.trans e2)
def ScheckKind (K : PySem.W.Frag) : Sp := fun vs H Q E => ∃ x v p1 p2 k ks n1 n2, vs = [.ref x, v, .ref p1, .ref p2] ∧ (∀ H', Kp [p1, p2] H H' → HeadsAt K H' x ks) ∧ PgOk ks ∧ k ∈ ks ∧ Im K H v (knD k) ∧ H p1 = some (.lst (n1.map V.str)) ∧ H p2 = some (.lst (n2.map V.str)) ∧ p1 ≠ p2 ∧ k.1 ∉ n1 ∧ (nmk k).Nodup ∧ (∀ s ∈ n2, s ∉ nmk k) ∧ n1.length ≤ 10 ∧ n2.length ≤ 100 ∧
  ∀ H2, Kp [p1, p2] H H2 → H2 p1 = some (.lst ((n1 ++ [k.1]).map V.str)) → H2 p2 = some (.lst ((n2 ++ nmk k).map V.str)) → Q .non H2
theorem ok_Heads_check_kind (T : Tx K mg) : Ok P w K mg base 12 d_Heads_check_kind ["self", "entry", "kinds", "makers"] (ScheckKind K) := by
  have G_Heads_check_type := ok_Heads_check_type (P := P) (w := w) (base := base) T
  refine (T.F_Heads_check_kind).ok sc_Heads_check_kind (fun vs H Q E ⟨x, v, p1, p2, k, ks, n1, n2, e, _⟩ => by rw [e]; rfl) (fun cdv A outer s H vs Q E hr h => ?_)
  obtain ⟨x, v, p1, p2, k, ks, n1, n2, rfl, hH, hP, hk, iv, h1, h2, ne, hn1, nd, ap, l1, l2, q⟩ := h
  refine ⟨_, PSs.nox ((pss_cons (ps_if (pt_cmpR (op_inK (K := K) rfl hr) (pe_ix (ix_seqK (K := K) rfl) (pv 1) pe_int (fun _ _ => rfl)) (pv 2) rfl) (pss_one ps_never) pss_nil)
  (pss_cons (ps_expr (pe_bm PySem.F.plainAttrs_list PySem.F.slot_list_append PySem.F.type_list_append mt_append (pv 2) (pa_cons (pe_ix (ix_seqK (K := K) rfl) (pv 1) pe_int (fun _ _ => rfl)) pa_nil)))
  (pss_one (ps_for PassesOwn.never rfl (pi_tupK (K := K) rfl (pe_ix (ix_seqK (K := K) rfl) (pv 1) pe_int (fun _ _ => rfl))) (pg_tupK (K := K) (n := 2) rfl rfl (pgs_cons (pg_name (i := 4) sc_Heads_check_kind.nd rfl (by first | exact Or.inl rfl | exact Or.inr rfl)) (pgs_cons (pg_name (i := 5) sc_Heads_check_kind.nd rfl (by first | exact Or.inl rfl | exact Or.inr rfl)) pgs_nil))) (pss_cons (ps_if (pt_cmpR (op_inK (K := K) rfl hr) (pv 4) (pv 3) rfl) (pss_one ps_never) pss_nil)
  (pss_cons (ps_expr (pe_bm PySem.F.plainAttrs_list PySem.F.slot_list_append PySem.F.type_list_append mt_append (pv 3) (pa_cons (pv 4) pa_nil)))
  (pss_one (ps_for PassesOwn.never rfl (pi_tupK (K := K) rfl (pv 5)) (pg_name (i := 6) sc_Heads_check_kind.nd rfl (by first | exact Or.inl rfl | exact Or.inr rfl)) (pss_one (ps_expr (pe_meth (pv 0) T.c_Heads T.M_Heads_check_type G_Heads_check_type (hr.mono (by omega)) T.B_Heads_check_type .nil pass0 (pa_cons (pv 6) pa_nil))))))))))))), ?_⟩
  obtain ⟨hk1, hk2, hk3, hk4⟩ := hP.kn k hk
  refine sq_if (b := false) ((eb_inL (ed_op (ed_var rfl iv) ed_int (rd_ix rfl)) (ev_v rfl) h1).to (by simp [hn1])) (fun z => by cases z) fun _ H1 e1 => ?_
  refine sq_drop (te_appendS rfl (e1 _ _ h1) (ed_op (ed_var rfl (iv.ex e1)) ed_int (rd_ix rfl)) (by rw [List.length_map]; omega) fun H2 e2 => ?_)
  have k3 : Kp [p1, p2] H (upd H2 p1 (.lst (n1.map V.str ++ [V.str k.1]))) := (Kp.of (e1.trans e2)).upd (by simp)
  have h31 : upd H2 p1 (.lst (n1.map V.str ++ [V.str k.1])) p1 = some (.lst ((n1 ++ [k.1]).map V.str)) := by rw [List.map_append]; exact upd_same ..
  have h32 : upd H2 p1 (.lst (n1.map V.str ++ [V.str k.1])) p2 = some (.lst (n2.map V.str)) := by rw [upd_ne (Ne.symm ne)]; exact e2 _ _ (e1 _ _ h2)
  generalize upd H2 p1 (.lst (n1.map V.str ++ [V.str k.1])) = H3 at k3 h31 h32
  have tkp : ∀ {Ha Hb : Hp} {a b : List V}, Kp [p1, p2] Ha Hb → Ha p1 = some (.lst a) → Ha p2 = some (.lst b) → Tk Ha Hb := fun {Ha Hb a b} kp ha hb => kp.tk fun p hp => by
    simp only [List.mem_cons, List.not_mem_nil, or_false] at hp
    rcases hp with rfl | rfl
    · exact no_lst ha
    · exact no_lst hb
  refine st_forT (ed_op (ed_var rfl (iv.mono (tkp k3 h1 h2))) ed_int (rd_ix rfl)) fun H4 e4 => ?_
  refine ⟨fun j σ' H' => ∃ o4 o5 o6, σ' = [some (.ref x), some v, some (.ref p1), some (.ref p2), o4, o5, o6] ∧ Kp [p1, p2] H4 H' ∧ H' p1 = some (.lst ((n1 ++ [k.1]).map V.str)) ∧ H' p2 = some (.lst ((n2 ++ (nmk k).take j).map V.str)), ⟨none, none, none, rfl, Kp.refl _ _, e4 _ _ h31, by simpa using e4 _ _ h32⟩, ?_, ?_, ?_⟩
  · rintro i σ' H' ⟨o4, o5, o6, _, kp, _⟩
    exact tkp kp (e4 _ _ h31) (e4 _ _ h32)
  · rintro i y vy σ' H' hy iy ⟨o4, o5, o6, rfl, kp, f1, f2⟩
    rw [List.getElem?_map] at hy
    obtain ⟨m, hm, rfl⟩ := Option.map_eq_some_iff.mp hy
    have hmm := List.mem_of_getElem? hm
    obtain ⟨a, us, rfl, ha, hs⟩ := iy.tup_of
    obtain ⟨u0, _, rfl, j0, hs⟩ := hs.cons_of
    obtain ⟨u1, _, rfl, j1, hs⟩ := hs.cons_of
    obtain rfl := hs.nil_of
    obtain rfl := j0.str_of
    refine gd_two ha _ ?_
    have hni : (nmk k)[i]? = some m.1 := by rw [List.getElem?_map, hm]; rfl
    have hnm : m.1 ∉ n2 ++ (nmk k).take i := by
      intro hh
      rcases List.mem_append.mp hh with hh | hh
      · exact ap _ hh (List.mem_of_getElem? hni)
      · have h5 : ((nmk k).take (i + 1)).Nodup := (List.take_sublist _ _).nodup nd
        rw [take_snoc hni, List.nodup_append] at h5
        exact h5.2.2 _ hh _ (by simp) rfl
    have lt : ((nmk k).take i).length ≤ 3 := by rw [List.length_take, List.length_map]; omega
    refine sq_if (b := false) ((eb_inL (ed_var rfl (.str _)) (ev_v rfl) f2).to (by simp only [hnm, decide_false])) (fun z => by cases z) fun _ H6 e6 => ?_
    refine sq_drop (te_appendS rfl (e6 _ _ f2) (ed_var rfl (.str m.1)) (by rw [List.length_map, List.length_append]; omega) fun H7 e7 => ?_)
    have k8 : Kp [p1, p2] H' (upd H7 p2 (.lst ((n2 ++ (nmk k).take i).map V.str ++ [V.str m.1]))) := (Kp.of (e6.trans e7)).upd (by simp)
    have h81 : upd H7 p2 (.lst ((n2 ++ (nmk k).take i).map V.str ++ [V.str m.1])) p1 = some (.lst ((n1 ++ [k.1]).map V.str)) := by rw [upd_ne ne]; exact e7 _ _ (e6 _ _ f1)
    have h82 : upd H7 p2 (.lst ((n2 ++ (nmk k).take i).map V.str ++ [V.str m.1])) p2 = some (.lst ((n2 ++ (nmk k).take (i + 1)).map V.str)) := by
      rw [take_snoc hni, ← List.append_assoc, List.map_append (l₁ := n2 ++ List.take i (nmk k))]
      exact upd_same ..
    generalize upd H7 p2 (.lst ((n2 ++ (nmk k).take i).map V.str ++ [V.str m.1])) = H8 at k8 h81 h82
    have t8 : Tk H' H8 := tkp k8 f1 f2
    refine st_forT (ed_var rfl (j1.mono t8)) fun H9 e9 => ?_
    refine ⟨fun j σ' Ha => ∃ o6, σ' = [some (.ref x), some v, some (.ref p1), some (.ref p2), some (.str m.1), some u1, o6] ∧ Ex H9 Ha, ⟨_, rfl, Ex.refl _⟩, ?_, ?_, ?_⟩
    · rintro j σ' Ha ⟨_, _, e⟩
      exact Tk.ex e
    · rintro j z vz σ' Ha hz iz ⟨o6, rfl, ea⟩
      rw [Ty.dAll_map, List.getElem?_map] at hz
      obtain ⟨t, ht, rfl⟩ := Option.map_eq_some_iff.mp hz
      obtain ⟨w1, w2, w3⟩ := (hk4 m hmm).2.2 t (List.mem_of_getElem? ht)
      have hHa := hH Ha (((((k3.ex e4).trans kp).trans k8).ex e9).ex ea)
      obtain ⟨dx, am, ak, ac, ame, ad, acp, kvm, kvk, g1, _⟩ := id hHa
      refine st_drop ⟨_, rfl, x, dx, _, rfl, g1, rfl, ⟨_, rfl, x, vz, t, ks, k.2.1, rfl, hHa, hP, w1, by omega, by omega, iz, fun Hb eb => ?_⟩⟩
      exact ⟨_, rfl, ea.trans eb⟩
    · rintro σ' Ha ⟨o6, rfl, ea⟩
      exact ⟨_, _, _, rfl, (((kp.trans k8).ex e9).ex ea), ea _ _ (e9 _ _ h81), ea _ _ (e9 _ _ h82)⟩
  · rintro σ' H' ⟨o4, o5, o6, rfl, kp, f1, f2⟩
    have : (nmk k).take (k.2.2.map mD).length = nmk k := by rw [List.length_map]; exact List.take_of_length_le (by rw [List.length_map]; exact Nat.le_refl _)
    rw [this] at f2
    exact q H' ((k3.ex e4).trans kp) f1 f2
end
end K55
namespace K55
open PySem PySem.Spec PyProof.Rows L2 W5 M5
open Evl (Ex Ev)
section
variable {P : Program} {w : World} {K : PySem.W.Frag} {mg : Str → Option Value} {base : Heap}
def SheadsChecked (K : PySem.W.Frag) : Sp := fun vs H Q E => ∃ v ks, vs = [v] ∧ PgOk ks ∧ Im K H v (pD ks) ∧ ∀ t x H2, Ex H H2 → SqT K H2 t [.ref x, .non] → HeadsAt K H2 x ks → Q (.ref t) H2
theorem ok_heads_checked (T : Tx K mg) : Ok P w K mg base 13 d_heads_checked ["program"] (SheadsChecked K) := by
  have G_Heads_init := ok_Heads_init (P := P) (w := w) (base := base) T
  have G_Heads_check_kind := ok_Heads_check_kind (P := P) (w := w) (base := base) T
  refine (T.F_heads_checked).ok sc_heads_checked (fun vs H Q E ⟨v, ks, e, _⟩ => by rw [e]; rfl) (fun cdv A outer s H vs Q E hr h => ?_)
  obtain ⟨v, ks, rfl, hP, iv, q⟩ := h
  refine ⟨_, PSs.nox ((pss_cons (ps_par (i := 1) (j := 2) (by rfl) sc_heads_checked.nd rfl rfl (by decide) rfl rfl (pa_cons (pe_make T.m_Heads G_Heads_init (hr.mono (by omega)) rfl T.g_Heads T.B_Heads_init .nil pass0 (pa_cons (pv 0) pa_nil)) (pa_cons pe_non pa_nil)) (by rfl))
  (pss_cons (ps_try_thru (pss_cons (ps_asg (pe_tup (pa_cons (pe_lst pa_nil) (pa_cons (pe_lst pa_nil) (pa_cons (pe_lst pa_nil) (pa_cons (pe_lst pa_nil) pa_nil))))) (pg_tupK (K := K) (n := 4) rfl rfl (pgs_cons (pg_name (i := 6) sc_heads_checked.nd rfl (by first | exact Or.inl rfl | exact Or.inr rfl)) (pgs_cons (pg_name (i := 7) sc_heads_checked.nd rfl (by first | exact Or.inl rfl | exact Or.inr rfl)) (pgs_cons (pg_name (i := 8) sc_heads_checked.nd rfl (by first | exact Or.inl rfl | exact Or.inr rfl)) (pgs_cons (pg_name (i := 9) sc_heads_checked.nd rfl (by first | exact Or.inl rfl | exact Or.inr rfl)) pgs_nil))))))
  (pss_cons (ps_for PassesOwn.never rfl (pi_tupK (K := K) rfl (pe_ix (ix_seqK (K := K) rfl) (pv 0) pe_int (fun _ _ => rfl))) (pg_name (i := 4) sc_heads_checked.nd rfl (by first | exact Or.inl rfl | exact Or.inr rfl)) (pss_one (ps_expr (pe_meth (pv 1) T.c_Heads T.M_Heads_check_kind G_Heads_check_kind (hr.mono (by omega)) T.B_Heads_check_kind .nil pass0 (pa_cons (pv 4) (pa_cons (pv 6) (pa_cons (pv 7) pa_nil)))))))
  (pss_cons (ps_for PassesOwn.never rfl (pi_tupK (K := K) rfl (pe_ix (ix_seqK (K := K) rfl) (pv 0) pe_int (fun _ _ => rfl))) (pg_name (i := 4) sc_heads_checked.nd rfl (by first | exact Or.inl rfl | exact Or.inr rfl)) (pss_cons (ps_set (i := 2) sc_heads_checked.nd rfl (by first | exact Or.inl rfl | exact Or.inr rfl) (pe_ix (ix_seqK (K := K) rfl) (pv 4) pe_int (fun _ _ => rfl)))
  (pss_cons (ps_expr pe_never)
  (pss_one (ps_expr (pe_bm PySem.F.plainAttrs_list PySem.F.slot_list_append PySem.F.type_list_append mt_append (pv 8) (pa_cons (pv 2) pa_nil)))))))
  (pss_cons (ps_for PassesOwn.never rfl (pi_enum0 (by rfl) T.b_enumerate (pa_cons (pe_ix (ix_seqK (K := K) rfl) (pv 0) pe_int (fun _ _ => rfl)) pa_nil)) (pg_tupK (K := K) (n := 2) rfl rfl (pgs_cons (pg_name (i := 2) sc_heads_checked.nd rfl (by first | exact Or.inl rfl | exact Or.inr rfl)) (pgs_cons (pg_name (i := 4) sc_heads_checked.nd rfl (by first | exact Or.inl rfl | exact Or.inr rfl)) pgs_nil))) (pss_one (ps_expr pe_never)))
  (pss_cons (ps_set (i := 5) sc_heads_checked.nd rfl (by first | exact Or.inl rfl | exact Or.inr rfl) (pe_lst pa_nil))
  (pss_cons (ps_for PassesOwn.never rfl (pi_tupK (K := K) rfl (pe_ix (ix_seqK (K := K) rfl) (pv 0) pe_int (fun _ _ => rfl))) (pg_name (i := 4) sc_heads_checked.nd rfl (by first | exact Or.inl rfl | exact Or.inr rfl)) (pss_cons (ps_set (i := 2) sc_heads_checked.nd rfl (by first | exact Or.inl rfl | exact Or.inr rfl) (pe_ix (ix_seqK (K := K) rfl) (pv 4) pe_int (fun _ _ => rfl)))
  (pss_cons (ps_expr pe_never)
  (pss_one (ps_expr (pe_bm PySem.F.plainAttrs_list PySem.F.slot_list_append PySem.F.type_list_append mt_append (pv 5) (pa_cons (pv 2) pa_nil)))))))
  (pss_cons (ps_for PassesOwn.never rfl (pi_enum0 (by rfl) T.b_enumerate (pa_cons (pe_ix (ix_seqK (K := K) rfl) (pv 0) pe_int (fun _ _ => rfl)) pa_nil)) (pg_tupK (K := K) (n := 2) rfl rfl (pgs_cons (pg_name (i := 2) sc_heads_checked.nd rfl (by first | exact Or.inl rfl | exact Or.inr rfl)) (pgs_cons (pg_name (i := 4) sc_heads_checked.nd rfl (by first | exact Or.inl rfl | exact Or.inr rfl)) pgs_nil))) (pss_one (ps_expr pe_never)))
  (pss_one (ps_for PassesOwn.never rfl (pi_tupK (K := K) rfl (pe_ix (ix_seqK (K := K) rfl) (pv 0) pe_int (fun _ _ => rfl))) (pg_name (i := 4) sc_heads_checked.nd rfl (by first | exact Or.inl rfl | exact Or.inr rfl)) (pss_cons (ps_set (i := 2) sc_heads_checked.nd rfl (by first | exact Or.inl rfl | exact Or.inr rfl) (pe_ix (ix_seqK (K := K) rfl) (pv 4) pe_int (fun _ _ => rfl)))
  (pss_one (ps_expr pe_never)))))))))))))
  (pss_one (ps_ret (pe_tup (pa_cons (pv 1) (pa_cons pe_non pa_nil)))))))), ?_⟩
  refine sq_par ?_
  refine (show tMake _ _ _ _ _ _ _ _ from te_make (ea_cons (ed_var rfl iv) ea_nil) fun vs x dx H1 e1 i1 hx nx h1x => ?_)
  obtain ⟨v1, _, rfl, iv1, im⟩ := i1.cons_of
  obtain rfl := im.nil_of
  refine ⟨x, dx, v1, ks, rfl, h1x, iv1, hP, fun H2 k2 hH => ⟨rfl, ?_⟩⟩
  have e02 : Ex H H2 := (((Kp.of (S := [x]) e1).trans k2).drop hx).to_ex
  refine ⟨_, _, rfl, ?_⟩
  refine st_seq ?_
  refine sq_asg ?_
  refine (show tCons _ _ _ _ _ from El.cn (K := K) (el_lst ea_nil (Nat.zero_le _)) fun p1 l1 H3 hp1 e3 h3 i3 => El.cn (K := K) (el_lst ea_nil (Nat.zero_le _)) fun p2 l2 H4 hp2 e4 h4 i4 => El.cn (K := K) (el_lst ea_nil (Nat.zero_le _)) fun p3 l3 H5 hp3 e5 h5 i5 => El.cn (K := K) (el_lst ea_nil (Nat.zero_le _)) fun p4 l4 H6 hp4 e6 h6 i6 => ?_)
  cases i3
  cases i4
  refine ⟨by show 4 ≤ sizeLine; decide, fun t ht => ?_⟩
  refine ⟨_, _, rfl, Evl.st_of (upd_same ..), rfl, _, _, rfl, _, _, rfl, _, _, rfl, _, _, rfl, rfl, ?_⟩
  have e27 : Ex H2 (upd H6 t (.tup [.ref p1, .ref p2, .ref p3, .ref p4])) := (((e3.trans e4).trans e5).trans e6).trans (Ex.new ht)
  have h71 := Ex.new ht (o := .tup [.ref p1, .ref p2, .ref p3, .ref p4]) _ _ (e6 _ _ (e5 _ _ (e4 _ _ h3)))
  have h72 := Ex.new ht (o := .tup [.ref p1, .ref p2, .ref p3, .ref p4]) _ _ (e6 _ _ (e5 _ _ h4))
  generalize upd H6 t (.tup [.ref p1, .ref p2, .ref p3, .ref p4]) = H7 at e27 h71 h72
  have ne : p1 ≠ p2 := fun z => by rw [← z, h3] at hp2; cases hp2
  have hp2' : H2 p2 = none := Evl.fresh_back e3 hp2
  have iv2 := iv.ex e02
  refine sq_forT (ed_op (ed_var rfl (iv2.ex e27)) ed_int (rd_ix rfl)) fun H8 e8 => ?_
  refine ⟨fun j σ' H' => ∃ o4 n2, σ' = [some v, some (.ref x), some .non, none, o4, none, some (.ref p1), some (.ref p2), some (.ref p3), some (.ref p4)] ∧ Kp [p1, p2] H8 H' ∧ H' p1 = some (.lst (((ks.take j).map (·.1)).map V.str)) ∧ H' p2 = some (.lst (n2.map V.str)) ∧ n2 = (ks.take j).flatMap nmk ∧ n2.length ≤ 3 * j,
    ⟨none, [], rfl, Kp.refl _ _, e8 _ _ h71, e8 _ _ h72, rfl, Nat.zero_le _⟩, ?_, ?_, ?_⟩
  · rintro i σ' H' ⟨o4, n2, _, kp, _⟩
    exact kp.tk fun p hp => by
      simp only [List.mem_cons, List.not_mem_nil, or_false] at hp
      rcases hp with rfl | rfl
      · exact no_lst (e8 _ _ h71)
      · exact no_lst (e8 _ _ h72)
  · rintro i y vy σ' H' hy iy ⟨o4, n2, rfl, kp, f1, f2, hn2, ln2⟩
    rw [List.getElem?_map] at hy
    obtain ⟨k, hk, rfl⟩ := Option.map_eq_some_iff.mp hy
    have hkm := List.mem_of_getElem? hk
    obtain ⟨nd, ap⟩ := hP.apart hk
    have hH' : ∀ Ha, Kp [p1, p2] H' Ha → HeadsAt K Ha x ks := fun Ha ka => hH.ex (((((Kp.of (S := [p1, p2]) (e27.trans e8)).trans kp).trans ka).drop hp1).drop hp2').to_ex
    obtain ⟨dx', am, ak, ac, ame, ad, acp, kvm, kvk, g1, _⟩ := hH' H' (Kp.refl _ _)
    have lk := hP.len
    have hil : i < ks.length := (List.getElem?_eq_some_iff.mp hk).1
    refine st_drop ⟨_, rfl, x, dx', _, rfl, g1, rfl, ⟨_, rfl, _, rfl, _, rfl, x, vy, p1, p2, k, ks, (ks.take i).map (·.1), n2, rfl, hH', hP, hkm, iy, f1, f2, ne, hP.apartK hk, nd, fun s hs => ap s (hn2 ▸ hs), ?_, by omega, fun H9 k9 g1 g2 => ?_⟩⟩
    · rw [List.length_map, List.length_take]; omega
    · refine ⟨_, n2 ++ nmk k, rfl, kp.trans k9, ?_, g2, ?_, ?_⟩
      · rw [take_snoc hk, List.map_append]; exact g1
      · rw [hn2, take_snoc hk, List.flatMap_append]; simp
      · have := (hP.kn k hkm).2.2.1
        rw [List.length_append, List.length_map]; omega
  · rintro σ' H9 ⟨o4, n2, rfl, kp, f1, f2, hn2, ln2⟩
    have e29 : Ex H2 H9 := ((((Kp.of (S := [p1, p2]) (e27.trans e8)).trans kp).drop hp1).drop hp2').to_ex
    have hH9 := hH.ex e29
    have iv9 := iv2.ex e29
    refine sq_forT0 (ed_op (ed_var rfl iv9) ed_int (rd_ix rfl)) fun Ha ea => ?_
    refine sq_enum0 (ed_op (ed_var rfl (iv9.ex ea)) ed_int (rd_ix rfl)) fun Hb eb => ?_
    refine sq_set (El.at (K := K) (ds := []) (el_lst ea_nil (Nat.zero_le _)) fun p5 l5 Hc hp5 ec hc ic => ?_)
    have eac := (ea.trans eb).trans ec
    refine sq_forT0 (ed_op (ed_var rfl (iv9.ex eac)) ed_int (rd_ix rfl)) fun Hd ed => ?_
    refine sq_enum0 (ed_op (ed_var rfl (iv9.ex (eac.trans ed))) ed_int (rd_ix rfl)) fun He_ ee => ?_
    refine st_forT0 (ed_op (ed_var rfl (iv9.ex ((eac.trans ed).trans ee))) ed_int (rd_ix rfl)) fun Hf ef => ?_
    have eaf := ((eac.trans ed).trans ee).trans ef
    show tRet (tTup (tCons (tVar 1) (tCons (tC V.non) tNil))) _ _ _
    refine st_ret ⟨_, rfl, ?_⟩
    refine ⟨by show 2 ≤ sizeLine; decide, fun t2 ht2 => ?_⟩
    exact q t2 x _ ((e02.trans (e29.trans eaf)).trans (Ex.new ht2)) (Evl.st_of (upd_same ..)) ((hH9.ex eaf).ex (Ex.new ht2))
/-! ### check, need_checked -/
theorem ok_check (T : Tx K mg) : Ok P w K mg base 14 d_check ["program"] (Pu K Rneed) := by
  have G_need_program := ok_need_program (P := P) (w := w) (base := base) T
  have G_heads_checked := ok_heads_checked (P := P) (w := w) (base := base) T
  refine (T.F_check).ok sc_check (pu_len (by rintro _ _ ⟨ks, _, rfl, _⟩; rfl)) (fun cdv A outer s H vs Q E hr h => ?_)
  obtain ⟨ds, r, im, ⟨ks, hP, rfl, rfl⟩, q⟩ := h
  obtain ⟨v0, _, rfl, i0, im⟩ := im.cons_of
  obtain rfl := im.nil_of
  refine ⟨_, PSs.nox ((pss_cons (ps_expr (pe_call G_need_program (hr.mono (by omega)) rfl T.g_need_program T.k_need_program T.B_need_program .nil pass0 (pa_cons (pv 0) pa_nil)))
  (pss_one (ps_ret (pe_ix (ix_seqK (K := K) rfl) (pe_call G_heads_checked (hr.mono (by omega)) rfl T.g_heads_checked T.k_heads_checked T.B_heads_checked .nil pass0 (pa_cons (pv 0) pa_nil)) pe_int (fun _ _ => rfl)))))), ?_⟩
  refine sq_drop (Ed.at (ed_call (R := Rneed) (ea_cons (ed_var rfl i0) ea_nil) ⟨ks, hP, rfl, rfl⟩) fun v H1 e1 i1 => ?_)
  refine st_ret ⟨_, rfl, v0, ks, rfl, hP, i0.ex e1, fun t x H2 e2 h2 hH => ?_⟩
  exact .inr (.inl ⟨t, _, 1, .non, rfl, rfl, h2, rfl, q _ H2 (e1.trans e2) .non⟩)
def SneedChecked (K : PySem.W.Frag) : Sp := fun vs H Q E => ∃ v ks, vs = [v] ∧ PgOk ks ∧ Im K H v (pD ks) ∧ ∀ x H2, Ex H H2 → HeadsAt K H2 x ks → Q (.ref x) H2
theorem ok_need_checked (T : Tx K mg) : Ok P w K mg base 14 d_need_checked ["program"] (SneedChecked K) := by
  have G_need_program := ok_need_program (P := P) (w := w) (base := base) T
  have G_heads_checked := ok_heads_checked (P := P) (w := w) (base := base) T
  refine (T.F_need_checked).ok sc_need_checked (fun vs H Q E ⟨v, ks, e, _⟩ => by rw [e]; rfl) (fun cdv A outer s H vs Q E hr h => ?_)
  obtain ⟨v, ks, rfl, hP, iv, q⟩ := h
  refine ⟨_, PSs.nox ((pss_cons (ps_expr (pe_call G_need_program (hr.mono (by omega)) rfl T.g_need_program T.k_need_program T.B_need_program .nil pass0 (pa_cons (pv 0) pa_nil)))
  (pss_cons (ps_asg (pe_call G_heads_checked (hr.mono (by omega)) rfl T.g_heads_checked T.k_heads_checked T.B_heads_checked .nil pass0 (pa_cons (pv 0) pa_nil)) (pg_tupK (K := K) (n := 2) rfl rfl (pgs_cons (pg_name (i := 1) sc_need_checked.nd rfl (by first | exact Or.inl rfl | exact Or.inr rfl)) (pgs_cons (pg_name (i := 2) sc_need_checked.nd rfl (by first | exact Or.inl rfl | exact Or.inr rfl)) pgs_nil))))
  (pss_cons (ps_if (pt_cmpR op_isnA (pv 2) pe_non (nomark _)) (pss_one ps_never) pss_nil)
  (pss_one (ps_ret (pv 1))))))), ?_⟩
  refine sq_drop (Ed.at (ed_call (R := Rneed) (ea_cons (ed_var rfl iv) ea_nil) ⟨ks, hP, rfl, rfl⟩) fun v1 H1 e1 i1 => ?_)
  refine sq_asg ⟨_, rfl, v, ks, rfl, hP, iv.ex e1, fun t x H2 e2 h2 hH => ?_⟩
  refine ⟨t, _, rfl, h2, rfl, _, _, rfl, _, _, rfl, rfl, ?_⟩
  refine sq_if (b := false) (eb_t (K := K) (ed_op (ed_var rfl (.non)) ed_non rd_isnN)) (fun z => by cases z) fun _ H3 e3 => ?_
  exact st_ret ⟨_, rfl, q x H3 ((e1.trans e2).trans e3) (hH.ex e3)⟩
end
end K55
namespace K55
open PySem PySem.Spec PyProof.Rows L2 W5 M5
open Evl (Ex Ev)
section
variable {P : Program} {w : World} {K : PySem.W.Frag} {mg : Str → Option Value} {base : Heap}
def SbookInside (K : PySem.W.Frag) : Sp := fun vs H Q E => ∃ x v ks, vs = [x, v] ∧ PgOk ks ∧ Im K H v (pD ks) ∧ ∀ vb H2, Ex H H2 → Book K H2 vb (ksOf ks) → Q vb H2
theorem im_kD {H : Hp} : ∀ (l : List (Str × Nat)) (vs : List V), ImAll K H vs (l.map kD) → ∃ ps : List Addr, vs = ps.map V.ref ∧ Paired (fun p (k : Str × Int) => SqT K H p [.str k.1, .int k.2]) ps (l.map fun x => (x.1, (x.2 : Int)))
  | [], vs, h => ⟨[], h.nil_of, .nil⟩
  | x :: l, vs, h => by
    obtain ⟨v, ws, rfl, a, b⟩ := ImAll.cons_of h
    obtain ⟨ps, rfl, hp⟩ := im_kD l ws b
    obtain ⟨t, us, rfl, ht, hs⟩ := Im.tup_of (show Im K H v (.tuple [.str x.1, .int (x.2 : Nat)]) from a)
    obtain ⟨u0, _, rfl, j0, hs⟩ := hs.cons_of
    obtain ⟨u1, _, rfl, j1, hs⟩ := hs.cons_of
    obtain rfl := hs.nil_of
    obtain rfl := j0.str_of
    obtain rfl := j1.int_of
    exact ⟨t :: ps, rfl, .cons ht hp⟩
theorem paired_kvs {H : Hp} : ∀ (l : List (Str × Nat)) (ps : List Addr), Paired (fun p (k : Str × Int) => SqT K H p [.str k.1, .int k.2]) ps (l.map fun x => (x.1, (x.2 : Int))) → Paired (fun p kv => SqT K H p [kV kv.1, kv.2]) ps (kvsOf l)
  | [], _, h => by cases h; exact .nil
  | x :: l, _, h => by
    cases h with
    | cons a b => exact .cons a (paired_kvs l _ b)
theorem lots_asc : ∀ c : Fin 6, (∀ k ∈ (LOTS.take c.val).map (fun x => (x.1, (x.2 : Int))), k.1 ∈ NM) ∧ ((LOTS.take c.val).map (fun x => (x.1, (x.2 : Int)))).Pairwise (fun k l => NM.idxOf k.1 < NM.idxOf l.1) := by decide +kernel
theorem ok_book_inside (T : Tx K mg) : Ok P w K mg base 1 d_book_inside ["heads", "program"] (SbookInside K) := by
  refine (T.F_book_inside).ok sc_book_inside (fun vs H Q E ⟨x, v, ks, e, _⟩ => by rw [e]; rfl) (fun cdv A outer s H vs Q E hr h => ?_)
  obtain ⟨x, v, ks, rfl, hP, iv, q⟩ := h
  refine ⟨_, PSs.nox ((pss_cons (ps_set (i := 2) sc_book_inside.nd rfl (by first | exact Or.inl rfl | exact Or.inr rfl) (pe_callTy call_tuple_ofZ rfl T.b_tuple bb_tuple (pa_cons (pe_callB cr_sortedN rfl T.b_sorted bb_sorted (pa_cons (pe_lc (own := [("name", 3), ("many", 4), ("makers", 5)]) (by rfl) sc_book_inside.nd (pi_tupK (K := K) rfl (pe_ix (ix_seqK (K := K) rfl) (pv 1) pe_int (fun _ _ => rfl))) (blkOk_by (own := [("name", 3), ("many", 4), ("makers", 5)]) (N := ["heads", "program", "kinds", "name", "many", "makers", "classes", "uppers", "own", "one", "ways", "head", "needs"]) (sc := defScope s_book_inside) (by decide +kernel)) (fun _ _ _ _ _ => pg_tupK (K := K) (n := 3) rfl rfl (pgs_cons (pg_name (i := 3) sc_book_inside.nd rfl (by first | exact Or.inl rfl | exact Or.inr rfl)) (pgs_cons (pg_name (i := 4) sc_book_inside.nd rfl (by first | exact Or.inl rfl | exact Or.inr rfl)) (pgs_cons (pg_name (i := 5) sc_book_inside.nd rfl (by first | exact Or.inl rfl | exact Or.inr rfl)) pgs_nil)))) (fun _ _ _ _ _ => pts_nil) (fun _ _ _ _ _ => (pe_tup (pa_cons (pv 3) (pa_cons (pv 4) pa_nil))))) pa_nil)) pa_nil)))
  (pss_cons (ps_setLc (i := 6) (own := [("name", 3), ("uppers", 7), ("own", 8)]) (by rfl) sc_book_inside.nd rfl rfl (sw_true rfl rfl rfl (by decide +kernel)) (pi_tupK (K := K) rfl (pe_ix (ix_seqK (K := K) rfl) (pv 1) pe_int (fun _ _ => rfl))) (blkOk_by (own := [("name", 3), ("uppers", 7), ("own", 8)]) (N := ["heads", "program", "kinds", "name", "many", "makers", "classes", "uppers", "own", "one", "ways", "head", "needs"]) (sc := defScope s_book_inside) (by decide +kernel)) (fun _ _ _ _ _ => pg_tupK (K := K) (n := 3) rfl rfl (pgs_cons (pg_name (i := 3) sc_book_inside.nd rfl (by first | exact Or.inl rfl | exact Or.inr rfl)) (pgs_cons (pg_name (i := 7) sc_book_inside.nd rfl (by first | exact Or.inl rfl | exact Or.inr rfl)) (pgs_cons (pg_name (i := 8) sc_book_inside.nd rfl (by first | exact Or.inl rfl | exact Or.inr rfl)) pgs_nil)))) (fun _ _ _ _ _ => pts_nil) (fun _ _ _ _ _ => (pe_tup (pa_cons (pv 3) (pa_cons pe_never pa_nil)))))
  (pss_cons (ps_setLc (i := 10) (own := [("name", 3), ("head", 11), ("needs", 12), ("own", 8)]) (by rfl) sc_book_inside.nd rfl rfl (sw_true rfl rfl rfl (by decide +kernel)) (pi_tupK (K := K) rfl (pe_ix (ix_seqK (K := K) rfl) (pv 1) pe_int (fun _ _ => rfl))) (blkOk_by (own := [("name", 3), ("head", 11), ("needs", 12), ("own", 8)]) (N := ["heads", "program", "kinds", "name", "many", "makers", "classes", "uppers", "own", "one", "ways", "head", "needs"]) (sc := defScope s_book_inside) (by decide +kernel)) (fun _ _ _ _ _ => pg_tupK (K := K) (n := 4) rfl rfl (pgs_cons (pg_name (i := 3) sc_book_inside.nd rfl (by first | exact Or.inl rfl | exact Or.inr rfl)) (pgs_cons (pg_name (i := 11) sc_book_inside.nd rfl (by first | exact Or.inl rfl | exact Or.inr rfl)) (pgs_cons (pg_name (i := 12) sc_book_inside.nd rfl (by first | exact Or.inl rfl | exact Or.inr rfl)) (pgs_cons (pg_name (i := 8) sc_book_inside.nd rfl (by first | exact Or.inl rfl | exact Or.inr rfl)) pgs_nil))))) (fun _ _ _ _ _ => pts_nil) (fun _ _ _ _ _ => (pe_tup (pa_cons (pe_ix (ix_seqK (K := K) rfl) (pe_fldK (K := K) rfl (pv 0) rfl) (pv 3) (fun _ _ => rfl)) (pa_cons (pv 11) (pa_cons pe_never pa_nil))))))
  (pss_one (ps_ret (pe_tup (pa_cons (pv 2) (pa_cons (pe_callTy (call_tuple_ofK (K := K) rfl) rfl T.b_tuple bb_tuple (pa_cons (pv 6) pa_nil)) (pa_cons (pe_callTy (call_tuple_ofK (K := K) rfl) rfl T.b_tuple bb_tuple (pa_cons (pv 10) pa_nil)) pa_nil)))))))))), ?_⟩
  refine sq_set (te_cb1 (te_cb1 ?_))
  refine El.at (K := K) (ds := (ksOf ks).map kD) ((el_lc (p := fun _ => true) (f := fun d => match d with | .tuple (a :: b :: _) => .tuple [a, b] | _ => .none) (ed_op (ed_var rfl iv) ed_int (rd_ix rfl)) (by rw [List.length_map]; have := hP.len; omega) fun j y vy H1 hy e1 i1 => ?_).to ?_) fun l ls H1 hl e1 h1 i1 => ?_
  · rw [List.getElem?_map] at hy
    obtain ⟨k, hk, rfl⟩ := Option.map_eq_some_iff.mp hy
    obtain ⟨a, us, rfl, ha, hs⟩ := i1.tup_of
    obtain ⟨u0, _, rfl, j0, hs⟩ := hs.cons_of
    obtain ⟨u1, _, rfl, j1, hs⟩ := hs.cons_of
    obtain ⟨u2, _, rfl, j2, hs⟩ := hs.cons_of
    obtain rfl := hs.nil_of
    exact ⟨_, gd_three ha, rfl, eb_yes, fun _ => ed_tup (ea_cons (ed_var rfl j0) (ea_cons (ed_var rfl j1) ea_nil))⟩
  · rw [List.filter_eq_self.mpr (fun _ _ => rfl), List.map_map, ksOf, List.map_map]
    rfl
  obtain ⟨ps, rfl, hp⟩ := im_kD _ _ i1
  obtain ⟨c, hc1, hc2, hc⟩ := hP.kinds
  have asc := lots_asc ⟨c, by omega⟩
  refine ⟨l, ps, _, rfl, Evl.sq_of h1, hp, by rw [hc]; exact asc.1, by rw [hc]; exact asc.2, fun p2 hp2 => ?_⟩
  refine ⟨p2, _, rfl, Evl.sq_of (upd_same ..), fun kt o hkt ho => ?_⟩
  have e3 : Ex H1 (upd (upd H1 p2 (.lst (ps.map V.ref))) kt (.frz o (.tup (ps.map V.ref)))) := (Ex.new hp2).trans (Ex.new hkt)
  have hk3 : upd (upd H1 p2 (.lst (ps.map V.ref))) kt (.frz o (.tup (ps.map V.ref))) kt = some (.frz o (.tup (ps.map V.ref))) := upd_same ..
  generalize upd (upd H1 p2 (.lst (ps.map V.ref))) kt (.frz o (.tup (ps.map V.ref))) = H3 at e3 hk3
  have e03 := e1.trans e3
  have iv3 := iv.ex e03
  refine (show tSeq (tAsg (tLc _ _ _ _ _) (gName 6)) _ _ _ _ from sq_set (El.at (K := K) (el_none (ed_op (ed_var rfl iv3) ed_int (rd_ix rfl))) fun c1 cs H4 hc4 e4 h4 i4 => ?_))
  refine sq_set (El.at (K := K) (el_none (ed_op (ed_var rfl (iv3.ex e4)) ed_int (rd_ix rfl))) fun c2 cs2 H5 hc5 e5 h5 i5 => ?_)
  refine st_ret ⟨_, rfl, ?_⟩
  refine (ed_tupOfS (K := K) (es_var rfl (Evl.sq_of (e5 _ _ h4)) (i4.ex e5))).cn fun r1 H6 e6 _ => ?_
  refine (ed_tupOfS (K := K) (es_var rfl (Evl.sq_of (e6 _ _ h5)) (i5.ex e6))).cn fun r2 H7 e7 _ => ?_
  refine ⟨by show 3 ≤ sizeLine; decide, fun b hb => ?_⟩
  have e37 : Ex H3 (upd H7 b (.tup [.ref kt, r1, r2])) := (((e4.trans e5).trans e6).trans e7).trans (Ex.new hb)
  exact q _ _ (e03.trans e37) ⟨b, kt, o, ps, r1, r2, rfl, Evl.st_of (upd_same ..), e37 _ _ hk3, ho, paired_kvs _ _ (Paired.mapP hp fun _ _ z => Evl.ex_t (e3.trans e37) z)⟩
/-- a plan -/
def PlanAt (K : PySem.W.Frag) (H : Hp) (x : Addr) (ks : List Knd) : Prop := ∃ dx vp h vb lu dn lf, H x = some (.ins (He.ga K "Plan") dx [("program", vp), ("heads", .ref h), ("book", vb), ("units", .ref lu), ("many_defs", .int 0), ("numbers", .ref dn), ("firsts", .ref lf)]) ∧
  HeadsAt K H h ks ∧ Book K H vb (ksOf ks) ∧ H lu = some (.lst []) ∧ H dn = some (.dK [])
theorem PlanAt.ex {H H' : Hp} {x : Addr} {ks : List Knd} (h : PlanAt K H x ks) (e : Ex H H') : PlanAt K H' x ks := by
  obtain ⟨dx, vp, h, vb, lu, dn, lf, h1, h2, h3, h4, h5⟩ := h
  exact ⟨dx, vp, h, vb, lu, dn, lf, e _ _ h1, h2.ex e, h3.tk e, e _ _ h4, e _ _ h5⟩
theorem HeadsAt.ne {H : Hp} {h x : Addr} {ks : List Knd} {C dx : Addr} {fs : List (Str × V)} (hH : HeadsAt K H h ks) (hx : H x = some (.ins C dx fs)) (ne : h ≠ x) {H' : Hp} (k : Kp [x] H H') : HeadsAt K H' h ks := by
  obtain ⟨dxh, am, ak, ac, ame, ad, acp, kvm, kvk, h1, h2, h3, h4, h5⟩ := hH
  have t : Tk H H' := k.tk fun p hp xs => by
    obtain rfl := List.mem_singleton.mp hp
    exact no_ins hx xs
  refine ⟨dxh, am, ak, ac, ame, ad, acp, kvm, kvk, k _ _ (by simpa using ne) h1, k _ _ (fun z => by rw [List.mem_singleton.mp z, hx] at h2; cases h2) h2, h3.tk t, k _ _ (fun z => by rw [List.mem_singleton.mp z, hx] at h4; cases h4) h4, ⟨fun k' hk' => ?_, h5.2⟩⟩
  obtain ⟨t', l, e1, e2, e3⟩ := h5.1 k' hk'
  exact ⟨t', l, e1, k _ _ (fun z => by rw [List.mem_singleton.mp z, hx] at e2; cases e2) e2, k _ _ (fun z => by rw [List.mem_singleton.mp z, hx] at e3; cases e3) e3⟩
theorem Book.kp {H H' : Hp} {x C dx : Addr} {fs : List (Str × V)} {vb : V} {KS : List (Str × Nat)} (h : Book K H vb KS) (hx : H x = some (.ins C dx fs)) (k : Kp [x] H H') : Book K H' vb KS := by
  have t : Tk H H' := k.tk fun p hp xs => by
    obtain rfl := List.mem_singleton.mp hp
    exact no_ins hx xs
  obtain ⟨b, kt, o, ps, r1, r2, rfl, hb, hk, ho, hp⟩ := h
  exact ⟨b, kt, o, ps, r1, r2, rfl, t.sq hb, k _ _ (fun z => by rw [List.mem_singleton.mp z, hx] at hk; cases hk) hk, ho, Paired.mapP hp fun _ _ z => t.sq z⟩
def SPlanInit (K : PySem.W.Frag) : Sp := fun vs H Q E => ∃ x dx v h ks, vs = [.ref x, v, .ref h] ∧ H x = some (.ins (He.ga K "Plan") dx []) ∧ Im K H v (pD ks) ∧ PgOk ks ∧ HeadsAt K H h ks ∧ h ≠ x ∧ ∀ H2, Kp [x] H H2 → PlanAt K H2 x ks → Q .non H2
theorem ok_Plan_init (T : Tx K mg) : Ok P w K mg base 2 d_Plan_init ["self", "program", "heads"] (SPlanInit K) := by
  have G_book_inside := ok_book_inside (P := P) (w := w) (base := base) T
  refine (T.F_Plan_init).ok sc_Plan_init (fun vs H Q E ⟨x, dx, v, h, ks, e, _⟩ => by rw [e]; rfl) (fun cdv A outer s H vs Q E hr h => ?_)
  obtain ⟨x, dx, v, h, ks, rfl, hx, iv, hP, hH, hne, q⟩ := h
  refine ⟨_, PSs.nox ((pss_cons (ps_fld (pv 0) (pv 1) rfl)
  (pss_cons (ps_fld (pv 0) (pv 2) rfl)
  (pss_cons (ps_fld (pv 0) (pe_call G_book_inside (hr.mono (by omega)) rfl T.g_book_inside T.k_book_inside T.B_book_inside .nil pass0 (pa_cons (pv 2) (pa_cons (pv 1) pa_nil))) rfl)
  (pss_cons (ps_fld (pv 0) (pe_lc (own := [("entry", 3)]) (by rfl) sc_Plan_init.nd (pi_tupK (K := K) rfl (pe_ix (ix_seqK (K := K) rfl) (pv 1) pe_int (fun _ _ => rfl))) (blkOk_by (own := [("entry", 3)]) (N := ["self", "program", "heads", "entry", "number", "unit", "way", "own", "name", "head", "needs", "bodies", "k", "e"]) (sc := defScope s_Plan_init) (by decide +kernel)) (fun _ _ _ _ _ => pg_name (i := 3) sc_Plan_init.nd rfl (by first | exact Or.inl rfl | exact Or.inr rfl)) (fun _ _ _ _ _ => pts_nil) (fun _ _ _ _ _ => pe_never)) rfl)
  (pss_cons (ps_fld (pv 0) (pe_callB (call_lenK (K := K) rfl) rfl T.b_len bb_len (pa_cons (pe_fldK (K := K) rfl (pv 0) rfl) pa_nil)) rfl)
  (pss_cons (ps_fld (pv 0) (pe_dc (own := [("number", 4), ("unit", 5)]) (by rfl) sc_Plan_init.nd (pi_enum (by rfl) T.b_enumerate (pa_cons (pe_fldK (K := K) rfl (pv 0) rfl) pa_nil)) (blkOk_by (own := [("number", 4), ("unit", 5)]) (N := ["self", "program", "heads", "entry", "number", "unit", "way", "own", "name", "head", "needs", "bodies", "k", "e"]) (sc := defScope s_Plan_init) (by decide +kernel)) (fun _ _ _ _ _ => pg_tupK (K := K) (n := 2) rfl rfl (pgs_cons (pg_name (i := 4) sc_Plan_init.nd rfl (by first | exact Or.inl rfl | exact Or.inr rfl)) (pgs_cons (pg_name (i := 5) sc_Plan_init.nd rfl (by first | exact Or.inl rfl | exact Or.inr rfl)) pgs_nil))) (fun _ _ _ _ _ => pts_nil) (fun _ _ _ _ _ => (pe_fldK (K := K) rfl (pv 5) rfl)) (fun _ _ _ _ _ => (pv 4))) rfl)
  (pss_cons (ps_fld (pv 0) (pe_lst pa_nil) rfl)
  (pss_one (ps_for PassesOwn.never rfl (pi_enum0 (by rfl) T.b_enumerate (pa_cons (pe_ix (ix_seqK (K := K) rfl) (pv 1) pe_int (fun _ _ => rfl)) pa_nil)) (pg_tupK (K := K) (n := 2) rfl rfl (pgs_cons (pg_name (i := 6) sc_Plan_init.nd rfl (by first | exact Or.inl rfl | exact Or.inr rfl)) (pgs_cons (pg_tupK (K := K) (n := 4) rfl rfl (pgs_cons (pg_name (i := 8) sc_Plan_init.nd rfl (by first | exact Or.inl rfl | exact Or.inr rfl)) (pgs_cons (pg_name (i := 9) sc_Plan_init.nd rfl (by first | exact Or.inl rfl | exact Or.inr rfl)) (pgs_cons (pg_name (i := 10) sc_Plan_init.nd rfl (by first | exact Or.inl rfl | exact Or.inr rfl)) (pgs_cons (pg_name (i := 11) sc_Plan_init.nd rfl (by first | exact Or.inl rfl | exact Or.inr rfl)) pgs_nil))))) pgs_nil))) (pss_cons ps_never
  (pss_cons ps_never
  (pss_one (ps_for PassesOwn.never rfl (pi_enum0 (by rfl) T.b_enumerate (pa_cons (pv 11) pa_nil)) (pg_tupK (K := K) (n := 2) rfl rfl (pgs_cons (pg_name (i := 12) sc_Plan_init.nd rfl (by first | exact Or.inl rfl | exact Or.inr rfl)) (pgs_cons (pg_name (i := 13) sc_Plan_init.nd rfl (by first | exact Or.inl rfl | exact Or.inr rfl)) pgs_nil))) (pss_one (ps_expr (pe_bm PySem.F.plainAttrs_list PySem.F.slot_list_append PySem.F.type_list_append mt_append (pe_fldK (K := K) rfl (pv 0) rfl) (pa_cons pe_never pa_nil)))))))))))))))))), ?_⟩
  have c := T.c_Plan
  refine sq_fldE rfl hx c T.n_Plan_program (Nat.le_of_ble_eq_true rfl) (ev_v rfl) fun H1 e1 => ?_
  refine sq_fldE rfl (upd_same ..) c T.n_Plan_heads (Nat.le_of_ble_eq_true rfl) (ev_v rfl) fun H2 e2 => ?_
  have k3 : Kp [x] H (upd H2 x (.ins (He.ga K "Plan") dx (putF "heads" (.ref h) (putF "program" v [])))) := (((Kp.of e1).upd (by simp)).ex e2).upd (by simp)
  have h3x : upd H2 x (.ins (He.ga K "Plan") dx (putF "heads" (.ref h) (putF "program" v []))) x = some (.ins (He.ga K "Plan") dx [("program", v), ("heads", .ref h)]) := upd_same ..
  generalize upd H2 x (.ins (He.ga K "Plan") dx (putF "heads" (.ref h) (putF "program" v []))) = H3 at k3 h3x
  have t3 : Tk H H3 := k3.tk fun p hp xs => by
    obtain rfl := List.mem_singleton.mp hp
    exact no_ins hx xs
  have iv3 := iv.mono t3
  refine sq_fldR ⟨_, rfl, _, rfl, .ref h, v, ks, rfl, hP, iv3, fun vb H4 e4 hB => ?_⟩
  refine ⟨_, rfl, x, _, dx, _, rfl, e4 _ _ h3x, c, T.n_Plan_book, Nat.le_of_ble_eq_true rfl, ?_⟩
  have k5 : Kp [x] H3 (upd H4 x (.ins (He.ga K "Plan") dx (putF "book" vb [("program", v), ("heads", .ref h)]))) := (Kp.of e4).upd (by simp)
  have h5x : upd H4 x (.ins (He.ga K "Plan") dx (putF "book" vb [("program", v), ("heads", .ref h)])) x = some (.ins (He.ga K "Plan") dx [("program", v), ("heads", .ref h), ("book", vb)]) := upd_same ..
  have kb5 : Kp [x] H4 (upd H4 x (.ins (He.ga K "Plan") dx (putF "book" vb [("program", v), ("heads", .ref h)]))) := (Kp.refl _ _).upd (by simp)
  have hB5 := hB.kp (e4 _ _ h3x) kb5
  generalize upd H4 x (.ins (He.ga K "Plan") dx (putF "book" vb [("program", v), ("heads", .ref h)])) = H5 at k5 h5x hB5
  have t5 : Tk H3 H5 := k5.tk fun p hp xs => by
    obtain rfl := List.mem_singleton.mp hp
    exact no_ins h3x xs
  refine sq_fldL rfl h5x c T.n_Plan_units (Nat.le_of_ble_eq_true rfl) (el_none (ed_op (ed_var rfl (iv3.mono t5)) ed_int (rd_ix (i := 3) rfl))) fun lu us H6 hlu e6 h6 i6 => ?_
  cases i6
  have nlu : lu ≠ x := fun z => by rw [z, h5x] at hlu; cases hlu
  have h7x : upd H6 x (.ins (He.ga K "Plan") dx (putF "units" (.ref lu) [("program", v), ("heads", .ref h), ("book", vb)])) x = some (.ins (He.ga K "Plan") dx [("program", v), ("heads", .ref h), ("book", vb), ("units", .ref lu)]) := upd_same ..
  have k7 : Kp [x] H5 (upd H6 x (.ins (He.ga K "Plan") dx (putF "units" (.ref lu) [("program", v), ("heads", .ref h), ("book", vb)]))) := (Kp.of e6).upd (by simp)
  have h7u : upd H6 x (.ins (He.ga K "Plan") dx (putF "units" (.ref lu) [("program", v), ("heads", .ref h), ("book", vb)])) lu = some (.lst []) := by rw [upd_ne nlu]; exact h6
  generalize upd H6 x (.ins (He.ga K "Plan") dx (putF "units" (.ref lu) [("program", v), ("heads", .ref h), ("book", vb)])) = H7 at h7x k7 h7u
  refine sq_fldD rfl h7x c T.n_Plan_many_defs (Nat.le_of_ble_eq_true rfl) (ed_lenL (es_ev (ds := []) (ev_fld (ev_v rfl) h7x c T.n_Plan_units rfl) (Evl.sq_of h7u) .nil)) fun v0 H8 e8 i8 => ?_
  obtain rfl := i8.int_of
  have h9x : upd H8 x (.ins (He.ga K "Plan") dx (putF "many_defs" (.int ((([] : List PyData).length : Nat) : Int)) [("program", v), ("heads", .ref h), ("book", vb), ("units", .ref lu)])) x = some (.ins (He.ga K "Plan") dx [("program", v), ("heads", .ref h), ("book", vb), ("units", .ref lu), ("many_defs", .int 0)]) := upd_same ..
  have k9 : Kp [x] H7 (upd H8 x (.ins (He.ga K "Plan") dx (putF "many_defs" (.int ((([] : List PyData).length : Nat) : Int)) [("program", v), ("heads", .ref h), ("book", vb), ("units", .ref lu)]))) := (Kp.of e8).upd (by simp)
  generalize upd H8 x (.ins (He.ga K "Plan") dx (putF "many_defs" (.int ((([] : List PyData).length : Nat) : Int)) [("program", v), ("heads", .ref h), ("book", vb), ("units", .ref lu)])) = H9 at h9x k9
  have h9u := k9 _ _ (by simpa using nlu) h7u
  refine sq_fldR (te_dcE0 (ev_fld (ev_v rfl) h9x c T.n_Plan_units rfl) (Evl.sq_of h9u) fun dn Ha hdn ea ha => ?_)
  refine ⟨_, rfl, x, _, dx, _, rfl, ea _ _ h9x, c, T.n_Plan_numbers, Nat.le_of_ble_eq_true rfl, ?_⟩
  have ndn : dn ≠ x := fun z => by rw [z, h9x] at hdn; cases hdn
  have hbx : upd Ha x (.ins (He.ga K "Plan") dx (putF "numbers" (.ref dn) [("program", v), ("heads", .ref h), ("book", vb), ("units", .ref lu), ("many_defs", .int 0)])) x = some (.ins (He.ga K "Plan") dx [("program", v), ("heads", .ref h), ("book", vb), ("units", .ref lu), ("many_defs", .int 0), ("numbers", .ref dn)]) := upd_same ..
  have kb : Kp [x] H9 (upd Ha x (.ins (He.ga K "Plan") dx (putF "numbers" (.ref dn) [("program", v), ("heads", .ref h), ("book", vb), ("units", .ref lu), ("many_defs", .int 0)]))) := (Kp.of ea).upd (by simp)
  have hbd : upd Ha x (.ins (He.ga K "Plan") dx (putF "numbers" (.ref dn) [("program", v), ("heads", .ref h), ("book", vb), ("units", .ref lu), ("many_defs", .int 0)])) dn = some (.dK []) := by rw [upd_ne ndn]; exact ha
  generalize upd Ha x (.ins (He.ga K "Plan") dx (putF "numbers" (.ref dn) [("program", v), ("heads", .ref h), ("book", vb), ("units", .ref lu), ("many_defs", .int 0)])) = Hb at hbx kb hbd
  refine sq_fldL rfl hbx c T.n_Plan_firsts (Nat.le_of_ble_eq_true rfl) (el_lst ea_nil (Nat.zero_le _)) fun lf fs Hc hlf ec hc ic => ?_
  have hdx : upd Hc x (.ins (He.ga K "Plan") dx (putF "firsts" (.ref lf) [("program", v), ("heads", .ref h), ("book", vb), ("units", .ref lu), ("many_defs", .int 0), ("numbers", .ref dn)])) x = some (.ins (He.ga K "Plan") dx [("program", v), ("heads", .ref h), ("book", vb), ("units", .ref lu), ("many_defs", .int 0), ("numbers", .ref dn), ("firsts", .ref lf)]) := upd_same ..
  have kd : Kp [x] Hb (upd Hc x (.ins (He.ga K "Plan") dx (putF "firsts" (.ref lf) [("program", v), ("heads", .ref h), ("book", vb), ("units", .ref lu), ("many_defs", .int 0), ("numbers", .ref dn)]))) := (Kp.of ec).upd (by simp)
  generalize upd Hc x (.ins (He.ga K "Plan") dx (putF "firsts" (.ref lf) [("program", v), ("heads", .ref h), ("book", vb), ("units", .ref lu), ("many_defs", .int 0), ("numbers", .ref dn)])) = Hd at hdx kd
  have k5d : Kp [x] H5 Hd := ((k7.trans k9).trans kb).trans kd
  have t5d : Tk H5 Hd := k5d.tk fun p hp xs => by
    obtain rfl := List.mem_singleton.mp hp
    exact no_ins h5x xs
  refine st_enum0 (ed_op (ed_var rfl ((iv3.mono t5).mono t5d)) ed_int (rd_ix rfl)) fun He_ ee => ?_
  have kall : Kp [x] H Hd := (k3.trans k5).trans k5d
  exact q He_ (kall.ex ee) (PlanAt.ex ⟨dx, v, h, vb, lu, dn, lf, hdx, hH.ne hx hne kall, hB5.kp h5x k5d, ((kb.trans kd) _ _ (by simpa using nlu) h9u), kd _ _ (by simpa using ndn) hbd⟩ ee)
def SallFns (K : PySem.W.Frag) : Sp := fun vs H Q E => ∃ x ks, vs = [.ref x] ∧ PlanAt K H x ks ∧ ∀ p H2, Ex H H2 → H2 p = some (.lst []) → Q (.ref p) H2
theorem ok_Plan_all_fns (T : Tx K mg) : Ok P w K mg base 1 d_Plan_all_fns ["self"] (SallFns K) := by
  refine (T.F_Plan_all_fns).ok sc_Plan_all_fns (fun vs H Q E ⟨x, ks, e, _⟩ => by rw [e]; rfl) (fun cdv A outer s H vs Q E hr h => ?_)
  obtain ⟨x, ks, rfl, hp, q⟩ := h
  obtain ⟨dx, vp, h, vb, lu, dn, lf, h1, h2, h3, h4, h5⟩ := hp
  refine ⟨_, PSs.nox ((pss_cons (ps_set (i := 1) sc_Plan_all_fns.nd rfl (by first | exact Or.inl rfl | exact Or.inr rfl) (pe_op (op_addK (K := K) rfl) (pe_listRg rfl (by rfl) T.b_list (prg_2 (by rfl) T.b_range (pe_fldK (K := K) rfl (pv 0) rfl) (pe_callB (call_lenK (K := K) rfl) rfl T.b_len bb_len (pa_cons (pe_fldK (K := K) rfl (pv 0) rfl) pa_nil)))) (pe_listRg rfl (by rfl) T.b_list (prg_1 (by rfl) T.b_range (pe_fldK (K := K) rfl (pv 0) rfl)))))
  (pss_one (ps_ret (pe_lc2 (own := [("number", 2), ("place", 3)]) (vs1 := [3]) (by rfl) sc_Plan_all_fns.nd (pi_listK (K := K) rfl (pv 1)) (blkOk_by (own := [("number", 2), ("place", 3)]) (N := ["self", "order", "number", "place"]) (sc := defScope s_Plan_all_fns) (by decide +kernel)) (by decide) (fun _ _ _ _ _ => pg_name (i := 2) sc_Plan_all_fns.nd rfl (by first | exact Or.inl rfl | exact Or.inr rfl)) (fun _ _ _ _ _ => pts_nil) (fun _ _ _ _ _ => pi_never) (fun _ _ _ _ _ => pg_name (i := 3) sc_Plan_all_fns.nd rfl (by first | exact Or.inl rfl | exact Or.inr rfl)) (fun _ _ _ _ _ => pts_nil) (fun _ _ _ _ _ => (pe_tup (pa_cons (pv 2) (pa_cons (pv 3) pa_nil))))))))), ?_⟩
  have fm : ∀ {H1 : Hp} {σ : L2.St}, Ex H H1 → σ[0]? = some (some (.ref x)) → Ev (tFld K (tVar 0) "many_defs") σ H1 (.int 0) := fun e hs => ev_fld (ev_v hs) (e _ _ h1) T.c_Plan T.n_Plan_many_defs rfl
  refine sq_set (te_op (te_lstRg (te_rg2 ?_)))
  refine fm (Ex.refl H) rfl H (Ex.refl H) _ fun H1 e1 => ?_
  refine (ed_lenL (K := K) (es_ev (ds := []) (ev_fld (ev_v rfl) (e1 _ _ h1) T.c_Plan T.n_Plan_units rfl) (Evl.sq_of (e1 _ _ h4)) .nil)).at fun v H2 e2 i2 => ?_
  obtain rfl := i2.int_of
  have rg0 : RgOk 0 0 := by unfold RgOk; decide
  refine ⟨0, 0, rfl, rfl, rg0, fun p1 hp1 => ?_⟩
  have e3 : Ex H (upd H2 p1 (.lst (rgV 0 0))) := (e1.trans e2).trans (Ex.new hp1)
  have h3p : upd H2 p1 (.lst (rgV 0 0)) p1 = some (.lst []) := upd_same ..
  generalize upd H2 p1 (.lst (rgV 0 0)) = H3 at e3 h3p
  refine te_lstRg (te_rg1 ?_)
  refine fm e3 rfl H3 (Ex.refl _) _ fun H4 e4 => ?_
  refine ⟨0, rfl, rg0, fun p2 hp2 => ?_⟩
  have e5 : Ex H4 (upd H4 p2 (.lst (rgV 0 0))) := Ex.new hp2
  have h5p : upd H4 p2 (.lst (rgV 0 0)) p2 = some (.lst []) := upd_same ..
  generalize upd H4 p2 (.lst (rgV 0 0)) = H5 at e5 h5p
  refine add_l (e5 _ _ (e4 _ _ h3p)) h5p (Nat.zero_le _) fun p3 hp3 => ?_
  have e6 : Ex H5 (upd H5 p3 (.lst ([] ++ []))) := Ex.new hp3
  have h6p : upd H5 p3 (.lst ([] ++ [])) p3 = some (.lst []) := upd_same ..
  generalize upd H5 p3 (.lst ([] ++ [])) = H6 at e6 h6p
  refine st_ret ⟨_, rfl, p3, rfl, ⟨[], Evl.sq_of h6p⟩, fun D hD => ?_⟩
  refine ⟨fun i m H' => H' = upd H6 D (.lst []), ⟨0, rfl⟩, fun i m H' e => .inl ?_⟩
  subst e
  exact ⟨⟨[], Evl.sq_of (Ex.new hD _ _ h6p), Nat.zero_le _⟩, q D _ ((((e3.trans e4).trans e5).trans e6).trans (Ex.new hD)) (upd_same ..)⟩
def Splanned (K : PySem.W.Frag) : Sp := fun vs H Q E => ∃ v ks, vs = [v] ∧ PgOk ks ∧ Im K H v (pD ks) ∧ ∀ x H2, Ex H H2 → PlanAt K H2 x ks → Q (.ref x) H2
theorem ok_planned (T : Tx K mg) : Ok P w K mg base 15 d_planned ["program"] (Splanned K) := by
  have G_need_checked := ok_need_checked (P := P) (w := w) (base := base) T
  have G_Plan_init := ok_Plan_init (P := P) (w := w) (base := base) T
  refine (T.F_planned).ok sc_planned (fun vs H Q E ⟨v, ks, e, _⟩ => by rw [e]; rfl) (fun cdv A outer s H vs Q E hr h => ?_)
  obtain ⟨v, ks, rfl, hP, iv, q⟩ := h
  refine ⟨_, PSs.nox ((pss_one (ps_ret (pe_make T.m_Plan G_Plan_init (hr.mono (by omega)) rfl T.g_Plan T.B_Plan_init .nil pass0 (pa_cons (pv 0) (pa_cons (pe_call G_need_checked (hr.mono (by omega)) rfl T.g_need_checked T.k_need_checked T.B_need_checked .nil pass0 (pa_cons (pv 0) pa_nil)) pa_nil)))))), ?_⟩
  refine st_ret ⟨_, rfl, _, rfl, v, ks, rfl, hP, iv, fun h H1 e1 hH x dx hx hdx ne => ?_⟩
  have e2 : Ex H1 (upd (upd H1 dx (.own x)) x (.ins (He.ga K "Plan") dx [])) := (Ex.new hdx).trans (Ex.new (by rw [upd_ne (Ne.symm ne)]; exact hx))
  have hhx : h ≠ x := fun z => by
    obtain ⟨_, _, _, _, _, _, _, _, _, g1, _⟩ := hH
    rw [z, hx] at g1
    cases g1
  refine ⟨x, dx, v, h, ks, rfl, upd_same .., iv.ex (e1.trans e2), hP, hH.ex e2, hhx, fun H2 k2 hp => ⟨rfl, q x H2 ?_ hp⟩⟩
  exact e1.trans ((((Kp.of (S := [x]) e2).trans k2).drop hx).to_ex)
end
end K55
namespace K55
open PySem PySem.Spec PyProof.Rows L2 W5 M5
open Evl (Ex Ev)
/-- a bank's nodes -/
inductive BN where
  | whole
  | to (i j : Nat)
  | of (k : Str) (is : List Nat)
  deriving DecidableEq
namespace BN
def ids : BN → List Nat
  | whole => []
  | to i j => [i, j]
  | of _ is => is
def d : BN → PyData
  | whole => .tuple [.str "whole"]
  | to i j => .tuple [.str "to", .int (i : Nat), .int (j : Nat)]
  | of k is => .tuple [.str "of", .str k, .tuple (is.map fun i => .int (i : Nat))]
def k : BN → NK
  | whole => .tup [.text "whole"]
  | to i j => .tup [.text "to", .num (i : Nat), .num (j : Nat)]
  | of k is => .tup [.text "of", .text k, .tup (is.map fun i => .num (i : Nat))]
theorem datas_num : ∀ is : List Nat, NestedKey.datas (is.map fun i => .num (i : Nat)) = is.map fun i => .int (i : Nat)
  | [] => rfl
  | i :: is => by
    show _ :: _ = _ :: _
    rw [datas_num is]
    rfl
theorem data : ∀ n : BN, n.k.data = n.d
  | whole => rfl
  | to _ _ => rfl
  | of k is => by
    show PyData.tuple [.str "of", .str k, .tuple (NestedKey.datas _)] = _
    rw [datas_num]
    rfl
theorem depth_num : ∀ is : List Nat, NestedKey.depthAll (is.map fun i => .num (i : Nat)) ≤ 1
  | [] => Nat.zero_le _
  | i :: is => by
    have := depth_num is
    simp only [List.map_cons, NestedKey.depthAll, NestedKey.depth]
    omega
theorem depth : ∀ n : BN, n.k.depth ≤ 8
  | whole => by decide
  | to _ _ => by simp [k, NestedKey.depth, NestedKey.depthAll]
  | of k is => by
    have := depth_num is
    simp only [BN.k, NestedKey.depth, NestedKey.depthAll]
    omega
theorem num_inj : ∀ {is js : List Nat}, (is.map fun i => NestedKey.num (i : Nat)) = (js.map fun i => NestedKey.num (i : Nat)) → is = js
  | [], [], _ => rfl
  | [], _ :: _, h => by simp at h
  | _ :: _, [], h => by simp at h
  | i :: is, j :: js, h => by
    simp only [List.map_cons, List.cons.injEq, NestedKey.num.injEq] at h
    rw [num_inj h.2]
    have := h.1
    congr 1
    omega
theorem k_inj : ∀ {m n : BN}, m.k = n.k → m = n
  | whole, whole, _ => rfl
  | whole, to _ _, h => by simp [k] at h
  | whole, of _ _, h => by simp [k] at h
  | to _ _, whole, h => by simp [k] at h
  | to a b, to c d, h => by
    simp only [k, NestedKey.tup.injEq, List.cons.injEq, NestedKey.num.injEq, and_true, true_and] at h
    obtain ⟨h1, h2⟩ := h
    have e1 : a = c := by omega
    have e2 : b = d := by omega
    rw [e1, e2]
  | to _ _, of _ _, h => by
    simp only [k, NestedKey.tup.injEq, List.cons.injEq] at h
    exact nomatch h.2.1
  | of _ _, whole, h => by simp [k] at h
  | of _ _, to _ _, h => by
    simp only [k, NestedKey.tup.injEq, List.cons.injEq] at h
    exact nomatch h.2.1
  | of a is, of b js, h => by
    simp only [k, NestedKey.tup.injEq, List.cons.injEq, NestedKey.text.injEq, and_true, true_and] at h
    rw [h.1, num_inj h.2]
end BN
/-- the nodes with their numbers -/
def numK : Nat → List BN → List (NK × V)
  | _, [] => []
  | i, n :: ns => (n.k, .int (i : Nat)) :: numK (i + 1) ns
theorem numK_none {n : BN} : ∀ {ns : List BN} {i : Nat}, n ∉ ns → valV (numK i ns) n.k = none
  | [], _, _ => rfl
  | m :: ns, i, h => by
    simp only [List.mem_cons, not_or] at h
    rw [numK, valV_neg (fun z => h.1 (BN.k_inj z).symm)]
    exact numK_none h.2
theorem numK_some {n : BN} : ∀ {ns : List BN} {i j : Nat}, ns.Nodup → ns[j]? = some n → valV (numK i ns) n.k = some (.int ((i + j : Nat) : Int))
  | [], _, _, _, h => by simp at h
  | m :: ns, i, 0, _, h => by
    simp only [List.getElem?_cons_zero, Option.some.injEq] at h
    subst h
    exact valV_pos rfl
  | m :: ns, i, j + 1, hn, h => by
    rw [List.nodup_cons] at hn
    have hm : n ∈ ns := List.mem_of_getElem? (by simpa using h)
    rw [numK, valV_neg (fun z => hn.1 (by rw [← BN.k_inj z] at hm; exact hm)), numK_some hn.2 (by simpa using h)]
    congr 2
    omega
theorem numK_append (n : BN) : ∀ (ns : List BN) (i : Nat), numK i (ns ++ [n]) = numK i ns ++ [(n.k, .int ((i + ns.length : Nat) : Int))]
  | [], i => rfl
  | m :: ns, i => by
    have e : i + 1 + ns.length = i + (ns.length + 1) := by omega
    simp only [List.cons_append, numK, numK_append n ns (i + 1), List.length_cons, e]
theorem numK_len : ∀ (ns : List BN) (i : Nat), (numK i ns).length = ns.length
  | [], _ => rfl
  | n :: ns, i => by rw [numK, List.length_cons, List.length_cons, numK_len ns]
section
variable {P : Program} {w : World} {K : PySem.W.Frag} {mg : Str → Option Value} {base : Heap}
/-- where a bank stands -/
structure BP where
  x : Addr
  dx : Addr
  an : Addr
  az : Addr
  ai : Addr
  at_ : Addr
def BP.S (b : BP) : List Addr := [b.an, b.az, b.ai]
structure BankAt (P : Program) (w : World) (K : PySem.W.Frag) (H : Hp) (b : BP) (ns : List BN) : Prop where
  x : H b.x = some (.ins (He.ga K "Bank") b.dx [("nodes", .ref b.an), ("sizes", .ref b.az), ("numbers", .ref b.ai), ("told", .ref b.at_)])
  n : ∃ vs, H b.an = some (.lst vs) ∧ ImAll K H vs (ns.map BN.d)
  z : ∃ zs : List Int, H b.az = some (.lst (zs.map V.int)) ∧ zs.length = ns.length
  i : Nd P w K H b.ai (numK 0 ns)
  nz : b.an ≠ b.az
  ni : b.an ≠ b.ai
  zi : b.az ≠ b.ai
  nd : ns.Nodup
  lt : ∀ (j : Nat) (m : BN), ns[j]? = some m → ∀ i ∈ m.ids, i < j
  le : ns.length ≤ 50000
def SbankInit (P : Program) (w : World) (K : PySem.W.Frag) : Sp := fun vs H Q E => ∃ x dx, vs = [.ref x] ∧ H x = some (.ins (He.ga K "Bank") dx []) ∧ ∀ b H2, b.x = x → b.dx = dx → Kp [x] H H2 → H b.an = none → H b.az = none → H b.ai = none → BankAt P w K H2 b [] → Q .non H2
theorem ok_Bank_init (T : Tx K mg) : Ok P w K mg base 1 d_Bank_init ["self"] (SbankInit P w K) := by
  refine (T.F_Bank_init).ok sc_Bank_init (fun vs H Q E ⟨x, dx, e, _⟩ => by rw [e]; rfl) (fun cdv A outer s H vs Q E hr h => ?_)
  obtain ⟨x, dx, rfl, hx, q⟩ := h
  refine ⟨_, PSs.nox ((pss_cons (ps_fld (pv 0) (pe_lst pa_nil) rfl)
  (pss_cons (ps_fld (pv 0) (pe_lst pa_nil) rfl)
  (pss_cons (ps_fld (pv 0) pe_dnewN rfl)
  (pss_one (ps_fld (pv 0) pe_dnewK rfl)))))), ?_⟩
  have c := T.c_Bank
  refine sq_fldL (K := K) rfl hx c T.n_Bank_nodes (Nat.le_of_ble_eq_true rfl) (el_lst ea_nil (Nat.zero_le _)) fun an l1 H1 hn e1 h1 i1 => ?_
  cases i1
  have nn : an ≠ x := fun z => by rw [z, hx] at hn; cases hn
  have k2 : Kp [x] H (upd H1 x (.ins (He.ga K "Bank") dx (putF "nodes" (.ref an) []))) := (Kp.of e1).upd (by simp)
  have h2x : upd H1 x (.ins (He.ga K "Bank") dx (putF "nodes" (.ref an) [])) x = some (.ins (He.ga K "Bank") dx [("nodes", .ref an)]) := upd_same ..
  have h2n : upd H1 x (.ins (He.ga K "Bank") dx (putF "nodes" (.ref an) [])) an = some (.lst []) := by rw [upd_ne nn]; exact h1
  generalize upd H1 x (.ins (He.ga K "Bank") dx (putF "nodes" (.ref an) [])) = H2 at k2 h2x h2n
  refine sq_fldL (K := K) rfl h2x c T.n_Bank_sizes (Nat.le_of_ble_eq_true rfl) (el_lst ea_nil (Nat.zero_le _)) fun az l3 H3 hz e3 h3 i3 => ?_
  cases i3
  have nz : az ≠ x := fun z => by rw [z, h2x] at hz; cases hz
  have nnz : an ≠ az := fun z => by rw [← z, h2n] at hz; cases hz
  have k4 : Kp [x] H2 (upd H3 x (.ins (He.ga K "Bank") dx (putF "sizes" (.ref az) [("nodes", .ref an)]))) := (Kp.of e3).upd (by simp)
  have h4x : upd H3 x (.ins (He.ga K "Bank") dx (putF "sizes" (.ref az) [("nodes", .ref an)])) x = some (.ins (He.ga K "Bank") dx [("nodes", .ref an), ("sizes", .ref az)]) := upd_same ..
  have h4z : upd H3 x (.ins (He.ga K "Bank") dx (putF "sizes" (.ref az) [("nodes", .ref an)])) az = some (.lst []) := by rw [upd_ne nz]; exact h3
  generalize upd H3 x (.ins (He.ga K "Bank") dx (putF "sizes" (.ref az) [("nodes", .ref an)])) = H4 at k4 h4x h4z
  have h4n := k4 _ _ (by simpa using nn) h2n
  refine sq_fldR fun ai H5 hi hN hc e5 => ?_
  have ni : ai ≠ x := fun z => by rw [z, h4x] at hi; cases hi
  have nni : an ≠ ai := fun z => by rw [← z, h4n] at hi; cases hi
  have nzi : az ≠ ai := fun z => by rw [← z, h4z] at hi; cases hi
  refine ⟨_, rfl, x, _, dx, _, rfl, e5 _ _ h4x, c, T.n_Bank_numbers, Nat.le_of_ble_eq_true rfl, ?_⟩
  have k6 : Kp [x] H4 (upd H5 x (.ins (He.ga K "Bank") dx (putF "numbers" (.ref ai) [("nodes", .ref an), ("sizes", .ref az)]))) := (Kp.of e5).upd (by simp)
  have h6x : upd H5 x (.ins (He.ga K "Bank") dx (putF "numbers" (.ref ai) [("nodes", .ref an), ("sizes", .ref az)])) x = some (.ins (He.ga K "Bank") dx [("nodes", .ref an), ("sizes", .ref az), ("numbers", .ref ai)]) := upd_same ..
  have hN6 : Nd P w K (upd H5 x (.ins (He.ga K "Bank") dx (putF "numbers" (.ref ai) [("nodes", .ref an), ("sizes", .ref az)]))) ai [] := hN.keep (upd_ne ni) (Tk.upd (no_ins (e5 _ _ h4x)))
  generalize upd H5 x (.ins (He.ga K "Bank") dx (putF "numbers" (.ref ai) [("nodes", .ref an), ("sizes", .ref az)])) = H6 at k6 h6x hN6
  intro at' hat
  have nat : at' ≠ x := fun z => by rw [z, h6x] at hat; cases hat
  have e7 : Ex H6 (upd H6 at' (.dK [])) := Ex.new hat
  refine ⟨_, rfl, x, _, dx, _, rfl, e7 _ _ h6x, c, T.n_Bank_told, Nat.le_of_ble_eq_true rfl, ?_⟩
  have k8 : Kp [x] H6 (upd (upd H6 at' (.dK [])) x (.ins (He.ga K "Bank") dx (putF "told" (.ref at') [("nodes", .ref an), ("sizes", .ref az), ("numbers", .ref ai)]))) := (Kp.of e7).upd (by simp)
  have h8x : upd (upd H6 at' (.dK [])) x (.ins (He.ga K "Bank") dx (putF "told" (.ref at') [("nodes", .ref an), ("sizes", .ref az), ("numbers", .ref ai)])) x = some (.ins (He.ga K "Bank") dx [("nodes", .ref an), ("sizes", .ref az), ("numbers", .ref ai), ("told", .ref at')]) := upd_same ..
  have nai : at' ≠ ai := fun z => by
    obtain ⟨_, _, _, g, _⟩ := hN6
    rw [z, g] at hat; cases hat
  have hN8 : Nd P w K (upd (upd H6 at' (.dK [])) x (.ins (He.ga K "Bank") dx (putF "told" (.ref at') [("nodes", .ref an), ("sizes", .ref az), ("numbers", .ref ai)]))) ai [] := hN6.keep (by rw [upd_ne ni, upd_ne (Ne.symm nai)]) ((Tk.ex e7).trans (Tk.upd (no_ins (e7 _ _ h6x))))
  have fz : H az = none := by
    cases e : H az with
    | none => rfl
    | some o => rw [k2 _ _ (by simpa using nz) e] at hz; cases hz
  have k04 := k2.trans k4
  have fi : H ai = none := by
    cases e : H ai with
    | none => rfl
    | some o => rw [k04 _ _ (by simpa using ni) e] at hi; cases hi
  exact q ⟨x, dx, an, az, ai, at'⟩ _ rfl rfl ((k04.trans k6).trans k8) hn fz fi ⟨h8x, ⟨[], k8 _ _ (by simpa using nn) (k6 _ _ (by simpa using nn) h4n), .nil⟩, ⟨[], k8 _ _ (by simpa using nz) (k6 _ _ (by simpa using nz) h4z), rfl⟩, hN8, nnz, nni, nzi, List.nodup_nil, fun j m h => by simp at h, Nat.zero_le _⟩
def SbankParts (K : PySem.W.Frag) : Sp := fun vs H Q E => ∃ vx v n, vs = [vx, v] ∧ Im K H v (BN.d n) ∧ ∀ p H2, H p = none → Ex H H2 → H2 p = some (.lst (n.ids.map fun i => V.int (i : Nat))) → Q (.ref p) H2
theorem im_ids {H : Hp} (is : List Nat) (vs : List V) (h : ImAll K H vs (is.map fun i => .int (i : Nat))) : vs = is.map fun i => V.int (i : Nat) := by
  have := ints_of (is.map fun i => ((i : Nat) : Int)) vs (by rw [List.map_map]; exact h)
  rw [this, List.map_map]
  rfl
theorem ok_Bank_parts_of (T : Tx K mg) : Ok P w K mg base 1 d_Bank_parts_of ["self", "node"] (SbankParts K) := by
  refine (T.F_Bank_parts_of).ok sc_Bank_parts_of (fun vs H Q E ⟨x, v, n, e, _⟩ => by rw [e]; rfl) (fun cdv A outer s H vs Q E hr h => ?_)
  obtain ⟨x, v, n, rfl, iv, q⟩ := h
  refine ⟨_, PSs.nox ((pss_one (ps_ret (pe_ifExp (pt_cmpR (op_eqK (K := K) rfl hr) (pe_ix (ix_seqK (K := K) rfl) (pv 1) pe_int (fun _ _ => rfl)) pe_str (nomark _)) (pe_callTy (call_list_ofK (K := K) rfl) rfl T.b_list bb_list (pa_cons (pe_slice (sl_tupK (K := K) rfl) (pv 1) (po_some pe_int) po_none) pa_nil)) (pe_ifExp (pt_cmpR (op_eqK (K := K) rfl hr) (pe_ix (ix_seqK (K := K) rfl) (pv 1) pe_int (fun _ _ => rfl)) pe_str (nomark _)) (pe_callTy (call_list_ofK (K := K) rfl) rfl T.b_list bb_list (pa_cons (pe_ix (ix_seqK (K := K) rfl) (pv 1) pe_int (fun _ _ => rfl)) pa_nil)) (pe_lst pa_nil)))))), ?_⟩
  refine st_ret (El.at (K := K) (ds := n.ids.map fun i => .int (i : Nat)) ?_ fun p vs H1 hp e1 h1 i1 => q p H1 hp e1 (by rw [h1, im_ids _ _ i1]))
  cases n with
  | whole => exact el_if (b := false) (eb_t (K := K) (ed_op (ed_op (ed_var rfl iv) ed_int (rd_ix rfl)) ed_str (rd_eqs rfl))) (fun z => by cases z) fun _ => el_if (b := false) (eb_t (K := K) (ed_op (ed_op (ed_var rfl iv) ed_int (rd_ix rfl)) ed_str (rd_eqs rfl))) (fun z => by cases z) fun _ => el_lst ea_nil (Nat.zero_le _)
  | to a b => exact el_if (b := true) (eb_t (K := K) (ed_op (ed_op (ed_var rfl iv) ed_int (rd_ix rfl)) ed_str (rd_eqs rfl))) (fun _ => el_listT ((ed_sl (lo := some 1) (hi := none) (ed_var rfl iv) (eo_some (K := K) ed_int) eo_none).to rfl)) fun z => by cases z
  | of k is => exact el_if (b := false) (eb_t (K := K) (ed_op (ed_op (ed_var rfl iv) ed_int (rd_ix rfl)) ed_str (rd_eqs rfl))) (fun z => by cases z) fun _ => el_if (b := true) (eb_t (K := K) (ed_op (ed_op (ed_var rfl iv) ed_int (rd_ix rfl)) ed_str (rd_eqs rfl))) (fun _ => el_listT (ed_op (ed_var rfl iv) ed_int (rd_ix rfl))) fun z => by cases z
theorem BankAt.kp {H H' : Hp} {b : BP} {ns : List BN} (h : BankAt P w K H b ns) (e : Ex H H') : BankAt P w K H' b ns := by
  obtain ⟨vs, h1, h2⟩ := h.n
  obtain ⟨zs, h3, h4⟩ := h.z
  obtain ⟨g1, g2, g3, g4, g5⟩ := id h.i
  exact ⟨e _ _ h.x, ⟨vs, e _ _ h1, h2.ex e⟩, ⟨zs, e _ _ h3, h4⟩, h.i.keep (by rw [g4, e _ _ g4]) (Tk.ex e), h.nz, h.ni, h.zi, h.nd, h.lt, h.le⟩
def SbankPut (P : Program) (w : World) (K : PySem.W.Frag) : Sp := fun vs H Q E => ∃ b ns n v, vs = [.ref b.x, v] ∧ BankAt P w K H b ns ∧ Im K H v (BN.d n) ∧ (∀ i ∈ n.ids, i < ns.length) ∧ ns.length < 50000 ∧ n.ids.length ≤ 100 ∧
  ∀ i H2 ns', Kp b.S H H2 → Tk H H2 → BankAt P w K H2 b ns' → ((ns' = ns ∧ n ∈ ns) ∨ (ns' = ns ++ [n] ∧ n ∉ ns)) → ns'[i]? = some n → Q (.int (i : Nat)) H2
theorem BN.tupd (n : BN) : ∃ ds, n.d = .tuple ds := by cases n <;> exact ⟨_, rfl⟩
theorem ok_Bank_put (T : Tx K mg) : Ok P w K mg base 2 d_Bank_put ["self", "node"] (SbankPut P w K) := by
  have G_Bank_parts_of := ok_Bank_parts_of (P := P) (w := w) (base := base) T
  refine (T.F_Bank_put).ok sc_Bank_put (fun vs H Q E ⟨b, ns, n, v, e, _⟩ => by rw [e]; rfl) (fun cdv A outer s H vs Q E hr h => ?_)
  obtain ⟨b, ns, n, v, rfl, hB, iv, hlt, hle, hids, q⟩ := h
  obtain ⟨a, hv⟩ : ∃ a, v = .ref a := by
    obtain ⟨ds, e⟩ := BN.tupd n
    rw [e] at iv
    obtain ⟨a, _, e, _⟩ := iv.tup_of
    exact ⟨a, e⟩
  subst hv
  refine ⟨_, PSs.nox ((pss_cons (ps_if (pt_cmpR (op_ndNotIn hr) (pv 1) (pe_fldK (K := K) rfl (pv 0) rfl) rfl) (pss_cons (ps_asg (pe_callB (call_lenK (K := K) rfl) rfl T.b_len bb_len (pa_cons (pe_fldK (K := K) rfl (pv 0) rfl) pa_nil)) (pg_sub (pe_fldK (K := K) rfl (pv 0) rfl) (pv 1) (set_nd hr)))
  (pss_cons (ps_expr (pe_bm PySem.F.plainAttrs_list PySem.F.slot_list_append PySem.F.type_list_append mt_append (pe_fldK (K := K) rfl (pv 0) rfl) (pa_cons (pv 1) pa_nil)))
  (pss_one (ps_expr (pe_bm PySem.F.plainAttrs_list PySem.F.slot_list_append PySem.F.type_list_append mt_append (pe_fldK (K := K) rfl (pv 0) rfl) (pa_cons (pe_op (op_addK (K := K) rfl) pe_int (pe_callB (cr_sumK (K := K) rfl rfl) rfl T.b_sum bb_sum (pa_cons (pe_lc (own := [("part", 2)]) (by rfl) sc_Bank_put.nd (pi_listK (K := K) rfl (pe_meth (pv 0) T.c_Bank T.M_Bank_parts_of G_Bank_parts_of (hr.mono (by omega)) T.B_Bank_parts_of .nil pass0 (pa_cons (pv 1) pa_nil))) (blkOk_by (own := [("part", 2)]) (N := ["self", "node", "part"]) (sc := defScope s_Bank_put) (by decide +kernel)) (fun _ _ _ _ _ => pg_name (i := 2) sc_Bank_put.nd rfl (by first | exact Or.inl rfl | exact Or.inr rfl)) (fun _ _ _ _ _ => pts_nil) (fun _ _ _ _ _ => (pe_ix (ix_seqK (K := K) rfl) (pe_fldK (K := K) rfl (pv 0) rfl) (pv 2) (fun _ _ => rfl)))) pa_nil))) pa_nil)))))) pss_nil)
  (pss_one (ps_ret (pe_ndGet hr (pe_fldK (K := K) rfl (pv 0) rfl) (pv 1) (fun _ _ => rfl)))))), ?_⟩
  have c := T.c_Bank
  have ik : Im K H (.ref a) n.k.data := by rw [BN.data]; exact iv
  -- the end
  have fin : ∀ (H' : Hp) (o2 : Option V) ns' i, Kp b.S H H' → Tk H H' → BankAt P w K H' b ns' → ((ns' = ns ∧ n ∈ ns) ∨ (ns' = ns ++ [n] ∧ n ∉ ns)) → ns'[i]? = some n →
      tRet (tNdGet P w K (tFld K (tVar 0) "numbers") (tVar 1)) { nx := fun _ H' => Q V.non H', rt := Q } [some (.ref b.x), some (.ref a), o2] H' := fun H' o2 ns' i k t hB' ho hi => by
    refine st_ret (te_fld rfl hB'.x c T.n_Bank_numbers rfl ⟨_, rfl, b.ai, a, n.k, _, _, rfl, rfl, hB'.i, ik.mono t, BN.depth n, numK_some hB'.nd hi, ?_⟩)
    rw [Nat.zero_add]
    exact q i H' ns' k t hB' ho hi
  by_cases hm : n ∈ ns
  · obtain ⟨i, hi⟩ := List.getElem?_of_mem hm
    have hs := numK_some (i := 0) hB.nd hi
    refine sq_if (b := false) (fun H1 e1 Q' q' => ?_) (fun z => by cases z) fun _ H1 e1 => fin H1 none ns i (Kp.of e1) (Tk.ex e1) (hB.kp e1) (.inl ⟨rfl, hm⟩) hi
    have hB1 := hB.kp e1
    refine ⟨_, rfl, te_fld rfl hB1.x c T.n_Bank_numbers rfl ⟨b.ai, a, n.k, _, rfl, rfl, hB1.i, ik.ex e1, BN.depth n, ⟨_, rfl, ?_⟩⟩⟩
    rw [hs]
    exact q' H1 (Ex.refl _)
  · have hs := numK_none (i := 0) hm
    refine sq_if (b := true) (fun H1 e1 Q' q' => ?_) (fun _ H1 e1 => ?_) fun z => by cases z
    · have hB1 := hB.kp e1
      refine ⟨_, rfl, te_fld rfl hB1.x c T.n_Bank_numbers rfl ⟨b.ai, a, n.k, _, rfl, rfl, hB1.i, ik.ex e1, BN.depth n, ⟨_, rfl, ?_⟩⟩⟩
      rw [hs]
      exact q' H1 (Ex.refl _)
    have hB1 := hB.kp e1
    obtain ⟨vs, g1, g2⟩ := hB1.n
    obtain ⟨zs, g3, g4⟩ := hB1.z
    refine sq_asg ((ed_lenL (K := K) (es_ev (ev_fld (ev_v rfl) hB1.x c T.n_Bank_nodes rfl) (Evl.sq_of g1) g2)).at fun v2 H2 e2 i2 => ?_)
    obtain rfl := i2.int_of
    have hB2 := hB1.kp e2
    have e12 := e1.trans e2
    refine te_fld rfl hB2.x c T.n_Bank_numbers rfl ⟨_, rfl, b.ai, a, n.k, _, rfl, rfl, hB2.i, ik.ex e12, BN.depth n, by rw [numK_len]; exact Evl.sz_lt (by omega), fun H3 hN hc t3 => ?_⟩
    have g1' := e2 _ _ g1
    have g3' := e2 _ _ g3
    have hx3 : H3 b.x = _ := (hc b.x (fun z => by
      obtain ⟨_, _, _, g, _⟩ := hB2.i
      have := hB2.x
      rw [z, g] at this; cases this)).trans hB2.x
    have hn3 := (hc b.an hB.ni).trans g1'
    have hz3 := (hc b.az hB.zi).trans g3'
    have k3 : Kp b.S H2 H3 := fun y o ny hy => (hc y (fun z => ny (by simp [BP.S, z]))).trans hy
    refine sq_drop (te_appendE (ev_fld (ev_v rfl) hx3 c T.n_Bank_nodes rfl) hn3 (ed_var rfl (iv.mono ((Tk.ex e12).trans t3))) (by rw [g2.length, List.length_map]; omega) fun v4 H4 e4 i4 => ?_)
    have k5 : Kp b.S H3 (upd H4 b.an (.lst (vs ++ [v4]))) := (Kp.of e4).upd (by simp [BP.S])
    have t5 : Tk H3 (upd H4 b.an (.lst (vs ++ [v4]))) := (Tk.ex e4).trans (Tk.upd (no_lst (e4 _ _ hn3)))
    have h5n : upd H4 b.an (.lst (vs ++ [v4])) b.an = some (.lst (vs ++ [v4])) := upd_same ..
    have c5 : ∀ {y o}, y ≠ b.an → H3 y = some o → upd H4 b.an (.lst (vs ++ [v4])) y = some o := fun {y o} ny hy => by rw [upd_ne ny]; exact e4 _ _ hy
    have i5 : ImAll K (upd H4 b.an (.lst (vs ++ [v4]))) (vs ++ [v4]) ((ns ++ [n]).map BN.d) := by
      rw [List.map_append]
      exact (((g2.mono ((Tk.ex e2).trans t3)).ex e4).append (.cons i4 .nil)).mono (Tk.upd (no_lst (e4 _ _ hn3)))
    have hN5 : Nd P w K (upd H4 b.an (.lst (vs ++ [v4]))) b.ai (putK (numK 0 ns) n.k (.int ((ns.map BN.d).length : Nat))) := hN.keep (by
      obtain ⟨_, _, _, g, _⟩ := hN
      rw [upd_ne (Ne.symm hB.ni), g, e4 _ _ g]) t5
    generalize upd H4 b.an (.lst (vs ++ [v4])) = H5 at k5 t5 h5n c5 i5 hN5
    have h5x := c5 (fun z => by rw [z, hn3] at hx3; cases hx3) hx3
    have h5z := c5 (Ne.symm hB.nz) hz3
    have iv5 := iv.mono (((Tk.ex e12).trans t3).trans t5)
    refine st_drop (te_appendE (d := .int (1 + (n.ids.map fun i => zs.getD i 0).sum)) (ev_fld (ev_v rfl) h5x c T.n_Bank_sizes rfl) h5z (ed_op (K := K) ed_int (ed_sum (is := n.ids.map fun i => zs.getD i 0) ((el_lcL (p := fun _ => true) (f := fun d => match d with | .int i => .int (zs.getD i.toNat 0) | _ => .none) (ds := n.ids.map fun i => .int (i : Nat)) ?_ (by rw [List.length_map]; omega) fun j y vy H6 hy e6 i6 => ?_).to ?_)) rd_addi) (by rw [List.length_map, g4]; omega) fun v7 H7 e7 i7 => ?_)
    · intro H6 e6 Q' q'
      refine ⟨_, rfl, b.x, b.dx, _, rfl, e6 _ _ h5x, rfl, ⟨_, rfl, .ref b.x, .ref a, n, rfl, iv5.ex e6, fun p H7 hp e7 h7 => ?_⟩⟩
      exact q' p _ H7 e7 (Evl.sq_of h7) (by
        have := im_ints (K := K) (H := H7) (n.ids.map fun i => ((i : Nat) : Int))
        rw [List.map_map, List.map_map] at this
        exact this)
    · rw [List.getElem?_map] at hy
      obtain ⟨i, hi, rfl⟩ := Option.map_eq_some_iff.mp hy
      have hil : i < zs.length := by rw [g4]; exact hlt i (List.mem_of_getElem? hi)
      have hz : zs[i]? = some (zs.getD i 0) := by rw [List.getD_eq_getElem?_getD, List.getElem?_eq_getElem hil]; rfl
      refine ⟨_, gd_name, rfl, eb_yes, fun _ => ?_⟩
      exact ed_ixL (ev_fld (ev_v rfl) (e6 _ _ h5x) c T.n_Bank_sizes rfl) (Evl.sq_of (e6 _ _ h5z)) (ed_var rfl i6) (atI_nat (by rw [List.getElem?_map, hz]; rfl)) (.int _)
    · rw [List.filter_eq_self.mpr (fun _ _ => rfl), List.map_map, List.map_map]
      rfl
    obtain rfl := i7.int_of
    have t8 : Tk H5 (upd H7 b.az (.lst (zs.map V.int ++ [.int (1 + (n.ids.map fun i => zs.getD i 0).sum)]))) := (Tk.ex e7).trans (Tk.upd (no_lst (e7 _ _ h5z)))
    have k8 : Kp b.S H5 (upd H7 b.az (.lst (zs.map V.int ++ [.int (1 + (n.ids.map fun i => zs.getD i 0).sum)]))) := (Kp.of e7).upd (by simp [BP.S])
    have c8 : ∀ {y o}, y ≠ b.az → H5 y = some o → upd H7 b.az (.lst (zs.map V.int ++ [.int (1 + (n.ids.map fun i => zs.getD i 0).sum)])) y = some o := fun {y o} ny hy => by rw [upd_ne ny]; exact e7 _ _ hy
    have hlen : (ns.map BN.d).length = 0 + ns.length := by rw [List.length_map, Nat.zero_add]
    have hN8 : Nd P w K (upd H7 b.az (.lst (zs.map V.int ++ [.int (1 + (n.ids.map fun i => zs.getD i 0).sum)]))) b.ai (numK 0 (ns ++ [n])) := by
      rw [numK_append, ← putK_new _ hs, ← hlen]
      exact hN5.keep (by
        obtain ⟨_, _, _, g, _⟩ := hN5
        rw [upd_ne (Ne.symm hB.zi), g, e7 _ _ g]) t8
    refine fin _ _ (ns ++ [n]) ns.length ((((Kp.of e12).trans k3).trans k5).trans k8) ((((Tk.ex e12).trans t3).trans t5).trans t8) ?_ (.inr ⟨rfl, hm⟩) (by simp)
    refine ⟨c8 (fun z => by rw [z, h5z] at h5x; cases h5x) h5x, ⟨_, c8 hB.nz h5n, i5.mono t8⟩, ⟨zs ++ [1 + (n.ids.map fun i => zs.getD i 0).sum], by rw [List.map_append]; exact upd_same .., by simp [g4]⟩, hN8, hB.nz, hB.ni, hB.zi, ?_, ?_, by simp; omega⟩
    · rw [List.nodup_append]
      exact ⟨hB.nd, by simp, fun x hx y hy => by rw [List.mem_singleton.mp hy]; exact fun z => hm (z ▸ hx)⟩
    · intro j m hj i hi
      by_cases hjl : j < ns.length
      · rw [List.getElem?_append_left hjl] at hj
        exact hB.lt j m hj i hi
      · rw [List.getElem?_append_right (by omega)] at hj
        have hj0 : j - ns.length = 0 := by
          cases h : j - ns.length with
          | zero => rfl
          | succ k => rw [h] at hj; simp at hj
        rw [hj0] at hj
        simp only [List.getElem?_cons_zero, Option.some.injEq] at hj
        subst hj
        have := hlt i hi
        omega
end
end K55
namespace K55
open PySem PySem.Spec PyProof.Rows L2 W5 M5
open Evl (Ex Ev)
section
variable {P : Program} {w : World} {K : PySem.W.Frag} {mg : Str → Option Value} {base : Heap}
def BN.head : BN → PyData
  | .whole => .str "whole"
  | .to _ _ => .none
  | .of k _ => .str k
def BN.args : BN → List Nat
  | .of _ is => is
  | _ => []
def SbankHead (P : Program) (w : World) (K : PySem.W.Frag) : Sp := fun vs H Q E => ∃ b ns i n, vs = [.ref b.x, .int (i : Nat)] ∧ BankAt P w K H b ns ∧ ns[i]? = some n ∧ ∀ v H2, Ex H H2 → Im K H2 v (BN.head n) → Q v H2
theorem ok_Bank_head (T : Tx K mg) : Ok P w K mg base 1 d_Bank_head ["self", "number"] (SbankHead P w K) := by
  refine (T.F_Bank_head).ok sc_Bank_head (fun vs H Q E ⟨b, ns, i, n, e, _⟩ => by rw [e]; rfl) (fun cdv A outer s H vs Q E hr h => ?_)
  obtain ⟨b, ns, i, n, rfl, hB, hi, q⟩ := h
  refine ⟨_, PSs.nox ((pss_cons (ps_set (i := 2) sc_Bank_head.nd rfl (by first | exact Or.inl rfl | exact Or.inr rfl) (pe_ix (ix_seqK (K := K) rfl) (pe_fldK (K := K) rfl (pv 0) rfl) (pv 1) (fun _ _ => rfl)))
  (pss_one (ps_ret (pe_ifExp (pt_cmpR (op_eqK (K := K) rfl hr) (pe_ix (ix_seqK (K := K) rfl) (pv 2) pe_int (fun _ _ => rfl)) pe_str (nomark _)) pe_str (pe_ifExp (pt_cmpR (op_eqK (K := K) rfl hr) (pe_ix (ix_seqK (K := K) rfl) (pv 2) pe_int (fun _ _ => rfl)) pe_str (nomark _)) (pe_ix (ix_seqK (K := K) rfl) (pv 2) pe_int (fun _ _ => rfl)) pe_non)))))), ?_⟩
  obtain ⟨vs, g1, g2⟩ := hB.n
  obtain ⟨v, hv, iv⟩ := g2.get (i := i) (d := n.d) (by rw [List.getElem?_map, hi]; rfl)
  refine Sr.at (d := BN.head n) ?_ q
  refine sr_set (ed_ixL (ev_fld (ev_v rfl) hB.x T.c_Bank T.n_Bank_nodes rfl) (Evl.sq_of g1) (ed_var rfl (.int _)) (atI_nat hv) iv) fun v1 H1 e1 i1 => ?_
  cases n with
  | whole => exact sr_ret (ed_if (b := true) (eb_t (K := K) (ed_op (ed_op (ed_var rfl i1) ed_int (rd_ix rfl)) ed_str (rd_eqs rfl))) (fun _ => ed_str) fun z => by cases z)
  | to a c => exact sr_ret (ed_if (b := false) (eb_t (K := K) (ed_op (ed_op (ed_var rfl i1) ed_int (rd_ix rfl)) ed_str (rd_eqs rfl))) (fun z => by cases z) fun _ => ed_if (b := false) (eb_t (K := K) (ed_op (ed_op (ed_var rfl i1) ed_int (rd_ix rfl)) ed_str (rd_eqs rfl))) (fun z => by cases z) fun _ => ed_non)
  | of k is => exact sr_ret (ed_if (b := false) (eb_t (K := K) (ed_op (ed_op (ed_var rfl i1) ed_int (rd_ix rfl)) ed_str (rd_eqs rfl))) (fun z => by cases z) fun _ => ed_if (b := true) (eb_t (K := K) (ed_op (ed_op (ed_var rfl i1) ed_int (rd_ix rfl)) ed_str (rd_eqs rfl))) (fun _ => ed_op (ed_var rfl i1) ed_int (rd_ix rfl)) fun z => by cases z)
def SbankArgs (P : Program) (w : World) (K : PySem.W.Frag) : Sp := fun vs H Q E => ∃ b ns i n, vs = [.ref b.x, .int (i : Nat)] ∧ BankAt P w K H b ns ∧ ns[i]? = some n ∧ ∀ v H2, Ex H H2 → Im K H2 v (.tuple ((BN.args n).map fun i => .int (i : Nat))) → Q v H2
theorem ok_Bank_args_at (T : Tx K mg) : Ok P w K mg base 1 d_Bank_args_at ["self", "number"] (SbankArgs P w K) := by
  refine (T.F_Bank_args_at).ok sc_Bank_args_at (fun vs H Q E ⟨b, ns, i, n, e, _⟩ => by rw [e]; rfl) (fun cdv A outer s H vs Q E hr h => ?_)
  obtain ⟨b, ns, i, n, rfl, hB, hi, q⟩ := h
  refine ⟨_, PSs.nox ((pss_cons (ps_set (i := 2) sc_Bank_args_at.nd rfl (by first | exact Or.inl rfl | exact Or.inr rfl) (pe_ix (ix_seqK (K := K) rfl) (pe_fldK (K := K) rfl (pv 0) rfl) (pv 1) (fun _ _ => rfl)))
  (pss_one (ps_ret (pe_ifExp (pt_cmpR (op_eqK (K := K) rfl hr) (pe_ix (ix_seqK (K := K) rfl) (pv 2) pe_int (fun _ _ => rfl)) pe_str (nomark _)) (pe_ix (ix_seqK (K := K) rfl) (pv 2) pe_int (fun _ _ => rfl)) (pe_tup pa_nil)))))), ?_⟩
  obtain ⟨vs, g1, g2⟩ := hB.n
  obtain ⟨v, hv, iv⟩ := g2.get (i := i) (d := n.d) (by rw [List.getElem?_map, hi]; rfl)
  refine Sr.at (d := .tuple ((BN.args n).map fun i => .int (i : Nat))) ?_ q
  refine sr_set (ed_ixL (ev_fld (ev_v rfl) hB.x T.c_Bank T.n_Bank_nodes rfl) (Evl.sq_of g1) (ed_var rfl (.int _)) (atI_nat hv) iv) fun v1 H1 e1 i1 => ?_
  cases n with
  | whole => exact sr_ret (ed_if (b := false) (eb_t (K := K) (ed_op (ed_op (ed_var rfl i1) ed_int (rd_ix rfl)) ed_str (rd_eqs rfl))) (fun z => by cases z) fun _ => ed_tup0)
  | to a c => exact sr_ret (ed_if (b := false) (eb_t (K := K) (ed_op (ed_op (ed_var rfl i1) ed_int (rd_ix rfl)) ed_str (rd_eqs rfl))) (fun z => by cases z) fun _ => ed_tup0)
  | of k is => exact sr_ret (ed_if (b := true) (eb_t (K := K) (ed_op (ed_op (ed_var rfl i1) ed_int (rd_ix rfl)) ed_str (rd_eqs rfl))) (fun _ => ed_op (ed_var rfl i1) ed_int (rd_ix rfl)) fun z => by cases z)
/-! ### what the numbers mean -/
mutual
/-- the number i stands for the closed type t -/
inductive Dn (ns : List BN) : Nat → M5.Ty → Prop
  | whole {i : Nat} : ns[i]? = some .whole → Dn ns i .whole
  | to {i a b : Nat} {s t : M5.Ty} : ns[i]? = some (.to a b) → Dn ns a s → Dn ns b t → Dn ns i (.to s t)
  | of {i : Nat} {k : Str} {is : List Nat} {ts : List M5.Ty} : ns[i]? = some (.of k is) → DnAll ns is ts → Dn ns i (.of k ts)
inductive DnAll (ns : List BN) : List Nat → List M5.Ty → Prop
  | nil : DnAll ns [] []
  | cons {i : Nat} {is : List Nat} {t : M5.Ty} {ts : List M5.Ty} : Dn ns i t → DnAll ns is ts → DnAll ns (i :: is) (t :: ts)
end
theorem getElem?_mono {ns more : List BN} {i : Nat} {n : BN} (h : ns[i]? = some n) : (ns ++ more)[i]? = some n := by
  rw [List.getElem?_append_left (List.getElem?_eq_some_iff.mp h).1]; exact h
mutual
theorem Dn.mono {ns more : List BN} : ∀ {i : Nat} {t : M5.Ty}, Dn ns i t → Dn (ns ++ more) i t
  | _, _, .whole h => .whole (getElem?_mono h)
  | _, _, .to h a b => .to (getElem?_mono h) (Dn.mono a) (Dn.mono b)
  | _, _, .of h a => .of (getElem?_mono h) (DnAll.mono a)
theorem DnAll.mono {ns more : List BN} : ∀ {is : List Nat} {ts : List M5.Ty}, DnAll ns is ts → DnAll (ns ++ more) is ts
  | _, _, .nil => .nil
  | _, _, .cons a b => .cons (Dn.mono a) (DnAll.mono b)
end
theorem Dn.lt {ns : List BN} {i : Nat} {t : M5.Ty} (h : Dn ns i t) : i < ns.length := by
  cases h with
  | whole h => exact (List.getElem?_eq_some_iff.mp h).1
  | to h _ _ => exact (List.getElem?_eq_some_iff.mp h).1
  | of h _ => exact (List.getElem?_eq_some_iff.mp h).1
theorem DnAll.lt {ns : List BN} : ∀ {is : List Nat} {ts : List M5.Ty}, DnAll ns is ts → ∀ i ∈ is, i < ns.length
  | _, _, .nil, _, h => nomatch h
  | _, _, .cons a b, j, h => by
    rcases List.mem_cons.mp h with rfl | h
    · exact a.lt
    · exact DnAll.lt b j h
theorem DnAll.len {ns : List BN} : ∀ {is : List Nat} {ts : List M5.Ty}, DnAll ns is ts → is.length = ts.length
  | _, _, .nil => rfl
  | _, _, .cons a b => congrArg Nat.succ (DnAll.len b)
theorem DnAll.get {ns : List BN} : ∀ {is : List Nat} {ts : List M5.Ty} {j i : Nat}, DnAll ns is ts → is[j]? = some i → ∃ t, ts[j]? = some t ∧ Dn ns i t
  | _, _, _, _, .nil, h => by simp at h
  | _, _, 0, i, .cons a b, h => by
    simp only [List.getElem?_cons_zero, Option.some.injEq] at h
    subst h
    exact ⟨_, rfl, a⟩
  | _, _, j + 1, i, .cons a b, h => by
    obtain ⟨t, h1, h2⟩ := DnAll.get b (j := j) (by simpa using h)
    exact ⟨t, by simpa using h1, h2⟩
theorem DnAll.snoc {ns : List BN} {i : Nat} {t : M5.Ty} (h2 : Dn ns i t) : ∀ {is : List Nat} {ts : List M5.Ty}, DnAll ns is ts → DnAll ns (is ++ [i]) (ts ++ [t])
  | _, _, .nil => .cons h2 .nil
  | _, _, .cons a b => .cons a (DnAll.snoc h2 b)
mutual
theorem Dn.fn {ns : List BN} : ∀ {i : Nat} {s t : M5.Ty}, Dn ns i s → Dn ns i t → s = t
  | _, _, _, .whole h, g => by
    cases g with
    | whole _ => rfl
    | to g _ _ => rw [h] at g; cases g
    | of g _ => rw [h] at g; cases g
  | _, _, _, .to h a b, g => by
    cases g with
    | whole g => rw [h] at g; cases g
    | to g a' b' =>
      rw [h] at g
      cases g
      rw [Dn.fn a a', Dn.fn b b']
    | of g _ => rw [h] at g; cases g
  | _, _, _, .of h a, g => by
    cases g with
    | whole g => rw [h] at g; cases g
    | to g _ _ => rw [h] at g; cases g
    | of g a' =>
      rw [h] at g
      cases g
      rw [DnAll.fn a a']
theorem DnAll.fn {ns : List BN} : ∀ {is : List Nat} {ss ts : List M5.Ty}, DnAll ns is ss → DnAll ns is ts → ss = ts
  | _, _, _, .nil, g => by cases g; rfl
  | _, _, _, .cons a b, g => by
    cases g with
    | cons a' b' => rw [Dn.fn a a', DnAll.fn b b']
end
theorem nodup_ix {ns : List BN} (hn : ns.Nodup) {i j : Nat} {n : BN} (h1 : ns[i]? = some n) (h2 : ns[j]? = some n) : i = j := by
  obtain ⟨l1, e1⟩ := List.getElem?_eq_some_iff.mp h1
  obtain ⟨l2, e2⟩ := List.getElem?_eq_some_iff.mp h2
  have h3 := List.pairwise_iff_getElem.mp hn
  rcases Nat.lt_trichotomy i j with h | h | h
  · exact absurd (e1.trans e2.symm) (h3 i j l1 l2 h)
  · exact h
  · exact absurd (e2.trans e1.symm) (h3 j i l2 l1 h)
mutual
theorem Dn.inj {ns : List BN} (hn : ns.Nodup) : ∀ {i j : Nat} {t : M5.Ty}, Dn ns i t → Dn ns j t → i = j
  | _, _, _, .whole h, g => by
    cases g with
    | whole g => exact nodup_ix hn h g
  | _, _, _, .to h a b, g => by
    cases g with
    | to g a' b' =>
      rw [Dn.inj hn a a', Dn.inj hn b b'] at h
      exact nodup_ix hn h g
  | _, _, _, .of h a, g => by
    cases g with
    | of g a' =>
      rw [DnAll.inj hn a a'] at h
      exact nodup_ix hn h g
theorem DnAll.inj {ns : List BN} (hn : ns.Nodup) : ∀ {is js : List Nat} {ts : List M5.Ty}, DnAll ns is ts → DnAll ns js ts → is = js
  | _, _, _, .nil, g => by cases g; rfl
  | _, _, _, .cons a b, g => by
    cases g with
    | cons a' b' => rw [Dn.inj hn a a', DnAll.inj hn b b']
end
mutual
/-- types in the place of the variables -/
def tput (ss : List M5.Ty) : M5.Ty → M5.Ty
  | .whole => .whole
  | .var i => ss.getD i .whole
  | .to a b => .to (tput ss a) (tput ss b)
  | .of k ts => .of k (tputAll ss ts)
def tputAll (ss : List M5.Ty) : List M5.Ty → List M5.Ty
  | [] => []
  | t :: ts => tput ss t :: tputAll ss ts
end
theorem tputAll_map (ss : List M5.Ty) : ∀ ts : List M5.Ty, tputAll ss ts = ts.map (tput ss)
  | [] => rfl
  | t :: ts => by rw [tputAll, tputAll_map ss ts]; rfl
end
end K55
namespace K55
open PySem PySem.Spec PyProof.Rows L2 W5 M5
open Evl (Ex Ev)
section
variable {P : Program} {w : World} {K : PySem.W.Frag} {mg : Str → Option Value} {base : Heap}
theorem BankAt.keep {H H' : Hp} {b : BP} {ns : List BN} (h : BankAt P w K H b ns) (e : ∀ y ∈ [b.x, b.an, b.az, b.ai], H' y = H y) (t : Tk H H') : BankAt P w K H' b ns := by
  obtain ⟨vs, h1, h2⟩ := h.n
  obtain ⟨zs, h3, h4⟩ := h.z
  exact ⟨(e _ (by simp)).trans h.x, ⟨vs, (e _ (by simp)).trans h1, h2.mono t⟩, ⟨zs, (e _ (by simp)).trans h3, h4⟩, h.i.keep (e _ (by simp)) t, h.nz, h.ni, h.zi, h.nd, h.lt, h.le⟩
theorem BankAt.some {H : Hp} {b : BP} {ns : List BN} (h : BankAt P w K H b ns) : ∀ y ∈ [b.x, b.an, b.az, b.ai], ∃ o, H y = some o := by
  intro y hy
  simp only [List.mem_cons, List.not_mem_nil, or_false] at hy
  rcases hy with rfl | rfl | rfl | rfl
  · exact ⟨_, h.x⟩
  · obtain ⟨vs, h1, _⟩ := h.n; exact ⟨_, h1⟩
  · obtain ⟨vs, h1, _⟩ := h.z; exact ⟨_, h1⟩
  · obtain ⟨_, _, _, h1, _⟩ := h.i; exact ⟨_, h1⟩
/-- the arguments of number: None, or numbers of types -/
def ArgsAt (K : PySem.W.Frag) (H : Hp) (ns : List BN) (va : V) (is : List Nat) (ss : List M5.Ty) : Prop := (va = .non ∧ is = [] ∧ ss = []) ∨ (Im K H va (.tuple (is.map fun i => .int (i : Nat))) ∧ DnAll ns is ss)
theorem ArgsAt.mono {H H' : Hp} {ns more : List BN} {va : V} {is : List Nat} {ss : List M5.Ty} (h : ArgsAt K H ns va is ss) (t : Tk H H') : ArgsAt K H' (ns ++ more) va is ss := by
  rcases h with h | ⟨h1, h2⟩
  · exact .inl h
  · exact .inr ⟨h1.mono t, h2.mono⟩
def SbankNumber (P : Program) (w : World) (K : PySem.W.Frag) (m : Nat) : Sp := fun vs H Q E => ∃ b ns t v va is ss KS, vs = [.ref b.x, v, va] ∧ BankAt P w K H b ns ∧ Im K H v (Ty.d t) ∧ t.depth ≤ m ∧ KsOk KS ∧ t.Wf KS is.length ∧ ArgsAt K H ns va is ss ∧ ns.length + t.size ≤ 40000 ∧
  ∀ i H2 more, Kp b.S H H2 → Tk H H2 → BankAt P w K H2 b (ns ++ more) → Dn (ns ++ more) i (tput ss t) → more.length ≤ t.size → Q (.int (i : Nat)) H2
theorem put_more {ns ns' : List BN} {n : BN} (h : (ns' = ns ∧ n ∈ ns) ∨ (ns' = ns ++ [n] ∧ n ∉ ns)) : ∃ more, ns' = ns ++ more ∧ more.length ≤ 1 := by
  rcases h with ⟨h, _⟩ | ⟨h, _⟩
  · exact ⟨[], by simp [h], Nat.zero_le _⟩
  · exact ⟨[n], h, Nat.le_refl _⟩
theorem ok_Bank_number (T : Tx K mg) : ∀ m : Nat, Ok P w K mg base (m + 3) d_Bank_number ["self", "thing", "args"] (SbankNumber P w K m)
  | 0 => by
    refine (T.F_Bank_number).ok sc_Bank_number (fun vs H Q E ⟨b, ns, t, v, va, is, ss, KS, e, _⟩ => by rw [e]; rfl) (fun cdv A outer s H vs Q E hr h => ?_)
    obtain ⟨b, ns, t, v, va, is, ss, KS, rfl, hB, iv, hd, _⟩ := h
    have := Ty.depth_parts t
    omega
  | m + 1 => by
    have G_Bank_number := ok_Bank_number T m
    have G_Bank_put := ok_Bank_put (P := P) (w := w) (base := base) T
    refine (T.F_Bank_number).ok sc_Bank_number (fun vs H Q E ⟨b, ns, t, v, va, is, ss, KS, e, _⟩ => by rw [e]; rfl) (fun cdv A outer s H vs Q E hr h => ?_)
    obtain ⟨b, ns, t, v, va, is, ss, KS, rfl, hB, iv, hd, hK, hw, hA, hsz, q⟩ := h
    refine ⟨_, PSs.nox ((pss_cons (ps_if (pt_val (pe_callB (call_isiK' (K := K) rfl) rfl T.b_isinstance bb_isinstance (pa_cons (pv 1) (pa_cons (pe_bltn (v := .ty "str") (by rfl) T.b_str bb_str rfl) pa_nil)))) (pss_one (ps_ret (pe_meth (pv 0) T.c_Bank T.M_Bank_put G_Bank_put (hr.mono (by omega)) T.B_Bank_put .nil pass0 (pa_cons (pe_tup (pa_cons pe_str pa_nil)) pa_nil)))) pss_nil)
  (pss_cons (ps_if (pt_cmpR (op_eqK (K := K) rfl hr) (pe_ix (ix_seqK (K := K) rfl) (pv 1) pe_int (fun _ _ => rfl)) pe_str (nomark _)) (pss_one (ps_ret (pe_ifExp (pt_cmpR op_isA (pv 2) pe_non (nomark _)) (pe_meth (pv 0) T.c_Bank T.M_Bank_put G_Bank_put (hr.mono (by omega)) T.B_Bank_put .nil pass0 (pa_cons (pv 1) pa_nil)) (pe_ix (ix_seqK (K := K) rfl) (pv 2) (pe_ix (ix_seqK (K := K) rfl) (pv 1) pe_int (fun _ _ => rfl)) (fun _ _ => rfl))))) pss_nil)
  (pss_cons (ps_if (pt_cmpR (op_eqK (K := K) rfl hr) (pe_ix (ix_seqK (K := K) rfl) (pv 1) pe_int (fun _ _ => rfl)) pe_str (nomark _)) (pss_one (ps_ret (pe_meth (pv 0) T.c_Bank T.M_Bank_put G_Bank_put (hr.mono (by omega)) T.B_Bank_put .nil pass0 (pa_cons (pe_tup (pa_cons pe_str (pa_cons (pe_meth (pv 0) T.c_Bank T.M_Bank_number G_Bank_number (hr.mono (by omega)) T.B_Bank_number .nil pass0 (pa_cons (pe_ix (ix_seqK (K := K) rfl) (pv 1) pe_int (fun _ _ => rfl)) (pa_cons (pv 2) pa_nil))) (pa_cons (pe_meth (pv 0) T.c_Bank T.M_Bank_number G_Bank_number (hr.mono (by omega)) T.B_Bank_number .nil pass0 (pa_cons (pe_ix (ix_seqK (K := K) rfl) (pv 1) pe_int (fun _ _ => rfl)) (pa_cons (pv 2) pa_nil))) pa_nil)))) pa_nil)))) pss_nil)
  (pss_one (ps_ret (pe_meth (pv 0) T.c_Bank T.M_Bank_put G_Bank_put (hr.mono (by omega)) T.B_Bank_put .nil pass0 (pa_cons (pe_tup (pa_cons pe_str (pa_cons (pe_ix (ix_seqK (K := K) rfl) (pv 1) pe_int (fun _ _ => rfl)) (pa_cons (pe_callTy (call_tuple_ofK (K := K) rfl) rfl T.b_tuple bb_tuple (pa_cons (pe_lc (own := [("part", 3)]) (by rfl) sc_Bank_number.nd (pi_tupK (K := K) rfl (pe_ix (ix_seqK (K := K) rfl) (pv 1) pe_int (fun _ _ => rfl))) (blkOk_by (own := [("part", 3)]) (N := ["self", "thing", "args", "part"]) (sc := defScope s_Bank_number) (by decide +kernel)) (fun _ _ _ _ _ => pg_name (i := 3) sc_Bank_number.nd rfl (by first | exact Or.inl rfl | exact Or.inr rfl)) (fun _ _ _ _ _ => pts_nil) (fun _ _ _ _ _ => (pe_meth (pv 0) T.c_Bank T.M_Bank_number G_Bank_number (hr.mono (by omega)) T.B_Bank_number .nil pass0 (pa_cons (pv 3) (pa_cons (pv 2) pa_nil))))) pa_nil)) pa_nil)))) pa_nil)))))))), ?_⟩
    have hpos := Ty.size_pos t
    cases t with
    | whole =>
      refine sq_if (b := true) (eb_b (ed_isS (ed_var rfl iv) rfl)) (fun _ H1 e1 => ?_) fun z => by cases z
      refine st_ret ⟨_, rfl, b.x, b.dx, _, rfl, e1 _ _ hB.x, rfl, by show 1 ≤ sizeLine; decide, fun t ht => ?_⟩
      have e2 := e1.trans (Ex.new ht (o := .tup [V.str "whole"]))
      refine ⟨b, ns, .whole, .ref t, rfl, hB.kp e2, .tup (Evl.st_of (upd_same ..)) (.cons (.str _) .nil), (fun i hi => nomatch hi), by omega, Nat.zero_le _, fun i H3 ns' k3 t3 hB3 ho hi => ?_⟩
      obtain ⟨more, rfl, hm⟩ := put_more ho
      exact q i H3 more ((Kp.of e2).trans k3) ((Tk.ex e2).trans t3) hB3 (.whole hi) (by omega)
    | var j =>
      refine sq_if (b := false) (eb_b (ed_isS (ed_var rfl iv) rfl)) (fun z => by cases z) fun _ H1 e1 => ?_
      refine sq_if (b := true) (eb_t (K := K) (ed_op (ed_op (ed_var rfl (iv.ex e1)) ed_int (rd_ix rfl)) ed_str (rd_eqs rfl))) (fun _ H2 e2 => ?_) fun z => by cases z
      have hj : j < is.length := hw
      rcases hA with ⟨_, rfl, _⟩ | ⟨ia, da⟩
      · exact absurd hj (Nat.not_lt_zero _)
      obtain ⟨i, hi⟩ : ∃ i, is[j]? = some i := ⟨_, List.getElem?_eq_getElem hj⟩
      obtain ⟨s', hs', dn⟩ := da.get hi
      have e12 := e1.trans e2
      refine st_ret (Ed.at (K := K) (d := .int (i : Nat)) (ed_if (b := false) (eb_t (K := K) (ed_op (ed_var rfl (ia.ex e12)) ed_non rd_isN)) (fun z => by cases z) fun _ => ed_op (ed_var rfl (ia.ex e12)) (ed_op (ed_var rfl (iv.ex e12)) ed_int (rd_ix (i := 1) rfl)) (rd_ix (atI_nat (by rw [List.getElem?_map, hi]; rfl)))) fun v3 H3 e3 i3 => ?_)
      obtain rfl := i3.int_of
      have e13 := e12.trans e3
      refine q i H3 [] (Kp.of e13) (Tk.ex e13) (by simpa using hB.kp e13) ?_ (Nat.zero_le _)
      have : tput ss (.var j) = s' := by rw [tput, List.getD_eq_getElem?_getD, hs']; rfl
      rw [this]
      simpa using dn
    | to a c =>
      refine sq_if (b := false) (eb_b (ed_isS (ed_var rfl iv) rfl)) (fun z => by cases z) fun _ H1 e1 => ?_
      refine sq_if (b := false) (eb_t (K := K) (ed_op (ed_op (ed_var rfl (iv.ex e1)) ed_int (rd_ix rfl)) ed_str (rd_eqs rfl))) (fun z => by cases z) fun _ H2 e2 => ?_
      have e12 := e1.trans e2
      refine sq_if (b := true) (eb_t (K := K) (ed_op (ed_op (ed_var rfl (iv.ex e12)) ed_int (rd_ix rfl)) ed_str (rd_eqs rfl))) (fun _ H3 e3 => ?_) fun z => by cases z
      have e13 := e12.trans e3
      have hB3 := hB.kp e13
      have hA3 : ArgsAt K H3 ns va is ss := by simpa using hA.mono (more := []) (Tk.ex e13)
      have hda : (Ty.to a c).depth = 1 + max a.depth c.depth := rfl
      have hsa : (Ty.to a c).size = 1 + (a.size + c.size) := rfl
      refine st_ret ⟨_, rfl, b.x, b.dx, _, rfl, hB3.x, rfl, ⟨_, rfl, b.x, b.dx, _, rfl, hB3.x, rfl, ?_⟩⟩
      refine (ed_op (K := K) (ed_var rfl (iv.ex e13)) ed_int (rd_ix (i := 1) rfl)).cn fun v4 H4 e4 i4 => ?_
      refine ⟨_, rfl, b, ns, a, v4, va, is, ss, KS, rfl, hB3.kp e4, i4, by omega, hK, hw.1, by simpa using hA3.mono (more := []) (Tk.ex e4), by omega, fun i5 H5 m5 k5 t5 hB5 d5 l5 => ?_⟩
      refine ⟨_, rfl, b.x, b.dx, _, rfl, hB5.x, rfl, ?_⟩
      have t35 : Tk H3 H5 := (Tk.ex e4).trans t5
      refine (ed_op (K := K) (ed_var rfl ((iv.ex e13).mono t35)) ed_int (rd_ix (i := 2) rfl)).cn fun v6 H6 e6 i6 => ?_
      refine ⟨_, rfl, b, ns ++ m5, c, v6, va, is, ss, KS, rfl, hB5.kp e6, i6, by omega, hK, hw.2, hA3.mono (t35.trans (Tk.ex e6)), by rw [List.length_append]; omega, fun i7 H7 m7 k7 t7 hB7 d7 l7 => ?_⟩
      refine ⟨by show 3 ≤ sizeLine; decide, fun t ht => ?_⟩
      have e8 : Ex H7 (upd H7 t (.tup [.str "to", .int (i5 : Nat), .int (i7 : Nat)])) := Ex.new ht
      have d5' := d5.mono (more := m7)
      refine ⟨b, (ns ++ m5) ++ m7, .to i5 i7, .ref t, rfl, hB7.kp e8, .tup (Evl.st_of (upd_same ..)) (.cons (.str _) (.cons (.int _) (.cons (.int _) .nil))), (fun i hi => ?_), by simp only [List.length_append]; omega, Nat.le_of_ble_eq_true rfl, fun i9 H9 ns9 k9 t9 hB9 ho h9 => ?_⟩
      · simp only [BN.ids, List.mem_cons, List.not_mem_nil, or_false] at hi
        rcases hi with rfl | rfl
        · exact d5'.lt
        · exact d7.lt
      · obtain ⟨m9, rfl, hm9⟩ := put_more ho
        refine q i9 H9 (m5 ++ (m7 ++ m9)) ((((((Kp.of e13).ex e4).trans k5).ex e6).trans k7).trans ((Kp.of e8).trans k9)) ((((Tk.ex e13).trans t35).trans ((Tk.ex e6).trans t7)).trans ((Tk.ex e8).trans t9)) (by simpa [List.append_assoc] using hB9) ?_ (by simp only [List.length_append]; omega)
        have : Dn (((ns ++ m5) ++ m7) ++ m9) i9 (.to (tput ss a) (tput ss c)) := .to h9 d5'.mono d7.mono
        rw [tput]
        simpa [List.append_assoc] using this
    | of k ts =>
      refine sq_if (b := false) (eb_b (ed_isS (ed_var rfl iv) rfl)) (fun z => by cases z) fun _ H1 e1 => ?_
      refine sq_if (b := false) (eb_t (K := K) (ed_op (ed_op (ed_var rfl (iv.ex e1)) ed_int (rd_ix rfl)) ed_str (rd_eqs rfl))) (fun z => by cases z) fun _ H2 e2 => ?_
      have e12 := e1.trans e2
      refine sq_if (b := false) (eb_t (K := K) (ed_op (ed_op (ed_var rfl (iv.ex e12)) ed_int (rd_ix rfl)) ed_str (rd_eqs rfl))) (fun z => by cases z) fun _ H3 e3 => ?_
      have e13 := e12.trans e3
      have hB3 := hB.kp e13
      have iv3 := iv.ex e13
      have hA3 : ArgsAt K H3 ns va is ss := by simpa using hA.mono (more := []) (Tk.ex e13)
      have hda : (Ty.of k ts).depth = 1 + Ty.depthAll ts := rfl
      have hsa : (Ty.of k ts).size = 1 + Ty.sizeAll ts := rfl
      have hts : ts.length ≤ 2 := (lots_ok _ (hK _ hw.1)).2
      refine st_ret ⟨_, rfl, b.x, b.dx, _, rfl, hB3.x, rfl, ?_⟩
      refine te_cons (te_tup (te_cons (te_c ?_)))
      refine (ed_op (K := K) (ed_var rfl iv3) ed_int (rd_ix (i := 1) rfl)).cn fun vk H4 e4 i4 => ?_
      obtain rfl := i4.str_of
      refine te_cons (te_cb1 ?_)
      refine (ed_op (K := K) (ed_var rfl (iv3.ex e4)) ed_int (rd_ix (i := 2) rfl)).at fun v5 H5 e5 i5 => ?_
      obtain ⟨a, vs, rfl, ha, hs⟩ := i5.tup_of
      have e35 := e4.trans e5
      have hB5 := hB3.kp e35
      have hA5 : ArgsAt K H5 ns va is ss := by simpa using hA3.mono (more := []) (Tk.ex e35)
      refine ⟨a, rfl, ⟨vs, ha⟩, fun D hD => ?_⟩
      have nD : ∀ y ∈ [b.x, b.an, b.az, b.ai], y ≠ D := fun y hy z => by
        obtain ⟨o, ho⟩ := hB5.some y hy
        rw [z, hD] at ho; cases ho
      have nDS : D ∉ b.S := fun h => nD D (by simp only [BP.S] at h; exact List.mem_cons_of_mem _ h) rfl
      refine lc_tup (K := K) (a := a) (xs := vs) (fun j H' => ∃ more js, Kp b.S H5 H' ∧ Tk H5 H' ∧ BankAt P w K H' b (ns ++ more) ∧ H' D = some (.lst (js.map fun i => V.int (i : Nat))) ∧ DnAll (ns ++ more) js (tputAll ss (ts.take j)) ∧ more.length ≤ Ty.sizeAll (ts.take j)) ?_ ?_ ?_ ?_
      · refine ⟨[], [], Kp.of (Ex.new hD), Tk.ex (Ex.new hD), by simpa using hB5.kp (Ex.new hD), upd_same .., ?_, Nat.zero_le _⟩
        simp only [List.take_zero, tputAll]
        exact .nil
      · rintro j H' _ ⟨more, js, k, t, _⟩
        exact t.sq ha
      · rintro j v6 H' hv ⟨more, js, k6, t6, hB6, h6, d6, l6⟩
        obtain ⟨y, hy, iy⟩ := hs.getV hv
        rw [Ty.dAll_map, List.getElem?_map] at hy
        obtain ⟨u, hu, rfl⟩ := Option.map_eq_some_iff.mp hy
        have hum := List.mem_of_getElem? hu
        have dl := Ty.depthAll_mem hum
        have su := sizeAll_mem hum
        have hjl : j < ts.length := (List.getElem?_eq_some_iff.mp hu).1
        have sj : Ty.sizeAll (ts.take (j + 1)) = Ty.sizeAll (ts.take j) + u.size := by rw [take_snoc hu, Ty.sizeAll_append]; simp [Ty.sizeAll]
        have sjl : Ty.sizeAll (ts.take (j + 1)) ≤ Ty.sizeAll ts := by
          have := Ty.sizeAll_append (ts.take (j + 1)) (ts.drop (j + 1))
          rw [List.take_append_drop] at this
          omega
        refine ⟨wipe_set _ _ _, ?_⟩
        refine te_yes ?_
        refine iteT ?_
        refine ⟨_, rfl, b.x, b.dx, _, rfl, hB6.x, rfl, ⟨_, rfl, _, rfl, b, ns ++ more, u, v6, va, is, ss, KS, rfl, hB6, iy.mono t6, by omega, hK, Ty.WfAll_mem hw.2 u hum, hA5.mono t6, by rw [List.length_append]; omega, fun i7 H7 m7 k7 t7 hB7 d7 l7 => ?_⟩⟩
        have h7 : H7 D = some (.lst (js.map fun i => V.int (i : Nat))) := k7 _ _ nDS h6
        have jl : js.length ≤ ts.length := by
          have := d6.len
          rw [this, tputAll_map, List.length_map, List.length_take]
          omega
        refine ⟨_, h7, by rw [List.length_map]; exact Evl.sz_lt (by omega), more ++ m7, js ++ [i7], ?_, ?_, ?_, ?_, ?_, ?_⟩
        · exact fun y o ny hy => by
            by_cases e : y = D
            · rw [e, hD] at hy; cases hy
            · rw [upd_ne e]; exact k7 _ _ ny (k6 _ _ ny hy)
        · exact (t6.trans t7).trans (Tk.upd (no_lst h7))
        · rw [← List.append_assoc]
          exact hB7.keep (fun y hy => upd_ne (nD y hy)) (Tk.upd (no_lst h7))
        · rw [List.map_append]
          exact upd_same ..
        · rw [take_snoc hu, tputAll_map, List.map_append, ← tputAll_map, ← List.append_assoc]
          exact DnAll.snoc d7 d6.mono
        · rw [List.length_append]; omega
      · rintro H7 ⟨more, js, k7, t7, hB7, h7, d7, l7⟩
        have hvl : vs.length = ts.length := by rw [hs.length, Ty.dAll_map, List.length_map]
        rw [hvl, List.take_length] at d7 l7
        have jl : js.length = ts.length := by rw [d7.len, tputAll_map, List.length_map]
        refine ⟨D, _, rfl, .inl ⟨Evl.sq_of h7, fun l hl => ?_⟩⟩
        refine ⟨by show 3 ≤ sizeLine; decide, fun t ht => ?_⟩
        have e8 : Ex H7 (upd H7 l (.tup (js.map fun i => V.int (i : Nat)))) := Ex.new hl
        have h8 : upd H7 l (.tup (js.map fun i => V.int (i : Nat))) l = some (.tup (js.map fun i => V.int (i : Nat))) := upd_same ..
        generalize upd H7 l (.tup (js.map fun i => V.int (i : Nat))) = H8 at e8 h8 ht
        have e9 : Ex H8 (upd H8 t (.tup [.str "of", .str k, .ref l])) := Ex.new ht
        have ij : ImAll K (upd H8 t (.tup [.str "of", .str k, .ref l])) (js.map fun i => V.int (i : Nat)) (js.map fun i => PyData.int (i : Nat)) := by
          have := im_ints (K := K) (H := upd H8 t (.tup [.str "of", .str k, .ref l])) (js.map fun i => ((i : Nat) : Int))
          rw [List.map_map, List.map_map] at this
          exact this
        refine ⟨b, ns ++ more, .of k js, .ref t, rfl, (hB7.kp e8).kp e9, .tup (Evl.st_of (upd_same ..)) (.cons (.str _) (.cons (.str _) (.cons (.tup (Evl.st_of (e9 _ _ h8)) ij) .nil))), d7.lt, by rw [List.length_append]; omega, by show js.length ≤ 100; omega, fun iA HA nsA kA tA hBA ho hA' => ?_⟩
        obtain ⟨mA, rfl, hmA⟩ := put_more ho
        refine q iA HA (more ++ mA) ((((Kp.of (e13.trans e35)).trans k7).ex (e8.trans e9)).trans kA) ((((Tk.ex (e13.trans e35)).trans t7).trans (Tk.ex (e8.trans e9))).trans tA) (by simpa [List.append_assoc] using hBA) ?_ (by rw [List.length_append]; omega)
        have : Dn ((ns ++ more) ++ mA) iA (.of k (tputAll ss ts)) := .of hA' d7.mono
        rw [tput]
        simpa [List.append_assoc] using this
end
end K55
namespace K55
open PySem PySem.Spec PyProof.Rows L2 W5 M5
open Evl (Ex Ev)
section
variable {P : Program} {w : World} {K : PySem.W.Frag} {mg : Str → Option Value} {base : Heap}
theorem _root_.L2.FnOk.or' {CX : CXT} {k : Nat} {f : Addr} {fd : FuncData} {ps : List Str} {sp sp' : Sp} (F : FnOk P w K mg base CX k f fd ps sp) (G : FnOk P w K mg base CX k f fd ps sp') : FnOk P w K mg base CX k f fd ps (fun vs H Q E => sp vs H Q E ∨ sp' vs H Q E) :=
  ⟨fun vs H Q E h => h.elim (F.len vs H Q E) (G.len vs H Q E), fun A outer s H args us vs Q E hr he hb hv hs => hs.elim (F.run A outer s H args us vs Q E hr he hb hv) (G.run A outer s H args us vs Q E hr he hb hv)⟩
theorem ed_isL {i : Nat} {p : Addr} {xs : List V} {σ : L2.St} {H : Hp} (hs : σ[i]? = some (some (.ref p))) (hp : H p = some (.lst xs)) : Ed K (tCB (rIsi K) (tCons (tVar i) (tCons (tC (.ty "tuple")) tNil))) σ H (.bool false) := fun H1 e Q q =>
  ⟨_, hs, isi_lst (e _ _ hp) (by decide) (q _ H1 (Ex.refl H1) (.bl _))⟩
def SisTupL (K : PySem.W.Frag) : Sp := fun vs H Q E => ∃ p xs lo hi, vs = [.ref p, .int lo, .int hi] ∧ H p = some (.lst xs) ∧ ∀ H2, Ex H H2 → Q (.bl false) H2
theorem ok_is_tupleL (T : Tx K mg) : Ok P w K mg base 1 d_is_tuple ["thing", "least", "most"] (SisTupL K) := by
  refine (T.F_is_tuple).ok sc_is_tuple (fun vs H Q E ⟨p, xs, lo, hi, e, _⟩ => by rw [e]; rfl) (fun cdv A outer s H vs Q E hr h => ?_)
  obtain ⟨p, xs, lo, hi, rfl, hp, q⟩ := h
  refine ⟨_, PSs.nox ((pss_one (ps_ret (pe_and (pe_callB (call_isiK' (K := K) rfl) rfl T.b_isinstance bb_isinstance (pa_cons (pv 0) (pa_cons (pe_bltn (v := .ty "tuple") (by rfl) T.b_tuple bb_tuple rfl) pa_nil))) (pe_one (pe_chain op_le op_le (pv 1) (pe_callB (call_lenK (K := K) rfl) rfl T.b_len bb_len (pa_cons (pv 0) pa_nil)) (pv 2))))))), ?_⟩
  exact st_ret (Ed.at (K := K) (d := .bool false) (ed_and (b := false) (c := false) (ed_isL rfl hp) fun z => by cases z) fun v3 H3 e3 i3 => by
    obtain rfl := i3.bl_of
    exact q H3 e3)
/-- words of values -/
inductive Wd where
  | int (i : Int)
  | bool (b : Bool)
  | none
  | str (s : Str)
  | fn
def Wd.d : Wd → PyData
  | int i => .int i
  | bool b => .bool b
  | none => .none
  | str s => .str s
  | fn => .tuple [.str "fn", .int 0]
def mkrsOf (ks : List Knd) : List Mkr := ks.flatMap (·.2.2)
def arS (ks : List Knd) (s : Str) : Int := match (mkrsOf ks).find? (fun m => m.1 == s) with
  | some m => (m.2.length : Nat)
  | none => -1
def arW (ks : List Knd) : Wd → Int
  | .int _ => 0
  | .str s => arS ks s
  | _ => -1
def SlabelArity (K : PySem.W.Frag) : Sp := fun vs H Q E => ∃ vp lf v wd, vs = [vp, .ref lf, v] ∧ H lf = some (.lst []) ∧ Im K H v (Wd.d wd) ∧ (∀ i, wd ≠ .int i) ∧ (∀ s, wd ≠ .str s) ∧ ∀ H2, Ex H H2 → Q (.int (-1)) H2
theorem ok_label_arity (T : Tx K mg) : Ok P w K mg base 3 d_label_arity ["plan", "fns", "word"] (SlabelArity K) := by
  have G_is_tuple := ok_is_tuple (P := P) (w := w) (base := base) T
  have G_within := ok_within (P := P) (w := w) (base := base) T
  refine (T.F_label_arity).ok sc_label_arity (fun vs H Q E ⟨vp, lf, v, wd, e, _⟩ => by rw [e]; rfl) (fun cdv A outer s H vs Q E hr h => ?_)
  obtain ⟨vp, lf, v, wd, rfl, hl, iv, hi, hs, q⟩ := h
  refine ⟨_, PSs.nox ((pss_cons (ps_if (PW.pt (pw_and (pt_val (pe_call G_is_tuple (hr.mono (by omega)) rfl T.g_is_tuple T.k_is_tuple T.B_is_tuple .nil pass0 (pa_cons (pv 2) (pa_cons pe_int (pa_cons pe_int pa_nil))))) (pw_and (pt_val (pe_callB (call_isiK' (K := K) rfl) rfl T.b_isinstance bb_isinstance (pa_cons (pe_ix (ix_seqK (K := K) rfl) (pv 2) pe_int (fun _ _ => rfl)) (pa_cons (pe_bltn (v := .ty "str") (by rfl) T.b_str bb_str rfl) pa_nil)))) (pw_and (pt_cmpR (op_eqK (K := K) rfl hr) (pe_ix (ix_seqK (K := K) rfl) (pv 2) pe_int (fun _ _ => rfl)) pe_str (nomark _)) (pw_and1 (pt_val (pe_call G_within (hr.mono (by omega)) rfl T.g_within T.k_within T.B_within .nil pass0 (pa_cons (pe_ix (ix_seqK (K := K) rfl) (pv 2) pe_int (fun _ _ => rfl)) (pa_cons pe_int (pa_cons (pe_op op_sub (pe_callB (call_lenK (K := K) rfl) rfl T.b_len bb_len (pa_cons (pv 1) pa_nil)) pe_int) pa_nil)))))))))) (pss_cons (ps_asg (pe_ix (ix_seqK (K := K) rfl) (pv 1) (pe_ix (ix_seqK (K := K) rfl) (pv 2) pe_int (fun _ _ => rfl)) (fun _ _ => rfl)) (pg_tupK (K := K) (n := 2) rfl rfl (pgs_cons (pg_name (i := 3) sc_label_arity.nd rfl (by first | exact Or.inl rfl | exact Or.inr rfl)) (pgs_cons (pg_name (i := 4) sc_label_arity.nd rfl (by first | exact Or.inl rfl | exact Or.inr rfl)) pgs_nil))))
  (pss_one (ps_ret (pe_callB (call_lenK (K := K) rfl) rfl T.b_len bb_len (pa_cons pe_never pa_nil))))) pss_nil)
  (pss_cons (ps_if (PW.pt (pw_or (pt_not (pt_val (pe_call G_is_tuple (hr.mono (by omega)) rfl T.g_is_tuple T.k_is_tuple T.B_is_tuple .nil pass0 (pa_cons (pv 2) (pa_cons pe_int (pa_cons pe_int pa_nil)))))) (pw_or (pt_not (pt_val (pe_callB (call_isiK' (K := K) rfl) rfl T.b_isinstance bb_isinstance (pa_cons (pe_ix (ix_seqK (K := K) rfl) (pv 2) pe_int (fun _ _ => rfl)) (pa_cons (pe_bltn (v := .ty "str") (by rfl) T.b_str bb_str rfl) pa_nil))))) (pw_or1 (pt_cmpR (op_neK (K := K) rfl hr) (pe_ix (ix_seqK (K := K) rfl) (pv 2) pe_int (fun _ _ => rfl)) pe_str (nomark _)))))) (pss_one (ps_ret (pe_un un_neg pe_int))) pss_nil)
  (pss_cons (ps_if (PW.pt (pw_or (pt_not (pt_val (pe_callB (call_isiK' (K := K) rfl) rfl T.b_isinstance bb_isinstance (pa_cons (pe_ix (ix_seqK (K := K) rfl) (pv 2) pe_int (fun _ _ => rfl)) (pa_cons (pe_bltn (v := .ty "str") (by rfl) T.b_str bb_str rfl) pa_nil))))) (pw_or1 (pt_cmpR (op_ninK (K := K) rfl hr) (pe_ix (ix_seqK (K := K) rfl) (pv 2) pe_int (fun _ _ => rfl)) (pe_fldK (K := K) rfl (pv 0) rfl) rfl)))) (pss_one (ps_ret (pe_un un_neg pe_int))) pss_nil)
  (pss_cons (ps_set (i := 5) sc_label_arity.nd rfl (by first | exact Or.inl rfl | exact Or.inr rfl) (pe_callB (call_lenK (K := K) rfl) rfl T.b_len bb_len (pa_cons (pe_fldK (K := K) rfl (pe_ix (ix_seqK (K := K) rfl) (pe_fldK (K := K) rfl (pv 0) rfl) (pe_dget (hu_of hr) (pe_fldK (K := K) rfl (pv 0) rfl) (pe_ix (ix_seqK (K := K) rfl) (pv 2) pe_int (fun _ _ => rfl)) (fun _ _ => rfl)) (fun _ _ => rfl)) rfl) pa_nil)))
  (pss_one (ps_ret (pe_ifExp (pt_val (pe_call G_within (hr.mono (by omega)) rfl T.g_within T.k_within T.B_within .nil pass0 (pa_cons (pe_ix (ix_seqK (K := K) rfl) (pv 2) pe_int (fun _ _ => rfl)) (pa_cons pe_int (pa_cons (pe_op op_sub (pv 5) pe_int) pa_nil))))) (pe_ix (ix_seqK (K := K) rfl) (pv 2) pe_int (fun _ _ => rfl)) (pe_un un_neg pe_int))))))))), ?_⟩
  have neg1 : ∀ {H1 : Hp} {σ : L2.St}, Ed K (tUn (rU fun i => V.int (-i)) (tC (V.int 1))) σ H1 (.int (-1)) := fun {H1 σ} => ed_un (K := K) (x := .int 1) (z := .int (-1)) ed_int (fun H v Q a q => by obtain rfl := a.int_of; exact ⟨1, rfl, q _ H (Ex.refl H) (.int _)⟩)
  have two : Eb (tAnd (tB (tCall (Pu K RisTup) [] E0 (tCons (tVar 2) (tCons (tC (V.int 2)) (tCons (tC (V.int 2)) tNil))))) (tAnd (tB (tCB (rIsi K) (tCons (tOp (rIx K) (tVar 2) (tC (V.int 0))) (tCons (tC (V.ty "str")) tNil)))) (tAnd (tTest (tOp (rEqP K (lineOf 2)) (tOp (rIx K) (tVar 2) (tC (V.int 0))) (tC (V.str "fn")))) (tB (tCall (Pu K Rwithin) [] E0 (tCons (tOp (rIx K) (tVar 2) (tC (V.int 1))) (tCons (tC (V.int 0)) (tCons (tOp (rI0 fun i j => V.int (i - j)) (tCB (rLenA K) (tCons (tVar 1) tNil)) (tC (V.int 1))) tNil)))))))) (L2.start ["plan", "fns", "word", "number", "place", "many"] [vp, .ref lf, v]) H false := by
    cases wd with
    | int i => exact absurd rfl (hi i)
    | str s => exact absurd rfl (hs s)
    | bool b => exact eb_and (b := false) (c := false) (eb_b (ed_call (R := RisTup) (ea_cons (ed_var rfl iv) (ea_cons ed_int (ea_cons ed_int ea_nil))) ⟨_, _, _, rfl, rfl⟩)) fun z => by cases z
    | none => exact eb_and (b := false) (c := false) (eb_b (ed_call (R := RisTup) (ea_cons (ed_var rfl iv) (ea_cons ed_int (ea_cons ed_int ea_nil))) ⟨_, _, _, rfl, rfl⟩)) fun z => by cases z
    | fn => exact eb_and (b := true) (c := false) (eb_b (ed_call (R := RisTup) (ea_cons (ed_var rfl iv) (ea_cons ed_int (ea_cons ed_int ea_nil))) ⟨_, _, _, rfl, rfl⟩)) fun _ => eb_and (b := true) (c := false) (eb_b (ed_isS (ed_op (ed_var rfl iv) ed_int (rd_ix rfl)) rfl)) fun _ => eb_and (b := true) (c := false) (eb_t (K := K) (ed_op (ed_op (ed_var rfl iv) ed_int (rd_ix rfl)) ed_str (rd_eqs rfl))) fun _ =>
        eb_b (ed_call (R := Rwithin) (ea_cons (ed_op (ed_var rfl iv) ed_int (rd_ix rfl)) (ea_cons ed_int (ea_cons (ed_op (ed_lenL (es_ev (ds := []) (ev_v rfl) (Evl.sq_of hl) .nil)) ed_int rd_int0) ea_nil))) ⟨_, _, _, rfl, rfl⟩)
  refine sq_if (b := false) two (fun z => by cases z) fun _ H1 e1 => ?_
  have f3 : isTupD wd.d 3 3 = false := by
    cases wd with
    | int i => exact absurd rfl (hi i)
    | str s => exact absurd rfl (hs s)
    | bool b => rfl
    | none => rfl
    | fn => rfl
  refine sq_if (b := true) (eb_or (b := true) (c := true) (eb_not (b := false) (eb_b (ed_call (R := RisTup) (ea_cons (ed_var rfl (iv.ex e1)) (ea_cons ed_int (ea_cons ed_int ea_nil))) ⟨_, _, _, rfl, by rw [f3]⟩))) fun z => by cases z) (fun _ H2 e2 => ?_) fun z => by cases z
  exact st_ret (neg1.at fun v3 H3 e3 i3 => by
    obtain rfl := i3.int_of
    exact q H3 ((e1.trans e2).trans e3))
theorem arS_some {ks : List Knd} {s : Str} {m : Mkr} (h : (mkrsOf ks).find? (fun m => m.1 == s) = some m) : ∃ k ∈ ks, m ∈ k.2.2 ∧ m.1 = s := by
  have h1 := List.mem_of_find?_eq_some h
  have h2 := List.find?_some h
  obtain ⟨k, hk, hm⟩ := List.mem_flatMap.mp h1
  exact ⟨k, hk, hm, by simpa using h2⟩
theorem arS_none {ks : List Knd} {s : Str} (h : (mkrsOf ks).find? (fun m => m.1 == s) = none) : s ∉ ks.flatMap nmk := by
  intro hs
  obtain ⟨k, hk, hm⟩ := List.mem_flatMap.mp hs
  obtain ⟨m, hm2, rfl⟩ := List.mem_map.mp hm
  have := List.find?_eq_none.mp h m (List.mem_flatMap.mpr ⟨k, hk, hm2⟩)
  simp at this
def Sarity (K : PySem.W.Frag) : Sp := fun vs H Q E => ∃ p ks lf v wd, vs = [.ref p, .ref lf, v] ∧ PlanAt K H p ks ∧ H lf = some (.lst []) ∧ Im K H v (Wd.d wd) ∧ ∀ H2, Ex H H2 → Q (.int (arW ks wd)) H2
theorem ok_arity (T : Tx K mg) : Ok P w K mg base 4 d_arity ["plan", "fns", "word"] (Sarity K) := by
  have G_is_int := ok_is_int (P := P) (w := w) (base := base) T
  have G_label_arity := ok_label_arity (P := P) (w := w) (base := base) T
  refine (T.F_arity).ok sc_arity (fun vs H Q E ⟨p, ks, lf, v, wd, e, _⟩ => by rw [e]; rfl) (fun cdv A outer s H vs Q E hr h => ?_)
  obtain ⟨p, ks, lf, v, wd, rfl, hp, hl, iv, q⟩ := h
  refine ⟨_, PSs.nox ((pss_cons (ps_if (pt_val (pe_call G_is_int (hr.mono (by omega)) rfl T.g_is_int T.k_is_int T.B_is_int .nil pass0 (pa_cons (pv 2) pa_nil))) (pss_one (ps_ret pe_int)) pss_nil)
  (pss_cons (ps_if (pt_val (pe_callB (call_isiK' (K := K) rfl) rfl T.b_isinstance bb_isinstance (pa_cons (pv 2) (pa_cons (pe_bltn (v := .ty "str") (by rfl) T.b_str bb_str rfl) pa_nil)))) (pss_one (ps_ret (pe_ifExp (pt_cmpR (op_inK (K := K) rfl hr) (pv 2) (pe_fldK (K := K) rfl (pe_fldK (K := K) rfl (pv 0) rfl) rfl) rfl) (pe_callB (call_lenK (K := K) rfl) rfl T.b_len bb_len (pa_cons (pe_ix (ix_seqK (K := K) rfl) (pe_dget (hu_of hr) (pe_fldK (K := K) rfl (pe_fldK (K := K) rfl (pv 0) rfl) rfl) (pv 2) (fun _ _ => rfl)) pe_int (fun _ _ => rfl)) pa_nil)) (pe_un un_neg pe_int)))) pss_nil)
  (pss_one (ps_ret (pe_call G_label_arity (hr.mono (by omega)) rfl T.g_label_arity T.k_label_arity T.B_label_arity .nil pass0 (pa_cons (pv 0) (pa_cons (pv 1) (pa_cons (pv 2) pa_nil))))))))), ?_⟩
  have isI : ∀ b, isIntD wd.d = b → Eb (tB (tCall (Pu K RisInt) [] E0 (tCons (tVar 2) tNil))) (L2.start ["plan", "fns", "word"] [.ref p, .ref lf, v]) H b := fun b e => eb_b (ed_call (R := RisInt) (ea_cons (ed_var rfl iv) ea_nil) ⟨_, rfl, by rw [e]⟩)
  cases wd with
  | int i =>
    refine sq_if (isI _ rfl) (fun _ H1 e1 => ?_) fun z => by cases z
    exact st_ret (q H1 e1)
  | bool b =>
    refine sq_if (isI _ rfl) (fun z => by cases z) fun _ H1 e1 => ?_
    refine sq_if (b := false) (eb_b (ed_isS (ed_var rfl (iv.ex e1)) rfl)) (fun z => by cases z) fun _ H2 e2 => ?_
    exact st_ret ⟨_, rfl, _, rfl, _, rfl, _, lf, v, .bool b, rfl, e2 _ _ (e1 _ _ hl), (iv.ex e1).ex e2, (fun i z => nomatch z), (fun i z => nomatch z), fun H3 e3 => q H3 ((e1.trans e2).trans e3)⟩
  | none =>
    refine sq_if (isI _ rfl) (fun z => by cases z) fun _ H1 e1 => ?_
    refine sq_if (b := false) (eb_b (ed_isS (ed_var rfl (iv.ex e1)) rfl)) (fun z => by cases z) fun _ H2 e2 => ?_
    exact st_ret ⟨_, rfl, _, rfl, _, rfl, _, lf, v, .none, rfl, e2 _ _ (e1 _ _ hl), (iv.ex e1).ex e2, (fun i z => nomatch z), (fun i z => nomatch z), fun H3 e3 => q H3 ((e1.trans e2).trans e3)⟩
  | fn =>
    refine sq_if (isI _ rfl) (fun z => by cases z) fun _ H1 e1 => ?_
    refine sq_if (b := false) (eb_b (ed_isS (ed_var rfl (iv.ex e1)) rfl)) (fun z => by cases z) fun _ H2 e2 => ?_
    exact st_ret ⟨_, rfl, _, rfl, _, rfl, _, lf, v, .fn, rfl, e2 _ _ (e1 _ _ hl), (iv.ex e1).ex e2, (fun i z => nomatch z), (fun i z => nomatch z), fun H3 e3 => q H3 ((e1.trans e2).trans e3)⟩
  | str s =>
    refine sq_if (isI _ rfl) (fun z => by cases z) fun _ H1 e1 => ?_
    refine sq_if (b := true) (eb_b (ed_isS (ed_var rfl (iv.ex e1)) rfl)) (fun _ H2 e2 => ?_) fun z => by cases z
    have e12 := e1.trans e2
    obtain ⟨dx, vp, h, vb, lu, dn, lf', h1, h2, _⟩ := hp.ex e12
    obtain ⟨dxh, am, ak, ac, ame, ad, acp, kvm, kvk, g1, g2, g3, g4, g5⟩ := h2
    have evm : ∀ {H3 : Hp}, Ex H2 H3 → Ev (tFld K (tFld K (tVar 0) "heads") "makers") (L2.start ["plan", "fns", "word"] [.ref p, .ref lf, v]) H3 (.ref am) := fun e3 => ev_fld (ev_fld (ev_v rfl) (e3 _ _ h1) T.c_Plan T.n_Plan_heads rfl) (e3 _ _ g1) T.c_Heads T.n_Heads_makers rfl
    cases hf : (mkrsOf ks).find? (fun m => m.1 == s) with
    | none =>
      have hv := g3.2 s (arS_none hf)
      refine st_ret (Ed.at (K := K) (d := .int (-1)) (ed_if (b := false) ((eb_inD (ed_var rfl (iv.ex e12)) (evm (Ex.refl _)) g2).to (by rw [hv]; rfl)) (fun z => by cases z) fun _ => ed_un (K := K) (x := .int 1) (z := .int (-1)) ed_int (fun H v Q a q => by obtain rfl := a.int_of; exact ⟨1, rfl, q _ H (Ex.refl H) (.int _)⟩)) fun v3 H3 e3 i3 => ?_)
      obtain rfl := i3.int_of
      have := q H3 (e12.trans e3)
      simpa [arW, arS, hf] using this
    | some m =>
      obtain ⟨k, hk, hm, hs⟩ := arS_some hf
      obtain ⟨v', f1, f2⟩ := g3.1 k hk m hm
      rw [hs] at f1
      refine st_ret (Ed.at (K := K) (d := .int (m.2.length : Nat)) (ed_if (b := true) ((eb_inD (ed_var rfl (iv.ex e12)) (evm (Ex.refl _)) g2).to (by rw [f1]; rfl)) (fun _ => (ed_len (ed_op (ed_ev (ev_dget (K := K) (evm (Ex.refl _)) (ed_var rfl (iv.ex e12)) g2 f1) f2) ed_int (rd_ix (i := 1) rfl))).to (by rw [Ty.dAll_map, List.length_map])) fun z => by cases z) fun v3 H3 e3 i3 => ?_)
      obtain rfl := i3.int_of
      have := q H3 (e12.trans e3)
      simpa [arW, arS, hf] using this
/-- are_words, by what is due -/
def goW (ks : List Knd) : Int → List Wd → Bool
  | due, [] => decide (due = 0)
  | due, w :: ws => if due = 0 ∨ arW ks w < 0 then false else goW ks (due + (arW ks w - 1)) ws
def awB (ks : List Knd) (ws : List Wd) : Bool := decide (1 ≤ ws.length) && goW ks 1 ws
def SareWords (K : PySem.W.Frag) : Sp := fun vs H Q E => ∃ p ks v b, vs = [.ref p, v] ∧ PlanAt K H p ks ∧
  ((∃ ws : List Wd, Im K H v (.tuple (ws.map Wd.d)) ∧ ws.length ≤ 4000 ∧ b = awB ks ws) ∨ (∃ q xs, v = .ref q ∧ H q = some (.lst xs) ∧ b = false) ∨ (∃ d, Im K H v d ∧ isT d "tuple" = false ∧ b = false)) ∧ ∀ H2, Ex H H2 → Q (.bl b) H2
theorem isTup_not {d : PyData} (h : isT d "tuple" = false) (lo hi : Int) : isTupD d lo hi = false := by
  cases d <;> first | rfl | (simp [isT, tyN] at h)
theorem ok_are_words (T : Tx K mg) : Ok P w K mg base 5 d_are_words ["plan", "thing"] (SareWords K) := by
  have G_is_tuple := (ok_is_tuple (P := P) (w := w) (base := base) T).or' (ok_is_tupleL T)
  have G_Plan_all_fns := ok_Plan_all_fns (P := P) (w := w) (base := base) T
  have G_arity := ok_arity (P := P) (w := w) (base := base) T
  refine (T.F_are_words).ok sc_are_words (fun vs H Q E ⟨p, ks, v, b, e, _⟩ => by rw [e]; rfl) (fun cdv A outer s H vs Q E hr h => ?_)
  obtain ⟨p, ks, v, b, rfl, hp, hv, q⟩ := h
  refine ⟨_, PSs.nox ((pss_cons (ps_if (pt_not (pt_val (pe_call G_is_tuple (hr.mono (by omega)) rfl T.g_is_tuple T.k_is_tuple T.B_is_tuple .nil pass0 (pa_cons (pv 1) (pa_cons pe_int (pa_cons (pe_gint (by rfl) T.i_MOST_WORDS) pa_nil)))))) (pss_one (ps_ret pe_bl)) pss_nil)
  (pss_cons (ps_set (i := 2) sc_are_words.nd rfl (by first | exact Or.inl rfl | exact Or.inr rfl) (pe_meth0 (pv 0) T.c_Plan T.M_Plan_all_fns G_Plan_all_fns (hr.mono (by omega)) T.B_Plan_all_fns .nil pass0))
  (pss_cons (ps_set (i := 3) sc_are_words.nd rfl (by first | exact Or.inl rfl | exact Or.inr rfl) pe_int)
  (pss_cons (ps_for PassesOwn.never rfl (pi_tupK (K := K) rfl (pv 1)) (pg_name (i := 4) sc_are_words.nd rfl (by first | exact Or.inl rfl | exact Or.inr rfl)) (pss_cons (ps_set (i := 5) sc_are_words.nd rfl (by first | exact Or.inl rfl | exact Or.inr rfl) (pe_call G_arity (hr.mono (by omega)) rfl T.g_arity T.k_arity T.B_arity .nil pass0 (pa_cons (pv 0) (pa_cons (pv 2) (pa_cons (pv 4) pa_nil)))))
  (pss_cons (ps_if (PW.pt (pw_or (pt_cmpR (op_eqK (K := K) rfl hr) (pv 3) pe_int (nomark _)) (pw_or1 (pt_cmpR op_lt (pv 5) pe_int (nomark _))))) (pss_one (ps_ret pe_bl)) pss_nil)
  (pss_one (ps_aug (i := 3) sc_are_words.nd rfl (by first | exact Or.inl rfl | exact Or.inr rfl) (pe_op op_sub (pv 5) pe_int) ip_add)))))
  (pss_one (ps_ret (pe_cmpR (op_eqK (K := K) rfl hr) (pv 3) pe_int (nomark _))))))))), ?_⟩
  have no : ∀ {us : TS}, (∀ (H1 : Hp), Ex H H1 → ∀ Q' : VK, (∀ H2, Ex H1 H2 → Q' (.bl false) H2) → tCall (fun vs H Q E => Pu K RisTup vs H Q E ∨ SisTupL K vs H Q E) [] E0 (tCons (tVar 1) (tCons (tC (V.int 1)) (tCons (tC (V.int 4000)) tNil))) (L2.start ["plan", "thing", "fns", "due", "word", "many"] [.ref p, v]) H1 Q') → b = false →
      tSeq (tIfS (tNot (tB (tCall (fun vs H Q E => Pu K RisTup vs H Q E ∨ SisTupL K vs H Q E) [] E0 (tCons (tVar 1) (tCons (tC (V.int 1)) (tCons (tC (V.int 4000)) tNil)))))) (tRet (tC (V.bl false))) tNext) us { nx := fun _ H' => Q V.non H', rt := Q } (L2.start ["plan", "thing", "fns", "due", "word", "many"] [.ref p, v]) H := fun {us} h1 h2 => by
    refine sq_if (b := true) (eb_not (b := false) fun H1 e1 Q' q' => h1 H1 e1 _ fun H2 e2 => ⟨false, rfl, q' H2 e2⟩) (fun _ H1 e1 => ?_) fun z => by cases z
    exact st_ret (te_c (by rw [← h2]; exact q H1 e1))
  rcases hv with ⟨ws, iv, hws, hb⟩ | ⟨a, xs, rfl, ha, hb⟩ | ⟨d, iv, hd, hb⟩
  · have hl : (ws.map Wd.d).length = ws.length := List.length_map _
    by_cases h1 : 1 ≤ ws.length
    · have ht : isTupD (.tuple (ws.map Wd.d)) 1 4000 = true := isTup_true (by omega) (by omega)
      have hb' : b = goW ks 1 ws := by rw [hb, awB, decide_eq_true h1]; rfl
      refine sq_if (b := false) (eb_not (b := true) fun H1 e1 Q' q' => ⟨_, rfl, .inl ⟨[.tuple (ws.map Wd.d), .int 1, .int 4000], .bool true, .cons (iv.ex e1) (.cons (.int _) (.cons (.int _) .nil)), ⟨_, _, _, rfl, by rw [ht]⟩, fun v2 H2 e2 i2 => by
        obtain rfl := i2.bl_of
        exact ⟨true, rfl, q' H2 e2⟩⟩⟩) (fun z => by cases z) fun _ H1 e1 => ?_
      obtain ⟨dx, vp, h, vb, lu, dn, lf', g1, _⟩ := id (hp.ex e1)
      refine sq_set ⟨_, rfl, p, dx, _, rfl, g1, rfl, p, ks, rfl, hp.ex e1, fun lf H2 e2 h2 => ?_⟩
      refine sq_set (te_c ?_)
      have e12 := e1.trans e2
      refine sq_forT (ed_var rfl (iv.ex e12)) fun H3 e3 => ?_
      refine ⟨fun i σ' H' => ∃ o4 o5 due, σ' = [some (.ref p), some v, some (.ref lf), some (.int due), o4, o5] ∧ Ex H3 H' ∧ goW ks 1 ws = goW ks due (ws.drop i), ⟨none, none, 1, rfl, Ex.refl _, rfl⟩, ?_, ?_, ?_⟩
      · rintro i σ' H' ⟨_, _, _, _, e, _⟩
        exact Tk.ex e
      · rintro i y vy σ' H' hy iy ⟨o4, o5, due, rfl, e4, hg⟩
        rw [List.getElem?_map] at hy
        obtain ⟨wd, hwd, rfl⟩ := Option.map_eq_some_iff.mp hy
        have hdr : ws.drop i = wd :: ws.drop (i + 1) := (List.getElem?_eq_some_iff.mp hwd).2 ▸ List.drop_eq_getElem_cons (List.getElem?_eq_some_iff.mp hwd).1
        rw [hdr, goW] at hg
        have e14 := (e2.trans e3).trans e4
        refine gd_name _ ?_
        refine sq_set ⟨_, rfl, _, rfl, _, rfl, p, ks, lf, vy, wd, rfl, (hp.ex e1).ex e14, (e3.trans e4) _ _ h2, iy, fun H5 e5 => ?_⟩
        refine sq_if (b := decide (due = 0) || decide (arW ks wd < 0)) (eb_or (eb_t (K := K) (ed_op (ed_var rfl (.int due)) ed_int rd_eqi)) fun _ => eb_t (K := K) (ed_op (ed_var rfl (.int (arW ks wd))) ed_int rd_cmp)) (fun hb2 H6 e6 => ?_) fun hb2 H6 e6 => ?_
        · have hc : due = 0 ∨ arW ks wd < 0 := by simpa using hb2
          rw [if_pos hc] at hg
          refine st_ret (te_c ?_)
          have := q H6 (((e1.trans e14).trans e5).trans e6)
          rw [hb', hg] at this
          exact this
        · have hc : ¬ (due = 0 ∨ arW ks wd < 0) := by simpa using hb2
          rw [if_neg hc] at hg
          refine ⟨_, rfl, (ed_op (K := K) (z := .int (arW ks wd - 1)) (ed_var rfl (.int _)) ed_int rd_int0).at fun v7 H7 e7 i7 => ?_⟩
          obtain rfl := i7.int_of
          exact ⟨due, arW ks wd - 1, rfl, rfl, _, _, _, rfl, ((e4.trans e5).trans e6).trans e7, hg⟩
      · rintro σ' H' ⟨o4, o5, due, rfl, e4, hg⟩
        rw [hl, List.drop_length] at hg
        refine st_ret (Ed.at (K := K) (d := .bool (decide (due = 0))) (ed_op (ed_var rfl (.int due)) ed_int rd_eqi) fun v7 H7 e7 i7 => ?_)
        obtain rfl := i7.bl_of
        have := q H7 (((e12.trans e3).trans e4).trans e7)
        rw [hb', hg] at this
        exact this
    · have hw : ws = [] := List.eq_nil_of_length_eq_zero (by omega)
      subst hw
      refine no (fun H1 e1 Q' q' => ⟨_, rfl, .inl ⟨[.tuple [], .int 1, .int 4000], .bool false, .cons (iv.ex e1) (.cons (.int _) (.cons (.int _) .nil)), ⟨_, _, _, rfl, rfl⟩, fun v2 H2 e2 i2 => ?_⟩⟩) hb
      obtain rfl := i2.bl_of
      exact q' H2 e2
  · exact no (fun H1 e1 Q' q' => ⟨_, rfl, .inr ⟨a, xs, 1, 4000, rfl, e1 _ _ ha, q'⟩⟩) hb
  · refine no (fun H1 e1 Q' q' => ⟨_, rfl, .inl ⟨[d, .int 1, .int 4000], .bool false, .cons (iv.ex e1) (.cons (.int _) (.cons (.int _) .nil)), ⟨_, _, _, rfl, by rw [isTup_not hd]⟩, fun v2 H2 e2 i2 => ?_⟩⟩) hb
    obtain rfl := i2.bl_of
    exact q' H2 e2
end
end K55
namespace K55
open PySem PySem.Spec PyProof.Rows L2 W5 M5
open Evl (Ex Ev)
section
variable {P : Program} {w : World} {K : PySem.W.Frag} {mg : Str → Option Value} {base : Heap}
structure FP where
  x : Addr
  dx : Addr
  p : Addr
  af : Addr
  b : BP
  /-- what the caller holds -/
  Z : List Addr
def FP.S (f : FP) : List Addr := f.af :: f.b.S
def MkT (K : PySem.W.Frag) (H : Hp) (f : FP) (ns : List BN) (ss : List M5.Ty) : (L2.Key × V) → Mkr → Prop := fun p m => p.1 = .inr m.1 ∧ ∃ l ids, p.2 = .ref l ∧ H l = some (.lst (ids.map fun i => V.int (i : Nat))) ∧ l ∉ f.S ∧ l ∉ f.Z ∧ DnAll ns ids (m.2.map (tput ss))
def ToldAt (K : PySem.W.Frag) (H : Hp) (f : FP) (ns : List BN) (ks : List Knd) (i : Nat) (td : Addr) : Prop := ∃ k is ss kd kvt, ns[i]? = some (.of k is) ∧ DnAll ns is ss ∧ kd ∈ ks ∧ kd.1 = k ∧ H td = some (.dK kvt) ∧ td ∉ f.S ∧ td ∉ f.Z ∧ Paired (MkT K H f ns ss) kvt kd.2.2
theorem mkt_keys {H : Hp} {f : FP} {ns : List BN} {ss : List M5.Ty} {kvt : List (L2.Key × V)} {l : List Mkr} (pr : Paired (MkT K H f ns ss) kvt l) : kvt.map (·.1) = l.map fun m => (.inr m.1 : L2.Key) := by
  induction pr with
  | nil => rfl
  | cons a b ih => rw [List.map_cons, List.map_cons, ih, a.1]
theorem MkT.mono {H H' : Hp} {f : FP} {ns more : List BN} {ss : List M5.Ty} {p : L2.Key × V} {m : Mkr} (h : MkT K H f ns ss p m) (k : Kp f.S H H') : MkT K H' f (ns ++ more) ss p m := by
  obtain ⟨h1, l, ids, h2, h3, h4, hz, h5⟩ := h
  exact ⟨h1, l, ids, h2, k _ _ h4 h3, h4, hz, h5.mono⟩
theorem ToldAt.mono {H H' : Hp} {f : FP} {ns more : List BN} {ks : List Knd} {i : Nat} {td : Addr} (h : ToldAt K H f ns ks i td) (k : Kp f.S H H') : ToldAt K H' f (ns ++ more) ks i td := by
  obtain ⟨kk, is, ss, kd, kvt, h1, h2, h3, h4, h5, h6, hz, h7⟩ := h
  exact ⟨kk, is, ss, kd, kvt, getElem?_mono h1, h2.mono, h3, h4, k _ _ h6 h5, h6, hz, Paired.mapP h7 fun _ _ z => z.mono k⟩
/-- a plan that stays while all but S stays: its lists of makers are not in S -/
theorem plan_sep {S : List Addr} {H : Hp} {p : Addr} {ks : List Knd} (h : ∀ H', Kp S H H' → PlanAt K H' p ks) : ∃ dx vp hh vb lu dn lf dxh am ak ac ame ad acp kvm kvk, H p = some (.ins (He.ga K "Plan") dx [("program", vp), ("heads", .ref hh), ("book", vb), ("units", .ref lu), ("many_defs", .int 0), ("numbers", .ref dn), ("firsts", .ref lf)]) ∧
    H hh = some (.ins (He.ga K "Heads") dxh [("makers", .ref am), ("kinds", .ref ak), ("classes", .ref ac), ("methods", .ref ame), ("defs", .ref ad), ("captured", .ref acp)]) ∧ H am = some (.dK kvm) ∧ MakersT K H kvm ks ∧ H ak = some (.dK kvk) ∧
    ∀ k ∈ ks, ∃ t l, valV kvk (.inr k.1) = some (.ref t) ∧ H t = some (.tup [.int (k.2.1 : Nat), .ref l]) ∧ H l = some (.lst (k.2.2.map fun m => V.str m.1)) ∧ l ∉ S := by
  obtain ⟨dx, vp, hh, vb, lu, dn, lf, p1, p2, _⟩ := h H (Kp.refl _ _)
  obtain ⟨dxh, am, ak, ac, ame, ad, acp, kvm, kvk, g1, g2, g3, g4, g5⟩ := p2
  refine ⟨dx, vp, hh, vb, lu, dn, lf, dxh, am, ak, ac, ame, ad, acp, kvm, kvk, p1, g1, g2, g3, g4, fun k hk => ?_⟩
  obtain ⟨t, l, m1, m2, m3⟩ := g5.1 k hk
  refine ⟨t, l, m1, m2, m3, fun hl => ?_⟩
  have ne : ∀ {y o}, H y = some o → (∀ xs, o ≠ .lst xs) → y ≠ l := fun {y o} hy ho z => by rw [z, m3] at hy; exact ho _ (Option.some.inj hy).symm
  obtain ⟨dx2, vp2, hh2, vb2, lu2, dn2, lf2, q1, q2, _⟩ := h (upd H l (.dK [])) ((Kp.refl _ _).upd hl)
  rw [upd_ne (ne p1 fun _ z => nomatch z), p1] at q1
  injection q1 with q1
  injection q1 with _ _ q1
  simp only [List.cons.injEq, Prod.mk.injEq, V.ref.injEq, true_and, and_true] at q1
  obtain ⟨_, e1, _⟩ := q1
  subst e1
  obtain ⟨dxh2, am2, ak2, ac2, ame2, ad2, acp2, kvm2, kvk2, r1, r2, r3, r4, r5⟩ := q2
  rw [upd_ne (ne g1 fun _ z => nomatch z), g1] at r1
  injection r1 with r1
  injection r1 with _ _ r1
  simp only [List.cons.injEq, Prod.mk.injEq, V.ref.injEq, true_and, and_true] at r1
  obtain ⟨_, e2, _⟩ := r1
  subst e2
  rw [upd_ne (ne g4 fun _ z => nomatch z), g4] at r4
  injection r4 with r4
  injection r4 with r4
  subst r4
  obtain ⟨t2, l2, s1, s2, s3⟩ := r5.1 k hk
  rw [m1] at s1
  injection s1 with s1
  injection s1 with s1
  subst s1
  rw [upd_ne (ne m2 fun _ z => nomatch z), m2] at s2
  injection s2 with s2
  injection s2 with s2
  simp only [List.cons.injEq, V.ref.injEq, true_and, and_true] at s2
  subst s2
  rw [upd_same] at s3
  cases s3
structure FieldsAt (P : Program) (w : World) (K : PySem.W.Frag) (H : Hp) (f : FP) (ns : List BN) (ks : List Knd) (fk : List Nat) : Prop where
  x : H f.x = some (.ins (He.ga K "Fields") f.dx [("plan", .ref f.p), ("bank", .ref f.b.x), ("found", .ref f.af)])
  p : ∀ H', Kp (f.Z ++ f.S) H H' → PlanAt K H' f.p ks
  b : BankAt P w K H f.b ns
  nf : f.af ∉ f.b.S
  xS : f.x ∉ f.S
  bS : f.b.x ∉ f.S
  zS : ∀ z ∈ f.Z, z ∉ f.S ∧ z ≠ f.x ∧ z ≠ f.b.x
  zH : ∀ z ∈ f.Z, ∃ o, H z = some o
  found : ∃ kvf, H f.af = some (.dK kvf) ∧ kvf.length ≤ fk.length ∧ (∀ j ∈ fk, ∃ v, valV kvf (.inl ((j : Nat) : Int)) = some v) ∧ ∀ key v, valV kvf key = some v → ∃ i td, key = .inl ((i : Nat) : Int) ∧ v = .ref td ∧ ToldAt K H f ns ks i td
theorem FieldsAt.pl {H : Hp} {f : FP} {ns : List BN} {ks : List Knd} {fk : List Nat} (h : FieldsAt P w K H f ns ks fk) : PlanAt K H f.p ks := h.p H (Kp.refl _ _)
theorem FP.zs {f : FP} {H H' : Hp} (k : Kp f.S H H') : Kp (f.Z ++ f.S) H H' := k.sub fun p h => List.mem_append.mpr (.inr h)
def Sof (P : Program) (w : World) (K : PySem.W.Frag) : Sp := fun vs H Q E => ∃ f ns ks fk i k is ss kd, vs = [.ref f.x, .int ((i : Nat) : Int)] ∧ FieldsAt P w K H f ns ks fk ∧ PgOk ks ∧ ns[i]? = some (.of k is) ∧ DnAll ns is ss ∧ kd ∈ ks ∧ kd.1 = k ∧ ss.length = kd.2.1 ∧ fk.length ≤ 1000 ∧ ns.length ≤ 39000 ∧
  ∀ td H2 more, Kp f.S H H2 → Tk H H2 → FieldsAt P w K H2 f (ns ++ more) ks (i :: fk) → ToldAt K H2 f (ns ++ more) ks i td → more.length ≤ 80 → (i ∈ fk → Ex H H2 ∧ more = []) → Q (.ref td) H2
theorem FP.bS_sub (f : FP) : ∀ p ∈ f.b.S, p ∈ f.S := fun p h => List.mem_cons_of_mem _ h
/-- the numbers of a maker's fields -/
theorem te_fields (T : Tx K mg) {f : FP} {ns : List BN} {o1 o2 o3 o4 o6 : Option V} {vr : V} {fs ss : List M5.Ty} {is : List Nat} {KS : List (Str × Nat)} {H1 : Hp} {te0 : TE} {Q : VK} (hx : H1 f.x = some (.ins (He.ga K "Fields") f.dx [("plan", .ref f.p), ("bank", .ref f.b.x), ("found", .ref f.af)])) (hxS : f.x ∉ f.S) (hB : BankAt P w K H1 f.b ns)
    (hva : Im K H1 vr (.tuple (is.map fun i => .int ((i : Nat) : Int)))) (his : DnAll ns is ss) (hK : KsOk KS) (hfs : ∀ t ∈ fs, Ty.Wf KS is.length t ∧ t.depth ≤ 4 ∧ t.size ≤ 8) (hfl : fs.length ≤ 3) (hns : ns.length ≤ 39500)
    (hd : Ed K te0 [some (.ref f.x), o1, o2, o3, o4, some vr, o6] H1 (.tuple (Ty.dAll fs)))
    (q : ∀ D H2 more ids, H1 D = none → Kp f.b.S H1 H2 → Tk H1 H2 → BankAt P w K H2 f.b (ns ++ more) → H2 D = some (.lst (ids.map fun i => V.int ((i : Nat) : Int))) → DnAll (ns ++ more) ids (tputAll ss fs) → more.length ≤ 24 → Q (.ref D) H2) :
    tLc (iTup K te0) (gName 6) tYes (tMeth (He.ga K "Bank") "number" (SbankNumber P w K 4) [] E0 (tFld K (tVar 0) "bank") (tCons (tVar 6) (tCons (tVar 5) tNil))) [6] [some (.ref f.x), o1, o2, o3, o4, some vr, o6] H1 Q := by
  refine hd.at fun v5 H5 e5 i5 => ?_
  obtain ⟨a, vs, rfl, ha, hs⟩ := i5.tup_of
  have hB5 := hB.kp e5
  have hx5 := e5 _ _ hx
  refine ⟨a, rfl, ⟨vs, ha⟩, fun D hD => ?_⟩
  have nD : ∀ y ∈ [f.b.x, f.b.an, f.b.az, f.b.ai], y ≠ D := fun y hy z => by
    obtain ⟨o, ho⟩ := hB5.some y hy
    rw [z, hD] at ho; cases ho
  have nDS : D ∉ f.b.S := fun h => nD D (by simp only [BP.S] at h; exact List.mem_cons_of_mem _ h) rfl
  have fxS : f.x ∉ f.b.S := fun h => hxS (f.bS_sub _ h)
  have nxD : f.x ≠ D := fun z => by rw [z, hD] at hx5; cases hx5
  have hsum : ∀ j, Ty.sizeAll (fs.take j) ≤ 8 * j := fun j => by
    induction j with
    | zero => simp [Ty.sizeAll]
    | succ j ih =>
      cases e : fs[j]? with
      | none =>
        have : fs.take (j + 1) = fs.take j := by rw [List.take_succ, e]; simp
        rw [this]; omega
      | some u =>
        rw [take_snoc e, Ty.sizeAll_append]
        have := (hfs u (List.mem_of_getElem? e)).2.2
        simp only [Ty.sizeAll]
        omega
  refine lc_tup (K := K) (a := a) (xs := vs) (fun j H' => ∃ more js, Kp f.b.S H5 H' ∧ Tk H5 H' ∧ BankAt P w K H' f.b (ns ++ more) ∧ H' D = some (.lst (js.map fun i => V.int ((i : Nat) : Int))) ∧ DnAll (ns ++ more) js (tputAll ss (fs.take j)) ∧ more.length ≤ Ty.sizeAll (fs.take j)) ?_ ?_ ?_ ?_
  · refine ⟨[], [], Kp.of (Ex.new hD), Tk.ex (Ex.new hD), by simpa using hB5.kp (Ex.new hD), upd_same .., ?_, Nat.zero_le _⟩
    simp only [List.take_zero, tputAll]
    exact .nil
  · rintro j H' _ ⟨more, js, k, t, _⟩
    exact t.sq ha
  · rintro j v6 H' hv ⟨more, js, k6, t6, hB6, h6, d6, l6⟩
    obtain ⟨y, hy, iy⟩ := hs.getV hv
    rw [Ty.dAll_map, List.getElem?_map] at hy
    obtain ⟨u, hu, rfl⟩ := Option.map_eq_some_iff.mp hy
    have hum := List.mem_of_getElem? hu
    have hjl : j < fs.length := (List.getElem?_eq_some_iff.mp hu).1
    obtain ⟨w1, w2, w3⟩ := hfs u hum
    have sj : Ty.sizeAll (fs.take (j + 1)) = Ty.sizeAll (fs.take j) + u.size := by rw [take_snoc hu, Ty.sizeAll_append]; simp [Ty.sizeAll]
    have hsj := hsum j
    refine ⟨wipe_set _ _ _, ?_⟩
    refine te_yes ?_
    refine iteT ?_
    refine te_fld rfl (k6 _ _ fxS hx5) T.c_Fields T.n_Fields_bank rfl ?_
    refine ⟨f.b.x, f.b.dx, _, rfl, hB6.x, rfl, ⟨_, rfl, _, rfl, f.b, ns ++ more, u, v6, vr, is, ss, KS, rfl, hB6, iy.mono t6, by omega, hK, w1, .inr ⟨(hva.ex e5).mono t6, his.mono⟩, by rw [List.length_append]; omega, fun i7 H7 m7 k7 t7 hB7 d7 l7 => ?_⟩⟩
    have h7 := k7 _ _ nDS h6
    have jl : js.length ≤ fs.length := by
      have := d6.len
      rw [this, tputAll_map, List.length_map, List.length_take]
      omega
    refine ⟨_, h7, by rw [List.length_map]; exact Evl.sz_lt (by omega), more ++ m7, js ++ [i7], ?_, ?_, ?_, ?_, ?_, ?_⟩
    · exact fun y o ny hy => by
        by_cases e : y = D
        · rw [e, hD] at hy; cases hy
        · rw [upd_ne e]; exact k7 _ _ ny (k6 _ _ ny hy)
    · exact (t6.trans t7).trans (Tk.upd (no_lst h7))
    · rw [← List.append_assoc]
      exact hB7.keep (fun y hy => upd_ne (nD y hy)) (Tk.upd (no_lst h7))
    · rw [List.map_append]
      exact upd_same ..
    · rw [take_snoc hu, tputAll_map, List.map_append, ← tputAll_map, ← List.append_assoc]
      exact DnAll.snoc d7 d6.mono
    · rw [List.length_append]; omega
  · rintro H7 ⟨more, js, k7, t7, hB7, h7, d7, l7⟩
    have hvl : vs.length = fs.length := by rw [hs.length, Ty.dAll_map, List.length_map]
    rw [hvl, List.take_length] at d7
    have := hsum vs.length
    exact q D H7 more js (Evl.fresh_back e5 hD) ((Kp.of e5).trans k7) ((Tk.ex e5).trans t7) hB7 h7 d7 (by omega)
theorem ok_Fields_of (T : Tx K mg) : Ok P w K mg base 9 d_Fields_of ["self", "number"] (Sof P w K) := by
  have G_Bank_number := ok_Bank_number (P := P) (w := w) (base := base) T 4
  have G_Bank_head := ok_Bank_head (P := P) (w := w) (base := base) T
  have G_Bank_args_at := ok_Bank_args_at (P := P) (w := w) (base := base) T
  refine (T.F_Fields_of).ok sc_Fields_of (fun vs H Q E ⟨f, ns, ks, fk, i, k, is, ss, kd, e, _⟩ => by rw [e]; rfl) (fun cdv A outer s H vs Q E hr h => ?_)
  obtain ⟨f, ns, ks, fk, i, k, is, ss, kd, rfl, hF, hP, hi, his, hkd, hk, hss, hcn, hns, q⟩ := h
  refine ⟨_, PSs.nox ((pss_cons (ps_if (pt_cmpR (op_ninK (K := K) rfl hr) (pv 1) (pe_fldK (K := K) rfl (pv 0) rfl) rfl) (pss_cons (ps_asg (pe_tup (pa_cons (pe_meth (pe_fldK (K := K) rfl (pv 0) rfl) T.c_Bank T.M_Bank_head G_Bank_head (hr.mono (by omega)) T.B_Bank_head .nil pass0 (pa_cons (pv 1) pa_nil)) (pa_cons (pe_meth (pe_fldK (K := K) rfl (pv 0) rfl) T.c_Bank T.M_Bank_args_at G_Bank_args_at (hr.mono (by omega)) T.B_Bank_args_at .nil pass0 (pa_cons (pv 1) pa_nil)) pa_nil))) (pg_tupK (K := K) (n := 2) rfl rfl (pgs_cons (pg_name (i := 4) sc_Fields_of.nd rfl (by first | exact Or.inl rfl | exact Or.inr rfl)) (pgs_cons (pg_name (i := 5) sc_Fields_of.nd rfl (by first | exact Or.inl rfl | exact Or.inr rfl)) pgs_nil))))
  (pss_cons (ps_set (i := 2) sc_Fields_of.nd rfl (by first | exact Or.inl rfl | exact Or.inr rfl) pe_dnewK)
  (pss_cons (ps_for PassesOwn.never rfl (pi_listK (K := K) rfl (pe_ix (ix_seqK (K := K) rfl) (pe_dget (hu_of hr) (pe_fldK (K := K) rfl (pe_fldK (K := K) rfl (pe_fldK (K := K) rfl (pv 0) rfl) rfl) rfl) (pv 4) (fun _ _ => rfl)) pe_int (fun _ _ => rfl))) (pg_name (i := 3) sc_Fields_of.nd rfl (by first | exact Or.inl rfl | exact Or.inr rfl)) (pss_one (ps_dput (hu_of hr) (pv 2) (pv 3) (pe_lc (own := [("field", 6)]) (by rfl) sc_Fields_of.nd (pi_tupK (K := K) rfl (pe_ix (ix_seqK (K := K) rfl) (pe_dget (hu_of hr) (pe_fldK (K := K) rfl (pe_fldK (K := K) rfl (pe_fldK (K := K) rfl (pv 0) rfl) rfl) rfl) (pv 3) (fun _ _ => rfl)) pe_int (fun _ _ => rfl))) (blkOk_by (own := [("field", 6)]) (N := ["self", "number", "told", "maker", "kind", "args", "field"]) (sc := defScope s_Fields_of) (by decide +kernel)) (fun _ _ _ _ _ => pg_name (i := 6) sc_Fields_of.nd rfl (by first | exact Or.inl rfl | exact Or.inr rfl)) (fun _ _ _ _ _ => pts_nil) (fun _ _ _ _ _ => (pe_meth (pe_fldK (K := K) rfl (pv 0) rfl) T.c_Bank T.M_Bank_number G_Bank_number (hr.mono (by omega)) T.B_Bank_number .nil pass0 (pa_cons (pv 6) (pa_cons (pv 5) pa_nil))))) rfl)))
  (pss_one (ps_dput (hu_of hr) (pe_fldK (K := K) rfl (pv 0) rfl) (pv 1) (pv 2) rfl))))) pss_nil)
  (pss_one (ps_ret (pe_dget (hu_of hr) (pe_fldK (K := K) rfl (pv 0) rfl) (pv 1) (fun _ _ => rfl)))))), ?_⟩
  obtain ⟨kvf, hf1, hf2, hf4, hf3⟩ := hF.found
  have xF : ∀ {H1 : Hp}, Kp f.S H H1 → H1 f.x = some (.ins (He.ga K "Fields") f.dx [("plan", .ref f.p), ("bank", .ref f.b.x), ("found", .ref f.af)]) := fun k => k _ _ hF.xS hF.x
  cases hv : valV kvf (.inl ((i : Nat) : Int)) with
  | some v =>
    obtain ⟨i', td, e1, rfl, hT⟩ := hf3 _ _ hv
    have ei : i' = i := by have := Sum.inl.inj e1; omega
    subst ei
    refine sq_if (b := false) ((eb_ninDI (ed_var rfl (.int _)) (ev_fld (ev_v rfl) hF.x T.c_Fields T.n_Fields_found rfl) hf1).to (by rw [hv]; rfl)) (fun z => by cases z) fun _ H1 e1 => ?_
    have k1 : Kp f.S H H1 := Kp.of e1
    refine st_ret (ev_dgetI (K := K) (ev_fld (ev_v rfl) (e1 _ _ hF.x) T.c_Fields T.n_Fields_found rfl) (ed_var rfl (.int _)) (e1 _ _ hf1) hv H1 (Ex.refl _) _ fun H2 e2 => ?_)
    have k2 : Kp f.S H H2 := Kp.of (e1.trans e2)
    refine q td H2 [] k2 (Tk.ex (e1.trans e2)) ⟨xF k2, fun H' k' => hF.p H' ((FP.zs k2).trans k'), by simpa using hF.b.kp (e1.trans e2), hF.nf, hF.xS, hF.bS, hF.zS, (fun z hz => let ⟨o, ho⟩ := hF.zH z hz; ⟨o, (e1.trans e2) _ _ ho⟩), ⟨kvf, (e1.trans e2) _ _ hf1, by simp only [List.length_cons]; omega, (fun j hj => by
      rcases List.mem_cons.mp hj with rfl | hj
      · exact ⟨_, hv⟩
      · exact hf4 j hj), fun key v h => ?_⟩⟩ (hT.mono k2) (Nat.zero_le _) fun _ => ⟨e1.trans e2, rfl⟩
    obtain ⟨a, b, c1, c2, c3⟩ := hf3 key v h
    exact ⟨a, b, c1, c2, c3.mono k2⟩
  | none =>
    refine sq_if (b := true) ((eb_ninDI (ed_var rfl (.int _)) (ev_fld (ev_v rfl) hF.x T.c_Fields T.n_Fields_found rfl) hf1).to (by rw [hv]; rfl)) (fun _ H1 e1 => ?_) fun z => by cases z
    refine sq_asg (te_tup (te_cons ?_))
    have k1 : Kp f.S H H1 := Kp.of e1
    have hB1 := hF.b.kp e1
    refine te_fld rfl (xF k1) T.c_Fields T.n_Fields_bank rfl ⟨f.b.x, f.b.dx, _, rfl, hB1.x, rfl, ⟨_, rfl, f.b, ns, i, _, rfl, hB1, hi, fun vk H2 e2 i2 => ?_⟩⟩
    obtain rfl := Im.str_of (show Im K H2 vk (.str k) from i2)
    have hB2 := hB1.kp e2
    have k2 : Kp f.S H H2 := k1.ex e2
    refine te_cons (te_fld rfl (xF k2) T.c_Fields T.n_Fields_bank rfl ⟨f.b.x, f.b.dx, _, rfl, hB2.x, rfl, ⟨_, rfl, f.b, ns, i, _, rfl, hB2, hi, fun va H3 e3 i3 => ?_⟩⟩)
    refine ⟨by show 2 ≤ sizeLine; decide, fun t ht => ?_⟩
    refine ⟨t, _, rfl, Evl.st_of (upd_same ..), rfl, _, _, rfl, _, _, rfl, rfl, ?_⟩
    have e4 : Ex H (upd H3 t (.tup [.str k, va])) := ((e1.trans e2).trans e3).trans (Ex.new ht)
    have i4 : Im K (upd H3 t (.tup [.str k, va])) va (.tuple (is.map fun i => .int ((i : Nat) : Int))) := Im.ex (Ex.new ht) i3
    generalize upd H3 t (.tup [.str k, va]) = H4 at e4 i4
    refine sq_set fun td htd => ?_
    have e5 : Ex H4 (upd H4 td (.dK [])) := Ex.new htd
    have h5d : upd H4 td (.dK []) td = some (.dK []) := upd_same ..
    have e05 : Ex H (upd H4 td (.dK [])) := e4.trans e5
    have htd0 : H td = none := Evl.fresh_back e4 htd
    have i5 := i4.ex e5
    generalize upd H4 td (.dK []) = H5 at e5 h5d e05 i5
    have k5 : Kp f.S H H5 := Kp.of e05
    have hB5 := hF.b.kp e05
    have ntS : td ∉ f.S := fun h => by
      rcases List.mem_cons.mp h with h | h
      · rw [h, hf1] at htd0; cases htd0
      · obtain ⟨o, ho⟩ := hF.b.some td (List.mem_cons_of_mem _ (by simpa [BP.S] using h))
        rw [ho] at htd0; cases htd0
    have ntZ : td ∉ f.Z := fun h => by
      obtain ⟨o, ho⟩ := hF.zH td h
      rw [ho] at htd0; cases htd0
    have nxt : f.x ≠ td := fun z => by have := hF.x; rw [z, htd0] at this; cases this
    have nbt : ∀ y ∈ [f.b.x, f.b.an, f.b.az, f.b.ai], y ≠ td := fun y hy z => by
      obtain ⟨o, ho⟩ := hF.b.some y hy
      rw [z, htd0] at ho; cases ho
    have hL : is.length = kd.2.1 := by rw [his.len, hss]
    obtain ⟨hk1, hk2, hk3, hk4⟩ := hP.kn kd hkd
    subst hk
    -- the list of makers
    obtain ⟨dxp, vp, hh, vb, lu, dn, lf, dxh, am, ak, ac, ame, ad, acp, kvm, kvk, p1, g1, g2, g3, g4, g5⟩ := plan_sep (K := K) (S := f.S) (H := H5) (p := f.p) (ks := ks) fun H' k' => hF.p H' (FP.zs (k5.trans k'))
    obtain ⟨t', l', m1, m2, m3, nlS⟩ := g5 kd hkd
    have hx5 := xF k5
    have imk : ImAll K H5 (kd.2.2.map fun m => V.str m.1) (kd.2.2.map fun m => PyData.str m.1) := by
      have : ∀ l : List Mkr, ImAll K H5 (l.map fun m => V.str m.1) (l.map fun m => PyData.str m.1) := fun l => by
        induction l with
        | nil => exact .nil
        | cons m l ih => exact .cons (.str _) ih
      exact this _
    have nlt : l' ≠ td := fun z => by rw [z, h5d] at m3; cases m3
    refine sq_forE (ev_ixT (ev_dget (K := K) (ev_fld (ev_fld (ev_fld (ev_v rfl) hx5 T.c_Fields T.n_Fields_plan rfl) p1 T.c_Plan T.n_Plan_heads rfl) g1 T.c_Heads T.n_Heads_kinds rfl) (ed_var rfl (.str _)) g4 m1) (Evl.st_of m2) rfl) m3 imk fun H6 e6 => ?_
    have k6 : Kp f.S H H6 := k5.ex e6
    have hB6 := hB5.kp e6
    refine ⟨fun j σ' H' => ∃ o3 o6 more kvt, σ' = [some (.ref f.x), some (.int ((i : Nat) : Int)), some (.ref td), o3, some (.str kd.1), some va, o6] ∧ Kp (td :: f.b.S) H6 H' ∧ Tk H6 H' ∧ BankAt P w K H' f.b (ns ++ more) ∧ H' td = some (.dK kvt) ∧ Paired (MkT K H' f (ns ++ more) ss) kvt (kd.2.2.take j) ∧ more.length ≤ 24 * j ∧ j ≤ kd.2.2.length,
      ⟨none, none, [], [], rfl, Kp.refl _ _, Tk.refl _, by simpa using hB6, e6 _ _ h5d, .nil, Nat.zero_le _, Nat.zero_le _⟩, ?_, ?_, ?_⟩
    · rintro j σ' H' ⟨_, _, _, _, _, kk, tt, _⟩
      refine ⟨tt, kk _ _ (fun h => ?_) (e6 _ _ m3)⟩
      rcases List.mem_cons.mp h with h | h
      · exact nlt h
      · exact nlS (f.bS_sub _ h)
    · rintro j y vy σ' H' hy iy ⟨o3, o6, more, kvt, rfl, kk, tt, hB', h'd, pr, lm, lj⟩
      rw [List.getElem?_map] at hy
      obtain ⟨m, hm, rfl⟩ := Option.map_eq_some_iff.mp hy
      have hmm := List.mem_of_getElem? hm
      have hjl : j < kd.2.2.length := (List.getElem?_eq_some_iff.mp hm).1
      obtain rfl := iy.str_of
      refine gd_name _ ?_
      -- the heap so far
      have kS : Kp f.S H H' := ((k6.sub (T := td :: f.S) (fun p h => List.mem_cons_of_mem _ h)).trans (kk.sub (T := td :: f.S) (fun p h => by
        rcases List.mem_cons.mp h with h | h
        · exact h ▸ List.mem_cons_self ..
        · exact List.mem_cons_of_mem _ (f.bS_sub _ h)))).drop htd0
      obtain ⟨dxp, vp, hh, vb, lu, dn, lf, dxh, am, ak, ac, ame, ad, acp, kvm, kvk, p1, g1, g2, g3, g4, g5⟩ := plan_sep (K := K) (S := f.S) (H := H') (p := f.p) (ks := ks) fun H'' k' => hF.p H'' (FP.zs (kS.trans k'))
      have hx' := xF kS
      obtain ⟨vm, n1, n2⟩ := g3.1 kd hkd m hmm
      obtain ⟨w1, w2, w3⟩ := hk4 m hmm
      refine te_fields T hx' hF.xS hB' ((i5.ex e6).mono tt) his.mono hP.g.ok (KS := ksOf ks) (fs := m.2) (fun t ht => by rw [hL]; exact w3 t ht) w2 (by rw [List.length_append]; omega) (ed_op (ed_ev (ev_dget (K := K) (ev_fld (ev_fld (ev_fld (ev_v rfl) hx' T.c_Fields T.n_Fields_plan rfl) p1 T.c_Plan T.n_Plan_heads rfl) g1 T.c_Heads T.n_Heads_makers rfl) (ed_var rfl (.str _)) g2 n1) n2) ed_int (rd_ix (i := 1) rfl)) fun D H2 more2 ids hD k7 t7 hB7 h7 d7 l7 => ?_
      have ntb : td ∉ f.b.S := fun h => ntS (f.bS_sub _ h)
      have h7d := k7 _ _ ntb h'd
      have key := mkt_keys pr
      have hnone : valV kvt (.inr m.1) = none := by
        cases e : valV kvt (.inr m.1) with
        | none => rfl
        | some v' =>
          have h1 := valV_in e
          rw [key] at h1
          obtain ⟨m', hm', e'⟩ := List.mem_map.mp h1
          have e'' : m'.1 = m.1 := Sum.inr.inj e'
          obtain ⟨kx, hkx⟩ := List.getElem?_of_mem hkd
          have nd := (hP.apart hkx).1
          have h2 : ((nmk kd).take (j + 1)).Nodup := (List.take_sublist _ _).nodup nd
          have hni : (nmk kd)[j]? = some m.1 := by rw [List.getElem?_map, hm]; rfl
          rw [take_snoc hni, List.nodup_append] at h2
          exact absurd rfl (h2.2.2 m.1 (by rw [← e'', ← List.map_take]; exact List.mem_map.mpr ⟨m', hm', rfl⟩) m.1 (by simp))
      have lkv : kvt.length ≤ 3 := by have := Paired.length pr; rw [this, List.length_take]; omega
      refine ⟨_, rfl, _, rfl, td, _, rfl, DPut.k (k := .inr m.1) h7d (Evl.sz_lt (by omega)), ?_⟩
      rw [putK_new _ hnone]
      have nDt : D ≠ td := fun z => by rw [z, h'd] at hD; cases hD
      have nDS : D ∉ f.S := fun h => by
        rcases List.mem_cons.mp h with h | h
        · have : H' f.af ≠ none := by
            rw [kk _ _ (fun h => by
              rcases List.mem_cons.mp h with h | h
              · exact ntS (by rw [← h]; exact List.mem_cons_self ..)
              · exact hF.nf h) (e6 _ _ (e05 _ _ hf1))]
            exact fun z => nomatch z
          exact this (h ▸ hD)
        · obtain ⟨o, ho⟩ := hB'.some D (List.mem_cons_of_mem _ (by simpa [BP.S] using h))
          rw [ho] at hD; cases hD
      have nDZ : D ∉ f.Z := fun h => by
        obtain ⟨o, ho⟩ := hF.zH D h
        rw [kS _ _ (hF.zS D h).1 ho] at hD; cases hD
      have t8 : Tk H2 (upd H2 td (.dK (kvt ++ [(.inr m.1, .ref D)]))) := Tk.upd (no_dK h7d)
      have kk8 : Kp (td :: f.b.S) H' (upd H2 td (.dK (kvt ++ [(.inr m.1, .ref D)]))) := (k7.sub (fun p h => List.mem_cons_of_mem _ h)).upd (List.mem_cons_self ..)
      refine ⟨_, _, more ++ more2, _, rfl, kk.trans kk8, (tt.trans t7).trans t8, ?_, upd_same .., ?_, by rw [List.length_append]; omega, hjl⟩
      · rw [← List.append_assoc]
        exact hB7.keep (fun y hy => upd_ne (nbt y hy)) t8
      · rw [take_snoc hm]
        refine Paired.snoc (Paired.mapP pr fun a b z => ?_) ⟨rfl, D, ids, rfl, by rw [upd_ne nDt]; exact h7, nDS, nDZ, by rw [← tputAll_map, ← List.append_assoc]; exact d7⟩
        obtain ⟨z1, l, ids', z2, z3, z4, zz, z5⟩ := z
        refine ⟨z1, l, ids', z2, kk8 _ _ (fun h => ?_) z3, z4, zz, by rw [← List.append_assoc]; exact z5.mono⟩
        rcases List.mem_cons.mp h with h | h
        · rw [h, h'd] at z3; cases z3
        · exact z4 (f.bS_sub _ h)
    · rintro σ' H' ⟨o3, o6, more, kvt, rfl, kk, tt, hB', h'd, pr, lm, lj⟩
      rw [List.length_map, List.take_length] at pr
      rw [List.length_map] at lm
      have kS : Kp f.S H H' := ((k6.sub (T := td :: f.S) (fun p h => List.mem_cons_of_mem _ h)).trans (kk.sub (T := td :: f.S) (fun p h => by
        rcases List.mem_cons.mp h with h | h
        · exact h ▸ List.mem_cons_self ..
        · exact List.mem_cons_of_mem _ (f.bS_sub _ h)))).drop htd0
      have naf : f.af ∉ td :: f.b.S := fun h => by
        rcases List.mem_cons.mp h with h | h
        · exact ntS (by rw [← h]; exact List.mem_cons_self ..)
        · exact hF.nf h
      have hf' : H' f.af = some (.dK kvf) := kk _ _ naf (e6 _ _ (e05 _ _ hf1))
      have tS : Tk H H' := ((Tk.ex e05).trans (Tk.ex e6)).trans tt
      refine ⟨_, rfl, te_fld rfl (xF kS) T.c_Fields T.n_Fields_found rfl ⟨_, rfl, f.af, _, rfl, DPut.k (k := .inl ((i : Nat) : Int)) hf' (Evl.sz_lt (by omega)), ?_⟩⟩
      have k9 : Kp f.S H (upd H' f.af (.dK (putK kvf (.inl ((i : Nat) : Int)) (.ref td)))) := kS.upd (List.mem_cons_self ..)
      have k9' : Kp f.S H' (upd H' f.af (.dK (putK kvf (.inl ((i : Nat) : Int)) (.ref td)))) := (Kp.refl _ _).upd (List.mem_cons_self ..)
      have t9 : Tk H' (upd H' f.af (.dK (putK kvf (.inl ((i : Nat) : Int)) (.ref td)))) := Tk.upd (no_dK hf')
      have h9f : upd H' f.af (.dK (putK kvf (.inl ((i : Nat) : Int)) (.ref td))) f.af = some (.dK (putK kvf (.inl ((i : Nat) : Int)) (.ref td))) := upd_same ..
      have hB9 : BankAt P w K (upd H' f.af (.dK (putK kvf (.inl ((i : Nat) : Int)) (.ref td)))) f.b (ns ++ more) := hB'.keep (fun y hy => upd_ne (fun z => by
        rcases List.mem_cons.mp hy with h | h
        · exact hF.bS (by rw [← h, z]; exact List.mem_cons_self ..)
        · exact hF.nf (by rw [← z]; simpa [BP.S] using h))) t9
      have h9d : upd H' f.af (.dK (putK kvf (.inl ((i : Nat) : Int)) (.ref td))) td = some (.dK kvt) := k9' _ _ ntS h'd
      have pr9 : Paired (MkT K (upd H' f.af (.dK (putK kvf (.inl ((i : Nat) : Int)) (.ref td)))) f (ns ++ more) ss) kvt kd.2.2 := Paired.mapP pr fun a b z => by
        obtain ⟨z1, l, ids', z2, z3, z4, zz, z5⟩ := z
        exact ⟨z1, l, ids', z2, k9' _ _ z4 z3, z4, zz, z5⟩
      generalize upd H' f.af (.dK (putK kvf (.inl ((i : Nat) : Int)) (.ref td))) = H9 at k9 k9' t9 h9f hB9 h9d pr9
      have hT9 : ToldAt K H9 f (ns ++ more) ks i td := ⟨kd.1, is, ss, kd, kvt, getElem?_mono hi, his.mono, hkd, rfl, h9d, ntS, ntZ, pr9⟩
      show tRet (tDGet (tFld K (tVar 0) "found") (tVar 1)) _ _ _
      refine st_ret (ev_dgetI (K := K) (v := .ref td) (ev_fld (ev_v rfl) (xF k9) T.c_Fields T.n_Fields_found rfl) (ed_var rfl (.int _)) h9f (by rw [valV_put, if_pos rfl]) H9 (Ex.refl _) _ fun Ha ea => ?_)
      have ka : Kp f.S H Ha := k9.ex ea
      have lpk := length_putK kvf (.inl ((i : Nat) : Int)) (.ref td)
      have hTa : ToldAt K Ha f (ns ++ more) ks i td := by simpa using hT9.mono (more := []) (Kp.of ea)
      refine q td Ha more ka ((tS.trans t9).trans (Tk.ex ea)) ⟨xF ka, fun H'' k'' => hF.p H'' ((FP.zs ka).trans k''), hB9.kp ea, hF.nf, hF.xS, hF.bS, hF.zS, (fun z hz => let ⟨o, ho⟩ := hF.zH z hz; ⟨o, ka _ _ (hF.zS z hz).1 ho⟩), ⟨_, ea _ _ h9f, by simp only [List.length_cons]; omega, (fun j hj => by
        rw [valV_put]
        by_cases e : (Sum.inl ((j : Nat) : Int) : L2.Key) = .inl ((i : Nat) : Int)
        · exact ⟨_, if_pos e⟩
        · rw [if_neg e]
          rcases List.mem_cons.mp hj with rfl | hj
          · exact absurd rfl e
          · exact hf4 j hj), fun key v h => ?_⟩⟩ hTa (by omega) fun hm => by
        obtain ⟨v, hv'⟩ := hf4 i hm
        rw [hv] at hv'; cases hv'
      rw [valV_put] at h
      by_cases e : key = .inl ((i : Nat) : Int)
      · rw [if_pos e] at h
        obtain rfl := Option.some.inj h
        exact ⟨i, td, e, rfl, hTa⟩
      · rw [if_neg e] at h
        obtain ⟨a, b, c1, c2, c3⟩ := hf3 key v h
        exact ⟨a, b, c1, c2, c3.mono ka⟩
end
end K55
namespace K55
open PySem PySem.Spec PyProof.Rows L2 W5 M5
open Evl (Ex Ev)
section
variable {P : Program} {w : World} {K : PySem.W.Frag} {mg : Str → Option Value} {base : Heap}
def SfieldsInit (K : PySem.W.Frag) : Sp := fun vs H Q E => ∃ x dx p b, vs = [.ref x, .ref p, .ref b] ∧ H x = some (.ins (He.ga K "Fields") dx []) ∧
  ∀ af H2, H af = none → Kp [x] H H2 → H2 x = some (.ins (He.ga K "Fields") dx [("plan", .ref p), ("bank", .ref b), ("found", .ref af)]) → H2 af = some (.dK []) → Q .non H2
theorem ok_Fields_init (T : Tx K mg) : Ok P w K mg base 1 d_Fields_init ["self", "plan", "bank"] (SfieldsInit K) := by
  refine (T.F_Fields_init).ok sc_Fields_init (fun vs H Q E ⟨x, dx, p, b, e, _⟩ => by rw [e]; rfl) (fun cdv A outer s H vs Q E hr h => ?_)
  obtain ⟨x, dx, p, b, rfl, hx, q⟩ := h
  refine ⟨_, PSs.nox ((pss_cons (ps_fld (pv 0) (pv 1) rfl)
  (pss_cons (ps_fld (pv 0) (pv 2) rfl)
  (pss_one (ps_fld (pv 0) pe_dnewK rfl))))), ?_⟩
  have c := T.c_Fields
  refine sq_fldE rfl hx c T.n_Fields_plan (Nat.le_of_ble_eq_true rfl) (ev_v rfl) fun H1 e1 => ?_
  refine sq_fldE rfl (upd_same ..) c T.n_Fields_bank (Nat.le_of_ble_eq_true rfl) (ev_v rfl) fun H2 e2 => ?_
  have k3 : Kp [x] H (upd H2 x (.ins (He.ga K "Fields") dx (putF "bank" (.ref b) (putF "plan" (.ref p) [])))) := (((Kp.of e1).upd (by simp)).ex e2).upd (by simp)
  have h3x : upd H2 x (.ins (He.ga K "Fields") dx (putF "bank" (.ref b) (putF "plan" (.ref p) []))) x = some (.ins (He.ga K "Fields") dx [("plan", .ref p), ("bank", .ref b)]) := upd_same ..
  generalize upd H2 x (.ins (He.ga K "Fields") dx (putF "bank" (.ref b) (putF "plan" (.ref p) []))) = H3 at k3 h3x
  intro af haf
  have naf : af ≠ x := fun z => by rw [z, h3x] at haf; cases haf
  have e4 : Ex H3 (upd H3 af (.dK [])) := Ex.new haf
  refine ⟨_, rfl, x, _, dx, _, rfl, e4 _ _ h3x, c, T.n_Fields_found, Nat.le_of_ble_eq_true rfl, ?_⟩
  have faf : H af = none := by
    cases e : H af with
    | none => rfl
    | some o => rw [k3 _ _ (by simpa using naf) e] at haf; cases haf
  exact q af _ faf ((k3.ex e4).upd (by simp)) (upd_same ..) (by rw [upd_ne naf]; exact upd_same ..)
/-! ### plain: fields of types -/
def FldT (ks : List Knd) (u v : M5.Ty) : Prop := ∃ k ss kd m g, u = .of k ss ∧ kd ∈ ks ∧ kd.1 = k ∧ m ∈ kd.2.2 ∧ g ∈ m.2 ∧ v = tput ss g
inductive Rch (ks : List Knd) (t : M5.Ty) : M5.Ty → Prop
  | refl : Rch ks t t
  | step {u v : M5.Ty} : Rch ks t u → FldT ks u v → Rch ks t v
mutual
theorem tput_wf {KS : List (Str × Nat)} {ss : List M5.Ty} (hs : ∀ s ∈ ss, s.Wf KS 0) : ∀ {t : M5.Ty}, t.Wf KS ss.length → (tput ss t).Wf KS 0
  | .whole, _ => trivial
  | .var i, h => by
    have : i < ss.length := h
    rw [tput, List.getD_eq_getElem?_getD, List.getElem?_eq_getElem this]
    exact hs _ (List.getElem_mem _)
  | .to a b, h => ⟨tput_wf hs h.1, tput_wf hs h.2⟩
  | .of k ts, h => ⟨by rw [tputAll_map, List.length_map]; exact h.1, tputAll_wf hs h.2⟩
theorem tputAll_wf {KS : List (Str × Nat)} {ss : List M5.Ty} (hs : ∀ s ∈ ss, s.Wf KS 0) : ∀ {ts : List M5.Ty}, Ty.WfAll KS ss.length ts → Ty.WfAll KS 0 (tputAll ss ts)
  | [], _ => trivial
  | t :: ts, h => ⟨tput_wf hs h.1, tputAll_wf hs h.2⟩
end
theorem kd_uniq {ks : List Knd} (hP : PgOk ks) {a b : Knd} (ha : a ∈ ks) (hb : b ∈ ks) (e : a.1 = b.1) : a = b := by
  obtain ⟨i, hi⟩ := List.getElem?_of_mem ha
  obtain ⟨j, hj⟩ := List.getElem?_of_mem hb
  obtain ⟨l1, e1⟩ := List.getElem?_eq_some_iff.mp hi
  obtain ⟨l2, e2⟩ := List.getElem?_eq_some_iff.mp hj
  have h3 := List.pairwise_iff_getElem.mp hP.nk
  have n1 : (ks.map (·.1))[i]'(by simpa using l1) = a.1 := by simp [e1]
  have n2 : (ks.map (·.1))[j]'(by simpa using l2) = b.1 := by simp [e2]
  rcases Nat.lt_trichotomy i j with h | h | h
  · exact absurd (n1.trans (e.trans n2.symm)) (h3 i j (by simpa using l1) (by simpa using l2) h)
  · subst h; rw [hi] at hj; exact Option.some.inj hj
  · exact absurd (n2.trans (e.symm.trans n1.symm)) (h3 j i (by simpa using l2) (by simpa using l1) h)
theorem wf_kind {ks : List Knd} {k : Str} {ss : List M5.Ty} (h : (M5.Ty.of k ss).Wf (ksOf ks) 0) : ∃ kd ∈ ks, kd.1 = k ∧ ss.length = kd.2.1 ∧ ∀ s ∈ ss, s.Wf (ksOf ks) 0 := by
  obtain ⟨h1, h2⟩ := h
  obtain ⟨kd, hk, e⟩ := List.mem_map.mp h1
  injection e with e1 e2
  exact ⟨kd, hk, e1, e2.symm, Ty.WfAll_mem h2⟩
theorem FldT.wf {ks : List Knd} (hP : PgOk ks) {u v : M5.Ty} (hu : u.Wf (ksOf ks) 0) (h : FldT ks u v) : v.Wf (ksOf ks) 0 := by
  obtain ⟨k, ss, kd, m, g, rfl, hk, e, hm, hg, rfl⟩ := h
  obtain ⟨kd', hk', e', hl, hs⟩ := wf_kind hu
  obtain rfl := kd_uniq hP hk hk' (e.trans e'.symm)
  have w := (((hP.kn kd hk).2.2.2 m hm).2.2 g hg).1
  rw [← hl] at w
  exact tput_wf hs w
theorem Rch.wf {ks : List Knd} (hP : PgOk ks) {t u : M5.Ty} (ht : t.Wf (ksOf ks) 0) (h : Rch ks t u) : u.Wf (ksOf ks) 0 := by
  induction h with
  | refl => exact ht
  | step _ f ih => exact f.wf hP ih
/-- whether a type is plain, or has too many parts -/
def IsPl (ks : List Knd) (t : M5.Ty) (b : Bool) : Prop := (b = true ∧ ∃ L : List M5.Ty, t ∈ L ∧ L.length ≤ 400 ∧ ∀ u ∈ L, (∀ a c, u ≠ .to a c) ∧ ∀ v, FldT ks u v → v ∈ L) ∨
  (b = false ∧ ((∃ a c, Rch ks t (.to a c)) ∨ ∃ L : List M5.Ty, L.Nodup ∧ 400 < L.length ∧ ∀ u ∈ L, Rch ks t u))
/-- one turn's growth of what is met and due -/
structure LI (ns : List BN) (M Dp M2 D2 : List Nat) (Fs : List M5.Ty) : Prop where
  nd : M2.Nodup
  sub : ∀ x ∈ M, x ∈ M2
  dq : ∀ x ∈ D2, x ∈ M2
  dp : ∀ x ∈ Dp, x ∈ D2
  new : ∀ x ∈ M2, x ∈ M ∨ (x ∈ D2 ∧ ∃ v ∈ Fs, Dn ns x v)
  all : ∀ v ∈ Fs, ∃ x ∈ M2, Dn ns x v
  len : M2.length + Dp.length = M.length + D2.length
  le : M2.length ≤ M.length + Fs.length
  ge : M.length ≤ M2.length
theorem LI.old {ns : List BN} {M Dp M2 D2 : List Nat} {Fs : List M5.Ty} (h : LI ns M Dp M2 D2 Fs) {x : Nat} {v : M5.Ty} (hx : x ∈ M2) (d : Dn ns x v) : LI ns M Dp M2 D2 (Fs ++ [v]) :=
  ⟨h.nd, h.sub, h.dq, h.dp, fun y hy => (h.new y hy).imp id fun ⟨a, u, hu, du⟩ => ⟨a, u, List.mem_append.mpr (.inl hu), du⟩, fun u hu => by
    rcases List.mem_append.mp hu with hu | hu
    · exact h.all u hu
    · obtain rfl : u = v := by simpa using hu
      exact ⟨x, hx, d⟩, h.len, by have := h.le; simp only [List.length_append, List.length_cons]; omega, h.ge⟩
theorem LI.put {ns : List BN} {M Dp M2 D2 : List Nat} {Fs : List M5.Ty} (h : LI ns M Dp M2 D2 Fs) {x : Nat} {v : M5.Ty} (hx : x ∉ M2) (d : Dn ns x v) : LI ns M Dp (M2 ++ [x]) (D2 ++ [x]) (Fs ++ [v]) := by
  refine ⟨L2.nd_snoc h.nd hx, fun y hy => List.mem_append.mpr (.inl (h.sub y hy)), fun y hy => ?_, fun y hy => List.mem_append.mpr (.inl (h.dp y hy)), fun y hy => ?_, fun u hu => ?_, ?_, ?_, by have := h.ge; rw [List.length_append]; omega⟩
  · rcases List.mem_append.mp hy with hy | hy
    · exact List.mem_append.mpr (.inl (h.dq y hy))
    · exact List.mem_append.mpr (.inr hy)
  · rcases List.mem_append.mp hy with hy | hy
    · exact (h.new y hy).imp id fun ⟨a, u, hu, du⟩ => ⟨List.mem_append.mpr (.inl a), u, List.mem_append.mpr (.inl hu), du⟩
    · obtain rfl : y = x := by simpa using hy
      exact .inr ⟨by simp, v, by simp, d⟩
  · rcases List.mem_append.mp hu with hu | hu
    · obtain ⟨y, hy, dy⟩ := h.all u hu
      exact ⟨y, List.mem_append.mpr (.inl hy), dy⟩
    · obtain rfl : u = v := by simpa using hu
      exact ⟨x, by simp, d⟩
  · have := h.len; simp only [List.length_append, List.length_cons, List.length_nil]; omega
  · have := h.le; simp only [List.length_append, List.length_cons, List.length_nil]; omega
theorem LI.start {ns : List BN} {M Dp : List Nat} (hn : M.Nodup) (hd : ∀ x ∈ Dp, x ∈ M) : LI ns M Dp M Dp [] := ⟨hn, fun _ h => h, hd, fun _ h => h, fun _ h => .inl h, (fun _ h => nomatch h), rfl, Nat.le_add_right _ _, Nat.le_refl _⟩
def metK (M : List Nat) : List (L2.Key × V) := M.map fun j => (.inl ((j : Nat) : Int), V.bl true)
theorem metV (M : List Nat) (x : Nat) : valV (metK M) (.inl ((x : Nat) : Int)) = if x ∈ M then some (V.bl true) else none := by
  induction M with
  | nil => rfl
  | cons j M ih =>
    by_cases e : j = x
    · subst e
      rw [if_pos (List.mem_cons_self ..)]
      exact valV_pos (p := (Sum.inl ((j : Nat) : Int), V.bl true)) rfl
    · have hne : ¬ (Sum.inl ((j : Nat) : Int) : L2.Key) = .inl ((x : Nat) : Int) := fun z => e (by have := Sum.inl.inj z; omega)
      have h1 : valV (metK (j :: M)) (.inl ((x : Nat) : Int)) = valV (metK M) (.inl ((x : Nat) : Int)) := valV_neg (p := (Sum.inl ((j : Nat) : Int), V.bl true)) hne
      rw [h1, ih]
      by_cases hm : x ∈ M
      · rw [if_pos hm, if_pos (List.mem_cons_of_mem _ hm)]
      · rw [if_neg hm, if_neg (fun z => (List.mem_cons.mp z).elim (fun z => e z.symm) hm)]
theorem met_put {M : List Nat} {x : Nat} (hx : x ∉ M) : putK (metK M) (.inl ((x : Nat) : Int)) (V.bl true) = metK (M ++ [x]) := by
  rw [putK_new _ (by rw [metV, if_neg hx])]
  simp [metK]
/-! ### fields and what the caller holds -/
theorem FieldsAt.withZ {H H' : Hp} {f : FP} {ns : List BN} {ks : List Knd} {fk : List Nat} (h : FieldsAt P w K H f ns ks fk) (k : Kp f.S H H') (e : Ex H H') (Z : List Addr) (hz : ∀ z ∈ Z, H z = none) (hz2 : ∀ z ∈ Z, ∃ o, H' z = some o) (hp : ∀ z ∈ f.Z, False) : FieldsAt P w K H' { f with Z := Z } ns ks fk := by
  have hZ : f.Z = [] := by cases hq : f.Z with
    | nil => rfl
    | cons a b => exact (hp a (by rw [hq]; exact List.mem_cons_self ..)).elim
  have nz : ∀ {a : Addr} {o : HO}, H a = some o → a ∉ Z := fun ha hm => by rw [hz _ hm] at ha; cases ha
  have hb := h.b.kp e
  have fS : ∀ z ∈ f.S, ∃ o, H z = some o := fun z hm => by
    rcases List.mem_cons.mp hm with rfl | hm
    · obtain ⟨kvf, h1, _⟩ := h.found; exact ⟨_, h1⟩
    · exact h.b.some z (List.mem_cons_of_mem _ (by simpa [BP.S] using hm))
  refine ⟨e _ _ h.x, fun H2 k2 => h.p H2 ?_, hb, h.nf, h.xS, h.bS, fun z hm => ⟨fun hs => ?_, fun q => ?_, fun q => ?_⟩, hz2, ?_⟩
  · intro a o ha ho
    rw [hZ, List.nil_append] at ha
    refine k2 a o (fun hm => ?_) (e _ _ ho)
    rcases List.mem_append.mp hm with hm | hm
    · exact nz ho hm
    · exact ha hm
  · obtain ⟨o, ho⟩ := fS z hs; exact nz ho hm
  · exact nz h.x (q ▸ hm)
  · exact nz h.b.x (q ▸ hm)
  · obtain ⟨kvf, h1, h2, h3, h4⟩ := h.found
    refine ⟨kvf, e _ _ h1, h2, h3, fun key v hv => ?_⟩
    obtain ⟨i, td, q1, q2, kk, is, ss, kd, kvt, g1, g2, g3, g4, g5, g6, _, g7⟩ := h4 key v hv
    refine ⟨i, td, q1, q2, kk, is, ss, kd, kvt, g1, g2, g3, g4, e _ _ g5, g6, nz g5, Paired.mapP g7 fun a b z => ?_⟩
    obtain ⟨z1, l, ids, z2, z3, z4, _, z5⟩ := z
    exact ⟨z1, l, ids, z2, e _ _ z3, z4, nz z3, z5⟩
theorem FieldsAt.noZ {H : Hp} {f : FP} {Z : List Addr} {ns : List BN} {ks : List Knd} {fk : List Nat} (h : FieldsAt P w K H { f with Z := Z } ns ks fk) (hZ : f.Z = []) : FieldsAt P w K H f ns ks fk := by
  refine ⟨h.x, fun H2 k2 => h.p H2 (k2.sub fun p hp => ?_), h.b, h.nf, h.xS, h.bS, (fun z hz => by rw [hZ] at hz; cases hz), (fun z hz => by rw [hZ] at hz; cases hz), ?_⟩
  · rw [hZ, List.nil_append] at hp
    exact List.mem_append.mpr (.inr hp)
  · obtain ⟨kvf, h1, h2, h3, h4⟩ := h.found
    refine ⟨kvf, h1, h2, h3, fun key v hv => ?_⟩
    obtain ⟨i, td, q1, q2, kk, is, ss, kd, kvt, g1, g2, g3, g4, g5, g6, _, g7⟩ := h4 key v hv
    refine ⟨i, td, q1, q2, kk, is, ss, kd, kvt, g1, g2, g3, g4, g5, g6, by rw [hZ]; simp, Paired.mapP g7 fun a b z => ?_⟩
    obtain ⟨z1, l, ids, z2, z3, z4, _, z5⟩ := z
    exact ⟨z1, l, ids, z2, z3, z4, by rw [hZ]; simp, z5⟩
theorem FieldsAt.kpZ {H H' : Hp} {f : FP} {ns : List BN} {ks : List Knd} {fk : List Nat} (h : FieldsAt P w K H f ns ks fk) (k : Kp f.Z H H') (t : Tk H H') (hz : ∀ z ∈ f.Z, ∃ o, H' z = some o) : FieldsAt P w K H' f ns ks fk := by
  have sZ : ∀ a ∈ f.S, a ∉ f.Z := fun a ha hz => (h.zS a hz).1 ha
  refine ⟨k _ _ (fun q => (h.zS _ q).2.1 rfl) h.x, fun H2 k2 => h.p H2 ((k.sub fun p hp => List.mem_append.mpr (.inl hp)).trans k2), h.b.keep (fun y hy => ?_) t, h.nf, h.xS, h.bS, h.zS, hz, ?_⟩
  · obtain ⟨o, ho⟩ := h.b.some y hy
    rw [ho]
    refine k _ _ (fun q => ?_) ho
    rcases List.mem_cons.mp hy with e | hy
    · exact (h.zS y q).2.2 e
    · exact sZ y (f.bS_sub y (by simpa [BP.S] using hy)) q
  · obtain ⟨kvf, h1, h2, h3, h4⟩ := h.found
    refine ⟨kvf, k _ _ (sZ _ (List.mem_cons_self ..)) h1, h2, h3, fun key v hv => ?_⟩
    obtain ⟨i, td, q1, q2, kk, is, ss, kd, kvt, g1, g2, g3, g4, g5, g6, gz, g7⟩ := h4 key v hv
    refine ⟨i, td, q1, q2, kk, is, ss, kd, kvt, g1, g2, g3, g4, k _ _ gz g5, g6, gz, Paired.mapP g7 fun a b z => ?_⟩
    obtain ⟨z1, l, ids, z2, z3, z4, zz, z5⟩ := z
    exact ⟨z1, l, ids, z2, k _ _ zz z3, z4, zz, z5⟩
theorem FieldsAt.ex {H H' : Hp} {f : FP} {ns : List BN} {ks : List Knd} {fk : List Nat} (h : FieldsAt P w K H f ns ks fk) (e : Ex H H') : FieldsAt P w K H' f ns ks fk := h.kpZ (Kp.of e) (Tk.ex e) fun z hz => let ⟨o, ho⟩ := h.zH z hz; ⟨o, e _ _ ho⟩
theorem ed_head (T : Tx K mg) {H : Hp} {f : FP} {ns : List BN} {ks : List Knd} {fk : List Nat} {i j : Nat} {n : BN} {σ : L2.St} (h : FieldsAt P w K H f ns ks fk) (h0 : σ[0]? = some (some (.ref f.x))) (hi : σ[i]? = some (some (.int ((j : Nat) : Int)))) (hn : ns[j]? = some n) :
    Ed K (tMeth (He.ga K "Bank") "head" (SbankHead P w K) [] E0 (tFld K (tVar 0) "bank") (tCons (tVar i) tNil)) σ H (BN.head n) := fun H1 e1 Q q => by
  have h1 := h.ex e1
  refine te_fld h0 h1.x T.c_Fields T.n_Fields_bank rfl ⟨f.b.x, f.b.dx, _, rfl, h1.b.x, rfl, ⟨_, hi, f.b, ns, j, n, rfl, h1.b, hn, fun v H2 e2 i2 => q v H2 e2 i2⟩⟩
/-- what is known of a number that has been looked at -/
def Dun (ks : List Knd) (ns : List BN) (fk M : List Nat) (j : Nat) : Prop := ∃ u, Dn ns j u ∧ (∀ a c, u ≠ .to a c) ∧ (∀ v, FldT ks u v → ∃ j' ∈ M, Dn ns j' v) ∧ ((∃ k ss, u = .of k ss) → j ∈ fk)
theorem Dun.mono {ks : List Knd} {ns more : List BN} {fk fk' M M' : List Nat} {j : Nat} (h : Dun ks ns fk M j) (hf : ∀ x ∈ fk, x ∈ fk') (hM : ∀ x ∈ M, x ∈ M') : Dun ks (ns ++ more) fk' M' j := by
  obtain ⟨u, h1, h2, h3, h4⟩ := h
  exact ⟨u, h1.mono, h2, fun v hv => let ⟨j', a, b⟩ := h3 v hv; ⟨j', hM _ a, b.mono⟩, fun q => hf _ (h4 q)⟩
def Gud (ks : List Knd) (ns : List BN) (t : M5.Ty) (M : List Nat) : Prop := ∀ j ∈ M, ∃ u, Dn ns j u ∧ Rch ks t u
theorem types_of {R : Nat → M5.Ty → Prop} {M : List Nat} (h : ∀ j ∈ M, ∃ u, R j u) : ∃ F : Nat → M5.Ty, ∀ j ∈ M, R j (F j) :=
  ⟨fun j => if q : j ∈ M then (h j q).choose else .whole, fun j hj => by simp only [dif_pos hj]; exact (h j hj).choose_spec⟩
theorem isPl_true {ks : List Knd} {ns : List BN} {fk M : List Nat} {t : M5.Ty} {i : Nat} (hi : i ∈ M) (dt : Dn ns i t) (hl : M.length ≤ 400) (h : ∀ j ∈ M, Dun ks ns fk M j) : IsPl ks t true ∧ ∀ u, Rch ks t u → ∃ j, Dn ns j u ∧ ((∃ k ss, u = .of k ss) → j ∈ fk) := by
  constructor
  · obtain ⟨F, hF⟩ := types_of h
    refine .inl ⟨rfl, M.map F, List.mem_map.mpr ⟨i, hi, Dn.fn (hF i hi).1 dt⟩, by simpa using hl, fun u hu => ?_⟩
    obtain ⟨j, hj, rfl⟩ := List.mem_map.mp hu
    obtain ⟨_, h2, h3, _⟩ := hF j hj
    refine ⟨h2, fun v hv => ?_⟩
    obtain ⟨j', hj', dj⟩ := h3 v hv
    exact List.mem_map.mpr ⟨j', hj', Dn.fn (hF j' hj').1 dj⟩
  · intro u hr
    have : ∃ j ∈ M, Dn ns j u := by
      induction hr with
      | refl => exact ⟨i, hi, dt⟩
      | step _ f ih =>
        obtain ⟨j, hj, dj⟩ := ih
        obtain ⟨u', d', _, h3, _⟩ := h j hj
        obtain rfl := Dn.fn d' dj
        exact h3 _ f
    obtain ⟨j, hj, dj⟩ := this
    obtain ⟨u', d', _, _, h4⟩ := h j hj
    obtain rfl := Dn.fn d' dj
    exact ⟨j, dj, h4⟩
theorem isPl_many {ks : List Knd} {ns : List BN} {M : List Nat} {t : M5.Ty} (hn : ns.Nodup) (hM : M.Nodup) (hl : 400 < M.length) (h : Gud ks ns t M) : IsPl ks t false := by
  obtain ⟨F, hF⟩ := types_of h
  refine .inr ⟨rfl, .inr ⟨M.map F, ?_, by simpa using hl, fun u hu => ?_⟩⟩
  · refine List.pairwise_map.mpr (List.Pairwise.imp_of_mem (fun {a b} ha hb hne e => hne ?_) hM)
    have d2 := (hF b hb).1
    rw [← e] at d2
    exact Dn.inj hn (hF a ha).1 d2
  · obtain ⟨j, hj, rfl⟩ := List.mem_map.mp hu
    exact (hF j hj).2
def SisPlain (P : Program) (w : World) (K : PySem.W.Frag) : Sp := fun vs H Q E => ∃ f ns ks fk i t, vs = [.ref f.x, .int ((i : Nat) : Int)] ∧ f.Z = [] ∧ FieldsAt P w K H f ns ks fk ∧ PgOk ks ∧ Dn ns i t ∧ t.Wf (ksOf ks) 0 ∧ fk.length ≤ 500 ∧ ns.length ≤ 5000 ∧
  ∀ b H2 more fk', Kp f.S H H2 → Tk H H2 → FieldsAt P w K H2 f (ns ++ more) ks fk' → (ns ++ more).length ≤ 39000 → fk'.length ≤ 1000 → IsPl ks t b → (b = true → ∀ u, Rch ks t u → ∃ j, Dn (ns ++ more) j u ∧ ((∃ k ss, u = .of k ss) → j ∈ fk')) → Q (.bl b) H2
abbrev WIn (P : Program) (w : World) (K : PySem.W.Frag) (H : Hp) (f : FP) (am ad : Addr) (ns : List BN) (ks : List Knd) (fk : List Nat) (i : Nat) (t : M5.Ty) (m : Nat) (σ' : L2.St) (H' : Hp) : Prop :=
  ∃ (o4 o5 o6 : Option V) (M D : List Nat) (more : List BN) (fk' : List Nat) (calls : Nat), σ' = [some (.ref f.x), some (.int ((i : Nat) : Int)), some (.ref am), some (.ref ad), o4, o5, o6] ∧ m = 2 * (1000 - M.length) + D.length ∧ H' am = some (.dK (metK M)) ∧ H' ad = some (.lst (D.map fun j => V.int ((j : Nat) : Int))) ∧ FieldsAt P w K H' { f with Z := [am, ad] } (ns ++ more) ks fk' ∧ Kp f.S H H' ∧ Tk H H' ∧ M.Nodup ∧ M.length ≤ 400 ∧ i ∈ M ∧ (∀ x ∈ D, x ∈ M) ∧ Gud ks (ns ++ more) t M ∧ (∀ j ∈ M, j ∈ D ∨ Dun ks (ns ++ more) fk' M j) ∧ more.length ≤ 80 * calls ∧ fk'.length ≤ fk.length + calls ∧ calls + D.length ≤ M.length
theorem lots_nw : ∀ x ∈ LOTS, x.1 ≠ "whole" := by decide +kernel
theorem paired_get {α β : Type} {R : α → β → Prop} {xs : List α} {ys : List β} (h : Paired R xs ys) : ∀ {i : Nat} {x : α}, xs[i]? = some x → ∃ y, ys[i]? = some y ∧ R x y := by
  induction h with
  | nil => intro i x hx; simp at hx
  | @cons a b as bs r t ih =>
    intro i x hx
    cases i with
    | zero =>
      obtain rfl : a = x := by simpa using hx
      exact ⟨b, rfl, r⟩
    | succ i => simpa using ih (by simpa using hx)
theorem st_forE {te : TE} {σ : L2.St} {H : Hp} {ds : List PyData} {a : Addr} {vs : List V} {g : TG} {tb : TS} {D : Ends} (he : Ev te σ H (.ref a)) (ha : H a = some (.lst vs)) (hs : ImAll K H vs ds)
    (k : ∀ H1, Ex H H1 → ∃ Pv : Nat → L2.St → Hp → Prop, Pv 0 σ H1 ∧ (∀ i σ H, Pv i σ H → Tk H1 H ∧ H a = some (.lst vs)) ∧
      (∀ i x v σ H, ds[i]? = some x → Im K H v x → Pv i σ H → g v σ H fun σ2 H2 => tb { D with nx := Pv (i + 1), ct := Pv (i + 1), bk := D.nx } σ2 H2) ∧ ∀ σ H, Pv ds.length σ H → D.nx σ H) : tFor (iList K te) g tb D σ H := sq_forE (us := fun D σ H => D.nx σ H) he ha hs k
theorem im_ints {H : Hp} : ∀ l : List Nat, ImAll K H (l.map fun j => V.int ((j : Nat) : Int)) (l.map fun j => PyData.int ((j : Nat) : Int))
  | [] => .nil
  | m :: l => .cons (.int _) (im_ints l)
def fsUpTo (kd : Knd) (ss : List M5.Ty) (q : Nat) : List M5.Ty := (kd.2.2.take q).flatMap fun m => m.2.map (tput ss)
theorem ok_Fields_is_plain (T : Tx K mg) : Ok P w K mg base 10 d_Fields_is_plain ["self", "number"] (SisPlain P w K) := by
  have G_Bank_head := ok_Bank_head (P := P) (w := w) (base := base) T
  have G_Fields_of := ok_Fields_of (P := P) (w := w) (base := base) T
  refine (T.F_Fields_is_plain).ok sc_Fields_is_plain (fun vs H Q E ⟨f, ns, ks, fk, i, t, e, _⟩ => by rw [e]; rfl) (fun cdv A outer s H vs Q E hr h => ?_)
  obtain ⟨f, ns, ks, fk, i, t, rfl, hfZ, hF, hP, dt, wt, hfk, hns, q⟩ := h
  refine ⟨_, PSs.nox ((pss_cons (ps_par (i := 2) (j := 3) (by rfl) sc_Fields_is_plain.nd rfl rfl (by decide) rfl rfl (pa_cons (pe_disp (pps_cons (pv 1) pe_bl pps_nil) (by rfl) (by rfl) (fun z => by cases z) (by decide)) (pa_cons (pe_lst (pa_cons (pv 1) pa_nil)) pa_nil)) (by rfl))
  (pss_cons (ps_while PassesOwn.never (pt_cmpR (op_neK (K := K) rfl hr) (pv 3) (pe_lst pa_nil) (nomark _)) (pss_cons (ps_set (i := 4) sc_Fields_is_plain.nd rfl (by first | exact Or.inl rfl | exact Or.inr rfl) (pe_bm0 PySem.F.plainAttrs_list PySem.F.slot_list_pop PySem.F.type_list_pop mt_pop (pv 3)))
  (pss_cons (ps_if (pt_cmpR op_isA (pe_meth (pe_fldK (K := K) rfl (pv 0) rfl) T.c_Bank T.M_Bank_head G_Bank_head (hr.mono (by omega)) T.B_Bank_head .nil pass0 (pa_cons (pv 4) pa_nil)) pe_non (nomark _)) (pss_one (ps_ret pe_bl)) pss_nil)
  (pss_one (ps_if (pt_cmpR (op_neK (K := K) rfl hr) (pe_meth (pe_fldK (K := K) rfl (pv 0) rfl) T.c_Bank T.M_Bank_head G_Bank_head (hr.mono (by omega)) T.B_Bank_head .nil pass0 (pa_cons (pv 4) pa_nil)) pe_str (nomark _)) (pss_cons (ps_thaw (ps_for PassesOwn.never rfl (pi_values (pe_frz (pe_meth (pv 0) T.c_Fields T.M_Fields_of G_Fields_of (hr.mono (by omega)) T.B_Fields_of .nil pass0 (pa_cons (pv 4) pa_nil)))) (pg_name (i := 5) sc_Fields_is_plain.nd rfl (by first | exact Or.inl rfl | exact Or.inr rfl)) (pss_one (ps_for PassesOwn.never rfl (pi_listK (K := K) rfl (pv 5)) (pg_name (i := 6) sc_Fields_is_plain.nd rfl (by first | exact Or.inl rfl | exact Or.inr rfl)) (pss_one (ps_if (pt_cmpR (op_ninK (K := K) rfl hr) (pv 6) (pv 2) rfl) (pss_cons (ps_dput (hu_of hr) (pv 2) (pv 6) pe_bl rfl)
  (pss_one (ps_expr (pe_bm PySem.F.plainAttrs_list PySem.F.slot_list_append PySem.F.type_list_append mt_append (pv 3) (pa_cons (pv 6) pa_nil))))) pss_nil))))))
  (pss_one (ps_if (pt_cmpR op_gt (pe_callB (call_lenK (K := K) rfl) rfl T.b_len bb_len (pa_cons (pv 2) pa_nil)) (pe_gint (by rfl) T.i_MOST_PLAIN) (nomark _)) (pss_one (ps_ret pe_bl)) pss_nil))) pss_nil)))))
  (pss_one (ps_ret pe_bl))))), ?_⟩
  refine sq_par fun am ham => ?_
  refine ⟨_, rfl, upd_same .., [(Sum.inl ((i : Nat) : Int), V.bl true)], rfl, Nat.le_of_ble_eq_true rfl, ?_⟩
  have e1 : Ex H (upd (upd H am (.dK [])) am (.dK (mergeK [] [(Sum.inl ((i : Nat) : Int), V.bl true)]))) := Ex.mut (Ex.new ham) ham
  have h1m : (upd (upd H am (.dK [])) am (.dK (mergeK [] [(Sum.inl ((i : Nat) : Int), V.bl true)]))) am = some (.dK (metK [i])) := upd_same ..
  generalize upd (upd H am (.dK [])) am (.dK (mergeK [] [(Sum.inl ((i : Nat) : Int), V.bl true)])) = H1 at e1 h1m
  refine ⟨_, rfl, by show 1 ≤ sizeLine; decide, fun ad had => ⟨_, _, rfl, ?_⟩⟩
  have e2 : Ex H1 (upd H1 ad (.lst [V.int ((i : Nat) : Int)])) := Ex.new had
  have h2d : upd H1 ad (.lst [V.int ((i : Nat) : Int)]) ad = some (.lst ([i].map fun j => V.int ((j : Nat) : Int))) := upd_same ..
  generalize upd H1 ad (.lst [V.int ((i : Nat) : Int)]) = H2 at e2 h2d
  have had0 : H ad = none := Evl.fresh_back e1 had
  have e12 := e1.trans e2
  have h2m := e2 _ _ h1m
  have nmd : am ≠ ad := fun z => by rw [z, had] at h1m; cases h1m
  have hF2 : FieldsAt P w K H2 { f with Z := [am, ad] } ns ks fk := hF.withZ (Kp.of e12) e12 [am, ad] (fun z hz => by
    simp only [List.mem_cons, List.not_mem_nil, or_false] at hz
    rcases hz with rfl | rfl <;> assumption) (fun z hz => by
    simp only [List.mem_cons, List.not_mem_nil, or_false] at hz
    rcases hz with rfl | rfl
    · exact ⟨_, h2m⟩
    · exact ⟨_, h2d⟩) (by rw [hfZ]; simp)
  -- what the two hold
  have twoZ : ∀ {H' : Hp} {M D : List Nat}, H' am = some (.dK (metK M)) → H' ad = some (.lst (D.map fun j => V.int ((j : Nat) : Int))) → ∀ z ∈ [am, ad], ∃ o, H' z = some o := fun a b z hz => by
    simp only [List.mem_cons, List.not_mem_nil, or_false] at hz
    rcases hz with rfl | rfl
    · exact ⟨_, a⟩
    · exact ⟨_, b⟩
  have twoT : ∀ {H' H'' : Hp} {M D : List Nat}, H' am = some (.dK (metK M)) → H' ad = some (.lst (D.map fun j => V.int ((j : Nat) : Int))) → Kp [am, ad] H' H'' → Tk H' H'' := fun a b k => k.tk fun p hp => by
    simp only [List.mem_cons, List.not_mem_nil, or_false] at hp
    rcases hp with rfl | rfl
    · exact no_dK a
    · exact no_lst b
  have amS : am ∉ f.S := (hF2.zS am (List.mem_cons_self ..)).1
  have adS : ad ∉ f.S := (hF2.zS ad (List.mem_cons_of_mem _ (List.mem_cons_self ..))).1
  refine sq_while (WIn P w K H f am ad ns ks fk i t)
    ⟨2 * (1000 - [i].length) + [i].length, none, none, none, [i], [i], [], fk, 0, rfl, rfl, h2m, h2d, by simpa using hF2, Kp.of e12, Tk.ex e12, by simp, by simp, by simp, by simp, (fun j hj => by
      obtain rfl : j = i := by simpa using hj
      exact ⟨t, by simpa using dt, .refl⟩), (fun j hj => .inl hj), by simp, by simp, by simp⟩ ?_
  rintro m σ' H' ⟨o4, o5, o6, M, D, more, fk', calls, rfl, rfl, hm, hd, hF', k', t', ndM, leM, hiM, hDM, hG, hU, lm, lf, lc⟩
  have imD : ImAll K H' (D.map fun j => V.int ((j : Nat) : Int)) (D.map fun j => PyData.int ((j : Nat) : Int)) := by
    have : ∀ l : List Nat, ImAll K H' (l.map fun j => V.int ((j : Nat) : Int)) (l.map fun j => PyData.int ((j : Nat) : Int)) := fun l => by
      induction l with
      | nil => exact .nil
      | cons m l ih => exact .cons (.int _) ih
    exact this _
  refine ⟨_, eb_nenil rfl hd imD, fun Ha ea => ?_⟩
  have hFa := hF'.ex ea
  rcases nil_or_concat D with rfl | ⟨Dp, j, rfl⟩
  · refine iteF ?_
    have hall : ∀ j ∈ M, Dun ks (ns ++ more) fk' M j := fun j hj => (hU j hj).resolve_left (by simp)
    have r := isPl_true hiM (dt.mono (more := more)) leM hall
    refine st_ret (te_c (q true Ha more fk' (k'.ex ea) (t'.trans (Tk.ex ea)) (hFa.noZ hfZ) (by rw [List.length_append]; simp only [List.length_nil] at lc; omega) (by simp only [List.length_nil] at lc; omega) r.1 fun _ => r.2))
  · have ne : (!((Dp ++ [j]).map fun j => PyData.int ((j : Nat) : Int)).isEmpty) = true := by simp
    rw [ne]
    refine iteT ?_
    have hda := ea _ _ hd
    have hma := ea _ _ hm
    refine sq_set (te_pop rfl hda (v := V.int ((j : Nat) : Int)) (by simp) ?_)
    have edl : (((Dp ++ [j]).map fun j => V.int ((j : Nat) : Int))).dropLast = Dp.map fun j => V.int ((j : Nat) : Int) := by rw [List.map_append, List.map_cons, List.map_nil, List.dropLast_concat]
    rw [edl]
    have kb : Kp [am, ad] Ha (upd Ha ad (.lst (Dp.map fun j => V.int ((j : Nat) : Int)))) := (Kp.refl _ _).upd (by simp)
    have hdb : upd Ha ad (.lst (Dp.map fun j => V.int ((j : Nat) : Int))) ad = some (.lst (Dp.map fun j => V.int ((j : Nat) : Int))) := upd_same ..
    have hmb : upd Ha ad (.lst (Dp.map fun j => V.int ((j : Nat) : Int))) am = some (.dK (metK M)) := by rw [upd_ne nmd]; exact hma
    have tb := twoT hma hda kb
    generalize upd Ha ad (.lst (Dp.map fun j => V.int ((j : Nat) : Int))) = Hb at kb hdb hmb tb
    have hFb := hFa.kpZ kb tb (twoZ hmb hdb)
    have kB : Kp f.S H Hb := by
      have := ((k'.ex ea).sub (T := [am, ad] ++ f.S) (fun p hp => List.mem_append.mpr (.inr hp))).trans (kb.sub (T := [am, ad] ++ f.S) (fun p hp => List.mem_append.mpr (.inl hp)))
      exact (this.drop ham).drop had0
    have tB : Tk H Hb := (t'.trans (Tk.ex ea)).trans tb
    obtain ⟨u, du, ru⟩ := hG j (hDM j (by simp))
    have wu := ru.wf hP wt
    have hfin : ∀ {b : Bool} {H2 : Hp}, Ex Hb H2 → IsPl ks t b → b = false → Q (.bl b) H2 := fun {b H2} e2 hb hf => by
      refine q b H2 more fk' (kB.ex e2) (tB.trans (Tk.ex e2)) ((hFb.ex e2).noZ hfZ) ?_ ?_ hb fun z => by rw [hf] at z; cases z
      · rw [List.length_append]; omega
      · omega
    have hgo : ∀ {H2 : Hp}, Ex Hb H2 → Dun ks (ns ++ more) fk' M j → ∃ m', m' < 2 * (1000 - M.length) + (Dp ++ [j]).length ∧ WIn P w K H f am ad ns ks fk i t m' [some (V.ref f.x), some (.int ((i : Nat) : Int)), some (.ref am), some (.ref ad), some (.int ((j : Nat) : Int)), o5, o6] H2 := fun {H2} e2 dj => by
      refine ⟨_, ?_, _, o5, o6, M, Dp, more, fk', calls, rfl, rfl, e2 _ _ hmb, e2 _ _ hdb, hFb.ex e2, kB.ex e2, tB.trans (Tk.ex e2), ndM, leM, hiM, (fun x hx => hDM x (List.mem_append.mpr (.inl hx))), hG, (fun x hx => ?_), lm, lf, by simp only [List.length_append, List.length_cons, List.length_nil] at lc; omega⟩
      · simp only [List.length_append, List.length_cons, List.length_nil]; omega
      · by_cases e : x = j
        · subst e; exact .inr dj
        · rcases hU x hx with h | h
          · rcases List.mem_append.mp h with h | h
            · exact .inl h
            · exact absurd (by simpa using h) e
          · exact .inr h
    cases du with
    | whole hn =>
      refine sq_if (b := false) (eb_t (K := K) (ed_op (ed_head T hFb rfl rfl hn) ed_non rd_isN)) (fun z => by cases z) fun _ Hc ec => ?_
      refine st_if (b := false) (eb_t (K := K) (ed_op (ed_head T (hFb.ex ec) rfl rfl hn) ed_str (rd_nes rfl))) fun Hd ed => iteF ?_
      exact hgo (ec.trans ed) ⟨.whole, .whole hn, (fun a c z => nomatch z), (fun v hv => by obtain ⟨_, _, _, _, _, z, _⟩ := hv; cases z), fun z => by obtain ⟨_, _, z⟩ := z; cases z⟩
    | @to _ a c s1 s2 hn d1 d2 =>
      refine sq_if (b := true) (eb_t (K := K) (ed_op (ed_head T hFb rfl rfl hn) ed_non rd_isN)) (fun _ Hc ec => ?_) fun z => by cases z
      exact st_ret (te_c (hfin ec (.inr ⟨rfl, .inl ⟨_, _, ru⟩⟩) rfl))
    | @of _ k is ss hn das =>
      refine sq_if (b := false) (eb_t (K := K) (ed_op (ed_head T hFb rfl rfl hn) ed_non rd_isN)) (fun z => by cases z) fun _ Hc ec => ?_
      obtain ⟨kd, hkd, hk, hss, hsw⟩ := wf_kind wu
      have hkw : k ≠ "whole" := hk ▸ lots_nw (kd.1, kd.2.1) (hP.g.ok _ (List.mem_map.mpr ⟨kd, hkd, rfl⟩))
      refine st_if (b := true) (eb_t (K := K) (ed_op (ed_head T (hFb.ex ec) rfl rfl hn) ed_str (rd_nes (by simp [BN.head, PyData.eqv, hkw])))) fun Hd ed => iteT ?_
      have ecd := ec.trans ed
      have hFd := hFb.ex ecd
      have hmd := ecd _ _ hmb
      have hdd := ecd _ _ hdb
      simp only [List.length_append, List.length_cons, List.length_nil] at lc
      refine ⟨_, rfl, f.x, f.dx, _, rfl, hFd.x, rfl, ⟨_, rfl, { f with Z := [am, ad] }, ns ++ more, ks, fk', j, k, is, ss, kd, rfl, hFd, hP, hn, das, hkd, hk, hss, by omega, by rw [List.length_append]; omega, fun td H3 more3 k3 t3 hF3 hT3 l3 _ => ?_⟩⟩
      obtain ⟨kk, is', ss', kd', kvt, g1, g2, g3, g4, g5, g6, gz, g7⟩ := hT3
      rw [getElem?_mono hn] at g1
      cases g1
      obtain rfl := DnAll.fn g2 das.mono
      obtain rfl := kd_uniq hP g3 hkd (g4.trans hk.symm)
      have klen := Paired.length g7
      obtain ⟨_, _, kl3, kmk⟩ := hP.kn kd' hkd
      refine ⟨td, .dK kvt, g5, trivial, fun od => ⟨td, od, kvt, rfl, upd_same .., ?_⟩⟩
      have h4t : upd H3 td (.frz od (.dK kvt)) td = some (.frz od (.dK kvt)) := upd_same ..
      have h4o : ∀ a, a ≠ td → upd H3 td (.frz od (.dK kvt)) a = H3 a := fun a ha => upd_ne ha
      generalize upd H3 td (.frz od (.dK kvt)) = H4 at h4t h4o
      have nat : am ≠ td := fun z => gz (z ▸ List.mem_cons_self ..)
      have ndt : ad ≠ td := fun z => gz (z ▸ List.mem_cons_of_mem _ (List.mem_cons_self ..))
      have h4m : H4 am = some (.dK (metK M)) := (h4o _ nat).trans (k3 _ _ amS hmd)
      have h4d : H4 ad = some (.lst (Dp.map fun j => V.int ((j : Nat) : Int))) := (h4o _ ndt).trans (k3 _ _ adS hdd)
      refine for_vals (fun q σ' H' => ∃ (o5 o6 : Option V) (M2 D2 : List Nat), σ' = [some (V.ref f.x), some (.int ((i : Nat) : Int)), some (.ref am), some (.ref ad), some (.int ((j : Nat) : Int)), o5, o6] ∧ Kp [am, ad] H4 H' ∧ H' am = some (.dK (metK M2)) ∧ H' ad = some (.lst (D2.map fun j => V.int ((j : Nat) : Int))) ∧ LI (ns ++ more ++ more3) M Dp M2 D2 (fsUpTo kd' ss' q) ∧ (fsUpTo kd' ss' q).length ≤ 3 * q) ?_ ?_ ?_ ?_
      · exact ⟨_, _, M, Dp, rfl, Kp.refl _ _, h4m, h4d, LI.start ndM fun x hx => hDM x (List.mem_append.mpr (.inl hx)), Nat.zero_le _⟩
      · rintro q σ' H' _ ⟨_, _, _, _, _, kk, _⟩
        exact kk _ _ gz h4t
      · rintro q key x σ' H' hx ⟨o5, o6, M2, D2, rfl, kk, hm2, hd2, li, hlen⟩
        refine gd_name _ ?_
        obtain ⟨m, hmq, mk⟩ := paired_get g7 hx
        obtain ⟨_, l, ids, xe, hl3, nlS, nlZ, dns⟩ := mk
        obtain rfl : x = .ref l := xe
        have hmm := List.mem_of_getElem? hmq
        have hqk : q < kd'.2.2.length := (List.getElem?_eq_some_iff.mp hmq).1
        obtain ⟨_, ml3, _⟩ := kmk m hmm
        have nlt : l ≠ td := fun z => by rw [z, g5] at hl3; cases hl3
        have hl' : H' l = some (.lst (ids.map fun i => V.int ((i : Nat) : Int))) := kk _ _ nlZ ((h4o _ nlt).trans hl3)
        have imI : ImAll K H' (ids.map fun i => V.int ((i : Nat) : Int)) (ids.map fun i => PyData.int ((i : Nat) : Int)) := im_ints _
        refine st_forE (ev_v rfl) hl' imI fun H5 e5 => ?_
        refine ⟨fun r σ'' H'' => ∃ (o6 : Option V) (M2 D2 : List Nat), σ'' = [some (V.ref f.x), some (.int ((i : Nat) : Int)), some (.ref am), some (.ref ad), some (.int ((j : Nat) : Int)), some (.ref l), o6] ∧ Kp [am, ad] H5 H'' ∧ H'' am = some (.dK (metK M2)) ∧ H'' ad = some (.lst (D2.map fun j => V.int ((j : Nat) : Int))) ∧ LI (ns ++ more ++ more3) M Dp M2 D2 (fsUpTo kd' ss' q ++ (m.2.take r).map (tput ss')), ⟨_, M2, D2, rfl, Kp.refl _ _, e5 _ _ hm2, e5 _ _ hd2, by simpa using li⟩, ?_, ?_, ?_⟩
        · rintro r σ'' H'' ⟨_, _, _, _, kk5, _⟩
          exact ⟨twoT (e5 _ _ hm2) (e5 _ _ hd2) kk5, kk5 _ _ nlZ (e5 _ _ hl')⟩
        · rintro r y vy σ'' H'' hy iy ⟨o6, M3, D3, rfl, kk5, hm3, hd3, li3⟩
          rw [List.getElem?_map] at hy
          obtain ⟨x', hx', rfl⟩ := Option.map_eq_some_iff.mp hy
          obtain rfl := iy.int_of
          obtain ⟨v, hv, dv⟩ := dns.get hx'
          rw [List.getElem?_map] at hv
          obtain ⟨g, hg, rfl⟩ := Option.map_eq_some_iff.mp hv
          have etk : (m.2.take (r + 1)).map (tput ss') = (m.2.take r).map (tput ss') ++ [tput ss' g] := by rw [take_snoc hg, List.map_append]; rfl
          have bd := li3.le
          rw [List.length_append, List.length_map, List.length_take] at bd
          have ln := li3.len
          refine gd_name _ ?_
          refine st_if (eb_ninDI (ed_var rfl (.int _)) (ev_v rfl) hm3) fun H6 e6 => ?_
          rw [metV]
          by_cases hx2 : x' ∈ M3
          · rw [if_pos hx2]
            refine iteF ⟨_, M3, D3, rfl, kk5.ex e6, e6 _ _ hm3, e6 _ _ hd3, ?_⟩
            rw [etk, ← List.append_assoc]
            exact li3.old hx2 dv
          · rw [if_neg hx2]
            refine iteT ?_
            refine ⟨_, rfl, _, rfl, am, _, rfl, DPut.k (k := .inl ((x' : Nat) : Int)) (e6 _ _ hm3) (Evl.sz_lt (by rw [metK, List.length_map]; omega)), ?_⟩
            rw [met_put hx2]
            have hd7 : upd H6 am (.dK (metK (M3 ++ [x']))) ad = some (.lst (D3.map fun j => V.int ((j : Nat) : Int))) := by rw [upd_ne (Ne.symm nmd)]; exact e6 _ _ hd3
            have hm7 : upd H6 am (.dK (metK (M3 ++ [x']))) am = some (.dK (metK (M3 ++ [x']))) := upd_same ..
            have kk7 : Kp [am, ad] H5 (upd H6 am (.dK (metK (M3 ++ [x'])))) := (kk5.ex e6).upd (by simp)
            generalize upd H6 am (.dK (metK (M3 ++ [x']))) = H7 at hd7 hm7 kk7
            refine st_drop (te_append rfl hd7 (ed_var rfl (.int _)) (by rw [List.length_map]; omega) fun v H8 e8 i8 => ?_)
            obtain rfl := i8.int_of
            refine ⟨_, M3 ++ [x'], D3 ++ [x'], rfl, (kk7.ex e8).upd (by simp), by rw [upd_ne nmd]; exact e8 _ _ hm7, by rw [List.map_append]; exact upd_same .., ?_⟩
            rw [etk, ← List.append_assoc]
            exact li3.put hx2 dv
        · rintro σ'' H'' ⟨o6, M3, D3, rfl, kk5, hm3, hd3, li3⟩
          have el : (ids.map fun i => PyData.int ((i : Nat) : Int)).length = m.2.length := by rw [List.length_map, dns.len, List.length_map]
          rw [el, List.take_length] at li3
          have ef : fsUpTo kd' ss' (q + 1) = fsUpTo kd' ss' q ++ m.2.map (tput ss') := by
            unfold fsUpTo
            rw [take_snoc hmq, List.flatMap_append]
            simp
          refine ⟨_, _, M3, D3, rfl, (kk.ex e5).trans kk5, hm3, hd3, by rw [ef]; exact li3, ?_⟩
          rw [ef, List.length_append, List.length_map]
          omega
      · rintro σ' H' ⟨o5, o6, M2, D2, rfl, kk, hm2, hd2, li, hlen⟩
        rw [klen] at li hlen
        refine ⟨td, od, .dK kvt, kk _ _ gz h4t, (fun o' u' z => by
          have := k3 _ _ g6 z
          rw [g5] at this
          cases this), ?_⟩
        have k6 : Kp [am, ad] H3 (upd H' td (.dK kvt)) := fun a o ha ho => by
          by_cases e : a = td
          · subst e
            rw [g5] at ho
            rw [upd_same]; exact ho
          · rw [upd_ne e]
            exact kk _ _ ha ((h4o _ e).trans ho)
        have h6m : upd H' td (.dK kvt) am = some (.dK (metK M2)) := by rw [upd_ne nat]; exact hm2
        have h6d : upd H' td (.dK kvt) ad = some (.lst (D2.map fun j => V.int ((j : Nat) : Int))) := by rw [upd_ne ndt]; exact hd2
        generalize upd H' td (.dK kvt) = H6 at k6 h6m h6d
        have t6 : Tk H3 H6 := twoT (k3 _ _ amS hmd) (k3 _ _ adS hdd) k6
        have hF6 := hF3.kpZ k6 t6 (twoZ h6m h6d)
        have kS6 : Kp f.S H H6 := by
          have := (((kB.ex ecd).trans k3).sub (T := [am, ad] ++ f.S) (fun p hp => List.mem_append.mpr (.inr hp))).trans (k6.sub (T := [am, ad] ++ f.S) (fun p hp => List.mem_append.mpr (.inl hp)))
          exact (this.drop ham).drop had0
        have tS6 : Tk H H6 := ((tB.trans (Tk.ex ecd)).trans t3).trans t6
        have fld : ∀ {v}, v ∈ fsUpTo kd' ss' kd'.2.2.length → FldT ks (.of k ss') v := fun {v} hv => by
          obtain ⟨m, hm', hv⟩ := List.mem_flatMap.mp hv
          obtain ⟨g, hg, rfl⟩ := List.mem_map.mp hv
          exact ⟨k, ss', kd', m, g, rfl, hkd, hk, List.mem_of_mem_take hm', hg, rfl⟩
        have fld' : ∀ {v}, FldT ks (.of k ss') v → v ∈ fsUpTo kd' ss' kd'.2.2.length := fun {v} hv => by
          obtain ⟨k2, s2, kd2, m, g, e, hk2, e2, hm', hg, rfl⟩ := hv
          injection e with e3 e4
          subst e3 e4
          obtain rfl := kd_uniq hP hk2 hkd (e2.trans hk.symm)
          unfold fsUpTo
          rw [List.take_length]
          exact List.mem_flatMap.mpr ⟨m, hm', List.mem_map.mpr ⟨g, hg, rfl⟩⟩
        have hG2 : Gud ks (ns ++ more ++ more3) t M2 := fun x hx => by
          rcases li.new x hx with h | ⟨_, v, hv, dv⟩
          · obtain ⟨u', d', r'⟩ := hG x h
            exact ⟨u', d'.mono, r'⟩
          · exact ⟨v, dv, ru.step (fld hv)⟩
        have ln := li.len
        have le := li.le
        have ge := li.ge
        have eM : (metK M2).length = M2.length := List.length_map _
        have lenE : Ed K (tCB (rLenA K) (tCons (tVar 2) tNil)) [some (V.ref f.x), some (.int ((i : Nat) : Int)), some (.ref am), some (.ref ad), some (.int ((j : Nat) : Int)), o5, o6] H6 (.int (M2.length : Nat)) := fun H7 e7 Q q => te_cb1 ⟨_, rfl, len_d (e7 _ _ h6m) (by rw [eM]; exact q _ H7 (Ex.refl _) (.int _))⟩
        refine st_if (b := decide (400 < (M2.length : Int))) (eb_t (K := K) (ed_op lenE ed_int rd_cmp)) fun H7 e7 => ?_
        have hF7 := hF6.ex e7
        by_cases hbig : 400 < M2.length
        · rw [decide_eq_true (by omega)]
          refine iteT (st_ret (te_c (q false H7 (more ++ more3) (j :: fk') (kS6.ex e7) (tS6.trans (Tk.ex e7)) (by rw [← List.append_assoc]; exact hF7.noZ hfZ) ?_ ?_ (isPl_many hF7.b.nd li.nd hbig hG2) fun z => by cases z)))
          · simp only [List.length_append]; omega
          · simp only [List.length_cons]; omega
        · rw [decide_eq_false (by omega)]
          refine iteF ⟨_, ?_, _, o5, o6, M2, D2, more ++ more3, j :: fk', calls + 1, rfl, rfl, e7 _ _ h6m, e7 _ _ h6d, by rw [← List.append_assoc]; exact hF7, kS6.ex e7, tS6.trans (Tk.ex e7), li.nd, by omega, li.sub _ hiM, li.dq, by rw [← List.append_assoc]; exact hG2, (fun x hx => ?_), by rw [List.length_append]; omega, by rw [List.length_cons]; omega, by omega⟩
          · rw [List.length_append, List.length_cons, List.length_nil]; omega
          · rw [← List.append_assoc]
            rcases li.new x hx with h | ⟨h, _⟩
            · by_cases e : x = j
              · subst e
                exact .inr ⟨.of k ss', (Dn.of hn das).mono, (fun a c z => nomatch z), (fun v hv => li.all v (fld' hv)), fun _ => List.mem_cons_self ..⟩
              · rcases hU x h with h | h
                · rcases List.mem_append.mp h with h | h
                  · exact .inl (li.dp x h)
                  · exact absurd (by simpa using h) e
                · exact .inr (h.mono (fun y hy => List.mem_cons_of_mem _ hy) li.sub)
            · exact .inl h
/-! ### words of a type -/
def fsOf (ks : List Knd) (k : Str) (ss : List M5.Ty) (s : Str) : Option (List M5.Ty) := (ks.find? fun kd => kd.1 == k).bind fun kd => (kd.2.2.find? fun m => m.1 == s).map fun m => m.2.map (tput ss)
def stepT (ks : List Knd) : M5.Ty → Wd → Option (List M5.Ty)
  | .whole, .int _ => some []
  | .of k ss, .str s => fsOf ks k ss s
  | _, _ => none
def hasT (ks : List Knd) : List Wd → List M5.Ty → Bool
  | [], _ => true
  | _ :: _, [] => false
  | w :: ws, t :: us => match stepT ks t w with
    | some fs => hasT ks ws (fs ++ us)
    | none => false
theorem fsOf_kd {ks : List Knd} (hP : PgOk ks) {kd : Knd} (hkd : kd ∈ ks) {k : Str} (hk : kd.1 = k) (ss : List M5.Ty) (s : Str) : fsOf ks k ss s = (kd.2.2.find? fun m => m.1 == s).map fun m => m.2.map (tput ss) := by
  unfold fsOf
  cases e : ks.find? fun kd => kd.1 == k with
  | none =>
    have := List.find?_eq_none.mp e kd hkd
    simp [hk] at this
  | some kd2 =>
    have h1 := List.mem_of_find?_eq_some e
    have h2 : kd2.1 = k := by simpa using List.find?_some e
    obtain rfl := kd_uniq hP h1 hkd (h2.trans hk.symm)
    rfl
theorem mkt_val {H : Hp} {f : FP} {ns : List BN} {ss : List M5.Ty} {kvt : List (L2.Key × V)} {l : List Mkr} (s : Str) (pr : Paired (MkT K H f ns ss) kvt l) : (l.find? (fun m => m.1 == s) = none → valV kvt (.inr s) = none) ∧
    ∀ m, l.find? (fun m => m.1 == s) = some m → ∃ a ids, valV kvt (.inr s) = some (.ref a) ∧ H a = some (.lst (ids.map fun i => V.int ((i : Nat) : Int))) ∧ a ∉ f.S ∧ a ∉ f.Z ∧ DnAll ns ids (m.2.map (tput ss)) := by
  induction pr with
  | nil => exact ⟨fun _ => rfl, fun m h => by simp at h⟩
  | @cons p m ps ms r t ih =>
    obtain ⟨e, a, ids, r1, r2, r3, r4, r5⟩ := r
    by_cases h : m.1 = s
    · have hv : valV (p :: ps) (.inr s) = some p.2 := valV_pos (by rw [e, h])
      have hf : (m :: ms).find? (fun m => m.1 == s) = some m := by rw [List.find?_cons]; simp [h]
      rw [hf, hv]
      refine ⟨(fun z => by cases z), fun m' z => ?_⟩
      obtain rfl := Option.some.inj z
      exact ⟨a, ids, by rw [r1], r2, r3, r4, r5⟩
    · have hv : valV (p :: ps) (.inr s) = valV ps (.inr s) := valV_neg (by rw [e]; exact fun z => h (Sum.inr.inj z))
      have hf : (m :: ms).find? (fun m => m.1 == s) = ms.find? (fun m => m.1 == s) := by
        have h' : (m.1 == s) = false := by simpa using h
        rw [List.find?_cons, h']
      rw [hf, hv]
      exact ih
theorem te_hit (T : Tx K mg) {H : Hp} {f : FP} {ns : List BN} {ks : List Knd} {fk is : List Nat} {i j : Nat} {k : Str} {ss : List M5.Ty} {kd : Knd} {σ : L2.St} {Q : VK} (h : FieldsAt P w K H f ns ks fk) (hP : PgOk ks) (h0 : σ[0]? = some (some (.ref f.x))) (hi : σ[i]? = some (some (.int ((j : Nat) : Int)))) (hn : ns[j]? = some (.of k is)) (das : DnAll ns is ss)
    (hkd : kd ∈ ks) (hk : kd.1 = k) (hss : ss.length = kd.2.1) (hj : j ∈ fk) (hfk : fk.length ≤ 1000) (hns : ns.length ≤ 39000) (q : ∀ td kvt H2, Ex H H2 → H2 td = some (.dK kvt) → Paired (MkT K H2 f ns ss) kvt kd.2.2 → Q (.ref td) H2) :
    tMeth (He.ga K "Fields") "of" (Sof P w K) [] E0 (tVar 0) (tCons (tVar i) tNil) σ H Q :=
  ⟨_, h0, f.x, f.dx, _, rfl, h.x, rfl, ⟨_, hi, f, ns, ks, fk, j, k, is, ss, kd, rfl, h, hP, hn, das, hkd, hk, hss, hfk, hns, fun td H2 more k2 t2 hF2 hT2 l2 hh => by
    obtain ⟨e, rfl⟩ := hh hj
    obtain ⟨kk, is', ss', kd', kvt, g1, g2, g3, g4, g5, g6, gz, g7⟩ := hT2
    rw [List.append_nil] at g1 g2 g7
    rw [hn] at g1
    cases g1
    obtain rfl := DnAll.fn g2 das
    obtain rfl := kd_uniq hP g3 hkd (g4.trans hk.symm)
    exact q td kvt H2 e g5 g7⟩⟩
def SfhasType (P : Program) (w : World) (K : PySem.W.Frag) : Sp := fun vs H Q E => ∃ f ns ks fk i t v ws, vs = [.ref f.x, .int ((i : Nat) : Int), v] ∧ f.Z = [] ∧ FieldsAt P w K H f ns ks fk ∧ PgOk ks ∧ Dn ns i t ∧ t.Wf (ksOf ks) 0 ∧ fk.length ≤ 1000 ∧ ns.length ≤ 39000 ∧
  (∀ u, Rch ks t u → (∀ a c, u ≠ .to a c) ∧ ∃ j, Dn ns j u ∧ ((∃ k ss, u = .of k ss) → j ∈ fk)) ∧ Im K H v (.tuple (ws.map Wd.d)) ∧ ws.length ≤ 4000 ∧ goW ks 1 ws = true ∧ ∀ H2, Ex H H2 → Q (.bl (hasT ks ws [t])) H2
theorem nodup_map_inj {α β : Type} {f : α → β} {l : List α} (h : (l.map f).Nodup) {a b : α} (ha : a ∈ l) (hb : b ∈ l) (e : f a = f b) : a = b := by
  induction l with
  | nil => cases ha
  | cons x l ih =>
    rw [List.map_cons, List.nodup_cons] at h
    rcases List.mem_cons.mp ha with rfl | ka <;> rcases List.mem_cons.mp hb with rfl | kb
    · rfl
    · exact (h.1 (List.mem_map.mpr ⟨b, kb, e.symm⟩)).elim
    · exact (h.1 (List.mem_map.mpr ⟨a, ka, e⟩)).elim
    · exact ih h.2 ka kb
theorem arW_step {ks : List Knd} (hP : PgOk ks) {t : M5.Ty} {wd : Wd} {fs : List M5.Ty} (h : stepT ks t wd = some fs) : arW ks wd = (fs.length : Nat) := by
  cases t with
  | whole => cases wd <;> first | (cases h; rfl) | cases h
  | var _ => cases wd <;> cases h
  | to _ _ => cases wd <;> cases h
  | of k ss => cases wd with
    | str s =>
      have h' : fsOf ks k ss s = some fs := h
      unfold fsOf at h'
      obtain ⟨kd, h1, h2⟩ := Option.bind_eq_some_iff.mp h'
      obtain ⟨m, h3, rfl⟩ := Option.map_eq_some_iff.mp h2
      have hm : m ∈ mkrsOf ks := List.mem_flatMap.mpr ⟨kd, List.mem_of_find?_eq_some h1, List.mem_of_find?_eq_some h3⟩
      have hs : m.1 = s := by simpa using List.find?_some h3
      have nd : ((mkrsOf ks).map (·.1)).Nodup := by
        have := hP.mkr
        unfold mkrsOf
        rw [List.map_flatMap]
        exact this
      show arS ks s = _
      unfold arS
      cases e : (mkrsOf ks).find? fun m => m.1 == s with
      | none =>
        have := List.find?_eq_none.mp e m hm
        simp [hs] at this
      | some m' =>
        have e1 := List.mem_of_find?_eq_some e
        have e2 : m'.1 = s := by simpa using List.find?_some e
        obtain rfl := nodup_map_inj nd e1 hm (e2.trans hs.symm)
        simp
    | int _ => cases h
    | bool _ => cases h
    | none => cases h
    | fn => cases h
theorem DnAll.append {ns : List BN} : ∀ {is js : List Nat} {ss ts : List M5.Ty}, DnAll ns is ss → DnAll ns js ts → DnAll ns (is ++ js) (ss ++ ts)
  | _, _, _, _, .nil, h => h
  | _, _, _, _, .cons a b, h => .cons a (DnAll.append b h)
theorem ok_Fields_has_type (T : Tx K mg) : Ok P w K mg base 10 d_Fields_has_type ["self", "number", "words"] (SfhasType P w K) := by
  have G_is_int := ok_is_int (P := P) (w := w) (base := base) T
  have G_Bank_head := ok_Bank_head (P := P) (w := w) (base := base) T
  have G_Fields_of := ok_Fields_of (P := P) (w := w) (base := base) T
  refine (T.F_Fields_has_type).ok sc_Fields_has_type (fun vs H Q E ⟨f, ns, ks, fk, i, t, v, ws, e, _⟩ => by rw [e]; rfl) (fun cdv A outer s H vs Q E hr h => ?_)
  obtain ⟨f, ns, ks, fk, i, t, v, ws, rfl, hfZ, hF, hP, dt, wt, hfk, hns, hR, iv, hws, hgo, q⟩ := h
  refine ⟨_, PSs.nox ((pss_cons (ps_set (i := 3) sc_Fields_has_type.nd rfl (by first | exact Or.inl rfl | exact Or.inr rfl) (pe_lst (pa_cons (pv 1) pa_nil)))
  (pss_cons (ps_for PassesOwn.never rfl (pi_tupK (K := K) rfl (pv 2)) (pg_name (i := 4) sc_Fields_has_type.nd rfl (by first | exact Or.inl rfl | exact Or.inr rfl)) (pss_cons (ps_set (i := 5) sc_Fields_has_type.nd rfl (by first | exact Or.inl rfl | exact Or.inr rfl) (pe_bm0 PySem.F.plainAttrs_list PySem.F.slot_list_pop PySem.F.type_list_pop mt_pop (pv 3)))
  (pss_one (ps_if (pt_val (pe_call G_is_int (hr.mono (by omega)) rfl T.g_is_int T.k_is_int T.B_is_int .nil pass0 (pa_cons (pv 4) pa_nil))) (pss_one (ps_if (pt_cmpR (op_neK (K := K) rfl hr) (pe_meth (pe_fldK (K := K) rfl (pv 0) rfl) T.c_Bank T.M_Bank_head G_Bank_head (hr.mono (by omega)) T.B_Bank_head .nil pass0 (pa_cons (pv 5) pa_nil)) pe_str (nomark _)) (pss_one (ps_ret pe_bl)) pss_nil)) (pss_cons (ps_if (PW.pt (pw_or (pt_cmpR (op_eqK (K := K) rfl hr) (pe_meth (pe_fldK (K := K) rfl (pv 0) rfl) T.c_Bank T.M_Bank_head G_Bank_head (hr.mono (by omega)) T.B_Bank_head .nil pass0 (pa_cons (pv 5) pa_nil)) pe_str (nomark _)) (pw_or (pt_not (pt_val (pe_callB (call_isiK' (K := K) rfl) rfl T.b_isinstance bb_isinstance (pa_cons (pv 4) (pa_cons (pe_bltn (v := .ty "str") (by rfl) T.b_str bb_str rfl) pa_nil))))) (pw_or1 (pt_cmpR (op_ninK (K := K) rfl hr) (pv 4) (pe_meth (pv 0) T.c_Fields T.M_Fields_of G_Fields_of (hr.mono (by omega)) T.B_Fields_of .nil pass0 (pa_cons (pv 5) pa_nil)) rfl))))) (pss_one (ps_ret pe_bl)) pss_nil)
  (pss_one (ps_expr (pe_bm PySem.F.plainAttrs_list PySem.F.slot_list_extend PySem.F.type_list_extend mt_extend (pv 3) (pa_cons (pe_revL (pe_dget (hu_of hr) (pe_meth (pv 0) T.c_Fields T.M_Fields_of G_Fields_of (hr.mono (by omega)) T.B_Fields_of .nil pass0 (pa_cons (pv 5) pa_nil)) (pv 4) (fun _ _ => rfl))) pa_nil)))))))))
  (pss_one (ps_ret pe_bl))))), ?_⟩
  refine sq_set ⟨_, rfl, by show 1 ≤ sizeLine; decide, fun ad had => ?_⟩
  have e2 : Ex H (upd H ad (.lst [V.int ((i : Nat) : Int)])) := Ex.new had
  have h2d : upd H ad (.lst [V.int ((i : Nat) : Int)]) ad = some (.lst ([i].map fun j => V.int ((j : Nat) : Int))) := upd_same ..
  generalize upd H ad (.lst [V.int ((i : Nat) : Int)]) = H2 at e2 h2d
  have hF2 : FieldsAt P w K H2 { f with Z := [ad] } ns ks fk := hF.withZ (Kp.of e2) e2 [ad] (fun z hz => by
    obtain rfl : z = ad := by simpa using hz
    exact had) (fun z hz => by
    obtain rfl : z = ad := by simpa using hz
    exact ⟨_, h2d⟩) (by rw [hfZ]; simp)
  refine sq_forT (ed_var rfl (iv.ex e2)) fun H3 e3 => ?_
  have hF3 := hF2.ex e3
  have h3d := e3 _ _ h2d
  have hl : (ws.map Wd.d).length = ws.length := List.length_map _
  have tk3 : ∀ {H'}, Kp [ad] H3 H' → Tk H3 H' := fun k => k.tk fun p hp => by
    obtain rfl : p = ad := by simpa using hp
    exact no_lst h3d
  have ex3 : ∀ {H' H''}, Kp [ad] H3 H' → Ex H' H'' → Ex H H'' := fun k e => (((Kp.of (e2.trans e3)).trans k).drop had).to_ex.trans e
  refine ⟨fun n σ' H' => ∃ (o4 o5 : Option V) (D : List Nat) (Us : List M5.Ty), σ' = [some (.ref f.x), some (.int ((i : Nat) : Int)), some v, some (.ref ad), o4, o5] ∧ Kp [ad] H3 H' ∧ H' ad = some (.lst (D.map fun j => V.int ((j : Nat) : Int))) ∧ DnAll ns D.reverse Us ∧ (∀ u ∈ Us, Rch ks t u) ∧ hasT ks ws [t] = hasT ks (ws.drop n) Us ∧ goW ks (Us.length : Nat) (ws.drop n) = true ∧ D.length ≤ 1 + 3 * n ∧ n ≤ ws.length,
    ⟨none, none, [i], [t], rfl, Kp.refl _ _, h3d, .cons dt .nil, (fun u hu => by
      obtain rfl : u = t := by simpa using hu
      exact .refl), rfl, hgo, by simp, Nat.zero_le _⟩, ?_, ?_, ?_⟩
  · rintro n σ' H' ⟨_, _, _, _, _, k, _⟩
    exact tk3 k
  · rintro n y vy σ' H' hy iy ⟨o4, o5, D, Us, rfl, k, hd, da, hrc, hT, hg, hD, hn⟩
    rw [List.getElem?_map] at hy
    obtain ⟨wd, hwd, rfl⟩ := Option.map_eq_some_iff.mp hy
    have hnl : n < ws.length := (List.getElem?_eq_some_iff.mp hwd).1
    have hdr : ws.drop n = wd :: ws.drop (n + 1) := (List.getElem?_eq_some_iff.mp hwd).2 ▸ List.drop_eq_getElem_cons (List.getElem?_eq_some_iff.mp hwd).1
    rw [hdr] at hT hg
    rw [goW] at hg
    by_cases hc : ((Us.length : Nat) : Int) = 0 ∨ arW ks wd < 0
    · rw [if_pos hc] at hg; cases hg
    rw [if_neg hc] at hg
    rcases nil_or_concat D with rfl | ⟨Dp, j, rfl⟩
    · cases da
      exact absurd (.inl rfl) hc
    rw [List.reverse_append, List.reverse_cons, List.reverse_nil, List.nil_append, List.singleton_append] at da
    obtain _ | ⟨du, da⟩ := da
    rename_i u Us
    rw [hasT] at hT
    have ru := hrc u (List.mem_cons_self ..)
    obtain ⟨nto, j', dj, hj⟩ := hR u ru
    obtain rfl := Dn.inj hF.b.nd dj du
    have wu := ru.wf hP wt
    refine gd_name _ ?_
    refine sq_set (te_pop rfl hd (v := V.int ((j' : Nat) : Int)) (by simp) ?_)
    have edl : (((Dp ++ [j']).map fun j => V.int ((j : Nat) : Int))).dropLast = Dp.map fun j => V.int ((j : Nat) : Int) := by rw [List.map_append, List.map_cons, List.map_nil, List.dropLast_concat]
    rw [edl]
    have kb : Kp [ad] H3 (upd H' ad (.lst (Dp.map fun j => V.int ((j : Nat) : Int)))) := k.upd (by simp)
    have hdb : upd H' ad (.lst (Dp.map fun j => V.int ((j : Nat) : Int))) ad = some (.lst (Dp.map fun j => V.int ((j : Nat) : Int))) := upd_same ..
    have iyb : Im K (upd H' ad (.lst (Dp.map fun j => V.int ((j : Nat) : Int)))) vy (Wd.d wd) := iy.mono (Tk.upd (no_lst hd))
    generalize upd H' ad (.lst (Dp.map fun j => V.int ((j : Nat) : Int))) = Hb at kb hdb iyb
    have hFb := hF3.kpZ kb (tk3 kb) (fun z hz => by
      obtain rfl : z = ad := by simpa using hz
      exact ⟨_, hdb⟩)
    simp only [List.length_append, List.length_cons, List.length_nil] at hD
    have isI : ∀ b, isIntD wd.d = b → Eb (tB (tCall (Pu K RisInt) [] E0 (tCons (tVar 4) tNil))) [some (V.ref f.x), some (.int ((i : Nat) : Int)), some v, some (.ref ad), some vy, some (.int ((j' : Nat) : Int))] Hb b := fun b e => eb_b (ed_call (R := RisInt) (ea_cons (ed_var rfl iyb) ea_nil) ⟨_, rfl, by rw [e]⟩)
    have no : ∀ {H2}, Ex Hb H2 → stepT ks u wd = none → Q (.bl false) H2 := fun {H2} e hs => by
      rw [hs] at hT
      have := q H2 (ex3 kb e)
      rw [hT] at this
      exact this
    have go : ∀ {H2 : Hp} {fs : List M5.Ty} {ids : List Nat}, Kp [ad] H3 H2 → stepT ks u wd = some fs → fs.length ≤ 3 → DnAll ns ids fs → (∀ g ∈ fs, FldT ks u g) → H2 ad = some (.lst ((Dp ++ ids.reverse).map fun j => V.int ((j : Nat) : Int))) → ∃ (o4 o5 : Option V) (D : List Nat) (Us : List M5.Ty), [some (V.ref f.x), some (.int ((i : Nat) : Int)), some v, some (.ref ad), some vy, some (.int ((j' : Nat) : Int))] = [some (V.ref f.x), some (.int ((i : Nat) : Int)), some v, some (.ref ad), o4, o5] ∧ Kp [ad] H3 H2 ∧ H2 ad = some (.lst (D.map fun j => V.int ((j : Nat) : Int))) ∧ DnAll ns D.reverse Us ∧ (∀ u ∈ Us, Rch ks t u) ∧ hasT ks ws [t] = hasT ks (ws.drop (n + 1)) Us ∧ goW ks (Us.length : Nat) (ws.drop (n + 1)) = true ∧ D.length ≤ 1 + 3 * (n + 1) ∧ n + 1 ≤ ws.length := fun {H2 fs ids} k2 hs l3 dns hfl h2 => by
      refine ⟨_, _, Dp ++ ids.reverse, fs ++ Us, rfl, k2, h2, ?_, fun g hg' => ?_, ?_, ?_, ?_, hnl⟩
      · rw [List.reverse_append, List.reverse_reverse]
        exact dns.append da
      · rcases List.mem_append.mp hg' with h | h
        · exact ru.step (hfl g h)
        · exact hrc g (List.mem_cons_of_mem _ h)
      · rw [hs] at hT
        exact hT
      · rw [arW_step hP hs] at hg
        rw [← hg]
        congr 1
        simp only [List.length_append, List.length_cons]
        omega
      · have := dns.len
        simp only [List.length_append, List.length_reverse]
        omega
    cases du with
    | @to _ a c s1 s2 hn d1 d2 => exact absurd rfl (nto _ _)
    | whole hnn =>
      cases hw : isIntD wd.d with
      | true =>
        obtain ⟨z, rfl⟩ : ∃ z, wd = .int z := by cases wd <;> first | exact ⟨_, rfl⟩ | cases hw
        refine st_if (isI _ hw) fun Hc ec => iteT ?_
        refine st_if (b := false) (eb_t (K := K) (ed_op (ed_head T (hFb.ex ec) rfl rfl hnn) ed_str (rd_nes rfl))) fun Hd ed => iteF ?_
        exact go (ids := []) (kb.ex (ec.trans ed)) rfl (Nat.zero_le _) .nil (fun g hg => nomatch hg) (by simpa using (ec.trans ed) _ _ hdb)
      | false =>
        refine st_if (isI _ hw) fun Hc ec => iteF ?_
        refine sq_if (b := true) (eb_or (b := true) (c := true) (eb_t (K := K) (ed_op (ed_head T (hFb.ex ec) rfl rfl hnn) ed_str (rd_eqs rfl))) fun z => by cases z) (fun _ Hd ed => ?_) fun z => by cases z
        exact st_ret (te_c (no (ec.trans ed) (by cases wd <;> first | rfl | cases hw)))
    | @of _ k is ss hnn das =>
      obtain ⟨kd, hkd, hk, hss, hsw⟩ := wf_kind wu
      have hkw : k ≠ "whole" := hk ▸ lots_nw (kd.1, kd.2.1) (hP.g.ok _ (List.mem_map.mpr ⟨kd, hkd, rfl⟩))
      have hjk := hj ⟨_, _, rfl⟩
      cases hw : isIntD wd.d with
      | true =>
        obtain ⟨z, rfl⟩ : ∃ z, wd = .int z := by cases wd <;> first | exact ⟨_, rfl⟩ | cases hw
        refine st_if (isI _ hw) fun Hc ec => iteT ?_
        refine st_if (b := true) (eb_t (K := K) (ed_op (ed_head T (hFb.ex ec) rfl rfl hnn) ed_str (rd_nes (by simp [BN.head, PyData.eqv, hkw])))) fun Hd ed => iteT ?_
        exact st_ret (te_c (no (ec.trans ed) rfl))
      | false =>
        refine st_if (isI _ hw) fun Hc ec => iteF ?_
        have hd1 : Eb (tTest (tOp (rEqP K (lineOf 9)) (tMeth (He.ga K "Bank") "head" (SbankHead P w K) [] E0 (tFld K (tVar 0) "bank") (tCons (tVar 5) tNil)) (tC (.str "whole")))) [some (V.ref f.x), some (.int ((i : Nat) : Int)), some v, some (.ref ad), some vy, some (.int ((j' : Nat) : Int))] Hc false := eb_t (K := K) (ed_op (ed_head T (hFb.ex ec) rfl rfl hnn) ed_str (rd_eqs (by simp [BN.head, PyData.eqv, hkw])))
        by_cases hst : ∃ s, wd = .str s
        · obtain ⟨s, rfl⟩ := hst
          have ni : Eb (tTest (tOp (rNiA K (lineI 9)) (tVar 4) (tMeth (He.ga K "Fields") "of" (Sof P w K) [] E0 (tVar 0) (tCons (tVar 5) tNil)))) [some (V.ref f.x), some (.int ((i : Nat) : Int)), some v, some (.ref ad), some vy, some (.int ((j' : Nat) : Int))] Hc (!(fsOf ks k ss s).isSome) := fun H1 e1 Q q => by
            obtain rfl := iyb.str_of
            refine ⟨_, rfl, te_hit T ((hFb.ex ec).ex e1) hP rfl rfl hnn das hkd hk hss hjk hfk hns fun td kvt H2 e2 h2 pr => .inr (.inl ⟨td, _, rfl, .inl ⟨kvt, .inr s, .inl h2, rfl, rfl⟩, ⟨_, rfl, ?_⟩⟩)⟩
            have m1 := mkt_val s pr
            have ef := fsOf_kd hP hkd hk ss s
            have : (!(valV kvt (.inr s)).isSome) = (!(fsOf ks k ss s).isSome) := by
              rw [ef]
              cases e : kd.2.2.find? fun m => m.1 == s with
              | none => rw [m1.1 e]; rfl
              | some m => obtain ⟨a, ids, h1, _⟩ := m1.2 m e; rw [h1]; rfl
            rw [this]
            exact q H2 e2
          refine sq_if (b := false || ((!true) || !(fsOf ks k ss s).isSome)) (eb_or hd1 fun _ => eb_or (eb_not (eb_b (ed_isS (ed_var rfl (iyb.ex ec)) rfl))) fun _ => ni) (fun hb Hd ed => ?_) fun hb Hd ed => ?_
          · refine st_ret (te_c (no (ec.trans ed) ?_))
            show fsOf ks k ss s = none
            simpa using hb
          · have ecd := ec.trans ed
            obtain ⟨fs, hfs⟩ : ∃ fs, fsOf ks k ss s = some fs := by simpa [Option.isSome_iff_exists] using hb
            have ef := fsOf_kd hP hkd hk ss s
            rw [hfs] at ef
            obtain ⟨m, hm, rfl⟩ := Option.map_eq_some_iff.mp ef.symm
            have hmm := List.mem_of_find?_eq_some hm
            obtain rfl := iyb.str_of
            have hdd := ecd _ _ hdb
            refine st_drop ⟨_, rfl, .inl ⟨rfl, _, Evl.sq_of hdd⟩, te_hit T (hFb.ex ecd) hP rfl rfl hnn das hkd hk hss hjk hfk hns fun td kvt H2 e2 h2 pr => ?_⟩
            obtain ⟨a, ids, v1, v2, _, v3, v4⟩ := (mkt_val s pr).2 m hm
            refine ⟨_, rfl, ⟨td, .ref a, rfl, .inl ⟨kvt, .inr s, .inl h2, rfl, v1.symm⟩, ⟨a, _, rfl, Evl.sq_of v2, fun p hp => ?_⟩⟩⟩
            have npd : p ≠ ad := fun z => by rw [z, e2 _ _ hdd] at hp; cases hp
            have lids : ids.length ≤ 3 := by
              rw [v4.len, List.length_map]
              exact ((hP.kn kd hkd).2.2.2 m hmm).2.1
            refine ⟨ad, p, _, _, rfl, rfl, by rw [upd_ne (Ne.symm npd)]; exact e2 _ _ hdd, upd_same .., ?_, ?_⟩
            · rw [List.length_map, List.length_reverse, List.length_map]
              exact Evl.sz_of (by omega)
            · refine go (ids := ids) (fs := m.2.map (tput ss)) (((kb.ex (ecd.trans e2)).ex (Ex.new hp)).upd (by simp)) hfs (by rw [← v4.len]; exact lids) v4 (fun g hg => ?_) ?_
              · obtain ⟨g', hg', rfl⟩ := List.mem_map.mp hg
                exact ⟨k, ss, kd, m, g', rfl, hkd, hk, hmm, hg', rfl⟩
              · rw [upd_same, List.map_append, List.map_reverse]
        · have hns' : isT wd.d "str" = false := by cases wd <;> first | rfl | exact absurd ⟨_, rfl⟩ hst
          refine sq_if (b := true) (eb_or (b := false) (c := true) hd1 fun _ => eb_or (b := true) (c := true) (eb_not (b := false) (eb_b (ed_isS (ed_var rfl (iyb.ex ec)) hns'))) fun z => by cases z) (fun _ Hd ed => ?_) fun z => by cases z
          refine st_ret (te_c (no (ec.trans ed) ?_))
          cases wd <;> first | rfl | exact absurd ⟨_, rfl⟩ hst
  · rintro σ' H' ⟨o4, o5, D, Us, rfl, k, hd, da, hrc, hT, hg, hD, hn⟩
    rw [hl, List.drop_length, hasT] at hT
    refine st_ret (te_c ?_)
    have := q H' (ex3 k (Ex.refl _))
    rw [hT] at this
    exact this
end
end K55
namespace K55
open PySem PySem.Spec PyProof.Rows L2 W5 M5
open Evl (Ex Ev)
section
variable {P : Program} {w : World} {K : PySem.W.Frag} {mg : Str → Option Value} {base : Heap}
mutual
theorem tput_nil {KS : List (Str × Nat)} : ∀ {t : M5.Ty}, t.Wf KS 0 → tput [] t = t
  | .whole, _ => rfl
  | .var i, h => absurd (show i < 0 from h) (Nat.not_lt_zero _)
  | .to a b, h => by rw [tput, tput_nil h.1, tput_nil h.2]
  | .of k ts, h => by rw [tput, tputAll_nil h.2]
theorem tputAll_nil {KS : List (Str × Nat)} : ∀ {ts : List M5.Ty}, Ty.WfAll KS 0 ts → tputAll [] ts = ts
  | [], _ => rfl
  | t :: ts, h => by rw [tputAll, tput_nil h.1, tputAll_nil h.2]
end
def SneedTypeOf (K : PySem.W.Frag) : Sp := fun vs H Q E => ∃ p ks v t, vs = [.ref p, v] ∧ PlanAt K H p ks ∧ PgOk ks ∧ t.Wf (ksOf ks) 0 ∧ Ty.depth t ≤ 8 ∧ Ty.size t ≤ 1000 ∧ Im K H v t.d ∧ ∀ H2, Ex H H2 → Q .non H2
theorem ok_need_type_of (T : Tx K mg) : Ok P w K mg base 14 d_need_type_of ["plan", "thing"] (SneedTypeOf K) := by
  have G_is_closed_in := ok_is_closed_in (P := P) (w := w) (base := base) T
  refine (T.F_need_type_of).ok sc_need_type_of (fun vs H Q E ⟨p, ks, v, t, e, _⟩ => by rw [e]; rfl) (fun cdv A outer s H vs Q E hr h => ?_)
  obtain ⟨p, ks, v, t, rfl, hp, hP, hw, hd, hs, iv, q⟩ := h
  refine ⟨_, PSs.nox ((pss_one (ps_if (pt_not (pt_val (pe_call G_is_closed_in (hr.mono (by omega)) rfl T.g_is_closed_in T.k_is_closed_in T.B_is_closed_in .nil pass0 (pa_cons (pe_fldK (K := K) rfl (pv 0) rfl) (pa_cons (pv 1) pa_nil))))) (pss_one ps_never) pss_nil))), ?_⟩
  obtain ⟨dx, vp, h, vb, lu, dn, lf, h1, h2, h3, h4, h5⟩ := id hp
  refine st_if (b := false) (eb_not (b := true) fun H1 e1 Q' q' => ⟨_, rfl, p, _, dx, _, vb, rfl, e1 _ _ h1, T.c_Plan, T.n_Plan_book, rfl, ⟨_, rfl, vb, v, t, ksOf ks, rfl, hP.g, h3.tk e1, hw, hd, hs, iv.ex e1, fun H2 e2 => ⟨true, rfl, q' H2 e2⟩⟩⟩) fun H2 e2 => iteF (q H2 e2)
theorem te_bank (T : Tx K mg) {σ : L2.St} {H : Hp} {Q : VK} (k : ∀ b H1, Ex H H1 → H b.x = none → (∀ y ∈ b.S, H y = none) → b.x ∉ b.S → BankAt P w K H1 b [] → Q (.ref b.x) H1) : tMake (He.ga K "Bank") (SbankInit P w K) [] E0 tNil σ H Q :=
  te_make (K := K) ea_nil fun vs x dx H1 e1 im hx ne hx1 => by
    obtain rfl := im.nil_of
    refine ⟨x, dx, rfl, hx1, fun b H2 hbx hbd kp n1 n2 n3 hB => ⟨rfl, ?_⟩⟩
    subst hbx
    refine k b H2 (((Kp.of e1).trans kp).drop hx).to_ex hx (fun y hy => ?_) (fun hm => ?_) hB
    · simp only [BP.S, List.mem_cons, List.not_mem_nil, or_false] at hy
      rcases hy with rfl | rfl | rfl
      · exact Evl.fresh_back e1 n1
      · exact Evl.fresh_back e1 n2
      · exact Evl.fresh_back e1 n3
    · simp only [BP.S, List.mem_cons, List.not_mem_nil, or_false] at hm
      rcases hm with h | h | h
      · rw [h, n1] at hx1; cases hx1
      · rw [h, n2] at hx1; cases hx1
      · rw [h, n3] at hx1; cases hx1
theorem te_mkF (T : Tx K mg) {σ : L2.St} {Hq H : Hp} {p : Addr} {ks : List Knd} {b : BP} {ip ib : Nat} {Q : VK} (h1 : σ[ip]? = some (some (.ref p))) (h2 : σ[ib]? = some (some (.ref b.x))) (hp : PlanAt K Hq p ks) (e : Ex Hq H) (hS : ∀ y ∈ b.S, Hq y = none) (nb : b.x ∉ b.S) (hB : BankAt P w K H b [])
    (k : ∀ f H1, f.b = b → f.p = p → f.Z = [] → Ex H H1 → (∀ y ∈ f.S, Hq y = none) → FieldsAt P w K H1 f [] ks [] → Q (.ref f.x) H1) : tMake (He.ga K "Fields") (SfieldsInit K) [] E0 (tCons (tVar ip) (tCons (tVar ib) tNil)) σ H Q := by
  refine ⟨_, h1, _, h2, fun x dx hx hdx ne => ?_⟩
  have e2 : Ex H (upd (upd H dx (.own x)) x (.ins (He.ga K "Fields") dx [])) := (Ex.new hdx).trans (Ex.new (by rw [upd_ne (Ne.symm ne)]; exact hx))
  have hx2 : upd (upd H dx (.own x)) x (.ins (He.ga K "Fields") dx []) x = some (.ins (He.ga K "Fields") dx []) := upd_same ..
  generalize upd (upd H dx (.own x)) x (.ins (He.ga K "Fields") dx []) = H2 at e2 hx2
  refine ⟨x, dx, p, b.x, rfl, hx2, fun af H3 haf k3 h3x h3f => ⟨rfl, ?_⟩⟩
  have e3 : Ex H H3 := (((Kp.of e2).trans k3).drop hx).to_ex
  have haf0 : H af = none := Evl.fresh_back e2 haf
  have sb : ∀ y ∈ [b.x, b.an, b.az, b.ai], ∃ o, H y = some o := hB.some
  have nf : af ∉ b.S := fun hm => by
    obtain ⟨o, ho⟩ := sb af (List.mem_cons_of_mem _ (by simpa [BP.S] using hm))
    rw [haf0] at ho; cases ho
  have nxf : x ≠ af := fun z => by rw [z, haf] at hx2; cases hx2
  have nbf : b.x ≠ af := fun z => by
    obtain ⟨o, ho⟩ := sb b.x (List.mem_cons_self ..)
    rw [z, haf0] at ho; cases ho
  have nxb : x ∉ b.S := fun hm => by
    obtain ⟨o, ho⟩ := sb x (List.mem_cons_of_mem _ (by simpa [BP.S] using hm))
    rw [hx] at ho; cases ho
  have fS : ∀ y ∈ af :: b.S, Hq y = none := fun y hy => by
    rcases List.mem_cons.mp hy with rfl | hy
    · exact Evl.fresh_back e haf0
    · exact hS y hy
  refine k ⟨x, dx, p, af, b, []⟩ H3 rfl rfl rfl e3 fS ⟨h3x, fun H' k' => hp.ex fun a o ho => ?_, hB.kp e3, nf, ?_, ?_, (fun z hz => nomatch hz), (fun z hz => nomatch hz), ⟨[], h3f, Nat.le_refl _, (fun j hj => nomatch hj), fun key v hv => by cases hv⟩⟩
  · refine k' a o (fun hm => ?_) (e3 _ _ (e _ _ ho))
    have := fS a (by simpa [FP.S] using hm)
    rw [this] at ho; cases ho
  · exact fun hm => (List.mem_cons.mp hm).elim nxf nxb
  · exact fun hm => (List.mem_cons.mp hm).elim nbf nb
theorem te_num (T : Tx K mg) {σ : L2.St} {H : Hp} {f : FP} {ks : List Knd} {t : M5.Ty} {v : V} {ib ic : Nat} {Q : VK} (h1 : σ[ib]? = some (some (.ref f.b.x))) (h2 : σ[ic]? = some (some v)) (hF : FieldsAt P w K H f [] ks []) (hZ : f.Z = []) (hP : PgOk ks) (iv : Im K H v t.d) (hw : t.Wf (ksOf ks) 0) (hd : t.depth ≤ 8) (hs : t.size ≤ 1000)
    (k : ∀ i ns H2, Kp f.S H H2 → Tk H H2 → FieldsAt P w K H2 f ns ks [] → Dn ns i t → ns.length ≤ 1000 → Q (.int ((i : Nat) : Int)) H2) : tMeth (He.ga K "Bank") "number" (SbankNumber P w K 8) [] E0 (tVar ib) (tCons (tVar ic) (tCons (tC .non) tNil)) σ H Q := by
  refine ⟨_, h1, f.b.x, f.b.dx, _, rfl, hF.b.x, rfl, ⟨_, h2, f.b, [], t, v, .non, [], [], ksOf ks, rfl, hF.b, iv, hd, hP.g.ok, hw, .inl ⟨rfl, rfl, rfl⟩, by simp only [List.length_nil]; omega, fun i H2 more k2 t2 hB2 dn lm => ?_⟩⟩
  rw [tput_nil hw] at dn
  have kS : Kp f.S H H2 := k2.sub f.bS_sub
  have nx : f.x ∉ f.b.S := fun hm => hF.xS (f.bS_sub _ hm)
  refine k i more H2 kS t2 ⟨k2 _ _ nx hF.x, fun H' k' => hF.p H' ((FP.zs kS).trans k'), hB2, hF.nf, hF.xS, hF.bS, (fun z hz => by rw [hZ] at hz; cases hz), (fun z hz => by rw [hZ] at hz; cases hz), ?_⟩ dn (by omega)
  obtain ⟨kvf, h1, h2, h3, h4⟩ := hF.found
  obtain rfl := List.eq_nil_of_length_eq_zero (Nat.le_zero.mp h2)
  exact ⟨[], k2 _ _ hF.nf h1, Nat.le_refl _, (fun j hj => nomatch hj), fun key v hv => by cases hv⟩
def SplainTop (K : PySem.W.Frag) : Sp := fun vs H Q E => ∃ v c ks t, vs = [v, c] ∧ PgOk ks ∧ Im K H v (pD ks) ∧ Im K H c (Ty.d t) ∧ t.Wf (ksOf ks) 0 ∧ t.depth ≤ 8 ∧ t.size ≤ 1000 ∧ ∀ b H2, Ex H H2 → IsPl ks t b → Q (.bl b) H2
theorem ok_is_plain (T : Tx K mg) : Ok P w K mg base 16 d_is_plain ["program", "closed"] (SplainTop K) := by
  have G_planned := ok_planned (P := P) (w := w) (base := base) T
  have G_need_type_of := ok_need_type_of (P := P) (w := w) (base := base) T
  have G_Bank_init := ok_Bank_init (P := P) (w := w) (base := base) T
  have G_Bank_number := ok_Bank_number (P := P) (w := w) (base := base) T 8
  have G_Fields_init := ok_Fields_init (P := P) (w := w) (base := base) T
  have G_Fields_is_plain := ok_Fields_is_plain (P := P) (w := w) (base := base) T
  refine (T.F_is_plain).ok sc_is_plain (fun vs H Q E ⟨v, c, ks, t, e, _⟩ => by rw [e]; rfl) (fun cdv A outer s H vs Q E hr h => ?_)
  obtain ⟨v, c, ks, t, rfl, hP, iv, ic, hw, hd, hs, q⟩ := h
  refine ⟨_, PSs.nox ((pss_cons (ps_set (i := 2) sc_is_plain.nd rfl (by first | exact Or.inl rfl | exact Or.inr rfl) (pe_call G_planned (hr.mono (by omega)) rfl T.g_planned T.k_planned T.B_planned .nil pass0 (pa_cons (pv 0) pa_nil)))
  (pss_cons (ps_expr (pe_call G_need_type_of (hr.mono (by omega)) rfl T.g_need_type_of T.k_need_type_of T.B_need_type_of .nil pass0 (pa_cons (pv 2) (pa_cons (pv 1) pa_nil))))
  (pss_cons (ps_set (i := 3) sc_is_plain.nd rfl (by first | exact Or.inl rfl | exact Or.inr rfl) (pe_make0 T.m_Bank G_Bank_init (hr.mono (by omega)) rfl T.g_Bank T.B_Bank_init .nil pass0))
  (pss_one (ps_ret (pe_meth (pe_make T.m_Fields G_Fields_init (hr.mono (by omega)) rfl T.g_Fields T.B_Fields_init .nil pass0 (pa_cons (pv 2) (pa_cons (pv 3) pa_nil))) T.c_Fields T.M_Fields_is_plain G_Fields_is_plain (hr.mono (by omega)) T.B_Fields_is_plain .nil pass0 (pa_cons (pe_meth (pv 3) T.c_Bank T.M_Bank_number G_Bank_number (hr.mono (by omega)) T.B_Bank_number .nil pass0 (pa_cons (pv 1) (pa_cons pe_non pa_nil))) pa_nil)))))))), ?_⟩
  refine sq_set ⟨_, rfl, v, ks, rfl, hP, iv, fun p H1 e1 hp => ?_⟩
  refine sq_drop ⟨_, rfl, _, rfl, p, ks, c, t, rfl, hp, hP, hw, hd, hs, ic.ex e1, fun H2 e2 => ?_⟩
  refine sq_set (te_bank T fun b H3 e3 hbx hbS nb hB => ?_)
  have hp2 := hp.ex e2
  refine st_ret (te_mkF T (p := p) (ks := ks) (b := b) rfl rfl hp2 e3 hbS nb hB fun f H4 hfb hfp hfZ e4 fS hF => ?_)
  subst hfb
  have e14 := (e1.trans e2).trans (e3.trans e4)
  refine ⟨f.x, f.dx, _, rfl, hF.x, rfl, te_num T (t := t) rfl rfl hF hfZ hP (ic.ex e14) hw hd hs fun i ns H5 k5 t5 hF5 dn ln => ?_⟩
  refine ⟨f, ns, ks, [], i, t, rfl, hfZ, hF5, hP, dn, hw, Nat.zero_le _, by omega, fun b' H6 more fk' k6 t6 _ _ _ hpl _ => q b' H6 (fun a o ho => ?_) hpl⟩
  have h2 := e2 _ _ (e1 _ _ ho)
  have na : a ∉ f.S := fun hm => by rw [fS a hm] at h2; cases h2
  exact k6 _ _ na (k5 _ _ na (e4 _ _ (e3 _ _ h2)))
/-- what is asked to be of the type -/
def ThRes (K : PySem.W.Frag) (S : List Addr) (H : Hp) (ks : List Knd) (t : M5.Ty) (v : V) (r : Bool) : Prop := (∃ ws : List Wd, Im K H v (.tuple (ws.map Wd.d)) ∧ ws.length ≤ 4000 ∧ r = (awB ks ws && hasT ks ws [t])) ∨ (∃ q xs, v = .ref q ∧ H q = some (.lst xs) ∧ q ∉ S ∧ r = false) ∨ (∃ d, Im K H v d ∧ isT d "tuple" = false ∧ r = false)
def SofType (P : Program) (w : World) (K : PySem.W.Frag) : Sp := fun vs H Q E => ∃ f ns ks i t v r, vs = [.ref f.x, .int ((i : Nat) : Int), v] ∧ f.Z = [] ∧ FieldsAt P w K H f ns ks [] ∧ PgOk ks ∧ Dn ns i t ∧ t.Wf (ksOf ks) 0 ∧ ns.length ≤ 5000 ∧ ThRes K f.S H ks t v r ∧
  ∀ b H2, Kp f.S H H2 → IsPl ks t b → Q (.bl (b && r)) H2
theorem isPl_no {ks : List Knd} {t : M5.Ty} (h : IsPl ks t true) : ∀ u, Rch ks t u → ∀ a c, u ≠ .to a c := by
  rcases h with ⟨_, L, ht, _, hL⟩ | ⟨z, _⟩
  · intro u hu
    have : u ∈ L := by
      induction hu with
      | refl => exact ht
      | step _ f ih => exact (hL _ ih).2 _ f
    exact (hL u this).1
  · cases z
theorem ok_is_of_type (T : Tx K mg) : Ok P w K mg base 11 d_is_of_type ["fields", "number", "thing"] (SofType P w K) := by
  have G_are_words := ok_are_words (P := P) (w := w) (base := base) T
  have G_Fields_is_plain := ok_Fields_is_plain (P := P) (w := w) (base := base) T
  have G_Fields_has_type := ok_Fields_has_type (P := P) (w := w) (base := base) T
  refine (T.F_is_of_type).ok sc_is_of_type (fun vs H Q E ⟨f, ns, ks, i, t, v, r, e, _⟩ => by rw [e]; rfl) (fun cdv A outer s H vs Q E hr h => ?_)
  obtain ⟨f, ns, ks, i, t, v, r, rfl, hZ, hF, hP, dn, hw, ln, hv, q⟩ := h
  refine ⟨_, PSs.nox ((pss_one (ps_ret (pe_and (pe_meth (pv 0) T.c_Fields T.M_Fields_is_plain G_Fields_is_plain (hr.mono (by omega)) T.B_Fields_is_plain .nil pass0 (pa_cons (pv 1) pa_nil)) (pe_and (pe_call G_are_words (hr.mono (by omega)) rfl T.g_are_words T.k_are_words T.B_are_words .nil pass0 (pa_cons (pe_fldK (K := K) rfl (pv 0) rfl) (pa_cons (pv 2) pa_nil))) (pe_one (pe_meth (pv 0) T.c_Fields T.M_Fields_has_type G_Fields_has_type (hr.mono (by omega)) T.B_Fields_has_type .nil pass0 (pa_cons (pv 1) (pa_cons (pv 2) pa_nil))))))))), ?_⟩
  refine st_ret ⟨_, rfl, f.x, f.dx, _, rfl, hF.x, rfl, ⟨_, rfl, f, ns, ks, [], i, t, rfl, hZ, hF, hP, dn, hw, Nat.zero_le _, ln, fun b H1 more fk' k1 t1 hF1 l1 l2 hpl hr => ⟨b, rfl, ?_⟩⟩⟩
  cases b with
  | false => exact q false H1 k1 hpl
  | true =>
    have hp1 := hF1.pl
    refine ⟨_, rfl, f.x, _, f.dx, _, .ref f.p, rfl, hF1.x, T.c_Fields, T.n_Fields_plan, rfl, ⟨_, rfl, f.p, ks, v, ?_⟩⟩
    rcases hv with ⟨ws, iv, lw, hr'⟩ | ⟨a, xs, rfl, ha, na, hr'⟩ | ⟨d, iv, hd, hr'⟩
    · refine ⟨awB ks ws, rfl, hp1, .inl ⟨ws, iv.mono t1, lw, rfl⟩, fun H2 e2 => ⟨_, rfl, ?_⟩⟩
      cases haw : awB ks ws with
      | false =>
        have := q true H2 (k1.ex e2) hpl
        rw [hr', haw] at this
        exact this
      | true =>
        have hF2 := hF1.ex e2
        have hgo : goW ks 1 ws = true := by
          unfold awB at haw
          simp only [Bool.and_eq_true] at haw
          exact haw.2
        refine ⟨_, rfl, f.x, f.dx, _, rfl, hF2.x, rfl, ⟨_, rfl, _, rfl, f, ns ++ more, ks, fk', i, t, v, ws, rfl, hZ, hF2, hP, dn.mono, hw, l2, l1, fun u hu => ⟨isPl_no hpl u hu, hr rfl u hu⟩, (iv.mono t1).ex e2, lw, hgo, fun H3 e3 => ?_⟩⟩
        have := q true H3 (k1.ex (e2.trans e3)) hpl
        rw [hr', haw] at this
        exact this
    · refine ⟨false, rfl, hp1, .inr (.inl ⟨a, xs, rfl, k1 _ _ na ha, rfl⟩), fun H2 e2 => ⟨_, rfl, ?_⟩⟩
      have := q true H2 (k1.ex e2) hpl
      rw [hr'] at this
      exact this
    · refine ⟨false, rfl, hp1, .inr (.inr ⟨d, iv.mono t1, hd, rfl⟩), fun H2 e2 => ⟨_, rfl, ?_⟩⟩
      have := q true H2 (k1.ex e2) hpl
      rw [hr'] at this
      exact this
def SisOf (K : PySem.W.Frag) : Sp := fun vs H Q E => ∃ v c th ks t r, vs = [v, c, th] ∧ PgOk ks ∧ Im K H v (pD ks) ∧ Im K H c (Ty.d t) ∧ t.Wf (ksOf ks) 0 ∧ t.depth ≤ 8 ∧ t.size ≤ 1000 ∧ ThRes K [] H ks t th r ∧ ∀ b H2, Ex H H2 → IsPl ks t b → Q (.bl (b && r)) H2
theorem ok_is_of (T : Tx K mg) : Ok P w K mg base 16 d_is_of ["program", "closed", "thing"] (SisOf K) := by
  have G_planned := ok_planned (P := P) (w := w) (base := base) T
  have G_need_type_of := ok_need_type_of (P := P) (w := w) (base := base) T
  have G_Bank_init := ok_Bank_init (P := P) (w := w) (base := base) T
  have G_Bank_number := ok_Bank_number (P := P) (w := w) (base := base) T 8
  have G_Fields_init := ok_Fields_init (P := P) (w := w) (base := base) T
  have G_is_of_type := ok_is_of_type (P := P) (w := w) (base := base) T
  refine (T.F_is_of).ok sc_is_of (fun vs H Q E ⟨v, c, th, ks, t, r, e, _⟩ => by rw [e]; rfl) (fun cdv A outer s H vs Q E hr h => ?_)
  obtain ⟨v, c, th, ks, t, r, rfl, hP, iv, ic, hw, hd, hs, hv, q⟩ := h
  refine ⟨_, PSs.nox ((pss_cons (ps_set (i := 3) sc_is_of.nd rfl (by first | exact Or.inl rfl | exact Or.inr rfl) (pe_call G_planned (hr.mono (by omega)) rfl T.g_planned T.k_planned T.B_planned .nil pass0 (pa_cons (pv 0) pa_nil)))
  (pss_cons (ps_expr (pe_call G_need_type_of (hr.mono (by omega)) rfl T.g_need_type_of T.k_need_type_of T.B_need_type_of .nil pass0 (pa_cons (pv 3) (pa_cons (pv 1) pa_nil))))
  (pss_cons (ps_set (i := 4) sc_is_of.nd rfl (by first | exact Or.inl rfl | exact Or.inr rfl) (pe_make0 T.m_Bank G_Bank_init (hr.mono (by omega)) rfl T.g_Bank T.B_Bank_init .nil pass0))
  (pss_one (ps_ret (pe_call G_is_of_type (hr.mono (by omega)) rfl T.g_is_of_type T.k_is_of_type T.B_is_of_type .nil pass0 (pa_cons (pe_make T.m_Fields G_Fields_init (hr.mono (by omega)) rfl T.g_Fields T.B_Fields_init .nil pass0 (pa_cons (pv 3) (pa_cons (pv 4) pa_nil))) (pa_cons (pe_meth (pv 4) T.c_Bank T.M_Bank_number G_Bank_number (hr.mono (by omega)) T.B_Bank_number .nil pass0 (pa_cons (pv 1) (pa_cons pe_non pa_nil))) (pa_cons (pv 2) pa_nil)))))))))), ?_⟩
  refine sq_set ⟨_, rfl, v, ks, rfl, hP, iv, fun p H1 e1 hp => ?_⟩
  refine sq_drop ⟨_, rfl, _, rfl, p, ks, c, t, rfl, hp, hP, hw, hd, hs, ic.ex e1, fun H2 e2 => ?_⟩
  refine sq_set (te_bank T fun b H3 e3 hbx hbS nb hB => ?_)
  have hp2 := hp.ex e2
  refine st_ret (te_cons (te_mkF T (p := p) (ks := ks) (b := b) rfl rfl hp2 e3 hbS nb hB fun f H4 hfb hfp hfZ e4 fS hF => te_cons ?_))
  subst hfb
  have e14 := (e1.trans e2).trans (e3.trans e4)
  refine te_num T (t := t) rfl rfl hF hfZ hP (ic.ex e14) hw hd hs fun i ns H5 k5 t5 hF5 dn ln => ⟨_, rfl, ?_⟩
  have nq : ∀ q, (∃ o, H q = some o) → q ∉ f.S := fun a ⟨o, ho⟩ hm => by
    have := e2 _ _ (e1 _ _ ho)
    rw [fS a hm] at this; cases this
  refine ⟨f, ns, ks, i, t, th, r, rfl, hfZ, hF5, hP, dn, hw, by omega, ?_, fun b' H6 k6 hpl => q b' H6 (fun a o ho => ?_) hpl⟩
  · rcases hv with ⟨ws, iw, lw, hr'⟩ | ⟨a, xs, rfl, ha, _, hr'⟩ | ⟨d, iw, hd', hr'⟩
    · exact .inl ⟨ws, (iw.ex e14).mono t5, lw, hr'⟩
    · exact .inr (.inl ⟨a, xs, rfl, k5 _ _ (nq a ⟨_, ha⟩) (e14 _ _ ha), nq a ⟨_, ha⟩, hr'⟩)
    · exact .inr (.inr ⟨d, (iw.ex e14).mono t5, hd', hr'⟩)
  · have h2 := e2 _ _ (e1 _ _ ho)
    have na : a ∉ f.S := fun hm => by rw [fS a hm] at h2; cases h2
    exact k6 _ _ na (k5 _ _ na (e4 _ _ (e3 _ _ h2)))
end
end K55
/-! slices of lists, comprehensions given by their items, greatest numbers -/
namespace W5
open PySem PySem.Spec PyProof.Rows L2
open Evl (Ex Ev)
theorem sl_listK {X : Cx} {K : PySem.W.Frag} (hK : X.K = K) : SlR X (rSlL K) := by subst hK; exact sl_list
section
variable {K : PySem.W.Frag} {σ : L2.St} {H H' : Hp} {te ta tb tc : TE} {t u : TT} {d x y z : PyData} {ds es : List PyData} {b c : Bool}
theorem el_sl {tl th : TO} {lo hi : Option Int} (ha : Es K te σ H ds) (hl : Eo tl σ H lo) (hh : Eo th σ H hi) : El K (L2.tSl (rSlL K) te tl th) σ H (cutD ds lo hi) := fun H1 e Q q =>
  ha H1 e _ fun p vs H2 e2 hp is => hl H2 (e.trans e2) _ fun H3 e3 => hh H3 ((e.trans e2).trans e3) _ fun H4 e4 => by
    have ee := (e2.trans e3).trans e4
    exact ⟨p, vs, rfl, Evl.ex_l (e3.trans e4) hp, fun r hr => q r _ _ (Evl.fresh_back ee hr) (ee.trans (Ex.new hr)) (upd_same ..) ((is.ex (e3.trans e4)).cut.ex (Ex.new hr))⟩
theorem el_lcX {i : Nat} (ht : Ed K ta σ H (.tuple ds)) (hz : ds.length < 100000) (hl : es.length = ds.length)
    (hb : ∀ (j : Nat) x v H1, ds[j]? = some x → Ex H H1 → Im K H1 v x → ∃ y, es[j]? = some y ∧ Ed K te ((wipe σ [i]).set i (some v)) H1 y) : El K (tLc (iTup K ta) (gName i) tYes te [i]) σ H es := fun H1 e Q q => by
  refine ht H1 e _ fun v H2 e2 i2 => ?_
  obtain ⟨a, vs, rfl, h, hs⟩ := i2.tup_of
  refine ⟨a, rfl, ⟨vs, h⟩, fun D hD => ?_⟩
  have hl2 := hs.length
  refine lc_tup (K := K) (a := a) (xs := vs) (fun j H3 => Ex H2 H3 ∧ ∃ acc, H3 D = some (.lst acc) ∧ ImAll K H3 acc (es.take j) ∧ j ≤ ds.length) ?_ ?_ ?_ ?_
  · exact ⟨Ex.new hD, [], upd_same .., .nil, Nat.zero_le _⟩
  · rintro j H3 _ ⟨e3, _⟩
    exact (Tk.ex e3).sq h
  · rintro j x H3 hx ⟨e3, acc, h3, i3, hj⟩
    obtain ⟨d1, hd, im⟩ := hs.getV hx
    refine ⟨wipe_set _ _ _, ?_⟩
    show te _ _ _
    obtain ⟨y, hy, hb'⟩ := hb j d1 x H3 hd ((e.trans e2).trans e3) (im.ex e3)
    refine hb' H3 (Ex.refl H3) _ fun w H4 e4 i4 => ?_
    have hjl : j < ds.length := (List.getElem?_eq_some_iff.mp hd).1
    refine ⟨acc, e4 _ _ h3, ?_, ?_, ?_⟩
    · have := i3.length
      rw [this, List.length_take]
      exact Evl.sz_lt (by omega)
    · exact Ex.mut (e3.trans e4) hD (o := .lst (acc ++ [w]))
    · refine ⟨_, upd_same .., ?_, hjl⟩
      have t : Tk H4 (upd H4 D (.lst (acc ++ [w]))) := Tk.upd (no_lst (e4 _ _ h3))
      rw [List.take_succ, hy]
      exact ((i3.ex e4).append (.cons i4 .nil)).mono t
  · rintro H3 ⟨e3, acc, h3, i3, _⟩
    rw [hl2, ← hl, List.take_length] at i3
    exact q D acc H3 (Evl.fresh_back e2 hD) (e2.trans e3) h3 i3
theorem el_lcXL {i : Nat} (ht : Es K ta σ H ds) (hz : ds.length < 100000) (hl : es.length = ds.length)
    (hb : ∀ (j : Nat) x v H1, ds[j]? = some x → Ex H H1 → Im K H1 v x → ∃ y, es[j]? = some y ∧ Ed K te ((wipe σ [i]).set i (some v)) H1 y) : El K (tLc (iList K ta) (gName i) tYes te [i]) σ H es := fun H1 e Q q => by
  refine ht H1 e _ fun a vs H2 e2 h hs => ?_
  refine ⟨a, rfl, ⟨vs, h⟩, fun D hD => ?_⟩
  have hl2 := hs.length
  refine lc_list (K := K) (a := a) (xs := vs) (fun j H3 => Ex H2 H3 ∧ ∃ acc, H3 D = some (.lst acc) ∧ ImAll K H3 acc (es.take j) ∧ j ≤ ds.length) ?_ ?_ ?_ ?_
  · exact ⟨Ex.new hD, [], upd_same .., .nil, Nat.zero_le _⟩
  · rintro j H3 _ ⟨e3, _⟩
    exact Evl.ex_l e3 h
  · rintro j x H3 hx ⟨e3, acc, h3, i3, hj⟩
    obtain ⟨d1, hd, im⟩ := hs.getV hx
    refine ⟨wipe_set _ _ _, ?_⟩
    show te _ _ _
    obtain ⟨y, hy, hb'⟩ := hb j d1 x H3 hd ((e.trans e2).trans e3) (im.ex e3)
    refine hb' H3 (Ex.refl H3) _ fun w H4 e4 i4 => ?_
    have hjl : j < ds.length := (List.getElem?_eq_some_iff.mp hd).1
    refine ⟨acc, e4 _ _ h3, ?_, ?_, ?_⟩
    · have := i3.length
      rw [this, List.length_take]
      exact Evl.sz_lt (by omega)
    · exact Ex.mut (e3.trans e4) hD (o := .lst (acc ++ [w]))
    · refine ⟨_, upd_same .., ?_, hjl⟩
      have t : Tk H4 (upd H4 D (.lst (acc ++ [w]))) := Tk.upd (no_lst (e4 _ _ h3))
      rw [List.take_succ, hy]
      exact ((i3.ex e4).append (.cons i4 .nil)).mono t
  · rintro H3 ⟨e3, acc, h3, i3, _⟩
    rw [hl2, ← hl, List.take_length] at i3
    exact q D acc H3 (Evl.fresh_back e2 hD) (e2.trans e3) h3 i3
/-- max(list of ints) > c -/
theorem eb_maxgt {g : Int → Int → Bool} {is : List Int} {c : Int} (hg : ∀ i, g i c = decide (c < i)) (h : El K te σ H (is.map .int)) (hp : 0 < is.length) :
    Eb (tTest (tOp (rI0 fun i j => .bl (g i j)) (tCB (rMax K) (tCons te tNil)) (tC (.int c)))) σ H (is.any fun y => decide (c < y)) := fun H1 e Q q => h H1 e _ fun p vs H2 hp2 e2 h2 i2 => by
  obtain rfl := ints_of _ _ i2
  refine ⟨p, is, rfl, Evl.sq_of h2, hp, fun m hm hall => ⟨m, c, rfl, rfl, _, rfl, ?_⟩⟩
  have : g m c = is.any fun y => decide (c < y) := by
    rw [hg]
    by_cases hc : c < m
    · rw [decide_eq_true hc]
      exact (List.any_eq_true.mpr ⟨m, hm, decide_eq_true hc⟩).symm
    · rw [decide_eq_false hc]
      refine (List.any_eq_false.mpr fun y hy => ?_).symm
      have := hall y hy
      simp only [decide_eq_true_eq]
      omega
  rw [this]
  exact q H2 e2
/-- xs == [] -/
theorem eb_eqnilE {k : Nat} {p : Addr} {ws : List V} {ds : List PyData} (hv : Ev te σ H (.ref p)) (h : H p = some (.lst ws)) (im : ∀ H1, Ex H H1 → DpAll K H1 ws ds) (pl : PyData.plainAll ds = true) : Eb (tTest (tOp (rEqP K (lineOf k)) te (tLst tNil))) σ H ds.isEmpty := fun H1 e Q q => by
  refine hv H1 e _ fun Ha ea => ⟨Nat.zero_le _, fun p2 hp2 => ?_⟩
  have e' := e.trans ea
  have e2 : Ex Ha (upd Ha p2 (.lst [])) := Ex.new hp2
  refine ⟨.list ds, .list [], .lst (Evl.sq_of (e2 _ _ (e' _ _ h))) (im _ (e'.trans e2)), .lst (Evl.sq_of (upd_same ..)) .nil, pl, rfl, ?_, ?_⟩
  · exact Nat.le_trans (Nat.min_le_right _ _) (by simp [PyData.depth, PyData.depthAll, lineOf])
  · have : PyData.eqv (.list ds) (.list []) = ds.isEmpty := by cases ds <;> simp [PyData.eqv, PyData.eqvAll]
    rw [this]
    exact ⟨_, rfl, q _ (ea.trans e2)⟩
theorem eb_eqnilI {k : Nat} {p : Addr} {ws : List V} {ds : List PyData} (hv : Ev te σ H (.ref p)) (h : H p = some (.lst ws)) (im : ImAll K H ws ds) : Eb (tTest (tOp (rEqP K (lineOf k)) te (tLst tNil))) σ H ds.isEmpty :=
  eb_eqnilE hv h (fun H1 e => (im.ex e).dp) im.plain
/-- a new address may change -/
theorem Kp.mutNew {S : List Addr} {H1 : Hp} {p : Addr} {o : HO} (a : Kp S H H1) (h : H p = none) : Kp S H (L2.upd H1 p o) := fun x u n e => by
  rw [upd_ne (fun z => by rw [z, h] at e; cases e)]
  exact a x u n e
theorem Kp.some {S : List Addr} {H1 : Hp} {p : Addr} (a : Kp S H H1) (n : p ∉ S) (h : H1 p = none) : H p = none := by
  cases e : H p with
  | none => rfl
  | some o => rw [a p o n e] at h; cases h
theorem sq_els {ts us vs : TS} {D : Ends} (h : Eb t σ H b) (k1 : b = true → ∀ H2, Ex H H2 → ts { D with nx := vs D } σ H2) (k2 : b = false → ∀ H2, Ex H H2 → us { D with nx := vs D } σ H2) : tSeq (tIfS t ts us) vs D σ H := h H (Ex.refl H) _ fun H2 e2 => by
  cases b with
  | true => exact iteT (k1 rfl H2 e2)
  | false => exact iteF (k2 rfl H2 e2)
theorem st_els {ts us : TS} {D : Ends} (h : Eb t σ H b) (k1 : b = true → ∀ H2, Ex H H2 → ts D σ H2) (k2 : b = false → ∀ H2, Ex H H2 → us D σ H2) : tIfS t ts us D σ H := h H (Ex.refl H) _ fun H2 e2 => by
  cases b with
  | true => exact iteT (k1 rfl H2 e2)
  | false => exact iteF (k2 rfl H2 e2)
theorem te_if {Q : VK} (h : Eb t σ H b) (k1 : b = true → ∀ H2, Ex H H2 → ta σ H2 Q) (k2 : b = false → ∀ H2, Ex H H2 → tb σ H2 Q) : tIf t ta tb σ H Q := h H (Ex.refl H) _ fun H2 e2 => by
  cases b with
  | true => exact iteT (k1 rfl H2 e2)
  | false => exact iteF (k2 rfl H2 e2)
theorem im_strs_of {H : Hp} : ∀ {xs : List Str} {vs : List V}, ImAll K H vs (xs.map PyData.str) → vs = xs.map V.str
  | [], vs, h => h.nil_of
  | x :: xs, vs, h => by
    obtain ⟨v, ws, rfl, h1, h2⟩ := h.cons_of
    rw [h1.str_of, im_strs_of h2]; rfl
theorem es_ev' {a : Addr} {vs : List V} (h : Ev te σ H (.ref a)) (hp : H a = some (.lst vs)) (im : ImAll K H vs ds) : Es K te σ H ds := es_ev h (Evl.sq_of hp) im
/-- int(a test) -/
theorem ed_intB (h : Ed K te σ H (.bool b)) : Ed K (tCB (fun xs H Q => (∃ i, xs = [V.int i] ∧ Q (V.int i) H) ∨ ∃ k, xs = [V.bl k] ∧ Q (V.int (if k = true then 1 else 0)) H) (tCons te tNil)) σ H (.int (if b = true then 1 else 0)) := fun H1 e Q q => h H1 e _ fun v H2 e2 i2 => by
  obtain rfl := i2.bl_of
  exact .inr ⟨b, rfl, q _ H2 e2 (.int _)⟩
end
/-! ### a comprehension in a comprehension -/
theorem lk_map {g : Str → NameKind → NameKind} (hg : ∀ n, g n .cell = .cell ∧ (g n .free = .cell ∨ g n .free = .free)) (x : Str) : ∀ {names : List (Str × NameKind)}, (names.lookup x = some .cell ∨ names.lookup x = some .free) →
    ((names.map fun p => (p.1, g p.1 p.2)).lookup x = some .cell ∨ (names.map fun p => (p.1, g p.1 p.2)).lookup x = some .free)
  | [], h => by simp at h
  | (n, k) :: r, h => by
    by_cases e : x = n
    · subst e
      simp only [List.lookup_cons, beq_self_eq_true, Option.some.injEq] at h
      simp only [List.map_cons, List.lookup_cons, beq_self_eq_true, Option.some.injEq]
      rcases h with rfl | rfl
      · exact .inl (hg x).1
      · exact (hg x).2
    · have e' : (x == n) = false := by simpa using e
      simp only [List.lookup_cons, e'] at h
      simp only [List.map_cons, List.lookup_cons, e']
      exact lk_map hg x h
theorem blkOk_rel {N : List Str} {sc scope : Scope} {env : Env} {own : List (Str × Nat)} (h : blkC N sc scope own = true) : BlkOk N (relabel sc env) scope own := by
  have b := blkOk_by h
  refine ⟨b.kind, b.uniq, b.ix, fun y hy e => ?_, b.own⟩
  have := lk_map (g := fun n k => if (k == NameKind.free && env.scope.kind == .function && env.kindOf n == some .cell) then .cell else k) (fun n => ⟨by simp, ?_⟩) y.1 (b.free y hy e)
  · have em : (relabel sc env).names = sc.names.map fun p => (p.1, if (p.2 == NameKind.free && env.scope.kind == .function && env.kindOf p.1 == some .cell) then .cell else p.2) := by
      unfold relabel
      refine List.map_congr_left fun p hp => ?_
      obtain ⟨n, k⟩ := p
      show (if _ then _ else _) = _
      split <;> rfl
    rw [em]
    exact this
  · split
    · exact .inl rfl
    · exact .inr rfl
end W5
/-! the law's own functions: the urn -/
namespace K55
open PySem PySem.Spec PyProof.Rows L2 W5 M5
open Evl (Ex Ev)
section
variable {P : Program} {w : World} {K : PySem.W.Frag} {mg : Str → Option Value} {base : Heap}
section
variable {σ : L2.St} {H H' : Hp} {te ta tb tc : TE} {t u : TT} {d x y z : PyData} {b c : Bool}
theorem sq_if2 {ts us : TS} {D : Ends} (h : Eb t σ H b) (R : L2.St → Hp → Prop) (k1 : b = true → ∀ H2, Ex H H2 → ∀ N : L2.St → Hp → Prop, (∀ σ' H', R σ' H' → N σ' H') → ts { D with nx := N } σ H2) (k2 : b = false → ∀ H2, Ex H H2 → R σ H2) (k3 : ∀ σ' H', R σ' H' → us D σ' H') : tSeq (tIfS t ts tNext) us D σ H :=
  sq_if h (fun hb H2 e2 => k1 hb H2 e2 _ k3) fun hb H2 e2 => k3 _ _ (k2 hb H2 e2)
theorem ed_intOf {i : Int} (h : Ed K te σ H (.int i)) : Ed K (tCB (fun xs H Q => (∃ i, xs = [V.int i] ∧ Q (V.int i) H) ∨ ∃ k, xs = [V.bl k] ∧ Q (V.int (if k = true then 1 else 0)) H) (tCons te tNil)) σ H (.int i) := fun H1 e Q q => h H1 e _ fun v H2 e2 i2 => by
  obtain rfl := i2.int_of
  exact .inl ⟨i, rfl, q _ H2 e2 (.int _)⟩
theorem rd_rI {C : Int → Int → Prop} {g : Int → Int → Int} {i j : Int} (hc : C i j) : Rd2 K (rI C fun i j => .int (g i j)) (.int i) (.int j) (.int (g i j)) := fun H v w Q a b q => by
  obtain rfl := a.int_of
  obtain rfl := b.int_of
  exact ⟨i, j, rfl, rfl, hc, q _ H (Ex.refl H) (.int _)⟩
theorem as_setL {i : Nat} {p : Addr} {xs : List V} {k : Int} {j : Nat} {D : Ends} (hv : σ[i]? = some (some (.ref p))) (h : H p = some (.lst xs)) (he : Ed K te σ H d) (hj : ixN xs.length k = some j) (q : ∀ v H1, Ex H H1 → Im K H1 v d → D.nx σ (upd H1 p (.lst (xs.set j v)))) : tAsg te (gSub (tVar i) (tC (.int k)) rSetL) D σ H := he H (Ex.refl H) _ fun v H1 e1 i1 => ⟨_, hv, p, xs, k, j, rfl, rfl, e1 _ _ h, hj, q v H1 e1 i1⟩
theorem ev_ixL {p : Addr} {vs : List V} {i : Int} {v : V} (he : Ev te σ H (.ref p)) (hp : SqL K H p vs) (h : atI vs i = some v) : Ev (tOp (rIx K) te (tC (.int i))) σ H v := fun H1 e Q q => he H1 e _ fun H2 e2 => .inl ⟨p, vs, i, v, rfl, rfl, Evl.ex_l (e.trans e2) hp, h, q H2 e2⟩
theorem eb_nenilE {k : Nat} {p : Addr} {ws : List V} {ds : List PyData} (hv : Ev te σ H (.ref p)) (h : H p = some (.lst ws)) (im : ImAll K H ws ds) : Eb (tTest (tOp (rNeP K (lineOf k)) te (tLst tNil))) σ H (!ds.isEmpty) := fun H1 e Q q => by
  refine hv H1 e _ fun Ha ea => ⟨Nat.zero_le _, fun p2 hp2 => ?_⟩
  have e' := e.trans ea
  have ne : p2 ≠ p := fun z => by
    have := e' _ _ h
    rw [← z, hp2] at this
    cases this
  have e2 : Ex Ha (upd Ha p2 (.lst [])) := Ex.new hp2
  refine ⟨.list ds, .list [], .lst (Evl.sq_of (e2 _ _ (e' _ _ h))) (im.ex (e'.trans e2)).dp, .lst (Evl.sq_of (upd_same ..)) .nil, im.plain, rfl, ?_, ?_⟩
  · exact Nat.le_trans (Nat.min_le_right _ _) (by simp [PyData.depth, PyData.depthAll, lineOf])
  · have : PyData.eqv (.list ds) (.list []) = ds.isEmpty := by cases ds <;> simp [PyData.eqv, PyData.eqvAll]
    rw [this]
    exact ⟨_, rfl, q _ (ea.trans e2)⟩
theorem im_intsZ {H : Hp} : ∀ l : List Int, ImAll K H (l.map V.int) (l.map PyData.int)
  | [] => .nil
  | m :: l => .cons (.int _) (im_intsZ l)
end
/-- the urn: great cells, what is left of one, the mixed number, the count of balls (at most n) -/
def UrnAt (H : Hp) (u uc : Addr) (n : Nat) : Prop := ∃ (a m c : Int) (cs : List Int), H u = some (.lst [.ref uc, .int a, .int m, .int c]) ∧ H uc = some (.lst (cs.map V.int)) ∧ u ≠ uc ∧ (∀ x ∈ cs, 10 ^ 18 ≤ x) ∧ 0 ≤ a ∧ 0 ≤ m ∧ m < 2 ^ 40 ∧ 0 ≤ c ∧ c ≤ n
def Sball (K : PySem.W.Frag) : Sp := fun vs H Q E => ∃ u uc n many, vs = [.ref u, .int many] ∧ UrnAt H u uc n ∧ 0 < many ∧ many < 1000000000 ∧ n ≤ 1000000 ∧ ∀ i H2, 0 ≤ i → i < many → Kp [u, uc] H H2 → Tk H H2 → UrnAt H2 u uc (n + 1) → Q (.int i) H2
theorem ok_law_ball (T : Tx K mg) : Ok P w K mg base 2 d_law_ball ["urn", "many"] (Sball K) := by
  refine (T.F_law_ball).ok sc_law_ball (fun vs H Q E ⟨u, uc, n, many, e, _⟩ => by rw [e]; rfl) (fun cdv A outer s H vs Q E hr h => ?_)
  obtain ⟨u, uc, n, many, rfl, hU, hm1, hm2, hn, q⟩ := h
  obtain ⟨a, m, c, cs, hu, huc, ne, hcs, ha, hm, hm3, hc, hcn⟩ := hU
  refine ⟨_, PSs.nox ((pss_cons (ps_if (PW.pt (pw_and (pt_cmpR (op_eqK (K := K) rfl hr) (pe_ix (ix_seqK (K := K) rfl) (pv 0) pe_int (fun _ _ => rfl)) pe_int (nomark _)) (pw_and1 (pt_cmpR (op_neK (K := K) rfl hr) (pe_ix (ix_seqK (K := K) rfl) (pv 0) pe_int (fun _ _ => rfl)) (pe_lst pa_nil) (nomark _))))) (pss_one (ps_asg (pe_op op_sub (pe_bm PySem.F.plainAttrs_list PySem.F.slot_list_pop PySem.F.type_list_pop mt_popAt (pe_ix (ix_seqK (K := K) rfl) (pv 0) pe_int (fun _ _ => rfl)) (pa_cons pe_int pa_nil)) (pe_op op_pow pe_int pe_int)) (pg_sub (pv 0) pe_int set_list))) pss_nil)
  (pss_cons (ps_if (pt_cmpR op_gt (pe_ix (ix_seqK (K := K) rfl) (pv 0) pe_int (fun _ _ => rfl)) pe_int (nomark _)) (pss_cons (ps_set (i := 2) sc_law_ball.nd rfl (by first | exact Or.inl rfl | exact Or.inr rfl) (pe_op op_mod (pe_callTy call_int1 rfl T.b_int bb_int (pa_cons (pe_ix (ix_seqK (K := K) rfl) (pv 0) pe_int (fun _ _ => rfl)) pa_nil)) (pv 1)))
  (pss_cons (ps_asg (pe_op op_fdiv (pe_ix (ix_seqK (K := K) rfl) (pv 0) pe_int (fun _ _ => rfl)) (pv 1)) (pg_sub (pv 0) pe_int set_list))
  (pss_one (ps_ret (pv 2))))) pss_nil)
  (pss_cons (ps_asg (pe_op (op_addK (K := K) rfl) (pe_ix (ix_seqK (K := K) rfl) (pv 0) pe_int (fun _ _ => rfl)) pe_int) (pg_sub (pv 0) pe_int set_list))
  (pss_cons (ps_asg (pe_op op_mod (pe_callTy call_int1 rfl T.b_int bb_int (pa_cons (pe_op (op_addK (K := K) rfl) (pe_op (op_addK (K := K) rfl) (pe_op op_mul (pe_ix (ix_seqK (K := K) rfl) (pv 0) pe_int (fun _ _ => rfl)) pe_int) (pe_op op_mul (pe_op op_mul (pe_ix (ix_seqK (K := K) rfl) (pv 0) pe_int (fun _ _ => rfl)) (pe_ix (ix_seqK (K := K) rfl) (pv 0) pe_int (fun _ _ => rfl))) pe_int)) pe_int) pa_nil)) pe_int) (pg_sub (pv 0) pe_int set_list))
  (pss_one (ps_ret (pe_op op_mod (pe_op op_fdiv (pe_op op_mod (pe_callTy call_int1 rfl T.b_int bb_int (pa_cons (pe_op op_mul (pe_ix (ix_seqK (K := K) rfl) (pv 0) pe_int (fun _ _ => rfl)) (pe_op (op_addK (K := K) rfl) (pe_op op_fdiv (pe_ix (ix_seqK (K := K) rfl) (pv 0) pe_int (fun _ _ => rfl)) pe_int) pe_int)) pa_nil)) pe_int) pe_int) (pv 1))))))))), ?_⟩
  have tkk : ∀ {H'}, Kp [u, uc] H H' → Tk H H' := fun k => k.tk fun p hp => by
    simp only [List.mem_cons, List.not_mem_nil, or_false] at hp
    rcases hp with rfl | rfl
    · exact no_lst hu
    · exact no_lst huc
  refine sq_if2 (b := decide (a = 0) && !(cs.map PyData.int).isEmpty) (eb_and (eb_t (K := K) (ed_op (ed_ixL (ev_v rfl) (Evl.sq_of hu) ed_int rfl (.int a)) ed_int rd_eqi)) fun _ => eb_nenilE (ev_ixL (ev_v rfl) (Evl.sq_of hu) rfl) huc (im_intsZ cs))
    (fun σ' H' => σ' = [some (.ref u), some (.int many), none] ∧ Kp [u, uc] H H' ∧ ∃ (a : Int) (cs : List Int), H' u = some (.lst [.ref uc, .int a, .int m, .int c]) ∧ H' uc = some (.lst (cs.map V.int)) ∧ (∀ x ∈ cs, 10 ^ 18 ≤ x) ∧ 0 ≤ a) (fun hb H1 e1 N hN => ?_) (fun hb H1 e1 => ⟨rfl, Kp.of e1, a, cs, e1 _ _ hu, e1 _ _ huc, hcs, ha⟩) ?_
  · obtain ⟨x, cs', rfl⟩ : ∃ x cs', cs = x :: cs' := by
      cases cs with
      | nil => simp at hb
      | cons x cs' => exact ⟨x, cs', rfl⟩
    have hx := hcs x (List.mem_cons_self ..)
    have huc1 := e1 _ _ huc
    have hu1 := e1 _ _ hu
    refine ⟨_, rfl, .inl ⟨u, _, 0, .ref uc, rfl, rfl, Evl.sq_of hu1, rfl, .inl ⟨rfl, _, Evl.sq_of huc1⟩, uc, _, 0, 0, .int x, rfl, rfl, huc1, by decide, by decide, by simp [seqIndex?], rfl, ?_⟩⟩
    refine ⟨10, 18, rfl, rfl, ⟨by decide, by decide, by decide⟩, ⟨x, _, rfl, rfl, ?_⟩⟩
    refine ⟨_, rfl, u, _, 1, 1, rfl, rfl, by rw [upd_ne ne]; exact hu1, rfl, ?_⟩
    refine hN _ _ ⟨rfl, ((Kp.of e1).upd (by simp)).upd (by simp), x - 10 ^ (18 : Int).toNat, cs', upd_same .., by rw [upd_ne (Ne.symm ne)]; exact upd_same .., fun y hy => hcs y (List.mem_cons_of_mem _ hy), ?_⟩
    have : (18 : Int).toNat = 18 := rfl
    rw [this]; omega
  · rintro σ' H' ⟨rfl, k', a, cs, hu, huc, hcs, ha⟩
    have ixI : ∀ {σ : L2.St} {H1 : Hp} {l : List V} {k x : Int}, σ[0]? = some (some (.ref u)) → H1 u = some (.lst l) → atI l k = some (.int x) → Ed K (tOp (rIx K) (tVar 0) (tC (.int k))) σ H1 (.int x) := fun h0 h1 h2 => ed_ixL (ev_v h0) (Evl.sq_of h1) ed_int h2 (.int _)
    refine sq_if (b := decide (0 < a)) (eb_t (K := K) (ed_op (ixI rfl hu rfl) ed_int rd_cmp)) (fun hb H1 e1 => ?_) (fun hb H1 e1 => ?_)
    · refine sq_set (Ed.at (K := K) (d := .int (a % many)) (ed_op (ed_intOf (ixI rfl (e1 _ _ hu) rfl)) (ed_var rfl (.int many)) (rd_rI hm1)) fun v H2 e2 i2 => ?_)
      obtain rfl := i2.int_of
      have e12 := e1.trans e2
      refine st_seq (as_setL rfl (e12 _ _ hu) (ed_op (ixI rfl (e12 _ _ hu) rfl) (ed_var rfl (.int many)) (rd_rI ⟨hm1, by omega⟩)) rfl fun v H3 e3 i3 => ?_)
      obtain rfl := i3.int_of
      have e13 := e12.trans e3
      have k3 : Kp [u, uc] H (upd H3 u (.lst [.ref uc, .int (a / many), .int m, .int c])) := (k'.ex e13).upd (by simp)
      show tRet (tVar 2) _ _ _
      exact st_ret ⟨_, rfl, q (a % many) _ (Int.emod_nonneg _ (by omega)) (Int.emod_lt_of_pos _ hm1) k3 (tkk k3) ⟨a / many, m, c, cs, upd_same .., by rw [upd_ne (Ne.symm ne)]; exact e13 _ _ huc, ne, hcs, Int.ediv_nonneg ha (by omega), hm, hm3, hc, by omega⟩⟩
    · refine st_seq (as_setL rfl (e1 _ _ hu) (ed_op (ixI rfl (e1 _ _ hu) rfl) ed_int rd_addi) rfl fun v H2 e2 i2 => ?_)
      obtain rfl := i2.int_of
      have e12 := e1.trans e2
      have k2 : Kp [u, uc] H (upd H2 u (.lst [.ref uc, .int a, .int m, .int (c + 1)])) := (k'.ex e12).upd (by simp)
      have hu2 : upd H2 u (.lst [.ref uc, .int a, .int m, .int (c + 1)]) u = some (.lst [.ref uc, .int a, .int m, .int (c + 1)]) := upd_same ..
      have huc2 : upd H2 u (.lst [.ref uc, .int a, .int m, .int (c + 1)]) uc = some (.lst (cs.map V.int)) := by rw [upd_ne (Ne.symm ne)]; exact e12 _ _ huc
      show tSeq _ _ _ _ (upd H2 u (.lst [.ref uc, .int a, .int m, .int (c + 1)]))
      generalize upd H2 u (.lst [.ref uc, .int a, .int m, .int (c + 1)]) = H3 at k2 hu2 huc2
      have cm1 : CMul m 69621 := .inr ⟨by decide, by decide⟩
      have cm2 : CMul (c + 1) (c + 1) := .inr ⟨by omega, by omega⟩
      have cm3 : CMul ((c + 1) * (c + 1)) 40014 := .inr ⟨by decide, by decide⟩
      refine st_seq (as_setL (j := 2) rfl hu2 (ed_op (ed_intOf (ed_op (ed_op (ed_op (ixI rfl hu2 rfl) ed_int (rd_rI cm1)) (ed_op (ed_op (ixI rfl hu2 rfl) (ixI rfl hu2 rfl) (rd_rI cm2)) ed_int (rd_rI cm3)) rd_addi) ed_int rd_addi)) ed_int (rd_rI (C := fun x j => 0 < j) (by decide))) rfl fun v H4 e4 i4 => ?_)
      obtain ⟨m', rfl, m0, m1⟩ : ∃ m' : Int, v = .int m' ∧ 0 ≤ m' ∧ m' < 2147483563 := ⟨_, i4.int_of, Int.emod_nonneg _ (by decide), Int.emod_lt_of_pos _ (by decide)⟩
      have k4 : Kp [u, uc] H (upd H4 u (.lst [.ref uc, .int a, .int m', .int (c + 1)])) := (k2.ex e4).upd (by simp)
      have hu4 : upd H4 u (.lst [.ref uc, .int a, .int m', .int (c + 1)]) u = some (.lst [.ref uc, .int a, .int m', .int (c + 1)]) := upd_same ..
      have huc4 : upd H4 u (.lst [.ref uc, .int a, .int m', .int (c + 1)]) uc = some (.lst (cs.map V.int)) := by rw [upd_ne (Ne.symm ne)]; exact e4 _ _ huc2
      have hL : ([V.ref uc, V.int a, V.int m, V.int (c + 1)].set 2 (V.int m')) = [V.ref uc, V.int a, V.int m', V.int (c + 1)] := rfl
      rw [hL]
      generalize upd H4 u (.lst [.ref uc, .int a, .int m', .int (c + 1)]) = H5 at k4 hu4 huc4
      have cm4 : CMul m' (m' / 64 + 7) := .inl ⟨by omega, by omega⟩
      refine st_ret (Ed.at (K := K) (ed_op (ed_op (ed_op (ed_intOf (ed_op (ixI rfl hu4 rfl) (ed_op (ed_op (ixI rfl hu4 rfl) ed_int (rd_rI (C := CDiv) ⟨by decide, by decide⟩)) ed_int rd_addi) (rd_rI cm4))) ed_int (rd_rI (C := fun x j => 0 < j) (by decide))) ed_int (rd_rI (C := CDiv) ⟨by decide, by decide⟩)) (ed_var rfl (.int many)) (rd_rI hm1)) fun v H6 e6 i6 => ?_)
      obtain rfl := i6.int_of
      exact q _ H6 (Int.emod_nonneg _ (by omega)) (Int.emod_lt_of_pos _ hm1) (k4.ex e6) (tkk (k4.ex e6)) ⟨a, m', c + 1, cs, e6 _ _ hu4, e6 _ _ huc4, ne, hcs, ha, m0, by omega, by omega, by omega⟩
theorem im_intsZ_of {H : Hp} : ∀ {l : List Int} {vs : List V}, ImAll K H vs (l.map PyData.int) → vs = l.map V.int
  | [], vs, h => h.nil_of
  | x :: l, vs, h => by
    obtain ⟨v, ws, rfl, h1, h2⟩ := ImAll.cons_of h
    obtain rfl := h1.int_of
    rw [im_intsZ_of h2]; rfl
def greatD : PyData → Bool
  | .int i => decide (10 ^ 18 ≤ i)
  | _ => false
theorem UrnAt.le {H : Hp} {u uc : Addr} {n m : Nat} (h : UrnAt H u uc n) (l : n ≤ m) : UrnAt H u uc m := by
  obtain ⟨a, mm, c, cs, h1, h2, h3, h4, h5, h6, h7, h8, h9⟩ := h
  exact ⟨a, mm, c, cs, h1, h2, h3, h4, h5, h6, h7, h8, by omega⟩
theorem UrnAt.keep {H H' : Hp} {u uc : Addr} {n : Nat} (h : UrnAt H u uc n) (e1 : H' u = H u) (e2 : H' uc = H uc) : UrnAt H' u uc n := by
  obtain ⟨a, mm, c, cs, h1, h2, r⟩ := h
  exact ⟨a, mm, c, cs, e1.trans h1, e2.trans h2, r⟩
theorem UrnAt.some {H : Hp} {u uc : Addr} {n : Nat} (h : UrnAt H u uc n) : ∀ p ∈ [u, uc], ∃ xs, H p = some (.lst xs) := by
  obtain ⟨a, mm, c, cs, h1, h2, r⟩ := h
  intro p hp
  simp only [List.mem_cons, List.not_mem_nil, or_false] at hp
  rcases hp with rfl | rfl
  · exact ⟨_, h1⟩
  · exact ⟨_, h2⟩
theorem UrnAt.fresh {H : Hp} {u uc p : Addr} {n : Nat} (h : UrnAt H u uc n) (hp : H p = none) : p ∉ [u, uc] := fun hm => by
  obtain ⟨xs, e⟩ := h.some p hm
  rw [hp] at e; cases e
theorem UrnAt.ex {H H' : Hp} {u uc : Addr} {n : Nat} (h : UrnAt H u uc n) (e : Ex H H') : UrnAt H' u uc n := by
  obtain ⟨xs, e1⟩ := h.some u (by simp)
  obtain ⟨ys, e2⟩ := h.some uc (by simp)
  exact h.keep ((e _ _ e1).trans e1.symm) ((e _ _ e2).trans e2.symm)
theorem UrnAt.upd {H : Hp} {u uc p : Addr} {n : Nat} {o : HO} (h : UrnAt H u uc n) (hp : p ∉ [u, uc]) : UrnAt (L2.upd H p o) u uc n :=
  h.keep (upd_ne fun z => hp (by simp [z])) (upd_ne fun z => hp (by simp [z]))
theorem UrnAt.tk {H H' : Hp} {u uc : Addr} {n : Nat} (h : UrnAt H u uc n) (k : Kp [u, uc] H H') : Tk H H' := k.tk fun p hp => by
  obtain ⟨xs, e⟩ := h.some p hp
  exact no_lst e
def SlawUrn (K : PySem.W.Frag) : Sp := fun vs H Q E => ∃ (a : Addr) (cells : List Int), vs = [.ref a] ∧ SqL K H a (cells.map V.int) ∧ ∀ u uc H2, Ex H H2 → H u = none → H uc = none → UrnAt H2 u uc 0 → Q (.ref u) H2
theorem ok_law_urn (T : Tx K mg) : Ok P w K mg base 2 d_law_urn ["script"] (SlawUrn K) := by
  refine (T.F_law_urn).ok sc_law_urn (fun vs H Q E ⟨v, cells, e, _⟩ => by rw [e]; rfl) (fun cdv A outer s H vs Q E hr h => ?_)
  obtain ⟨a, cells, rfl, ha, q⟩ := h
  refine ⟨_, PSs.nox ((pss_cons (ps_set (i := 1) sc_law_urn.nd rfl (by first | exact Or.inl rfl | exact Or.inr rfl) pe_int)
  (pss_cons (ps_for PassesOwn.never rfl (pi_listK (K := K) rfl (pe_slice (sl_listK (K := K) rfl) (pv 0) po_none (po_some pe_int))) (pg_name (i := 2) sc_law_urn.nd rfl (by first | exact Or.inl rfl | exact Or.inr rfl)) (pss_one (ps_set (i := 1) sc_law_urn.nd rfl (by first | exact Or.inl rfl | exact Or.inr rfl) (pe_op op_mod (pe_callTy call_int1 rfl T.b_int bb_int (pa_cons (pe_op (op_addK (K := K) rfl) (pe_op (op_addK (K := K) rfl) (pe_op op_mul (pv 1) pe_int) (pe_op op_mod (pe_callTy call_int1 rfl T.b_int bb_int (pa_cons (pv 2) pa_nil)) pe_int)) pe_int) pa_nil)) pe_int))))
  (pss_one (ps_ret (pe_lst (pa_cons (pe_lc (own := [("cell", 2)]) (by rfl) sc_law_urn.nd (pi_listK (K := K) rfl (pe_slice (sl_listK (K := K) rfl) (pv 0) po_none (po_some pe_int))) (blkOk_by (own := [("cell", 2)]) (N := ["script", "mixed", "cell"]) (sc := defScope s_law_urn) (by decide +kernel)) (fun _ _ _ _ _ => pg_name (i := 2) sc_law_urn.nd rfl (by first | exact Or.inl rfl | exact Or.inr rfl)) (fun _ _ _ _ _ => (pts_one (pt_cmpR op_ge (pv 2) (pe_op op_pow pe_int pe_int) (nomark _)))) (fun _ _ _ _ _ => (pe_callTy call_int1 rfl T.b_int bb_int (pa_cons (pv 2) pa_nil)))) (pa_cons pe_int (pa_cons (pv 1) (pa_cons pe_int pa_nil)))))))))), ?_⟩
  obtain ⟨cs, hcs, hcl⟩ : ∃ cs : List Int, W5.cutD (cells.map PyData.int) none (some 63) = cs.map PyData.int ∧ cs.length ≤ 63 := by
    refine ⟨(cells.drop (HT.sIx (cells.map PyData.int).length 0 none)).take (HT.sIx (cells.map PyData.int).length (cells.map PyData.int).length (some 63) - HT.sIx (cells.map PyData.int).length 0 none), ?_, ?_⟩
    · unfold W5.cutD
      rw [List.map_take, List.map_drop]
    · rw [List.length_take]
      have : HT.sIx (cells.map PyData.int).length (cells.map PyData.int).length (some 63) ≤ 63 := by
        simp [HT.sIx]
        omega
      omega
  have sl : ∀ {σ : L2.St} {H1 : Hp}, Ex H H1 → σ[0]? = some (some (.ref a)) → El K (L2.tSl (rSlL K) (tVar 0) tNoPart (tPart (tC (.int 63)))) σ H1 (cs.map PyData.int) := fun e h0 => (el_sl (es_var h0 (Evl.ex_l e ha) (im_intsZ cells)) eo_none (eo_some (K := K) ed_int)).to hcs
  refine sq_set (te_c ?_)
  refine sq_forL (sl (Ex.refl _) rfl).toS fun H1 e1 => ?_
  refine ⟨fun i σ' H' => ∃ (o2 : Option V) (m : Int), σ' = [some (.ref a), some (.int m), o2] ∧ Ex H1 H' ∧ 0 ≤ m ∧ m < 2 ^ 40, ⟨none, 61, rfl, Ex.refl _, by decide, by decide⟩, ?_, ?_, ?_⟩
  · rintro i σ' H' ⟨_, _, _, e, _⟩
    exact ⟨Tk.ex e, fun p vs hp _ => Evl.ex_l e hp⟩
  · rintro i y vy σ' H' hy iy ⟨o2, m, rfl, e2, hm0, hm1⟩
    rw [List.getElem?_map] at hy
    obtain ⟨x, hx, rfl⟩ := Option.map_eq_some_iff.mp hy
    refine gd_name _ ?_
    have cm : CMul m 48271 := .inr ⟨by decide, by decide⟩
    refine Ed.at (K := K) (ed_op (ed_intOf (ed_op (ed_op (ed_op (ed_var rfl (.int m)) ed_int (rd_rI cm)) (ed_op (ed_intOf (ed_var rfl iy)) ed_int (rd_rI (C := fun x j => 0 < j) (by decide))) rd_addi) ed_int rd_addi)) ed_int (rd_rI (C := fun x j => 0 < j) (by decide))) fun v3 H3 e3 i3 => ?_
    obtain ⟨m', rfl, m0, m1⟩ : ∃ m' : Int, v3 = .int m' ∧ 0 ≤ m' ∧ m' < 2147483647 := ⟨_, i3.int_of, Int.emod_nonneg _ (by decide), Int.emod_lt_of_pos _ (by decide)⟩
    exact ⟨_, m', rfl, e2.trans e3, m0, by omega⟩
  · rintro σ' H' ⟨o2, m, rfl, e2, hm0, hm1⟩
    have e12 := e1.trans e2
    refine st_ret ((el_lcL (p := greatD) (f := id) (sl e12 rfl).toS (by rw [List.length_map]; omega) (fun j x v1 H3 hx e3 im => ⟨_, gd_name, rfl, ?_, fun hp => ?_⟩)).cn fun uc vs H3 huc e3 h3 i3 => ?_)
    · rw [List.getElem?_map] at hx
      obtain ⟨z, hz, rfl⟩ := Option.map_eq_some_iff.mp hx
      have pw : CPow 10 18 := ⟨by decide, by decide, by decide⟩
      exact eb_t (K := K) (ed_op (ed_var rfl im) (ed_op ed_int ed_int (rd_rI pw)) rd_cmp)
    · rw [List.getElem?_map] at hx
      obtain ⟨z, hz, rfl⟩ := Option.map_eq_some_iff.mp hx
      exact ed_intOf (ed_var rfl im)
    · refine ⟨_, rfl, by show 4 ≤ sizeLine; decide, fun u hu => ?_⟩
      rw [List.map_id, List.filter_map] at i3
      obtain rfl := im_intsZ_of i3
      have ne : u ≠ uc := fun z => by rw [z, h3] at hu; cases hu
      refine q u uc _ ((e12.trans e3).trans (Ex.new hu)) (Evl.fresh_back (e12.trans e3) hu) (Evl.fresh_back e12 huc) ⟨0, m, 0, _, upd_same .., by rw [upd_ne (Ne.symm ne)]; exact h3, ne, fun x hx => ?_, Int.le_refl _, hm0, hm1, Int.le_refl _, Int.le_refl _⟩
      have := (List.mem_filter.mp hx).2
      simpa [greatD] using this
end
end K55
/-! plain laws: the law's own readings and the program's -/
namespace K55
open PySem PySem.Spec PyProof.Rows L2 W5 M5
/-- the law's own reading of words -/
def lawT (ks : List Knd) : List Wd → List M5.Ty → Bool
  | [], us => us.isEmpty
  | _ :: _, [] => false
  | w :: ws, t :: us => match stepT ks t w with
    | some fs => lawT ks ws (fs ++ us)
    | none => false
theorem lawT_eq {ks : List Knd} (hP : PgOk ks) : ∀ (ws : List Wd) (us : List M5.Ty), lawT ks ws us = (goW ks (us.length : Nat) ws && hasT ks ws us)
  | [], us => by
    rw [lawT, goW, hasT]
    cases us with
    | nil => rfl
    | cons t us =>
      have : ¬ (((t :: us).length : Nat) : Int) = 0 := by simp only [List.length_cons]; omega
      rw [decide_eq_false this]; rfl
  | w :: ws, [] => by rw [lawT, hasT, Bool.and_false]
  | w :: ws, t :: us => by
    rw [lawT, goW, hasT]
    cases h : stepT ks t w with
    | none => simp
    | some fs =>
      have ha := arW_step hP h
      have hn : ¬ ((((t :: us).length : Nat) : Int) = 0 ∨ arW ks w < 0) := by rw [ha]; simp only [List.length_cons]; omega
      rw [if_neg hn]
      have e : (((t :: us).length : Nat) : Int) + (arW ks w - 1) = (((fs ++ us).length : Nat) : Int) := by rw [ha]; simp only [List.length_append, List.length_cons]; omega
      rw [e]
      exact lawT_eq hP ws (fs ++ us)
theorem lawT_of {ks : List Knd} (hP : PgOk ks) (ws : List Wd) (t : M5.Ty) : lawT ks ws [t] = (awB ks ws && hasT ks ws [t]) := by
  rw [lawT_eq hP]
  unfold awB
  cases ws with
  | nil => simp [goW]
  | cons w ws => simp
/-- what the law's own walk finds -/
def LawPl (ks : List Knd) (t : M5.Ty) (b : Bool) : Prop := (b = true ∧ ∃ L : List M5.Ty, t ∈ L ∧ L.length ≤ 300 ∧ ∀ u ∈ L, (∀ a c, u ≠ .to a c) ∧ ∀ v, FldT ks u v → v ∈ L) ∨ (b = false ∧ ∃ a c, Rch ks t (.to a c))
theorem rch_in {ks : List Knd} {t : M5.Ty} {L : List M5.Ty} (ht : t ∈ L) (h : ∀ u ∈ L, (∀ a c, u ≠ .to a c) ∧ ∀ v, FldT ks u v → v ∈ L) : ∀ u, Rch ks t u → u ∈ L := fun u hu => by
  induction hu with
  | refl => exact ht
  | step _ f ih => exact (h _ ih).2 _ f
theorem nodup_le {α : Type} : ∀ {l m : List α}, l.Nodup → (∀ x ∈ l, x ∈ m) → l.length ≤ m.length
  | [], m, _, _ => Nat.zero_le _
  | x :: l, m, hn, hs => by
    obtain ⟨h1, h2⟩ := List.nodup_cons.mp hn
    obtain ⟨a, b, rfl⟩ := List.append_of_mem (hs x (List.mem_cons_self ..))
    have := nodup_le (m := a ++ b) h2 fun y hy => by
      have hy2 := hs y (List.mem_cons_of_mem _ hy)
      rcases List.mem_append.mp hy2 with h | h
      · exact List.mem_append.mpr (.inl h)
      · rcases List.mem_cons.mp h with rfl | h
        · exact absurd hy h1
        · exact List.mem_append.mpr (.inr h)
    simp only [List.length_append, List.length_cons] at this ⊢
    omega
theorem LawPl.eq {ks : List Knd} {t : M5.Ty} {b c : Bool} (h : LawPl ks t b) (g : IsPl ks t c) : c = b := by
  rcases h with ⟨rfl, L, ht, hl, hL⟩ | ⟨rfl, x, y, hr⟩
  · rcases g with ⟨rfl, _⟩ | ⟨_, g⟩
    · rfl
    · have hin := rch_in ht hL
      rcases g with ⟨x, y, hr⟩ | ⟨M, hn, h4, hM⟩
      · exact absurd rfl ((hL _ (hin _ hr)).1 x y)
      · have := nodup_le hn fun u hu => hin u (hM u hu)
        omega
  · rcases g with ⟨_, L, ht, hl, hL⟩ | ⟨rfl, _⟩
    · exact absurd rfl ((hL _ (rch_in ht hL _ hr)).1 x y)
    · rfl
/-! ### equal data of types -/
theorem s_tags : (("whole" : Str) == "whole") = true ∧ (("var" : Str) == "to") = false ∧ (("var" : Str) == "of") = false ∧ (("to" : Str) == "var") = false ∧ (("to" : Str) == "of") = false ∧ (("of" : Str) == "var") = false ∧ (("of" : Str) == "to") = false := by decide +kernel
theorem eqv3 (a b : Str) (x y : List PyData) (h : (a == b) = false) : PyData.eqv (.tuple (.str a :: x)) (.tuple (.str b :: y)) = false := by
  show (PyData.eqv (.str a) (.str b) && PyData.eqvAll x y) = false
  have : PyData.eqv (.str a) (.str b) = (a == b) := by rw [PyData.eqv]
  rw [this, h]; rfl
theorem eqvS (a : Str) (x : List PyData) : PyData.eqv (.tuple x) (.str a) = false := by rw [PyData.eqv]
theorem eqvS' (a : Str) (x : List PyData) : PyData.eqv (.str a) (.tuple x) = false := by rw [PyData.eqv]
theorem eqvSS (a b : Str) : PyData.eqv (.str a) (.str b) = (a == b) := by rw [PyData.eqv]
theorem eqvII (a b : Int) : PyData.eqv (.int a) (.int b) = (a == b) := by rw [PyData.eqv]
theorem eqvTT (x y : List PyData) : PyData.eqv (.tuple x) (.tuple y) = PyData.eqvAll x y := by rw [PyData.eqv]
theorem eqvC (a b : PyData) (x y : List PyData) : PyData.eqvAll (a :: x) (b :: y) = (PyData.eqv a b && PyData.eqvAll x y) := by rw [PyData.eqvAll]
theorem eqvN : PyData.eqvAll [] [] = true := by rw [PyData.eqvAll]
theorem eqv_to {a b c e : M5.Ty} (h1 : PyData.eqv a.d c.d = true ↔ a = c) (h2 : PyData.eqv b.d e.d = true ↔ b = e) : PyData.eqv (M5.Ty.to a b).d (M5.Ty.to c e).d = true ↔ M5.Ty.to a b = M5.Ty.to c e := by
  simp only [Ty.d, eqvTT, eqvC, eqvN, eqvSS, Bool.and_eq_true, h1, h2, beq_self_eq_true, true_and, and_true, Ty.to.injEq]
theorem eqv_of {k l : Str} {ts us : List M5.Ty} (h1 : PyData.eqvAll (Ty.dAll ts) (Ty.dAll us) = true ↔ ts = us) : PyData.eqv (M5.Ty.of k ts).d (M5.Ty.of l us).d = true ↔ M5.Ty.of k ts = M5.Ty.of l us := by
  simp only [Ty.d, eqvTT, eqvC, eqvN, eqvSS, Bool.and_eq_true, h1, beq_self_eq_true, true_and, and_true, Ty.of.injEq, beq_iff_eq]
theorem eqv_var {i j : Nat} : PyData.eqv (M5.Ty.var i).d (M5.Ty.var j).d = true ↔ M5.Ty.var i = M5.Ty.var j := by
  simp only [Ty.d, eqvTT, eqvC, eqvN, eqvSS, eqvII, Bool.and_eq_true, beq_self_eq_true, true_and, and_true, Ty.var.injEq, beq_iff_eq]
  omega
theorem no_iff {b : Bool} {p : Prop} (h : b = false) (n : ¬ p) : b = true ↔ p := by rw [h]; exact ⟨fun z => Bool.noConfusion z, fun z => absurd z n⟩
mutual
theorem eqv_ty : ∀ a b : M5.Ty, PyData.eqv a.d b.d = true ↔ a = b
  | .whole, .whole => ⟨fun _ => rfl, fun _ => rfl⟩
  | .whole, .var _ => no_iff (eqvS' _ _) (fun z => nomatch z)
  | .whole, .to _ _ => no_iff (eqvS' _ _) (fun z => nomatch z)
  | .whole, .of _ _ => no_iff (eqvS' _ _) (fun z => nomatch z)
  | .var _, .whole => no_iff (eqvS _ _) (fun z => nomatch z)
  | .var _, .var _ => eqv_var
  | .var _, .to _ _ => no_iff (eqv3 _ _ _ _ s_tags.2.1) (fun z => nomatch z)
  | .var _, .of _ _ => no_iff (eqv3 _ _ _ _ s_tags.2.2.1) (fun z => nomatch z)
  | .to _ _, .whole => no_iff (eqvS _ _) (fun z => nomatch z)
  | .to _ _, .var _ => no_iff (eqv3 _ _ _ _ s_tags.2.2.2.1) (fun z => nomatch z)
  | .to a b, .to c e => eqv_to (eqv_ty a c) (eqv_ty b e)
  | .to _ _, .of _ _ => no_iff (eqv3 _ _ _ _ s_tags.2.2.2.2.1) (fun z => nomatch z)
  | .of _ _, .whole => no_iff (eqvS _ _) (fun z => nomatch z)
  | .of _ _, .var _ => no_iff (eqv3 _ _ _ _ s_tags.2.2.2.2.2.1) (fun z => nomatch z)
  | .of _ _, .to _ _ => no_iff (eqv3 _ _ _ _ s_tags.2.2.2.2.2.2) (fun z => nomatch z)
  | .of _ ts, .of _ us => eqv_of (eqv_tys ts us)
theorem eqv_tys : ∀ ts us : List M5.Ty, PyData.eqvAll (Ty.dAll ts) (Ty.dAll us) = true ↔ ts = us
  | [], [] => ⟨fun _ => rfl, fun _ => rfl⟩
  | [], _ :: _ => no_iff rfl (fun z => nomatch z)
  | _ :: _, [] => no_iff rfl (fun z => nomatch z)
  | t :: ts, u :: us => by
    have h1 := eqv_ty t u
    have h2 := eqv_tys ts us
    show (PyData.eqv t.d u.d && PyData.eqvAll (Ty.dAll ts) (Ty.dAll us)) = true ↔ _
    rw [Bool.and_eq_true, h1, h2, List.cons.injEq]
end
theorem any_ty (v : M5.Ty) : ∀ F : List M5.Ty, ((F.map Ty.d).any fun z => PyData.eqv z v.d) = true ↔ v ∈ F
  | [] => by simp
  | f :: F => by
    have h1 := eqv_ty f v
    have h2 := any_ty v F
    rw [List.map_cons, List.any_cons, Bool.or_eq_true, h1, h2, List.mem_cons]
    exact or_congr ⟨Eq.symm, Eq.symm⟩ Iff.rfl
mutual
theorem d_depth : ∀ t : M5.Ty, t.d.depth ≤ 2 * t.depth + 1
  | .whole => by simp [Ty.d, PyData.depth]
  | .var _ => by simp [Ty.d, PyData.depth, PyData.depthAll, Ty.depth]
  | .to a b => by
    have := d_depth a
    have := d_depth b
    simp only [Ty.d, PyData.depth, PyData.depthAll, Ty.depth]
    omega
  | .of k ts => by
    have := d_depthAll ts
    simp only [Ty.d, PyData.depth, PyData.depthAll, Ty.depth]
    omega
theorem d_depthAll : ∀ ts : List M5.Ty, PyData.depthAll (Ty.dAll ts) ≤ 2 * Ty.depthAll ts + 1
  | [] => by simp [Ty.dAll, PyData.depthAll]
  | t :: ts => by
    have := d_depth t
    have := d_depthAll ts
    simp only [Ty.dAll, PyData.depthAll, Ty.depthAll]
    omega
end
mutual
theorem depth_le_size : ∀ t : M5.Ty, t.depth ≤ t.size
  | .whole => Nat.le_refl _
  | .var _ => Nat.le_refl _
  | .to a b => by
    have := depth_le_size a
    have := depth_le_size b
    simp only [Ty.depth, Ty.size]
    omega
  | .of k ts => by
    have := depth_le_sizeAll ts
    simp only [Ty.depth, Ty.size]
    omega
theorem depth_le_sizeAll : ∀ ts : List M5.Ty, Ty.depthAll ts ≤ Ty.sizeAll ts
  | [] => Nat.le_refl _
  | t :: ts => by
    have := depth_le_size t
    have := depth_le_sizeAll ts
    simp only [Ty.depthAll, Ty.sizeAll]
    omega
end
theorem depth_pos : ∀ t : M5.Ty, 1 ≤ t.depth := fun t => by rw [Ty.depth_parts]; omega
mutual
theorem tput_depth {ss : List M5.Ty} {m : Nat} (hm : ∀ s ∈ ss, s.depth ≤ m) : ∀ {t : M5.Ty} {KS : List (Str × Nat)}, t.Wf KS ss.length → (tput ss t).depth ≤ t.depth + m
  | .whole, _, _ => by simp only [tput, Ty.depth]; omega
  | .var i, _, h => by
    have hi : i < ss.length := h
    rw [tput, List.getD_eq_getElem?_getD, List.getElem?_eq_getElem hi]
    have := hm _ (List.getElem_mem hi)
    simp only [Option.getD_some]
    omega
  | .to a b, _, h => by
    have := tput_depth hm h.1
    have := tput_depth hm h.2
    simp only [tput, Ty.depth]
    omega
  | .of k ts, _, h => by
    have := tputAll_depth hm h.2
    simp only [tput, Ty.depth]
    omega
theorem tputAll_depth {ss : List M5.Ty} {m : Nat} (hm : ∀ s ∈ ss, s.depth ≤ m) : ∀ {ts : List M5.Ty} {KS : List (Str × Nat)}, Ty.WfAll KS ss.length ts → Ty.depthAll (tputAll ss ts) ≤ Ty.depthAll ts + m
  | [], _, _ => by simp [tputAll, Ty.depthAll]
  | t :: ts, _, h => by
    have := tput_depth hm h.1
    have := tputAll_depth hm h.2
    simp only [tputAll, Ty.depthAll]
    omega
end
/-- one turn of the law's own walk: found F2, due D2 after the fields Fs of a type, from F, Dp -/
structure LP (F Dp F2 D2 Fs : List M5.Ty) : Prop where
  dq : ∀ x ∈ D2, x ∈ F2
  dp : ∀ x ∈ Dp, x ∈ D2
  new : ∀ x ∈ F2, x ∈ F ∨ (x ∈ D2 ∧ x ∈ Fs)
  all : ∀ v ∈ Fs, v ∈ F2
  len : F2.length + Dp.length = F.length + D2.length
  le : F2.length ≤ F.length + Fs.length
  pre : ∃ X, F2 = F ++ X
theorem LP.start {F Dp : List M5.Ty} (h : ∀ x ∈ Dp, x ∈ F) : LP F Dp F Dp [] := ⟨h, fun _ h => h, fun _ h => .inl h, (fun _ h => nomatch h), rfl, Nat.le_add_right _ _, [], (List.append_nil _).symm⟩
theorem LP.old {F Dp F2 D2 Fs : List M5.Ty} (h : LP F Dp F2 D2 Fs) {v : M5.Ty} (hv : v ∈ F2) : LP F Dp F2 D2 (Fs ++ [v]) :=
  ⟨h.dq, h.dp, fun x hx => (h.new x hx).imp id fun ⟨a, b⟩ => ⟨a, List.mem_append.mpr (.inl b)⟩, fun u hu => by
    rcases List.mem_append.mp hu with hu | hu
    · exact h.all u hu
    · obtain rfl : u = v := by simpa using hu
      exact hv, h.len, by have := h.le; simp only [List.length_append, List.length_cons]; omega, h.pre⟩
theorem LP.put {F Dp F2 D2 Fs : List M5.Ty} (h : LP F Dp F2 D2 Fs) (v : M5.Ty) : LP F Dp (F2 ++ [v]) (v :: D2) (Fs ++ [v]) := by
  obtain ⟨X, rfl⟩ := h.pre
  refine ⟨fun x hx => ?_, fun x hx => List.mem_cons_of_mem _ (h.dp x hx), fun x hx => ?_, fun u hu => ?_, ?_, ?_, X ++ [v], List.append_assoc ..⟩
  · rcases List.mem_cons.mp hx with rfl | hx
    · exact List.mem_append.mpr (.inr (List.mem_singleton.mpr rfl))
    · exact List.mem_append.mpr (.inl (h.dq x hx))
  · rcases List.mem_append.mp hx with hx | hx
    · exact (h.new x hx).imp id fun ⟨a, b⟩ => ⟨List.mem_cons_of_mem _ a, List.mem_append.mpr (.inl b)⟩
    · obtain rfl : x = v := by simpa using hx
      exact .inr ⟨List.mem_cons_self .., List.mem_append.mpr (.inr (List.mem_singleton.mpr rfl))⟩
  · rcases List.mem_append.mp hu with hu | hu
    · exact List.mem_append.mpr (.inl (h.all u hu))
    · exact List.mem_append.mpr (.inr hu)
  · have := h.len; simp only [List.length_append, List.length_cons, List.length_nil] at this ⊢; omega
  · have := h.le; simp only [List.length_append, List.length_cons, List.length_nil] at this ⊢; omega
end K55
/-! the law's own functions: put, makers, size -/
namespace K55
open PySem PySem.Spec PyProof.Rows L2 W5 M5
open Evl (Ex Ev)
section
variable {P : Program} {w : World} {K : PySem.W.Frag} {mg : Str → Option Value} {base : Heap}
def Rput (m : Nat) : List PyData → PyData → Prop := fun ds r => ∃ (t : M5.Ty) (ss : List M5.Ty) (KS : List (Str × Nat)), t.depth ≤ m ∧ KsOk KS ∧ t.Wf KS ss.length ∧ ds = [t.d, .tuple (Ty.dAll ss)] ∧ r = (tput ss t).d
theorem ok_law_put (T : Tx K mg) : ∀ m : Nat, Ok P w K mg base (m + 1) d_law_put ["thing", "args"] (Pu K (Rput m))
  | 0 => by
    refine (T.F_law_put).ok sc_law_put (pu_len (by rintro _ _ ⟨t, ss, KS, _, _, _, rfl, _⟩; rfl)) (fun cdv A outer s H vs Q E hr h => ?_)
    obtain ⟨ds, r, im, ⟨t, ss, KS, hd, _⟩, q⟩ := h
    have := depth_pos t
    omega
  | m + 1 => by
    have G_law_put := ok_law_put T m
    refine (T.F_law_put).ok sc_law_put (pu_len (by rintro _ _ ⟨t, ss, KS, _, _, _, rfl, _⟩; rfl)) (fun cdv A outer s H vs Q E hr h => ?_)
    obtain ⟨ds, r, im, ⟨t, ss, KS, hd, hK, hw, rfl, rfl⟩, q⟩ := h
    obtain ⟨v0, _, rfl, i0, im⟩ := im.cons_of
    obtain ⟨v1, _, rfl, i1, im⟩ := im.cons_of
    obtain rfl := im.nil_of
    refine ⟨_, PSs.nox ((pss_cons (ps_if (pt_cmpR (op_eqK (K := K) rfl hr) (pv 0) pe_str (nomark _)) (pss_one (ps_ret (pv 0))) pss_nil)
  (pss_cons (ps_if (pt_cmpR (op_eqK (K := K) rfl hr) (pe_ix (ix_seqK (K := K) rfl) (pv 0) pe_int (fun _ _ => rfl)) pe_str (nomark _)) (pss_one (ps_ret (pe_ix (ix_seqK (K := K) rfl) (pv 1) (pe_ix (ix_seqK (K := K) rfl) (pv 0) pe_int (fun _ _ => rfl)) (fun _ _ => rfl)))) pss_nil)
  (pss_cons (ps_if (pt_cmpR (op_eqK (K := K) rfl hr) (pe_ix (ix_seqK (K := K) rfl) (pv 0) pe_int (fun _ _ => rfl)) pe_str (nomark _)) (pss_one (ps_ret (pe_tup (pa_cons pe_str (pa_cons (pe_call G_law_put (hr.mono (by omega)) rfl T.g_law_put T.k_law_put T.B_law_put .nil pass0 (pa_cons (pe_ix (ix_seqK (K := K) rfl) (pv 0) pe_int (fun _ _ => rfl)) (pa_cons (pv 1) pa_nil))) (pa_cons (pe_call G_law_put (hr.mono (by omega)) rfl T.g_law_put T.k_law_put T.B_law_put .nil pass0 (pa_cons (pe_ix (ix_seqK (K := K) rfl) (pv 0) pe_int (fun _ _ => rfl)) (pa_cons (pv 1) pa_nil))) pa_nil)))))) pss_nil)
  (pss_one (ps_ret (pe_tup (pa_cons pe_str (pa_cons (pe_ix (ix_seqK (K := K) rfl) (pv 0) pe_int (fun _ _ => rfl)) (pa_cons (pe_callTy (call_tuple_ofK (K := K) rfl) rfl T.b_tuple bb_tuple (pa_cons (pe_lc (own := [("one", 2)]) (by rfl) sc_law_put.nd (pi_tupK (K := K) rfl (pe_ix (ix_seqK (K := K) rfl) (pv 0) pe_int (fun _ _ => rfl))) (blkOk_by (own := [("one", 2)]) (N := ["thing", "args", "one"]) (sc := defScope s_law_put) (by decide +kernel)) (fun _ _ _ _ _ => pg_name (i := 2) sc_law_put.nd rfl (by first | exact Or.inl rfl | exact Or.inr rfl)) (fun _ _ _ _ _ => pts_nil) (fun _ _ _ _ _ => (pe_call G_law_put (hr.mono (by omega)) rfl T.g_law_put T.k_law_put T.B_law_put .nil pass0 (pa_cons (pv 2) (pa_cons (pv 1) pa_nil))))) pa_nil)) pa_nil)))))))))), ?_⟩
    refine Sr.at (d := (tput ss t).d) ?_ q
    cases t with
    | whole => exact sr_if (b := true) (eb_t (K := K) (ed_op (ed_var rfl i0) ed_str (rd_eqs rfl))) (fun _ => sr_ret (ed_var rfl i0)) (fun z => by cases z)
    | var i =>
      have hi : i < ss.length := hw
      refine sr_if (b := false) (eb_t (K := K) (ed_op (ed_var rfl i0) ed_str (rd_eqs rfl))) (fun z => by cases z) fun _ => ?_
      refine sr_if (b := true) (eb_t (K := K) (ed_op (ed_op (ed_var rfl i0) ed_int (rd_ix rfl)) ed_str (rd_eqs rfl))) (fun _ => ?_) (fun z => by cases z)
      have e : tput ss (.var i) = ss[i] := by rw [tput, List.getD_eq_getElem?_getD, List.getElem?_eq_getElem hi]; rfl
      rw [e]
      exact sr_ret (ed_op (ed_var rfl i1) (ed_op (ed_var rfl i0) ed_int (rd_ix (i := 1) rfl)) (rd_ix (atI_nat (by rw [Ty.dAll_map, List.getElem?_map, List.getElem?_eq_getElem hi]; rfl))))
    | to a b =>
      have hda : (M5.Ty.to a b).depth = 1 + max a.depth b.depth := rfl
      refine sr_if (b := false) (eb_t (K := K) (ed_op (ed_var rfl i0) ed_str (rd_eqs rfl))) (fun z => by cases z) fun _ => ?_
      refine sr_if (b := false) (eb_t (K := K) (ed_op (ed_op (ed_var rfl i0) ed_int (rd_ix rfl)) ed_str (rd_eqs rfl))) (fun z => by cases z) fun _ => ?_
      refine sr_if (b := true) (eb_t (K := K) (ed_op (ed_op (ed_var rfl i0) ed_int (rd_ix rfl)) ed_str (rd_eqs rfl))) (fun _ => ?_) (fun z => by cases z)
      exact sr_ret (ed_tup (ea_cons ed_str (ea_cons (ed_call (R := Rput m) (ea_cons (ed_op (ed_var rfl i0) ed_int (rd_ix (i := 1) rfl)) (ea_cons (ed_var rfl i1) ea_nil)) ⟨a, ss, KS, by omega, hK, hw.1, rfl, rfl⟩) (ea_cons (ed_call (R := Rput m) (ea_cons (ed_op (ed_var rfl i0) ed_int (rd_ix (i := 2) rfl)) (ea_cons (ed_var rfl i1) ea_nil)) ⟨b, ss, KS, by omega, hK, hw.2, rfl, rfl⟩) ea_nil))))
    | of k ts =>
      have hda : (M5.Ty.of k ts).depth = 1 + Ty.depthAll ts := rfl
      have hts : ts.length ≤ 2 := (lots_ok _ (hK _ hw.1)).2
      refine sr_if (b := false) (eb_t (K := K) (ed_op (ed_var rfl i0) ed_str (rd_eqs rfl))) (fun z => by cases z) fun _ => ?_
      refine sr_if (b := false) (eb_t (K := K) (ed_op (ed_op (ed_var rfl i0) ed_int (rd_ix rfl)) ed_str (rd_eqs rfl))) (fun z => by cases z) fun _ => ?_
      refine sr_if (b := false) (eb_t (K := K) (ed_op (ed_op (ed_var rfl i0) ed_int (rd_ix rfl)) ed_str (rd_eqs rfl))) (fun z => by cases z) fun _ => ?_
      refine sr_ret ((ed_tup (ea_cons ed_str (ea_cons (ed_op (ed_var rfl i0) ed_int (rd_ix (i := 1) (d := .str k) rfl)) (ea_cons (ed_tupOf (el_lcX (es := Ty.dAll (tputAll ss ts)) (ed_op (ed_var rfl i0) ed_int (rd_ix (i := 2) (d := .tuple (Ty.dAll ts)) rfl)) ?_ ?_ fun j x v H1 hx e1 i2 => ?_)) ea_nil)))).to rfl)
      · rw [Ty.dAll_map, List.length_map]; omega
      · rw [Ty.dAll_map, Ty.dAll_map, List.length_map, List.length_map, tputAll_map, List.length_map]
      · rw [Ty.dAll_map, List.getElem?_map] at hx
        obtain ⟨t, ht, rfl⟩ := Option.map_eq_some_iff.mp hx
        have hm := List.mem_of_getElem? ht
        have hdt := Ty.depthAll_mem hm
        refine ⟨(tput ss t).d, by rw [Ty.dAll_map, tputAll_map, List.map_map, List.getElem?_map, ht]; rfl, ?_⟩
        exact ed_call (R := Rput m) (ea_cons (ed_var rfl i2) (ea_cons (ed_var rfl (i1.ex e1)) ea_nil)) ⟨t, ss, KS, by omega, hK, Ty.WfAll_mem hw.2 t hm, rfl, rfl⟩
/-! ### size -/
def Rsize (m : Nat) : List PyData → PyData → Prop := fun ds r => ∃ (t : M5.Ty) (KS : List (Str × Nat)), t.depth ≤ m ∧ KsOk KS ∧ t.Wf KS 0 ∧ ds = [t.d] ∧ r = .int ((t.size : Nat) : Int)
theorem sum_sizes : ∀ ts : List M5.Ty, (ts.map fun t => ((t.size : Nat) : Int)).sum = ((Ty.sizeAll ts : Nat) : Int)
  | [] => rfl
  | t :: ts => by
    rw [List.map_cons, List.sum_cons, sum_sizes ts]
    simp only [Ty.sizeAll]
    omega
theorem ok_law_size (T : Tx K mg) : ∀ m : Nat, Ok P w K mg base (m + 1) d_law_size ["thing"] (Pu K (Rsize m))
  | 0 => by
    refine (T.F_law_size).ok sc_law_size (pu_len (by rintro _ _ ⟨t, KS, _, _, _, rfl, _⟩; rfl)) (fun cdv A outer s H vs Q E hr h => ?_)
    obtain ⟨ds, r, im, ⟨t, KS, hd, _⟩, q⟩ := h
    have := depth_pos t
    omega
  | m + 1 => by
    have G_law_size := ok_law_size T m
    refine (T.F_law_size).ok sc_law_size (pu_len (by rintro _ _ ⟨t, KS, _, _, _, rfl, _⟩; rfl)) (fun cdv A outer s H vs Q E hr h => ?_)
    obtain ⟨ds, r, im, ⟨t, KS, hd, hK, hw, rfl, rfl⟩, q⟩ := h
    obtain ⟨v0, _, rfl, i0, im⟩ := im.cons_of
    obtain rfl := im.nil_of
    refine ⟨_, PSs.nox ((pss_one (ps_ret (pe_ifExp (pt_cmpR (op_eqK (K := K) rfl hr) (pv 0) pe_str (nomark _)) pe_int (pe_op (op_addK (K := K) rfl) pe_int (pe_callB (cr_sumK (K := K) rfl rfl) rfl T.b_sum bb_sum (pa_cons (pe_lc (own := [("one", 1)]) (by rfl) sc_law_size.nd (pi_tupK (K := K) rfl (pe_ifExp (pt_cmpR (op_eqK (K := K) rfl hr) (pe_ix (ix_seqK (K := K) rfl) (pv 0) pe_int (fun _ _ => rfl)) pe_str (nomark _)) (pe_slice (sl_tupK (K := K) rfl) (pv 0) (po_some pe_int) po_none) (pe_ix (ix_seqK (K := K) rfl) (pv 0) pe_int (fun _ _ => rfl)))) (blkOk_by (own := [("one", 1)]) (N := ["thing", "one"]) (sc := defScope s_law_size) (by decide +kernel)) (fun _ _ _ _ _ => pg_name (i := 1) sc_law_size.nd rfl (by first | exact Or.inl rfl | exact Or.inr rfl)) (fun _ _ _ _ _ => pts_nil) (fun _ _ _ _ _ => (pe_call G_law_size (hr.mono (by omega)) rfl T.g_law_size T.k_law_size T.B_law_size .nil pass0 (pa_cons (pv 1) pa_nil)))) pa_nil))))))), ?_⟩
    refine Sr.at (d := .int ((t.size : Nat) : Int)) ?_ q
    have hdp := Ty.depth_parts t
    have hsp := Ty.size_parts t
    have rest : ∀ {ta : TE}, Ed K ta (L2.start ["thing", "one"] [v0]) H (.tuple (Ty.dAll t.parts)) → t.parts.length ≤ 10 → Ed K (tOp (rAddA K) (tC (.int 1)) (tCB (rSum K) (tCons (tLc (iTup K ta) (gName 1) tYes (tCall (Pu K (Rsize m)) [] E0 (tCons (tVar 1) tNil)) [1]) tNil))) (L2.start ["thing", "one"] [v0]) H (.int ((t.size : Nat) : Int)) := fun {ta} h hl => by
      refine (ed_op ed_int (ed_sum (is := t.parts.map fun t => ((t.size : Nat) : Int)) (el_lcX h ?_ ?_ fun j x v H1 hx e1 i2 => ?_)) rd_addi).to ?_
      · rw [Ty.dAll_map, List.length_map]; omega
      · rw [Ty.dAll_map, List.length_map, List.length_map, List.length_map]
      · rw [Ty.dAll_map, List.getElem?_map] at hx
        obtain ⟨u, hu, rfl⟩ := Option.map_eq_some_iff.mp hx
        have hm := List.mem_of_getElem? hu
        have hdt := Ty.depthAll_mem hm
        refine ⟨.int ((u.size : Nat) : Int), by rw [List.map_map, List.getElem?_map, hu]; rfl, ?_⟩
        exact ed_call (R := Rsize m) (ea_cons (ed_var rfl i2) ea_nil) ⟨u, KS, by omega, hK, hw.parts u hm, rfl, rfl⟩
      · rw [sum_sizes, hsp]
        congr 1
    cases t with
    | whole => exact sr_ret (ed_if (b := true) (eb_t (K := K) (ed_op (ed_var rfl i0) ed_str (rd_eqs rfl))) (fun _ => ed_int) fun z => by cases z)
    | var i => exact absurd (show i < 0 from hw) (Nat.not_lt_zero _)
    | to a b =>
      refine sr_ret (ed_if (b := false) (eb_t (K := K) (ed_op (ed_var rfl i0) ed_str (rd_eqs rfl))) (fun z => by cases z) fun _ => rest (ed_if (b := true) (eb_t (K := K) (ed_op (ed_op (ed_var rfl i0) ed_int (rd_ix rfl)) ed_str (rd_eqs rfl))) (fun _ => ?_) fun z => by cases z) (by show 2 ≤ 10; decide))
      exact (ed_sl (lo := some 1) (hi := none) (ed_var rfl i0) (eo_some (K := K) ed_int) eo_none).to rfl
    | of k ts =>
      have hts : ts.length ≤ 2 := (lots_ok _ (hK _ hw.1)).2
      exact sr_ret (ed_if (b := false) (eb_t (K := K) (ed_op (ed_var rfl i0) ed_str (rd_eqs rfl))) (fun z => by cases z) fun _ => rest (ed_if (b := false) (eb_t (K := K) (ed_op (ed_op (ed_var rfl i0) ed_int (rd_ix rfl)) ed_str (rd_eqs rfl))) (fun z => by cases z) fun _ => ed_op (ed_var rfl i0) ed_int (rd_ix (i := 2) rfl)) (by show ts.length ≤ 10; omega))
/-! ### makers -/
/-- a pair (maker, list of fields) -/
def MkV (K : PySem.W.Frag) (H0 H : Hp) (ss : List M5.Ty) : V → Mkr → Prop := fun v m => ∃ a l us, v = .ref a ∧ SqT K H a [.str m.1, .ref l] ∧ H l = some (.lst us) ∧ ImAll K H us (m.2.map fun t => (tput ss t).d) ∧ H0 l = none
theorem MkV.ex {H0 H H' : Hp} {ss : List M5.Ty} {v : V} {m : Mkr} (h : MkV K H0 H ss v m) (e : Ex H H') : MkV K H0 H' ss v m := by
  obtain ⟨a, l, us, h1, h2, h3, h4, h5⟩ := h
  exact ⟨a, l, us, h1, Evl.ex_t e h2, e _ _ h3, h4.ex e, h5⟩
def SlawMakers (K : PySem.W.Frag) : Sp := fun vs H Q E => ∃ vp vt ks k ss, vs = [vp, vt] ∧ Im K H vp (pD ks) ∧ PgOk ks ∧ Im K H vt (Ty.d (.of k ss)) ∧ (M5.Ty.of k ss).Wf (ksOf ks) 0 ∧
  ∀ p us kd H2, Ex H H2 → H p = none → H2 p = some (.lst us) → kd ∈ ks → kd.1 = k → ss.length = kd.2.1 → Paired (MkV K H H2 ss) us kd.2.2 → Q (.ref p) H2
theorem dAll_tput (ss : List M5.Ty) (ts : List M5.Ty) : (ts.map fun t => (tput ss t).d) = Ty.dAll (ts.map (tput ss)) := by rw [Ty.dAll_map, List.map_map]; rfl
theorem ok_law_makers (T : Tx K mg) : Ok P w K mg base 6 d_law_makers ["program", "thing"] (SlawMakers K) := by
  have G_law_put := ok_law_put (P := P) (w := w) (base := base) T 4
  refine (T.F_law_makers).ok sc_law_makers (fun vs H Q E ⟨vp, vt, ks, k, ss, e, _⟩ => by rw [e]; rfl) (fun cdv A outer s H vs Q E hr h => ?_)
  obtain ⟨vp, vt, ks, k, ss, rfl, ip, hP, it, hw, q⟩ := h
  obtain ⟨kd, hkd, hk, hss, hsw⟩ := wf_kind hw
  refine ⟨_, PSs.nox ((pss_cons (ps_set (i := 2) sc_law_makers.nd rfl (by first | exact Or.inl rfl | exact Or.inr rfl) (pe_lst pa_nil))
  (pss_cons (ps_for PassesOwn.never rfl (pi_tupK (K := K) rfl (pe_ix (ix_seqK (K := K) rfl) (pv 0) pe_int (fun _ _ => rfl))) (pg_tupK (K := K) (n := 3) rfl rfl (pgs_cons (pg_name (i := 3) sc_law_makers.nd rfl (by first | exact Or.inl rfl | exact Or.inr rfl)) (pgs_cons (pg_name (i := 4) sc_law_makers.nd rfl (by first | exact Or.inl rfl | exact Or.inr rfl)) (pgs_cons (pg_name (i := 5) sc_law_makers.nd rfl (by first | exact Or.inl rfl | exact Or.inr rfl)) pgs_nil)))) (pss_one (ps_if (pt_cmpR (op_eqK (K := K) rfl hr) (pv 3) (pe_ix (ix_seqK (K := K) rfl) (pv 1) pe_int (fun _ _ => rfl)) (nomark _)) (pss_one (ps_setLc (i := 2) (own := [("maker", 6), ("fields", 7)]) (by rfl) sc_law_makers.nd rfl rfl (sw_true rfl rfl rfl (by decide +kernel)) (pi_tupK (K := K) rfl (pv 5)) (blkOk_by (own := [("maker", 6), ("fields", 7)]) (N := ["program", "thing", "found", "name", "many", "makers", "maker", "fields", "field"]) (sc := defScope s_law_makers) (by decide +kernel)) (fun _ _ _ _ _ => pg_tupK (K := K) (n := 2) rfl rfl (pgs_cons (pg_name (i := 6) sc_law_makers.nd rfl (by first | exact Or.inl rfl | exact Or.inr rfl)) (pgs_cons (pg_name (i := 7) sc_law_makers.nd rfl (by first | exact Or.inl rfl | exact Or.inr rfl)) pgs_nil))) (fun _ _ _ _ _ => pts_nil) (fun _ _ _ _ _ => (pe_tup (pa_cons (pv 6) (pa_cons (pe_lc (own := [("field", 8)]) (by rfl) sc_law_makers.nd (pi_tupK (K := K) rfl (pv 7)) (blkOk_rel (own := [("field", 8)]) (N := ["program", "thing", "found", "name", "many", "makers", "maker", "fields", "field"]) (sc := { kind := PySem.ScopeKind.function, names := [(".0", PySem.NameKind.local), ("maker", PySem.NameKind.local), ("fields", PySem.NameKind.local), ("thing", PySem.NameKind.free)], isGenerator := false, isCoroutine := false }) (by decide +kernel)) (fun _ _ _ _ _ => pg_name (i := 8) sc_law_makers.nd rfl (by first | exact Or.inl rfl | exact Or.inr rfl)) (fun _ _ _ _ _ => pts_nil) (fun _ _ _ _ _ => (pe_call G_law_put (hr.mono (by omega)) rfl T.g_law_put T.k_law_put T.B_law_put .nil pass0 (pa_cons (pv 8) (pa_cons (pe_ix (ix_seqK (K := K) rfl) (pv 1) pe_int (fun _ _ => rfl)) pa_nil))))) pa_nil)))))) pss_nil)))
  (pss_one (ps_ret (pv 2)))))), ?_⟩
  refine sq_set ⟨Nat.zero_le _, fun p0 hp0 => ?_⟩
  have e1 : Ex H (upd H p0 (.lst [])) := Ex.new hp0
  generalize upd H p0 (.lst []) = H1 at e1
  refine sq_forT (ds := ks.map knD) (ed_op (ed_var rfl (ip.ex e1)) ed_int (rd_ix (i := 0) rfl)) fun H2 e2 => ?_
  have e12 := e1.trans e2
  refine ⟨fun i σ' H' => ∃ (o3 o4 o5 o6 o7 o8 : Option V) (q : Addr), σ' = [some vp, some vt, some (.ref q), o3, o4, o5, o6, o7, o8] ∧ Ex H2 H' ∧ ((∀ x ∈ ks.take i, x.1 ≠ k) ∨ (H q = none ∧ ∃ us, H' q = some (.lst us) ∧ Paired (MkV K H H' ss) us kd.2.2)), ⟨none, none, none, none, none, none, p0, rfl, Ex.refl _, .inl fun x hx => by simp at hx⟩, ?_, ?_, ?_⟩
  · rintro i σ' H' ⟨_, _, _, _, _, _, _, _, e, _⟩
    exact Tk.ex e
  · rintro i y vy σ' H' hy iy ⟨o3, o4, o5, o6, o7, o8, q', rfl, e3, hor⟩
    rw [List.getElem?_map] at hy
    obtain ⟨x, hx, rfl⟩ := Option.map_eq_some_iff.mp hy
    have hxm := List.mem_of_getElem? hx
    obtain ⟨a, ws, rfl, ha, iw⟩ := iy.tup_of
    obtain ⟨x0, _, rfl, j0, iw⟩ := iw.cons_of
    obtain ⟨x1, _, rfl, j1, iw⟩ := iw.cons_of
    obtain ⟨x2, _, rfl, j2, iw⟩ := iw.cons_of
    obtain rfl := iw.nil_of
    obtain rfl := j0.str_of
    obtain rfl := j1.int_of
    refine gd_three ha _ ?_
    have e03 := e12.trans e3
    refine st_els (b := (x.1 == k)) (eb_t (K := K) (ed_op (ed_var rfl (.str x.1)) (ed_op (ed_var rfl (it.ex e03)) ed_int (rd_ix (i := 1) (d := .str k) rfl)) (rd_eqs (by simp [PyData.eqv])))) (fun hb H4 e4 => ?_) fun hb H4 e4 => ?_
    · have hxk : x.1 = k := by simpa using hb
      obtain rfl := kd_uniq hP hxm hkd (hxk.trans hk.symm)
      obtain ⟨am, ms, rfl, ham, im⟩ := (j2.ex e4).tup_of
      have e04 := e03.trans e4
      refine st_asg ⟨_, rfl, am, rfl, ⟨ms, ham⟩, fun D hD => ?_⟩
      refine lc_tup (K := K) (a := am) (xs := ms) (fun j H5 => Ex H4 H5 ∧ ∃ acc, H5 D = some (.lst acc) ∧ Paired (fun v m => ∃ a l us, v = .ref a ∧ SqT K H5 a [.str m.1, .ref l] ∧ H5 l = some (.lst us) ∧ ImAll K H5 us (m.2.map fun t => (tput ss t).d) ∧ H l = none ∧ l ≠ D) acc (x.2.2.take j) ∧ j ≤ x.2.2.length) ?_ ?_ ?_ ?_
      · exact ⟨Ex.new hD, [], upd_same .., .nil, Nat.zero_le _⟩
      · rintro j H5 _ ⟨e5, _⟩
        exact (Tk.ex e5).sq ham
      · rintro j y H5 hyj ⟨e5, acc, h5, i5, hj⟩
        obtain ⟨d1, hd1, imy⟩ := im.getV hyj
        rw [List.getElem?_map] at hd1
        obtain ⟨m, hm, rfl⟩ := Option.map_eq_some_iff.mp hd1
        have hmm := List.mem_of_getElem? hm
        have hmk := (hP.kn _ hkd).2.2.2 m hmm
        obtain ⟨a2, ws2, rfl, ha2, iw2⟩ := (imy.ex e5).tup_of
        obtain ⟨y0, _, rfl, k0, iw2⟩ := iw2.cons_of
        obtain ⟨y1, _, rfl, k1, iw2⟩ := iw2.cons_of
        obtain rfl := iw2.nil_of
        obtain rfl := k0.str_of
        refine gd_two ha2 _ ⟨rfl, te_yes (iteT ?_)⟩
        have e05 := e04.trans e5
        refine te_tup (te_cons ⟨_, rfl, (el_lcX (es := m.2.map fun t => (tput ss t).d) (ed_var rfl k1) ?_ ?_ fun j x v H6 hx e6 i6 => ?_).cn fun l us H6 hl6 e6 h6 i6 => ⟨by show 2 ≤ sizeLine; decide, fun p2 hp2 => ?_⟩⟩)
        · rw [Ty.dAll_map, List.length_map]; have := hmk.2.1; omega
        · rw [Ty.dAll_map, List.length_map, List.length_map]
        · rw [Ty.dAll_map, List.getElem?_map] at hx
          obtain ⟨t, ht, rfl⟩ := Option.map_eq_some_iff.mp hx
          obtain ⟨w1, w2, w3⟩ := hmk.2.2 t (List.mem_of_getElem? ht)
          refine ⟨(tput ss t).d, by rw [List.getElem?_map, ht]; rfl, ?_⟩
          exact ed_call (R := Rput 4) (ea_cons (ed_var rfl i6) (ea_cons (ed_op (ed_var rfl (it.ex (e05.trans e6))) ed_int (rd_ix (i := 2) (d := .tuple (Ty.dAll ss)) rfl)) ea_nil)) ⟨t, ss, ksOf ks, w2, hP.g.ok, by rw [hss]; exact w1, rfl, rfl⟩
        · have e7 : Ex H6 (upd H6 p2 (.tup [.str m.1, .ref l])) := Ex.new hp2
          have h7 : upd H6 p2 (.tup [.str m.1, .ref l]) p2 = some (.tup [.str m.1, .ref l]) := upd_same ..
          generalize upd H6 p2 (.tup [.str m.1, .ref l]) = H7 at e7 h7
          have e67 := e6.trans e7
          have h7D := e67 _ _ h5
          have nlD : l ≠ D := fun z => by rw [z, h5] at hl6; cases hl6
          have t8 : Tk H7 (upd H7 D (.lst (acc ++ [V.ref p2]))) := Tk.upd (no_lst h7D)
          have hl := Paired.length i5
          refine ⟨acc, h7D, ?_, ?_, acc ++ [V.ref p2], upd_same .., ?_, (List.getElem?_eq_some_iff.mp hm).1⟩
          · rw [hl, List.length_take]
            have := (hP.kn _ hkd).2.2.1
            exact Evl.sz_lt (by omega)
          · exact Ex.mut (e5.trans e67) hD
          · rw [take_snoc hm]
            refine Paired.snoc (Paired.mapP i5 fun v' m' z => ?_) ⟨p2, l, us, rfl, t8.sq (Evl.st_of h7), by rw [upd_ne nlD]; exact e7 _ _ h6, (i6.ex e7).mono t8, Evl.fresh_back e05 hl6, nlD⟩
            obtain ⟨a', l', us', z1, z2, z3, z4, z5, z6⟩ := z
            exact ⟨a', l', us', z1, t8.sq (Evl.ex_t e67 z2), by rw [upd_ne z6]; exact e67 _ _ z3, (z4.ex e67).mono t8, z5, z6⟩
      · rintro H5 ⟨e5, acc, h5, i5, _⟩
        have hml : ms.length = x.2.2.length := by rw [im.length, List.length_map]
        rw [hml, List.take_length] at i5
        refine ⟨_, _, _, _, _, _, D, rfl, (e3.trans e4).trans e5, .inr ⟨Evl.fresh_back e04 hD, acc, h5, Paired.mapP i5 fun v' m' z => ?_⟩⟩
        obtain ⟨a', l', us', z1, z2, z3, z4, z5, z6⟩ := z
        exact ⟨a', l', us', z1, z2, z3, z4, z5⟩
    · have hxk : x.1 ≠ k := by simpa using hb
      refine ⟨_, _, _, _, _, _, q', rfl, e3.trans e4, ?_⟩
      rcases hor with h | ⟨h1, us, h2, h3⟩
      · refine .inl fun y hy => ?_
        rw [take_snoc hx] at hy
        rcases List.mem_append.mp hy with hy | hy
        · exact h y hy
        · obtain rfl : y = x := by simpa using hy
          exact hxk
      · exact .inr ⟨h1, us, e4 _ _ h2, Paired.mapP h3 fun v' m' z => z.ex e4⟩
  · rintro σ' H' ⟨o3, o4, o5, o6, o7, o8, q', rfl, e3, hor⟩
    rw [List.length_map, List.take_length] at hor
    rcases hor with h | ⟨h1, us, h2, h3⟩
    · exact absurd hk (h kd hkd)
    · exact st_ret ⟨_, rfl, q q' us kd H' (e12.trans e3) h1 h2 hkd hk hss h3⟩
end
end K55
/-! plain: drawn programs -/
namespace K55
open PySem PySem.Spec PyProof.Rows L2 W5 M5
theorem cutD_to (ds : List PyData) (t : Nat) : W5.cutD ds none (some (t : Int)) = ds.take t := by
  unfold W5.cutD
  rw [HT.sIx_nat]
  show (ds.drop 0).take (min t ds.length - 0) = _
  rw [List.drop_zero, Nat.sub_zero]
  rcases Nat.le_total t ds.length with h | h
  · rw [Nat.min_eq_left h]
  · rw [Nat.min_eq_right h, List.take_length, List.take_of_length_le h]
theorem cutD_from (ds : List PyData) (t : Nat) : W5.cutD ds (some (t : Int)) none = ds.drop t := by
  unfold W5.cutD
  rw [HT.sIx_nat]
  show (ds.drop (min t ds.length)).take (ds.length - min t ds.length) = _
  rcases Nat.le_total t ds.length with h | h
  · rw [Nat.min_eq_left h]
    exact List.take_of_length_le (by rw [List.length_drop]; exact Nat.le_refl _)
  · rw [Nat.min_eq_right h, List.drop_length, List.drop_of_length_le h, List.take_nil]
def sInt (i : Int) : Str := (toString i)
/-- the names of a kind's makers, as they are drawn -/
def nk (s : Str) : List Str := ["N" ++ s, "M" ++ s ++ sInt 0, "M" ++ s ++ sInt 1]
theorem lots_names : (∀ x ∈ LOTS, (∀ y ∈ nk x.1, y ∈ NAMES) ∧ (nk x.1).Nodup ∧ x.1.length ≤ 10 ∧ ("M" ++ x.1 : Str).length ≤ 10) ∧ LOTS.Pairwise (fun a b => ∀ x ∈ nk a.1, ∀ y ∈ nk b.1, x ≠ y) := by decide +kernel
theorem sInt_len : (sInt 0).length ≤ 10 ∧ (sInt 1).length ≤ 10 := by decide +kernel
theorem nk_get (s : Str) (j : Nat) (hj : j < 2) : (nk s)[j + 1]? = some ("M" ++ s ++ sInt (j : Int)) := by
  rcases (by omega : j = 0 ∨ j = 1) with rfl | rfl <;> rfl
def PgN (ks : List Knd) : Prop := ∀ k ∈ ks, ∃ m ∈ k.2.2, m.2 = []
def KGood (KS : List (Str × Nat)) (k : Knd) : Prop := KnOk KS k ∧ (∃ m ∈ k.2.2, m.2 = []) ∧ (nmk k).Nodup ∧ ∀ s ∈ nmk k, s ∈ nk k.1
theorem pg_of {ks : List Knd} {c : Nat} (h1 : 1 ≤ c) (h5 : c ≤ 5) (e : ksOf ks = LOTS.take c) (h : ∀ k ∈ ks, KGood (LOTS.take c) k) : PgOk ks ∧ PgN ks := by
  refine ⟨⟨⟨c, h1, h5, e⟩, fun k hk => by rw [e]; exact (h k hk).1, ?_⟩, fun k hk => (h k hk).2.1⟩
  rw [List.Nodup, List.pairwise_flatMap]
  refine ⟨fun k hk => (h k hk).2.2.1, ?_⟩
  have hp : (LOTS.take c).Pairwise (fun a b => ∀ x ∈ nk a.1, ∀ y ∈ nk b.1, x ≠ y) := lots_names.2.sublist (List.take_sublist _ _)
  rw [← e, ksOf, List.pairwise_map] at hp
  refine List.Pairwise.imp_of_mem (fun {a b} ha hb hab x hx y hy => ?_) hp
  exact hab x ((h a ha).2.2.2 x hx) y ((h b hb).2.2.2 y hy)
/-- the makers of a kind as they are drawn, so far -/
structure MInv (KS : List (Str × Nat)) (s : Str) (many : Nat) (j : Nat) (ms : List Mkr) : Prop where
  nm : ms.map (·.1) = (nk s).take (j + 1)
  ok : ∀ m ∈ ms, m.2.length ≤ 3 ∧ ∀ t ∈ m.2, t.Wf KS many ∧ t.depth ≤ 4 ∧ t.size ≤ 8
  no : ∃ m ∈ ms, m.2 = []
theorem MInv.good {KS : List (Str × Nat)} {s : Str} {many j : Nat} {ms : List Mkr} (h : MInv KS s many j ms) (hs : (s, many) ∈ KS) (hK : KsOk KS) (hj : j ≤ 2) (t : Nat) : KGood KS (s, many, ms.drop t ++ ms.take t) := by
  have hn := (lots_names.1 _ (hK _ hs))
  have hl : ms.length = j + 1 := by
    have := congrArg List.length h.nm
    rw [List.length_map, List.length_take] at this
    have h3 : (nk s).length = 3 := rfl
    omega
  have hmem : ∀ m ∈ ms.drop t ++ ms.take t, m ∈ ms := fun m hm => by
    rcases List.mem_append.mp hm with hm | hm
    · exact List.mem_of_mem_drop hm
    · exact List.mem_of_mem_take hm
  have hmem2 : ∀ m ∈ ms, m ∈ ms.drop t ++ ms.take t := fun m hm => by
    rw [← List.take_append_drop t ms] at hm
    rcases List.mem_append.mp hm with hm | hm
    · exact List.mem_append.mpr (.inr hm)
    · exact List.mem_append.mpr (.inl hm)
  have hnm : ∀ m ∈ ms, m.1 ∈ nk s := fun m hm => by
    have : m.1 ∈ ms.map (·.1) := List.mem_map.mpr ⟨m, hm, rfl⟩
    rw [h.nm] at this
    exact List.mem_of_mem_take this
  have hlen : (ms.drop t ++ ms.take t).length = ms.length := by
    rw [List.length_append, List.length_drop, List.length_take]; omega
  refine ⟨⟨hs, ?_, ?_, fun m hm => ⟨hn.1 _ (hnm m (hmem m hm)), h.ok m (hmem m hm)⟩⟩, ?_, ?_, fun x hx => ?_⟩
  · show 1 ≤ (ms.drop t ++ ms.take t).length; omega
  · show (ms.drop t ++ ms.take t).length ≤ 3; omega
  · obtain ⟨m, hm, e⟩ := h.no
    exact ⟨m, hmem2 m hm, e⟩
  · have h0 : (ms.map (·.1)).Nodup := by
      rw [h.nm]
      exact (List.take_sublist _ _).nodup hn.2.1
    show ((ms.drop t ++ ms.take t).map (·.1)).Nodup
    rw [← List.take_append_drop t ms, List.map_append] at h0
    rw [List.map_append]
    exact (List.perm_append_comm.nodup_iff).mp h0
  · obtain ⟨m, hm, rfl⟩ := List.mem_map.mp hx
    exact hnm m (hmem m hm)
end K55
/-! the law's own walk: plain -/
namespace K55
open PySem PySem.Spec PyProof.Rows L2 W5 M5
open Evl (Ex Ev)
section
variable {P : Program} {w : World} {K : PySem.W.Frag} {mg : Str → Option Value} {base : Heap}
theorem eb_ninF {σ : L2.St} {H : Hp} {tk td : TE} {d : PyData} {ds : List PyData} {ws : List V} {a : Addr} {k : Nat} (hk : Ed K tk σ H d) (hd : Ev td σ H (.ref a)) (ha : H a = some (.lst ws)) (im : ImAll K H ws ds) (hdep : d.depth ≤ lineI k) : Eb (tTest (tOp (rNiA K (lineI k)) tk td)) σ H (!(ds.any fun z => PyData.eqv z d)) := fun H1 e1 Q q =>
  hk H1 e1 _ fun v H2 e2 i2 => hd H2 (e1.trans e2) _ fun H3 e3 => by
    have e13 := (e1.trans e2).trans e3
    refine .inl ⟨d, ds, (i2.ex e3).dp, .inl (.lst (Evl.sq_of (e13 _ _ ha)) (im.ex e13).dp), (i2.ex e3).plain, im.plain, Nat.le_trans (Nat.min_le_right _ _) hdep, ⟨_, rfl, q H3 (e2.trans e3)⟩⟩
def fsA (ss : List M5.Ty) (ms : List Mkr) : List M5.Ty := ms.flatMap fun m => m.2.map (tput ss)
theorem fsA_take {ss : List M5.Ty} {ms : List Mkr} {i : Nat} {m : Mkr} (h : ms[i]? = some m) : fsA ss (ms.take (i + 1)) = fsA ss (ms.take i) ++ m.2.map (tput ss) := by
  rw [fsA, take_snoc h, List.flatMap_append]
  simp [fsA]
theorem fsA_len {ss : List M5.Ty} {ms : List Mkr} (h3 : ms.length ≤ 3) (hf : ∀ m ∈ ms, m.2.length ≤ 3) (hn : ms = [] ∨ ∃ m ∈ ms, m.2 = []) : (fsA ss ms).length ≤ 6 := by
  have hl : ∀ l : List Mkr, (∀ m ∈ l, m.2.length ≤ 3) → (fsA ss l).length ≤ 3 * l.length := fun l => by
    induction l with
    | nil => intro _; exact Nat.zero_le _
    | cons m l ih =>
      intro h
      have := ih fun x hx => h x (List.mem_cons_of_mem _ hx)
      have := h m (List.mem_cons_self ..)
      rw [fsA, List.flatMap_cons, List.length_append, List.length_map, List.length_cons]
      show m.2.length + (fsA ss l).length ≤ _
      omega
  rcases hn with rfl | ⟨m, hm, e⟩
  · exact Nat.zero_le _
  · obtain ⟨a, b, rfl⟩ := List.append_of_mem hm
    have h1 := hl a fun x hx => hf x (by simp [hx])
    have h2 := hl b fun x hx => hf x (by simp [hx])
    have : fsA ss (a ++ m :: b) = fsA ss a ++ fsA ss b := by simp [fsA, e]
    rw [this, List.length_append]
    simp only [List.length_append, List.length_cons] at h3
    omega
/-- makers of a type, none of whole -/
structure MksOf (ks : List Knd) (x : M5.Ty) (ms : List Mkr) (ss : List M5.Ty) : Prop where
  to : ∀ v, FldT ks x v → v ∈ fsA ss ms
  of : ∀ v ∈ fsA ss ms, FldT ks x v
  len : ms.length ≤ 3
  fl : ∀ m ∈ ms, m.2.length ≤ 3
  no : ms = [] ∨ ∃ m ∈ ms, m.2 = []
  dp : ∀ v ∈ fsA ss ms, v.depth ≤ 154
theorem mks_of {ks : List Knd} (hP : PgOk ks) (hN : PgN ks) {k : Str} {ss : List M5.Ty} {kd : Knd} (hw : (M5.Ty.of k ss).Wf (ksOf ks) 0) (hs : (M5.Ty.of k ss).size ≤ 150) (hkd : kd ∈ ks) (hk : kd.1 = k) (hss : ss.length = kd.2.1) : MksOf ks (.of k ss) kd.2.2 ss := by
  have hkn := hP.kn kd hkd
  refine ⟨fun v hv => ?_, fun v hv => ?_, hkn.2.2.1, fun m hm => (hkn.2.2.2 m hm).2.1, .inr (hN kd hkd), fun v hv => ?_⟩
  · obtain ⟨k', ss', kd', m, g, e, hkd', hk', hm, hg, rfl⟩ := hv
    injection e with e1 e2
    subst e1 e2
    obtain rfl := kd_uniq hP hkd hkd' (hk.trans hk'.symm)
    exact List.mem_flatMap.mpr ⟨m, hm, List.mem_map.mpr ⟨g, hg, rfl⟩⟩
  · obtain ⟨m, hm, hv⟩ := List.mem_flatMap.mp hv
    obtain ⟨g, hg, rfl⟩ := List.mem_map.mp hv
    exact ⟨k, ss, kd, m, g, rfl, hkd, hk, hm, hg, rfl⟩
  · obtain ⟨m, hm, hv⟩ := List.mem_flatMap.mp hv
    obtain ⟨g, hg, rfl⟩ := List.mem_map.mp hv
    obtain ⟨w1, w2, w3⟩ := (hkn.2.2.2 m hm).2.2 g hg
    have h0 := depth_le_size (.of k ss)
    have h1 : (M5.Ty.of k ss).depth = 1 + Ty.depthAll ss := rfl
    have := tput_depth (m := 150) (ss := ss) (fun s hs' => by have := Ty.depthAll_mem hs'; omega) (t := g) (KS := ksOf ks) (by rw [hss]; exact w1)
    omega
theorem mks_whole (ks : List Knd) : MksOf ks .whole [] [] := ⟨fun v hv => (by
    obtain ⟨_, _, _, _, _, e, _⟩ := hv
    cases e), fun v hv => (by cases hv), Nat.zero_le _, fun m hm => (by cases hm), .inl rfl, fun v hv => (by cases hv)⟩
def isToB : M5.Ty → Bool
  | .to _ _ => true
  | _ => false
theorem not_to {x : M5.Ty} (h : isToB x = false) : ∀ a c, x ≠ .to a c := fun a c e => by rw [e] at h; cases h
theorem te_mks {σ : L2.St} {H : Hp} {vp v : V} {ks : List Knd} {x : M5.Ty} {j : Nat} {Q : VK} (h0 : σ[0]? = some (some vp)) (h4 : σ[4]? = some (some v)) (ip : Im K H vp (pD ks)) (iv : Im K H v x.d) (hP : PgOk ks) (hN : PgN ks) (hw : x.Wf (ksOf ks) 0) (hs : x.size ≤ 150) (hb : isToB x = false)
    (q : ∀ p us ms ss H4, Ex H H4 → H p = none → H4 p = some (.lst us) → Paired (MkV K H H4 ss) us ms → MksOf ks x ms ss → Q (.ref p) H4) :
    tIf (tTest (tOp (rNeP K (lineOf j)) (tVar 4) (tC (.str "whole")))) (tCall (SlawMakers K) [] E0 (tCons (tVar 0) (tCons (tVar 4) tNil))) (tLst tNil) σ H Q := by
  cases x with
  | whole => exact te_if (b := false) (eb_t (K := K) (ed_op (ed_var h4 iv) ed_str (rd_nes rfl))) (fun z => by cases z) fun _ H2 e2 => ⟨Nat.zero_le _, fun p hp => q p [] [] [] _ (e2.trans (Ex.new hp)) (Evl.fresh_back e2 hp) (upd_same ..) .nil (mks_whole ks)⟩
  | var i => exact absurd (show i < 0 from hw) (Nat.not_lt_zero _)
  | to a c => cases hb
  | of k ss =>
    refine te_if (b := true) (eb_t (K := K) (ed_op (ed_var h4 iv) ed_str (rd_nes rfl))) (fun _ H2 e2 => ?_) fun z => by cases z
    refine ⟨_, h0, _, h4, vp, v, ks, k, ss, rfl, ip.ex e2, hP, iv.ex e2, hw, fun p us kd H3 e3 hp h3 hkd hk hss pr => q p us kd.2.2 ss H3 (e2.trans e3) (Evl.fresh_back e2 hp) h3 (Paired.mapP pr fun v m z => ?_) (mks_of hP hN hw hs hkd hk hss)⟩
    obtain ⟨a, l, us', z1, z2, z3, z4, z5⟩ := z
    exact ⟨a, l, us', z1, z2, z3, z4, Evl.fresh_back e2 z5⟩
theorem sq_forLs {σ : L2.St} {H : Hp} {te : TE} {g : TG} {tb us : TS} {D : Ends} (h : te σ H fun x H1 => ∃ a, x = .ref a ∧ (∃ xs, SqL K H1 a xs) ∧ tFor (fun _ H2 R => R (Itl K a) H2) g tb { D with nx := us D } σ H1) : tSeq (tFor (iList K te) g tb) us D σ H := h
/-- what the loops over makers and fields hold -/
def WIn2 (K : PySem.W.Frag) (H4 : Hp) (vp vt v : V) (af ad : Addr) (F Dp Fs : List M5.Ty) (σ' : L2.St) (H' : Hp) : Prop := ∃ (o5 o6 o7 o8 : Option V) (F2 D2 : List M5.Ty) (vf vd : List V), σ' = [some vp, some vt, some (.ref af), some (.ref ad), some v, o5, o6, o7, o8] ∧ Kp [af, ad] H4 H' ∧ H' af = some (.lst vf) ∧ ImAll K H' vf (F2.map Ty.d) ∧ H' ad = some (.lst vd) ∧ ImAll K H' vd (D2.map Ty.d) ∧ LP F Dp F2 D2 Fs
theorem sIx_neg (n : Nat) : HT.sIx n 0 (some (-8)) = n - 8 := by
  have h : HT.sIx n 0 (some (-8)) = if (-8 : Int) < 0 then ((-8 : Int) + (n : Int)).toNat else min (-8 : Int).toNat n := rfl
  rw [h, if_pos (by decide)]
  omega
theorem cut_last8 (ds : List PyData) : W5.cutD ds (some (-8)) none = ds.drop (ds.length - 8) := by
  unfold W5.cutD
  rw [sIx_neg]
  show (ds.drop (ds.length - 8)).take (ds.length - (ds.length - 8)) = _
  exact List.take_of_length_le (by rw [List.length_drop]; exact Nat.le_refl _)
def SlawPlain (K : PySem.W.Frag) : Sp := fun vs H Q E => ∃ vp vt ks t, vs = [vp, vt] ∧ Im K H vp (pD ks) ∧ PgOk ks ∧ PgN ks ∧ Im K H vt (Ty.d t) ∧ t.Wf (ksOf ks) 0 ∧ t.size ≤ 150 ∧ (∀ H2, Ex H H2 → Q .non H2) ∧ ∀ b H2, Ex H H2 → LawPl ks t b → Q (.bl b) H2
/-- what the walk holds at the head of a turn -/
def WPl (K : PySem.W.Frag) (H : Hp) (vp vt : V) (ks : List Knd) (t : M5.Ty) (af ad : Addr) (m : Nat) (σ' : L2.St) (H' : Hp) : Prop := ∃ (o4 o5 o6 o7 o8 : Option V) (F D : List M5.Ty) (vf vd : List V), σ' = [some vp, some vt, some (.ref af), some (.ref ad), o4, o5, o6, o7, o8] ∧ m = 2 * (1000 - F.length) + D.length ∧ Ex H H' ∧ H' af = some (.lst vf) ∧ ImAll K H' vf (F.map Ty.d) ∧ H' ad = some (.lst vd) ∧ ImAll K H' vd (D.map Ty.d) ∧
  t ∈ F ∧ F.length ≤ 300 ∧ D.length ≤ F.length ∧ (∀ u ∈ F, Rch ks t u ∧ u.size ≤ 150) ∧ (∀ u ∈ D, u ∈ F) ∧ ∀ u ∈ F, u ∈ D ∨ ((∀ a c, u ≠ .to a c) ∧ ∀ v, FldT ks u v → v ∈ F)
theorem ok_law_plain (T : Tx K mg) : Ok P w K mg base 162 d_law_plain ["program", "start"] (SlawPlain K) := by
  have G_law_makers := ok_law_makers (P := P) (w := w) (base := base) T
  have G_law_size := ok_law_size (P := P) (w := w) (base := base) T 160
  refine (T.F_law_plain).ok sc_law_plain (fun vs H Q E ⟨vp, vt, ks, t, e, _⟩ => by rw [e]; rfl) (fun cdv A outer s H vs Q E hr h => ?_)
  obtain ⟨vp, vt, ks, t, rfl, ip, hP, hN, it, hw, hs, qn, qb⟩ := h
  refine ⟨_, PSs.nox ((pss_cons (ps_par (i := 2) (j := 3) (by rfl) sc_law_plain.nd rfl rfl (by decide) rfl rfl (pa_cons (pe_lst (pa_cons (pv 1) pa_nil)) (pa_cons (pe_lst (pa_cons (pv 1) pa_nil)) pa_nil)) (by rfl))
  (pss_cons (ps_while PassesOwn.never (pt_cmpR (op_neK (K := K) rfl hr) (pv 3) (pe_lst pa_nil) (nomark _)) (pss_cons (ps_set (i := 4) sc_law_plain.nd rfl (by first | exact Or.inl rfl | exact Or.inr rfl) (pe_bm0 PySem.F.plainAttrs_list PySem.F.slot_list_pop PySem.F.type_list_pop mt_pop (pv 3)))
  (pss_cons (ps_if (PW.pt (pw_and (pt_cmpR (op_neK (K := K) rfl hr) (pv 4) pe_str (nomark _)) (pw_and1 (pt_cmpR (op_eqK (K := K) rfl hr) (pe_ix (ix_seqK (K := K) rfl) (pv 4) pe_int (fun _ _ => rfl)) pe_str (nomark _))))) (pss_one (ps_ret pe_bl)) pss_nil)
  (pss_cons (ps_for PassesOwn.never rfl (pi_listK (K := K) rfl (pe_ifExp (pt_cmpR (op_neK (K := K) rfl hr) (pv 4) pe_str (nomark _)) (pe_call G_law_makers (hr.mono (by omega)) rfl T.g_law_makers T.k_law_makers T.B_law_makers .nil pass0 (pa_cons (pv 0) (pa_cons (pv 4) pa_nil))) (pe_lst pa_nil))) (pg_tupK (K := K) (n := 2) rfl rfl (pgs_cons (pg_name (i := 5) sc_law_plain.nd rfl (by first | exact Or.inl rfl | exact Or.inr rfl)) (pgs_cons (pg_name (i := 6) sc_law_plain.nd rfl (by first | exact Or.inl rfl | exact Or.inr rfl)) pgs_nil))) (pss_one (ps_for PassesOwn.never rfl (pi_listK (K := K) rfl (pv 6)) (pg_name (i := 7) sc_law_plain.nd rfl (by first | exact Or.inl rfl | exact Or.inr rfl)) (pss_one (ps_if (pt_cmpR (op_ninK (K := K) rfl hr) (pv 7) (pv 2) rfl) (pss_cons (ps_expr (pe_bm PySem.F.plainAttrs_list PySem.F.slot_list_append PySem.F.type_list_append mt_append (pv 2) (pa_cons (pv 7) pa_nil)))
  (pss_one (ps_expr (pe_bm PySem.F.plainAttrs_list PySem.F.slot_list_insert PySem.F.type_list_insert mt_insert (pv 3) (pa_cons pe_int (pa_cons (pv 7) pa_nil)))))) pss_nil)))))
  (pss_one (ps_if (PW.pt (pw_or (pt_cmpR op_gt (pe_callB (call_lenK (K := K) rfl) rfl T.b_len bb_len (pa_cons (pv 2) pa_nil)) pe_int (nomark _)) (pw_or1 (pt_cmpR op_gt (pe_callB (cr_maxK (K := K) rfl rfl) rfl T.b_max bb_max (pa_cons (pe_lc (own := [("one", 8)]) (by rfl) sc_law_plain.nd (pi_listK (K := K) rfl (pe_slice (sl_listK (K := K) rfl) (pv 2) (po_some (pe_un un_neg pe_int)) po_none)) (blkOk_by (own := [("one", 8)]) (N := ["program", "start", "found", "due", "thing", "maker", "fields", "field", "one"]) (sc := defScope s_law_plain) (by decide +kernel)) (fun _ _ _ _ _ => pg_name (i := 8) sc_law_plain.nd rfl (by first | exact Or.inl rfl | exact Or.inr rfl)) (fun _ _ _ _ _ => pts_nil) (fun _ _ _ _ _ => (pe_call G_law_size (hr.mono (by omega)) rfl T.g_law_size T.k_law_size T.B_law_size .nil pass0 (pa_cons (pv 8) pa_nil)))) pa_nil)) pe_int (nomark _))))) (pss_one (ps_ret pe_non)) pss_nil))))))
  (pss_one (ps_ret pe_bl))))), ?_⟩
  refine sq_par ?_
  refine El.cn (ds := [t.d]) (el_lst (ea_cons (ed_var rfl it) ea_nil)) fun af vf H1 haf e1 h1 i1 => ?_
  refine El.cn (ds := [t.d]) (el_lst (ea_cons (ed_var rfl (it.ex e1)) ea_nil)) fun ad vd H2 had e2 h2 i2 => ?_
  refine ⟨_, _, rfl, ?_⟩
  have e12 := e1.trans e2
  have nfd : af ≠ ad := fun z => by rw [z, had] at h1; cases h1
  have had0 : H ad = none := Evl.fresh_back e1 had
  refine sq_while (WPl K H vp vt ks t af ad) ⟨_, none, none, none, none, none, [t], [t], vf, vd, rfl, rfl, e12, e2 _ _ h1, i1.ex e2, h2, i2, List.mem_singleton.mpr rfl, by simp, by simp, (fun u hu => by
    obtain rfl : u = t := by simpa using hu
    exact ⟨.refl, hs⟩), (fun u hu => hu), fun u hu => .inl hu⟩ ?_
  clear i1 i2 h1 h2 e1 e2 e12 vf vd H1 H2 had
  rintro m σ' H1 ⟨o4, o5, o6, o7, o8, F, D, vf, vd, rfl, rfl, e1, haf1, imF, had1, imD, htF, hF3, hDl, hFr, hDF, hdone⟩
  refine ⟨_, eb_nenil rfl had1 imD, fun H2 e2 => ?_⟩
  have e02 := e1.trans e2
  rcases nil_or_concat D with rfl | ⟨Dp, x, rfl⟩
  · exact iteF (st_ret (te_c (qb true H2 e02 (.inl ⟨rfl, F, htF, hF3, fun u hu => (hdone u hu).resolve_left (by simp)⟩))))
  have ne : (!((Dp ++ [x]).map Ty.d).isEmpty) = true := by simp
  rw [ne]
  refine iteT ?_
  rw [List.map_append] at imD
  obtain ⟨ws, v, rfl, imDp, iv⟩ := ImAll.concat_of (imD.ex e2)
  have had2 := e2 _ _ had1
  have haf2 := e2 _ _ haf1
  have t3 : Tk H2 (upd H2 ad (.lst (ws ++ [v]).dropLast)) := Tk.upd (no_lst had2)
  refine sq_set (te_pop (v := v) rfl had2 (by simp) ?_)
  rw [List.dropLast_concat] at t3 ⊢
  have had3 : upd H2 ad (.lst ws) ad = some (.lst ws) := upd_same ..
  have haf3 : upd H2 ad (.lst ws) af = some (.lst vf) := by rw [upd_ne nfd]; exact haf2
  have e03 : Ex H (upd H2 ad (.lst ws)) := Ex.mut e02 had0
  have imDp3 := imDp.mono t3
  have imF3 := (imF.ex e2).mono t3
  have iv3 := iv.mono t3
  generalize upd H2 ad (.lst ws) = H3 at had3 haf3 e03 imDp3 imF3 iv3
  have hxF : x ∈ F := hDF x (by simp)
  obtain ⟨hxr, hxs⟩ := hFr x hxF
  have hxw := hxr.wf hP hw
  have tkA : ∀ {Ha Hb : Hp} {wf wd : List V}, Ha af = some (.lst wf) → Ha ad = some (.lst wd) → Kp [af, ad] Ha Hb → Tk Ha Hb := fun a b k => k.tk fun p hp => by
    simp only [List.mem_cons, List.not_mem_nil, or_false] at hp
    rcases hp with rfl | rfl
    · exact no_lst a
    · exact no_lst b
  refine sq_if (b := isToB x) ?_ (fun hb H4 e4 => ?_) fun hb H4 e4 => ?_
  · cases x with
    | whole => exact eb_and (b := false) (c := false) (eb_t (K := K) (ed_op (ed_var rfl iv3) ed_str (rd_nes rfl))) fun z => by cases z
    | var i => exact absurd (show i < 0 from hxw) (Nat.not_lt_zero _)
    | to a c => exact eb_and (b := true) (c := true) (eb_t (K := K) (ed_op (ed_var rfl iv3) ed_str (rd_nes rfl))) fun _ => eb_t (K := K) (ed_op (ed_op (ed_var rfl iv3) ed_int (rd_ix rfl)) ed_str (rd_eqs rfl))
    | of k ss => exact eb_and (b := true) (c := false) (eb_t (K := K) (ed_op (ed_var rfl iv3) ed_str (rd_nes rfl))) fun _ => eb_t (K := K) (ed_op (ed_op (ed_var rfl iv3) ed_int (rd_ix rfl)) ed_str (rd_eqs rfl))
  · cases x with
    | to a c => exact st_ret (te_c (qb false H4 (e03.trans e4) (.inr ⟨rfl, a, c, hxr⟩)))
    | whole => cases hb
    | var i => cases hb
    | of k ss => cases hb
  have e04 := e03.trans e4
  refine sq_forLs (te_mks (x := x) rfl rfl (ip.ex e04) (iv3.ex e4) hP hN hxw hxs hb fun p us ms ss H5 e5 hp h5 pr hM => ⟨p, rfl, ⟨us, Evl.sq_of h5⟩, ?_⟩)
  have e35 := e4.trans e5
  have e05 := e03.trans e35
  have haf5 := e35 _ _ haf3
  have had5 := e35 _ _ had3
  have n2 : ∀ {l : Addr}, H4 l = none → l ∉ [af, ad] := fun {l} hl hm => by
    simp only [List.mem_cons, List.not_mem_nil, or_false] at hm
    rcases hm with rfl | rfl
    · rw [e4 _ _ haf3] at hl; cases hl
    · rw [e4 _ _ had3] at hl; cases hl
  have np := n2 hp
  have hDpF : ∀ y ∈ Dp, y ∈ F := fun y hy => hDF y (by simp [hy])
  have hFl : (fsA ss ms).length ≤ 6 := fsA_len hM.len hM.fl hM.no
  have hFs6 : ∀ i m, ms[i]? = some m → ∀ j, (fsA ss (ms.take i) ++ (m.2.take j).map (tput ss)).length ≤ 6 := fun i m hm j => by
    have h1 : fsA ss ms = fsA ss (ms.take i) ++ (m.2.map (tput ss) ++ fsA ss (ms.drop (i + 1))) := by
      have hd : ms.drop i = m :: ms.drop (i + 1) := (List.getElem?_eq_some_iff.mp hm).2 ▸ List.drop_eq_getElem_cons (List.getElem?_eq_some_iff.mp hm).1
      conv => lhs; rw [← List.take_append_drop i ms, hd]
      simp [fsA]
    have h2 := congrArg List.length h1
    simp only [List.length_append, List.length_map, List.length_take] at h2 ⊢
    omega
  have d154 : ∀ y ∈ fsA ss ms, y.d.depth ≤ lineI 161 := fun y hy => by
    have h1 := d_depth y
    have h2 := hM.dp y hy
    show _ ≤ 16 * 161 + 198
    omega
  refine for_list (K := K) (a := p) (xs := us) (fun i σ' H' => WIn2 K H5 vp vt v af ad F Dp (fsA ss (ms.take i)) σ' H') ?_ ?_ ?_ ?_
  · exact ⟨_, _, _, _, F, Dp, vf, ws, rfl, Kp.refl _ _, haf5, imF3.ex e35, had5, imDp3.ex e35, LP.start hDpF⟩
  · rintro i σ' H' _ ⟨_, _, _, _, _, _, _, _, _, k, _⟩
    exact Evl.sq_of (k _ _ np h5)
  · rintro i vm σ' H' hvm ⟨o5, o6, o7, o8, F2, D2, vf2, vd2, rfl, kk, hf2, if2, hd2, id2, lp⟩
    obtain ⟨m, hm, a, l, us', rfl, ha, hl, iu, hl0⟩ := paired_get pr hvm
    have tt := tkA haf5 had5 kk
    refine gd_two (tt.sq ha) _ ?_
    have nl := n2 hl0
    rw [dAll_tput] at iu
    refine st_forE (ds := Ty.dAll (m.2.map (tput ss))) (ev_v rfl) (kk _ _ nl hl) (iu.mono tt) fun H6 e6 => ?_
    refine ⟨fun j σ' H' => WIn2 K H6 vp vt v af ad F Dp (fsA ss (ms.take i) ++ (m.2.take j).map (tput ss)) σ' H', ⟨_, _, _, _, F2, D2, vf2, vd2, rfl, Kp.refl _ _, e6 _ _ hf2, if2.ex e6, e6 _ _ hd2, id2.ex e6, by simpa using lp⟩, ?_, ?_, ?_⟩
    · rintro j σ' H7 ⟨_, _, _, _, _, _, _, _, _, k7, _⟩
      exact ⟨tkA (e6 _ _ hf2) (e6 _ _ hd2) k7, k7 _ _ nl (e6 _ _ (kk _ _ nl hl))⟩
    · rintro j y vy σ' H7 hy iy ⟨o5, o6, o7, o8, F3, D3, vf3, vd3, rfl, k7, hf3, if3, hd3, id3, lp3⟩
      rw [Ty.dAll_map, List.getElem?_map, List.getElem?_map] at hy
      obtain ⟨y1, hy1, rfl⟩ := Option.map_eq_some_iff.mp hy
      obtain ⟨g, hg, rfl⟩ := Option.map_eq_some_iff.mp hy1
      have hmem : tput ss g ∈ fsA ss ms := List.mem_flatMap.mpr ⟨m, List.mem_of_getElem? hm, List.mem_map.mpr ⟨g, List.mem_of_getElem? hg, rfl⟩⟩
      have hsn : fsA ss (ms.take i) ++ (m.2.take (j + 1)).map (tput ss) = fsA ss (ms.take i) ++ (m.2.take j).map (tput ss) ++ [tput ss g] := by rw [take_snoc hg, List.map_append, List.append_assoc]; rfl
      refine gd_name _ ?_
      refine st_els (eb_ninF (ed_var rfl iy) (ev_v rfl) hf3 if3 (d154 _ hmem)) (fun hb H8 e8 => ?_) fun hb H8 e8 => ?_
      · have l6 := hFs6 i m hm j
        have lle := lp3.le
        have llen := lp3.len
        simp only [List.length_append, List.length_cons, List.length_nil] at hDl
        refine sq_drop (te_append rfl (e8 _ _ hf3) (ed_var rfl (iy.ex e8)) (by rw [if3.length, List.length_map]; omega) fun v9 H9 e9 i9 => ?_)
        have e79 := e8.trans e9
        have hf9 := e79 _ _ hf3
        have hd9 : upd H9 af (.lst (vf3 ++ [v9])) ad = some (.lst vd3) := by rw [upd_ne (Ne.symm nfd)]; exact e79 _ _ hd3
        have hf10 : upd H9 af (.lst (vf3 ++ [v9])) af = some (.lst (vf3 ++ [v9])) := upd_same ..
        have t9 : Tk H9 (upd H9 af (.lst (vf3 ++ [v9]))) := Tk.upd (no_lst hf9)
        have k9 : Kp [af, ad] H6 (upd H9 af (.lst (vf3 ++ [v9]))) := (k7.ex e79).upd (by simp)
        have if9 := ((if3.ex e79).append (.cons i9 .nil)).mono t9
        have id9 := (id3.ex e79).mono t9
        have iy9 := (iy.ex e79).mono t9
        generalize upd H9 af (.lst (vf3 ++ [v9])) = H10 at hd9 hf10 t9 k9 if9 id9 iy9
        refine st_drop ⟨_, rfl, .inl ⟨rfl, _, Evl.sq_of hd9⟩, te_cons (te_c (te_cons ⟨_, rfl, ⟨ad, vd3, 0, vy, rfl, rfl, hd9, ?_, by decide, by decide, ?_⟩⟩))⟩
        · rw [id3.length, List.length_map]
          exact Evl.sz_lt (by omega)
        · have t10 : Tk H10 (upd H10 ad (.lst (vy :: vd3))) := Tk.upd (no_lst hd9)
          have k10 : Kp [af, ad] H6 (upd H10 ad (.lst (vy :: vd3))) := k9.upd (by simp)
          show WIn2 K H6 vp vt v af ad F Dp (fsA ss (ms.take i) ++ (m.2.take (j + 1)).map (tput ss)) _ (upd H10 ad (.lst (vy :: vd3)))
          rw [hsn]
          refine ⟨_, _, _, _, F3 ++ [tput ss g], tput ss g :: D3, vf3 ++ [v9], vy :: vd3, rfl, k10, by rw [upd_ne nfd]; exact hf10, ?_, upd_same .., ?_, lp3.put _⟩
          · rw [List.map_append]
            exact if9.mono t10
          · exact (ImAll.cons iy9 id9).mono t10
      · have hin : tput ss g ∈ F3 := (any_ty _ _).mp (by simpa using hb)
        show WIn2 K H6 vp vt v af ad F Dp (fsA ss (ms.take i) ++ (m.2.take (j + 1)).map (tput ss)) _ H8
        rw [hsn]
        exact ⟨_, _, _, _, F3, D3, vf3, vd3, rfl, k7.ex e8, e8 _ _ hf3, if3.ex e8, e8 _ _ hd3, id3.ex e8, lp3.old hin⟩
    · rintro σ' H7 ⟨o5, o6, o7, o8, F3, D3, vf3, vd3, rfl, k7, r⟩
      rw [Ty.dAll_map, List.length_map, List.length_map, List.take_length] at r
      show WIn2 K H5 vp vt v af ad F Dp (fsA ss (ms.take (i + 1))) _ H7
      rw [fsA_take hm]
      exact ⟨_, _, _, _, F3, D3, vf3, vd3, rfl, (kk.ex e6).trans k7, r⟩
  · rintro σ' H' ⟨o5, o6, o7, o8, F2, D2, vf2, vd2, rfl, kk, hf2, if2, hd2, id2, lp⟩
    rw [Paired.length pr, List.take_length] at lp
    have eH : Ex H H' := ((((Kp.of e05).trans kk).drop haf).drop had0).to_ex
    obtain ⟨X, hX⟩ := lp.pre
    have hXl : X.length ≤ 6 := by
      have := lp.le
      rw [hX, List.length_append] at this
      omega
    have hF2F : ∀ u ∈ F, u ∈ F2 := fun u hu => by rw [hX]; exact List.mem_append.mpr (.inl hu)
    have hr2 : ∀ u ∈ F2, Rch ks t u ∧ u.depth ≤ 160 := fun u hu => by
      rcases lp.new u hu with h | ⟨_, h⟩
      · obtain ⟨r1, r2⟩ := hFr u h
        have := depth_le_size u
        exact ⟨r1, by omega⟩
      · have := hM.dp u h
        exact ⟨hxr.step (hM.of u h), by omega⟩
    have hpos : 0 < F2.length := List.length_pos_of_mem (hF2F t htF)
    have hneg : Eo (tPart (tUn (rU fun i => .int (-i)) (tC (.int 8)))) [some vp, some vt, some (.ref af), some (.ref ad), some v, o5, o6, o7, o8] H' (some (-8)) := eo_some (K := K) (ed_un (K := K) (x := .int 8) (z := .int (-8)) ed_int (fun H v Q a q => by obtain rfl := a.int_of; exact ⟨8, rfl, q _ H (Ex.refl H) (.int _)⟩))
    have hcut : W5.cutD (F2.map Ty.d) (some (-8)) none = (F2.drop (F2.length - 8)).map Ty.d := by rw [cut_last8, List.length_map, List.map_drop]
    refine st_els (b := decide ((300 : Int) < ((F2.map Ty.d).length : Nat)) || ((F2.drop (F2.length - 8)).map fun u => ((u.size : Nat) : Int)).any fun y => decide (150 < y)) (eb_or (eb_t (K := K) (ed_op (ed_lenL (es_ev' (ev_v rfl) hf2 if2)) ed_int rd_cmp)) fun _ => eb_maxgt (fun i => rfl) (el_lcXL (ds := (F2.drop (F2.length - 8)).map Ty.d) ((el_sl (es_ev' (ev_v rfl) hf2 if2) hneg eo_none).to hcut).toS ?_ ?_ fun j y vy H6 hy e6 iy => ?_) ?_) (fun hb H6 e6 => ?_) fun hb H6 e6 => ?_
    · rw [List.length_map, List.length_drop]
      have := lp.le
      omega
    · rw [List.length_map, List.length_map, List.length_map]
    · rw [List.getElem?_map] at hy
      obtain ⟨u, hu, rfl⟩ := Option.map_eq_some_iff.mp hy
      have hm := List.mem_of_mem_drop (List.mem_of_getElem? hu)
      obtain ⟨r1, r2⟩ := hr2 u hm
      exact ⟨.int ((u.size : Nat) : Int), by rw [List.map_map, List.getElem?_map, hu]; rfl, ed_call (R := Rsize 160) (ea_cons (ed_var rfl iy) ea_nil) ⟨u, ksOf ks, r2, hP.g.ok, r1.wf hP hw, rfl, rfl⟩⟩
    · rw [List.length_map, List.length_drop]
      omega
    · exact st_ret (te_c (qn H6 (eH.trans e6)))
    · rw [Bool.or_eq_false_iff] at hb
      obtain ⟨hb1, hb2⟩ := hb
      have hb1 := of_decide_eq_false hb1
      rw [List.length_map] at hb1
      have hb2 := List.any_eq_false.mp hb2
      have llen := lp.len
      have lge : F.length ≤ F2.length := by rw [hX, List.length_append]; omega
      simp only [List.length_append, List.length_cons, List.length_nil] at hDl
      refine ⟨_, ?_, _, _, _, _, _, F2, D2, vf2, vd2, rfl, rfl, eH.trans e6, e6 _ _ hf2, if2.ex e6, e6 _ _ hd2, id2.ex e6, hF2F t htF, by omega, by omega, fun u hu => ⟨(hr2 u hu).1, ?_⟩, lp.dq, fun u hu => ?_⟩
      · simp only [List.length_append, List.length_cons, List.length_nil]
        omega
      · rw [hX] at hu
        rcases List.mem_append.mp hu with hu | hu
        · exact (hFr u hu).2
        · have hin : u ∈ F2.drop (F2.length - 8) := by
            rw [hX, List.drop_append_of_le_length (by rw [List.length_append]; omega)]
            exact List.mem_append.mpr (.inr hu)
          have := hb2 _ (List.mem_map.mpr ⟨u, hin, rfl⟩)
          simp only [decide_eq_true_eq] at this
          omega
      · rcases lp.new u hu with h | ⟨h, _⟩
        · rcases hdone u h with h | ⟨h1, h2⟩
          · rcases List.mem_append.mp h with h | h
            · exact .inl (lp.dp u h)
            · obtain rfl : u = x := by simpa using h
              exact .inr ⟨not_to (by assumption), fun v hv => lp.all v (hM.to v hv)⟩
          · exact .inr ⟨h1, fun v hv => hF2F v (h2 v hv)⟩
        · exact .inl h
end
end K55
/-! the law's own functions: like, types -/
namespace K55
open PySem PySem.Spec PyProof.Rows L2 W5 M5
open Evl (Ex Ev)
section
variable {P : Program} {w : World} {K : PySem.W.Frag} {mg : Str → Option Value} {base : Heap}
def Rlike : List PyData → PyData → Prop := fun ds r => ∃ b c : Bool, ds = [.bool b, .bool c] ∧ r = .bool (b == c)
theorem ok_law_like0 (T : Tx K mg) : Ok P w K mg base 1 d_law_like ["found", "wish"] (fun _ _ _ _ => False) := by
  refine (T.F_law_like).ok sc_law_like (fun vs H Q E h => h.elim) (fun cdv A outer s H vs Q E hr h => h.elim)
theorem ok_law_like (T : Tx K mg) : Ok P w K mg base 2 d_law_like ["found", "wish"] (Pu K Rlike) := by
  have G_law_like := ok_law_like0 (P := P) (w := w) (base := base) T
  refine (T.F_law_like).ok sc_law_like (pu_len (by rintro _ _ ⟨b, c, rfl, _⟩; rfl)) (fun cdv A outer s H vs Q E hr h => ?_)
  obtain ⟨ds, r, im, ⟨b, c, rfl, rfl⟩, q⟩ := h
  obtain ⟨v0, _, rfl, i0, im⟩ := im.cons_of
  obtain ⟨v1, _, rfl, i1, im⟩ := im.cons_of
  obtain rfl := im.nil_of
  refine ⟨_, PSs.nox ((pss_cons (ps_if (pt_val (pe_callB (call_isiK' (K := K) rfl) rfl T.b_isinstance bb_isinstance (pa_cons (pv 1) (pa_cons (pe_bltn (v := .ty "tuple") (by rfl) T.b_tuple bb_tuple rfl) pa_nil)))) (pss_cons (ps_if (PW.pt (pw_or (pt_not (pt_val (pe_callB (call_isiK' (K := K) rfl) rfl T.b_isinstance bb_isinstance (pa_cons (pv 0) (pa_cons (pe_bltn (v := .ty "tuple") (by rfl) T.b_tuple bb_tuple rfl) pa_nil))))) (pw_or1 (pt_cmpR (op_neK (K := K) rfl hr) (pe_callB (call_lenK (K := K) rfl) rfl T.b_len bb_len (pa_cons (pv 0) pa_nil)) (pe_callB (call_lenK (K := K) rfl) rfl T.b_len bb_len (pa_cons (pv 1) pa_nil)) (nomark _))))) (pss_one (ps_ret pe_bl)) pss_nil)
  (pss_one (ps_ret (pe_cmpR (op_eqK (K := K) rfl hr) (pe_lc (own := [("k", 2)]) (by rfl) sc_law_like.nd (pi_range1 (by rfl) T.b_range (pa_cons (pe_callB (call_lenK (K := K) rfl) rfl T.b_len bb_len (pa_cons (pv 1) pa_nil)) pa_nil)) (blkOk_by (own := [("k", 2)]) (N := ["found", "wish", "k"]) (sc := defScope s_law_like) (by decide +kernel)) (fun _ _ _ _ _ => pg_name (i := 2) sc_law_like.nd rfl (by first | exact Or.inl rfl | exact Or.inr rfl)) (fun _ _ _ _ _ => (pts_one (pt_not (pt_val (pe_call G_law_like (hr.mono (by omega)) rfl T.g_law_like T.k_law_like T.B_law_like .nil pass0 (pa_cons (pe_ix (ix_seqK (K := K) rfl) (pv 0) (pv 2) (fun _ _ => rfl)) (pa_cons (pe_ix (ix_seqK (K := K) rfl) (pv 1) (pv 2) (fun _ _ => rfl)) pa_nil))))))) (fun _ _ _ _ _ => (pv 2))) (pe_lst pa_nil) (nomark _))))) pss_nil)
  (pss_cons (ps_if (PW.pt (pw_or (pt_cmpR op_isA (pv 1) pe_non (nomark _)) (pw_or1 (pt_val (pe_callB (call_isiK' (K := K) rfl) rfl T.b_isinstance bb_isinstance (pa_cons (pv 1) (pa_cons (pe_bltn (v := .ty "bool") (by rfl) T.b_bool bb_bool rfl) pa_nil))))))) (pss_one (ps_ret (pe_or (pe_and (pe_cmpR op_isA (pv 0) pe_non (nomark _)) (pe_one (pe_cmpR op_isA (pv 1) pe_non (nomark _)))) (pe_one (pe_and (pe_callB (call_isiK' (K := K) rfl) rfl T.b_isinstance bb_isinstance (pa_cons (pv 0) (pa_cons (pe_bltn (v := .ty "bool") (by rfl) T.b_bool bb_bool rfl) pa_nil))) (pe_one (pe_cmpR (op_eqK (K := K) rfl hr) (pv 0) (pv 1) (nomark _)))))))) pss_nil)
  (pss_cons (ps_if (pt_val (pe_callB (call_isiK' (K := K) rfl) rfl T.b_isinstance bb_isinstance (pa_cons (pv 1) (pa_cons (pe_bltn (v := .ty "str") (by rfl) T.b_str bb_str rfl) pa_nil)))) (pss_one (ps_ret (pe_and (pe_callB (call_isiK' (K := K) rfl) rfl T.b_isinstance bb_isinstance (pa_cons (pv 0) (pa_cons (pe_bltn (v := .ty "str") (by rfl) T.b_str bb_str rfl) pa_nil))) (pe_one (pe_cmpR (op_eqK (K := K) rfl hr) (pv 0) (pv 1) (nomark _)))))) pss_nil)
  (pss_one (ps_ret (pe_and (pe_callB (call_isiK' (K := K) rfl) rfl T.b_isinstance bb_isinstance (pa_cons (pv 0) (pa_cons (pe_bltn (v := .ty "int") (by rfl) T.b_int bb_int rfl) pa_nil))) (pe_and (pe_not (pe_callB (call_isiK' (K := K) rfl) rfl T.b_isinstance bb_isinstance (pa_cons (pv 0) (pa_cons (pe_bltn (v := .ty "bool") (by rfl) T.b_bool bb_bool rfl) pa_nil)))) (pe_one (pe_cmpR (op_eqK (K := K) rfl hr) (pv 0) (pv 1) (nomark _))))))))))), ?_⟩
  refine Sr.at (d := .bool (b == c)) ?_ q
  refine sr_if (b := false) (eb_b (ed_isi (ed_var rfl i1))) (fun z => by cases z) fun _ => ?_
  refine sr_if (b := true) (eb_or (b := false) (c := true) (eb_t (K := K) (ed_op (ed_var rfl i1) ed_non rd_isN)) fun _ => eb_b (ed_isi (ed_var rfl i1))) (fun _ => ?_) (fun z => by cases z)
  refine sr_ret ((ed_or (b := false) (c := (b == c)) (ed_and (b := false) (c := false) (ed_op (ed_var rfl i0) ed_non rd_isN) fun z => by cases z) fun _ => (ed_and (b := true) (c := (b == c)) (ed_isi (ed_var rfl i0)) fun _ => ed_op (ed_var rfl i0) (ed_var rfl i1) ((rd_eq (Nat.le_trans (Nat.min_le_left _ _) (by simp [PyData.depth, lineOf]))).to rfl))).to (by simp))
/-! ### drawn types -/
def bal : Nat → Nat
  | 0 => 0
  | m + 1 => 2 + 2 * bal m
def SlawType (K : PySem.W.Frag) (m : Nat) : Sp := fun vs H Q E => ∃ u uc n lk kv KS, ∃ many deep : Nat, vs = [.ref u, .ref lk, .int ((many : Nat) : Int), .int ((deep : Nat) : Int)] ∧ UrnAt H u uc n ∧ H lk = some (.lst kv) ∧ ImAll K H kv (KS.map kD) ∧ KsOk KS ∧ KS.length ≤ 5 ∧ lk ∉ [u, uc] ∧ many ≤ 2 ∧ deep < m ∧ n + bal m ≤ 1000000 ∧
  ∀ v t H2, Kp [u, uc] H H2 → Tk H H2 → UrnAt H2 u uc (n + bal m) → Im K H2 v (Ty.d t) → t.Wf KS many → t.depth ≤ m → t.size + 1 ≤ 2 ^ m → Q v H2
theorem te_ball {σ : L2.St} {H : Hp} {u uc : Addr} {n : Nat} {many : Int} {tm : TE} {Q : VK} (h0 : σ[0]? = some (some (.ref u))) (hU : UrnAt H u uc n) (hm : Ed K tm σ H (.int many)) (p1 : 0 < many) (p2 : many < 1000000000) (hn : n < 1000000)
    (k : ∀ i H2, 0 ≤ i → i < many → Kp [u, uc] H H2 → Tk H H2 → UrnAt H2 u uc (n + 1) → Q (.int i) H2) : tCall (Sball K) [] E0 (tCons (tVar 0) (tCons tm tNil)) σ H Q :=
  ⟨_, h0, hm.cn fun v H1 e1 i1 => by
    obtain rfl := i1.int_of
    exact ⟨u, uc, n, many, rfl, hU.ex e1, p1, p2, by omega, fun i H2 i0 i2 k2 t2 U2 => k i H2 i0 i2 ((Kp.of e1).trans k2) ((Tk.ex e1).trans t2) U2⟩⟩
theorem te_recType {m : Nat} {σ : L2.St} {H : Hp} {u uc lk : Addr} {n : Nat} {kv : List V} {KS : List (Str × Nat)} {many d : Nat} {Q : VK} (h0 : σ[0]? = some (some (.ref u))) (h1 : σ[1]? = some (some (.ref lk))) (h2 : σ[2]? = some (some (.int ((many : Nat) : Int)))) (h3 : σ[3]? = some (some (.int (((d + 1 : Nat)) : Int))))
    (hU : UrnAt H u uc n) (hl : H lk = some (.lst kv)) (ik : ImAll K H kv (KS.map kD)) (hK : KsOk KS) (hK5 : KS.length ≤ 5) (nl : lk ∉ [u, uc]) (hm : many ≤ 2) (hd : d < m) (hn : n + bal m ≤ 1000000)
    (k : ∀ v t H2, Kp [u, uc] H H2 → Tk H H2 → UrnAt H2 u uc (n + bal m) → Im K H2 v (Ty.d t) → t.Wf KS many → t.depth ≤ m → t.size + 1 ≤ 2 ^ m → Q v H2) :
    tCall (SlawType K m) [] E0 (tCons (tVar 0) (tCons (tVar 1) (tCons (tVar 2) (tCons (tOp (rI0 fun i j => .int (i - j)) (tVar 3) (tC (.int 1))) tNil)))) σ H Q :=
  ⟨_, h0, _, h1, _, h2, (ed_op (K := K) (z := .int ((d : Nat) : Int)) (ed_var h3 (.int _)) ed_int (rd_int0.to (by congr 1; omega))).cn fun v H1 e1 i1 => by
    obtain rfl := i1.int_of
    exact ⟨u, uc, n, lk, kv, KS, many, d, rfl, hU.ex e1, e1 _ _ hl, ik.ex e1, hK, hK5, nl, hm, hd, hn, fun v t H2 k2 t2 U2 iv w1 w2 w3 => k v t H2 ((Kp.of e1).trans k2) ((Tk.ex e1).trans t2) U2 iv w1 w2 w3⟩⟩
def arD : PyData → Bool
  | .tuple [_, .int a] => decide (a = 0)
  | _ => false
theorem filter_kD (b : Bool) (KS : List (Str × Nat)) : (((KS.map kD).filter fun x => b || arD x).map id) = (KS.filter fun x => b || decide (x.2 = 0)).map kD := by
  rw [List.map_id, List.filter_map]
  congr 1
  refine List.filter_congr fun x hx => ?_
  show (b || arD (kD x)) = (b || decide (x.2 = 0))
  congr 1
  show decide (((x.2 : Nat) : Int) = 0) = decide (x.2 = 0)
  by_cases h : x.2 = 0
  · rw [decide_eq_true h, decide_eq_true (by omega)]
  · rw [decide_eq_false h, decide_eq_false (by omega)]
theorem two_pow_succ (m : Nat) : 2 ^ (m + 1) = 2 * 2 ^ m := by rw [Nat.pow_succ, Nat.mul_comm]
theorem ok_law_type (T : Tx K mg) : ∀ m : Nat, Ok P w K mg base (m + 3) d_law_type ["urn", "kinds", "many", "deep"] (SlawType K m)
  | 0 => by
    refine (T.F_law_type).ok sc_law_type (fun vs H Q E ⟨u, uc, n, lk, kv, KS, many, deep, e, _⟩ => by rw [e]; rfl) (fun cdv A outer s H vs Q E hr h => ?_)
    obtain ⟨u, uc, n, lk, kv, KS, many, deep, rfl, _, _, _, _, _, _, _, h, _⟩ := h
    exact absurd h (Nat.not_lt_zero _)
  | m + 1 => by
    have G_law_type := ok_law_type T m
    have G_law_ball := ok_law_ball (P := P) (w := w) (base := base) T
    refine (T.F_law_type).ok sc_law_type (fun vs H Q E ⟨u, uc, n, lk, kv, KS, many, deep, e, _⟩ => by rw [e]; rfl) (fun cdv A outer s H vs Q E hr h => ?_)
    obtain ⟨u, uc, n, lk, kv, KS, many, deep, rfl, hU, hl, ik, hK, hK5, nl, hm, hd, hn, q⟩ := h
    refine ⟨_, PSs.nox ((pss_cons (ps_set (i := 4) sc_law_type.nd rfl (by first | exact Or.inl rfl | exact Or.inr rfl) (pe_call G_law_ball (hr.mono (by omega)) rfl T.g_law_ball T.k_law_ball T.B_law_ball .nil pass0 (pa_cons (pv 0) (pa_cons pe_int pa_nil))))
  (pss_cons (ps_if (PW.pt (pw_and (pt_cmpR op_gt (pv 2) pe_int (nomark _)) (pw_and1 (pt_cmpR op_lt (pv 4) (pe_op (op_addK (K := K) rfl) pe_int (pe_callTy call_int1 rfl T.b_int bb_int (pa_cons (pe_cmpR (op_eqK (K := K) rfl hr) (pv 3) pe_int (nomark _)) pa_nil))) (nomark _))))) (pss_one (ps_ret (pe_tup (pa_cons pe_str (pa_cons (pe_call G_law_ball (hr.mono (by omega)) rfl T.g_law_ball T.k_law_ball T.B_law_ball .nil pass0 (pa_cons (pv 0) (pa_cons (pv 2) pa_nil))) pa_nil))))) pss_nil)
  (pss_cons (ps_if (PW.pt (pw_and (pt_cmpR (op_eqK (K := K) rfl hr) (pv 4) pe_int (nomark _)) (pw_and1 (pt_cmpR op_gt (pv 3) pe_int (nomark _))))) (pss_one (ps_ret (pe_tup (pa_cons pe_str (pa_cons (pe_call G_law_type (hr.mono (by omega)) rfl T.g_law_type T.k_law_type T.B_law_type .nil pass0 (pa_cons (pv 0) (pa_cons (pv 1) (pa_cons (pv 2) (pa_cons (pe_op op_sub (pv 3) pe_int) pa_nil))))) (pa_cons (pe_call G_law_type (hr.mono (by omega)) rfl T.g_law_type T.k_law_type T.B_law_type .nil pass0 (pa_cons (pv 0) (pa_cons (pv 1) (pa_cons (pv 2) (pa_cons (pe_op op_sub (pv 3) pe_int) pa_nil))))) pa_nil)))))) pss_nil)
  (pss_cons (ps_setLc (i := 5) (own := [("one", 6)]) (by rfl) sc_law_type.nd rfl rfl (sw_true rfl rfl rfl (by decide +kernel)) (pi_listK (K := K) rfl (pv 1)) (blkOk_by (own := [("one", 6)]) (N := ["urn", "kinds", "many", "deep", "way", "some", "one", "name", "arity_v", "k"]) (sc := defScope s_law_type) (by decide +kernel)) (fun _ _ _ _ _ => pg_name (i := 6) sc_law_type.nd rfl (by first | exact Or.inl rfl | exact Or.inr rfl)) (fun _ _ _ _ _ => (pts_one (PW.pt (pw_or (pt_cmpR op_gt (pv 3) pe_int (nomark _)) (pw_or1 (pt_cmpR (op_eqK (K := K) rfl hr) (pe_ix (ix_seqK (K := K) rfl) (pv 6) pe_int (fun _ _ => rfl)) pe_int (nomark _))))))) (fun _ _ _ _ _ => (pv 6)))
  (pss_cons (ps_if (PW.pt (pw_or (pt_cmpR (op_eqK (K := K) rfl hr) (pv 4) pe_int (nomark _)) (pw_or1 (pt_cmpR (op_eqK (K := K) rfl hr) (pv 5) (pe_lst pa_nil) (nomark _))))) (pss_one (ps_ret pe_str)) pss_nil)
  (pss_cons (ps_asg (pe_ix (ix_seqK (K := K) rfl) (pv 5) (pe_call G_law_ball (hr.mono (by omega)) rfl T.g_law_ball T.k_law_ball T.B_law_ball .nil pass0 (pa_cons (pv 0) (pa_cons (pe_callB (call_lenK (K := K) rfl) rfl T.b_len bb_len (pa_cons (pv 5) pa_nil)) pa_nil))) (fun _ _ => rfl)) (pg_tupK (K := K) (n := 2) rfl rfl (pgs_cons (pg_name (i := 7) sc_law_type.nd rfl (by first | exact Or.inl rfl | exact Or.inr rfl)) (pgs_cons (pg_name (i := 8) sc_law_type.nd rfl (by first | exact Or.inl rfl | exact Or.inr rfl)) pgs_nil))))
  (pss_one (ps_ret (pe_tup (pa_cons pe_str (pa_cons (pv 7) (pa_cons (pe_callTy (call_tuple_ofK (K := K) rfl) rfl T.b_tuple bb_tuple (pa_cons (pe_lc (own := [("k", 9)]) (by rfl) sc_law_type.nd (pi_range1 (by rfl) T.b_range (pa_cons (pv 8) pa_nil)) (blkOk_by (own := [("k", 9)]) (N := ["urn", "kinds", "many", "deep", "way", "some", "one", "name", "arity_v", "k"]) (sc := defScope s_law_type) (by decide +kernel)) (fun _ _ _ _ _ => pg_name (i := 9) sc_law_type.nd rfl (by first | exact Or.inl rfl | exact Or.inr rfl)) (fun _ _ _ _ _ => pts_nil) (fun _ _ _ _ _ => (pe_call G_law_type (hr.mono (by omega)) rfl T.g_law_type T.k_law_type T.B_law_type .nil pass0 (pa_cons (pv 0) (pa_cons (pv 1) (pa_cons (pv 2) (pa_cons (pe_op op_sub (pv 3) pe_int) pa_nil))))))) pa_nil)) pa_nil))))))))))))), ?_⟩
    have hb : bal (m + 1) = 2 + 2 * bal m := rfl
    have h2m : 2 ^ (m + 1) = 2 * 2 ^ m := two_pow_succ m
    have h1m : 1 ≤ 2 ^ m := Nat.one_le_two_pow
    refine sq_set (te_ball rfl hU ed_int (by decide) (by decide) (by omega) fun way H1 w0 w7 k1 t1 U1 => ?_)
    have hl1 : H1 lk = some (.lst kv) := k1 _ _ nl hl
    have ik1 := ik.mono t1
    refine sq_if (eb_and (b := decide (0 < (many : Int))) (eb_t (K := K) (ed_op (ed_var rfl (.int _)) ed_int rd_cmp)) fun _ => eb_t (K := K) (ed_op (ed_var rfl (.int way)) (ed_op ed_int (ed_intB (ed_op (ed_var rfl (.int ((deep : Nat) : Int))) ed_int rd_eqi)) rd_addi) rd_cmp)) (fun hb1 H2 e2 => ?_) fun _ H2 e2 => ?_
    · have hmp : 0 < (many : Int) := by
        rw [Bool.and_eq_true] at hb1
        exact of_decide_eq_true hb1.1
      refine st_ret (te_tup (te_cons (te_c (te_cons (te_ball rfl (U1.ex e2) (ed_var rfl (.int _)) hmp (by omega) (by omega) fun i H3 i0 i1 k3 t3 U3 => ⟨by show 2 ≤ sizeLine; decide, fun p hp => ?_⟩)))))
      have np := U3.fresh hp
      have k03 : Kp [u, uc] H H3 := (k1.ex e2).trans k3
      obtain ⟨j, rfl⟩ : ∃ j : Nat, i = (j : Int) := ⟨i.toNat, by omega⟩
      refine q (.ref p) (.var j) _ (k03.ex (Ex.new hp)) ((t1.trans (Tk.ex e2)).trans (t3.trans (Tk.ex (Ex.new hp)))) ((U3.upd np).le (by omega)) (.tup (Evl.st_of (upd_same ..)) (.cons (.str _) (.cons (.int _) .nil))) (by show j < many; omega) (by show 1 ≤ m + 1; omega) (by show 1 + 1 ≤ _; omega)
    have U2 := U1.ex e2
    have hl2 := e2 _ _ hl1
    have ik2 := ik1.ex e2
    have k2 : Kp [u, uc] H H2 := k1.ex e2
    have t2 : Tk H H2 := t1.trans (Tk.ex e2)
    refine sq_if (eb_and (b := decide (way = 6)) (eb_t (K := K) (ed_op (ed_var rfl (.int way)) ed_int rd_eqi)) fun _ => eb_t (K := K) (ed_op (ed_var rfl (.int ((deep : Nat) : Int))) ed_int rd_cmp)) (fun hb1 H3 e3 => ?_) fun _ H3 e3 => ?_
    · have hdp : 0 < (deep : Int) := by
        rw [Bool.and_eq_true] at hb1
        exact of_decide_eq_true hb1.2
      obtain ⟨d, rfl⟩ : ∃ d, deep = d + 1 := ⟨deep - 1, by omega⟩
      refine st_ret (te_tup (te_cons (te_c (te_cons (te_recType rfl rfl rfl rfl (U2.ex e3) (e3 _ _ hl2) (ik2.ex e3) hK hK5 nl hm (by omega) (by omega) fun v4 a H4 k4 t4 U4 i4 w4 d4 s4 => te_cons (te_recType rfl rfl rfl rfl U4 (k4 _ _ nl (e3 _ _ hl2)) ((ik2.ex e3).mono t4) hK hK5 nl hm (by omega) (by omega) fun v5 c H5 k5 t5 U5 i5 w5 d5 s5 => ⟨by show 3 ≤ sizeLine; decide, fun p hp => ?_⟩))))))
      have np := U5.fresh hp
      refine q (.ref p) (.to a c) _ (((k2.ex e3).trans (k4.trans k5)).ex (Ex.new hp)) ((t2.trans (Tk.ex e3)).trans ((t4.trans t5).trans (Tk.ex (Ex.new hp)))) ((U5.upd np).le (by omega)) (.tup (Evl.st_of (upd_same ..)) (.cons (.str _) (.cons ((i4.mono t5).ex (Ex.new hp)) (.cons (i5.ex (Ex.new hp)) .nil)))) ⟨w4, w5⟩ (by simp only [Ty.depth]; omega) (by simp only [Ty.size]; omega)
    have U3 := U2.ex e3
    have hl3 := e3 _ _ hl2
    have ik3 := ik2.ex e3
    have k3 : Kp [u, uc] H H3 := k2.ex e3
    have t3 : Tk H H3 := t2.trans (Tk.ex e3)
    refine sq_set (El.at (K := K) (ds := (KS.filter fun x => decide (0 < deep) || decide (x.2 = 0)).map kD) ((el_lcL (p := fun x => decide (0 < deep) || arD x) (f := id) (es_var rfl (Evl.sq_of hl3) ik3) (by rw [List.length_map]; omega) fun j x v4 H4 hx e4 i4 => ⟨_, gd_name, rfl, ?_, fun _ => ed_var rfl i4⟩).to (filter_kD _ _)) fun ps vs H4 hps e4 h4 i4 => ?_)
    · rw [List.getElem?_map] at hx
      obtain ⟨y, hy, rfl⟩ := Option.map_eq_some_iff.mp hx
      have e0 : decide (0 < deep) = decide (0 < ((deep : Nat) : Int)) := by
        by_cases h : 0 < deep
        · rw [decide_eq_true h, decide_eq_true (by omega)]
        · rw [decide_eq_false h, decide_eq_false (by omega)]
      rw [e0]
      exact eb_or (eb_t (K := K) (ed_op (ed_var rfl (.int _)) ed_int rd_cmp)) fun _ => eb_t (K := K) (ed_op (ed_op (ed_var rfl i4) ed_int (rd_ix (i := 1) rfl)) ed_int rd_eqi)
    have U4 := U3.ex e4
    have hl4 := e4 _ _ hl3
    have ik4 := ik3.ex e4
    have k4 : Kp [u, uc] H H4 := k3.ex e4
    have t4 : Tk H H4 := t3.trans (Tk.ex e4)
    have nps : ps ∉ [u, uc] := U3.fresh hps
    refine sq_if (b := decide (way = 2) || _) (eb_or (eb_t (K := K) (ed_op (ed_var rfl (.int way)) ed_int rd_eqi)) fun _ => eb_eqnilI (ev_v rfl) h4 i4) (fun _ H5 e5 => ?_) fun hb1 H5 e5 => ?_
    · exact st_ret (te_c (q (.str "whole") .whole H5 (k4.ex e5) (t4.trans (Tk.ex e5)) ((U4.ex e5).le (by omega)) (.str _) trivial (by show 1 ≤ m + 1; omega) (by show 1 + 1 ≤ _; omega)))
    have hne : (KS.filter fun x => decide (0 < deep) || decide (x.2 = 0)) ≠ [] := fun z => by
      rw [z] at hb1
      simp at hb1
    have hlen : vs.length = (KS.filter fun x => decide (0 < deep) || decide (x.2 = 0)).length := by rw [i4.length, List.length_map]
    have hpos : 0 < vs.length := by rw [hlen]; exact List.length_pos_iff.mpr hne
    have hle : vs.length ≤ 5 := by rw [hlen]; exact Nat.le_trans (List.length_filter_le ..) hK5
    have h5 := e5 _ _ h4
    have i5 := i4.ex e5
    have U5 := U4.ex e5
    refine sq_asg (te_op ⟨_, rfl, te_ball (many := (vs.length : Int)) rfl U5 (fun H1 e1 Q q' => ⟨_, rfl, len_l (Evl.sq_of (e1 _ _ h5)) (q' _ H1 (Ex.refl _) (.int _))⟩) (by omega) (by omega) (by omega) fun i H6 i0 i1 k6 t6 U6 => ?_⟩)
    obtain ⟨j, rfl⟩ : ∃ j : Nat, i = (j : Int) := ⟨i.toNat, by omega⟩
    have hj : j < vs.length := by omega
    obtain ⟨d6, hd6, iv⟩ := i5.getV (List.getElem?_eq_getElem hj)
    rw [List.getElem?_map] at hd6
    obtain ⟨y, hy, rfl⟩ := Option.map_eq_some_iff.mp hd6
    have hmem := List.mem_filter.mp (List.mem_of_getElem? hy)
    obtain ⟨a, ws, ea, ha, iw⟩ := (iv.mono t6).tup_of
    obtain ⟨x0, _, rfl, j0, iw⟩ := iw.cons_of
    obtain ⟨x1, _, rfl, j1, iw⟩ := iw.cons_of
    obtain rfl := iw.nil_of
    obtain rfl := j0.str_of
    obtain rfl := j1.int_of
    refine .inl ⟨ps, vs, (j : Int), _, rfl, rfl, Evl.sq_of (k6 _ _ nps h5), atI_nat (List.getElem?_eq_getElem hj), ?_⟩
    rw [ea]
    refine gd_two ha _ ?_
    have hl6 : H6 lk = some (.lst kv) := k6 _ _ nl (e5 _ _ hl4)
    have ik6 := (ik4.ex e5).mono t6
    have k06 : Kp [u, uc] H H6 := (k4.ex e5).trans k6
    have t06 : Tk H H6 := (t4.trans (Tk.ex e5)).trans t6
    have hy2 := (lots_ok _ (hK _ hmem.1)).2
    refine st_ret (te_tup (te_cons (te_c (te_cons ⟨_, rfl, te_cons (te_cb1 ?_)⟩))))
    refine ⟨_, rfl, ((y.2 : Nat) : Int), rfl, by omega, by omega, fun D hD => ?_⟩
    have nD := U6.fresh hD
    have eD : Ex H6 (upd H6 D (.lst [])) := Ex.new hD
    have hto : (((y.2 : Nat) : Int)).toNat = y.2 := Int.toNat_natCast _
    refine lc_range (lo := 0) (n := (((y.2 : Nat) : Int)).toNat) (fun i H' => ∃ (ts : List M5.Ty) (acc : List V), Kp [u, uc] H6 H' ∧ Tk H6 H' ∧ UrnAt H' u uc (n + 1 + 1 + i * bal m) ∧ H' D = some (.lst acc) ∧ ImAll K H' acc (Ty.dAll ts) ∧ ts.length = i ∧ ∀ t ∈ ts, t.Wf KS many ∧ t.depth ≤ m ∧ t.size + 1 ≤ 2 ^ m) ?_ ?_ ?_
    · exact ⟨[], [], Kp.of eD, Tk.ex eD, (U6.ex eD).le (by omega), upd_same .., .nil, rfl, fun t ht => nomatch ht⟩
    · rintro i H7 hi ⟨ts, acc, k7, t7, U7, h7, i7, hts, hall⟩
      rw [hto] at hi
      have hdp : 0 < deep := by
        have := hmem.2
        rw [Bool.or_eq_true] at this
        rcases this with h | h
        · exact of_decide_eq_true h
        · have := of_decide_eq_true h
          omega
      obtain ⟨d, rfl⟩ : ∃ d, deep = d + 1 := ⟨deep - 1, by omega⟩
      have hib : i * bal m ≤ 1 * bal m := Nat.mul_le_mul_right _ (by omega)
      refine ⟨rfl, ?_⟩
      refine te_yes (iteT ?_)
      refine te_recType (d := d) (many := many) rfl rfl rfl rfl U7 (k7 _ _ nl hl6) (ik6.mono t7) hK hK5 nl hm (by omega) (by omega) fun v8 t H8 k8 t8 U8 i8 w8 d8 s8 => ?_
      have h8 := k8 _ _ nD h7
      refine ⟨acc, h8, ?_, ?_⟩
      · have := i7.length
        rw [this, Ty.dAll_map, List.length_map]
        exact Evl.sz_lt (by omega)
      · have tD : Tk H8 (upd H8 D (.lst (acc ++ [v8]))) := Tk.upd (no_lst h8)
        refine ⟨ts ++ [t], acc ++ [v8], (k7.trans k8).mutNew hD, (t7.trans t8).trans tD, (U8.upd nD).le (by rw [Nat.add_mul]; omega), upd_same .., ?_, by rw [List.length_append, hts]; rfl, fun x hx => ?_⟩
        · rw [Ty.dAll_map, List.map_append, ← Ty.dAll_map]
          exact ((i7.mono t8).append (.cons i8 .nil)).mono tD
        · rcases List.mem_append.mp hx with hx | hx
          · exact hall x hx
          · obtain rfl : x = t := by simpa using hx
            exact ⟨w8, d8, s8⟩
    · rintro H7 ⟨ts, acc, k7, t7, U7, h7, i7, hts, hall⟩
      rw [hto] at hts U7
      refine ⟨D, acc, rfl, .inl ⟨Evl.sq_of h7, fun tp htp => ?_⟩⟩
      have e8 : Ex H7 (upd H7 tp (.tup acc)) := Ex.new htp
      have h8 : upd H7 tp (.tup acc) tp = some (.tup acc) := upd_same ..
      have U8 := U7.ex e8
      generalize upd H7 tp (.tup acc) = H8 at e8 h8 U8
      refine ⟨by show 3 ≤ sizeLine; decide, fun p hp => ?_⟩
      have e9 : Ex H8 (upd H8 p (.tup [.str "of", .str y.1, .ref tp])) := Ex.new hp
      have e79 := e8.trans e9
      have hmul : y.2 * bal m ≤ 2 * bal m := Nat.mul_le_mul_right _ hy2
      have sb : ∀ l : List M5.Ty, (∀ t ∈ l, t.Wf KS many ∧ t.depth ≤ m ∧ t.size + 1 ≤ 2 ^ m) → Ty.depthAll l ≤ m ∧ Ty.sizeAll l + l.length ≤ l.length * 2 ^ m := fun l => by
        induction l with
        | nil => intro _; exact ⟨Nat.zero_le _, by simp [Ty.sizeAll]⟩
        | cons t l ih =>
          intro h
          obtain ⟨a1, a2⟩ := ih fun x hx => h x (List.mem_cons_of_mem _ hx)
          obtain ⟨_, b2, b3⟩ := h t (List.mem_cons_self ..)
          refine ⟨Nat.max_le.mpr ⟨b2, a1⟩, ?_⟩
          simp only [Ty.sizeAll, List.length_cons]
          rw [Nat.add_mul]
          omega
      obtain ⟨s1, s2⟩ := sb ts hall
      have hmul2 : ts.length * 2 ^ m ≤ 2 * 2 ^ m := Nat.mul_le_mul_right _ (by omega)
      refine q (.ref p) (.of y.1 ts) _ ((k06.trans k7).ex e79) ((t06.trans t7).trans (Tk.ex e79)) ((U8.ex e9).le (by omega)) (.tup (Evl.st_of (upd_same ..)) (.cons (.str _) (.cons (.str _) (.cons ((Im.tup (Evl.st_of h8) (i7.ex e8)).ex e9) .nil)))) ⟨by rw [hts]; exact hmem.1, Ty.WfAll_of fun t ht => (hall t ht).1⟩ (by simp only [Ty.depth]; omega) ?_
      simp only [Ty.size]
      rcases Nat.eq_zero_or_pos ts.length with hz | hz
      · have : ts = [] := List.eq_nil_of_length_eq_zero hz
        subst this
        simp only [Ty.sizeAll]
        omega
      · rcases (by omega : ts.length = 1 ∨ ts.length = 2) with h | h
        · rw [h] at s2; omega
        · rw [h] at s2; omega
end
end K55
/-! the law's own functions: programs -/
namespace K55
open PySem PySem.Spec PyProof.Rows L2 W5 M5
open Evl (Ex Ev)
section
variable {P : Program} {w : World} {K : PySem.W.Frag} {mg : Str → Option Value} {base : Heap}
theorem sq_forI {σ : L2.St} {H : Hp} {ta : TA} {g : TG} {tb us : TS} {D : Ends} (h : ta σ H fun vs H1 => ∃ j : Int, vs = [.int j] ∧ -(2 ^ 62) ≤ j ∧ j < 2 ^ 62 ∧ tFor (fun _ H1 R => R (Itr 0 j.toNat) H1) g tb { D with nx := us D } σ H1) : tSeq (tFor (iRng1 ta) g tb) us D σ H := h
theorem te_lcI {σ : L2.St} {H : Hp} {ta : TA} {g : TG} {tt : TT} {te : TE} {vs : List Nat} {Q : VK} (h : ta σ H fun xs H1 => ∃ j : Int, xs = [.int j] ∧ -(2 ^ 62) ≤ j ∧ j < 2 ^ 62 ∧ tLc (fun _ H1 R => R (Itr 0 j.toNat) H1) g tt te vs σ H1 Q) : tLc (iRng1 ta) g tt te vs σ H Q := h
/-- drawn types of a maker's fields -/
theorem te_some {σ : L2.St} {H : Hp} {u uc lk : Addr} {n : Nat} {kv : List V} {KS : List (Str × Nat)} {many : Nat} {Q : VK} (h0 : σ[0]? = some (some (.ref u))) (h1 : σ[1]? = some (some (.ref lk))) (h4 : σ[4]? = some (some (.int ((many : Nat) : Int)))) (h9 : 9 < σ.length)
    (hU : UrnAt H u uc n) (hl : H lk = some (.lst kv)) (ik : ImAll K H kv (KS.map kD)) (hK : KsOk KS) (hK5 : KS.length ≤ 5) (nl : lk ∉ [u, uc]) (hm : many ≤ 2) (hn : n + 46 ≤ 1000000)
    (q : ∀ D acc ts H2, H D = none → Kp [u, uc] H H2 → Tk H H2 → UrnAt H2 u uc (n + 46) → H2 D = some (.lst acc) → ImAll K H2 acc (Ty.dAll ts) → ts.length ≤ 3 → (∀ t ∈ ts, t.Wf KS many ∧ t.depth ≤ 3 ∧ t.size + 1 ≤ 2 ^ 3) → Q (.ref D) H2) :
    tLc (iRng1 (tCons (tCall (Sball K) [] E0 (tCons (tVar 0) (tCons (tC (.int 4)) tNil))) tNil)) (gName 9) tYes (tCall (SlawType K 3) [] E0 (tCons (tVar 0) (tCons (tVar 1) (tCons (tVar 4) (tCons (tCall (Sball K) [] E0 (tCons (tVar 0) (tCons (tC (.int 3)) tNil))) tNil))))) [9] σ H Q := by
  refine te_lcI (te_cons (te_ball (many := 4) h0 hU ed_int (by decide) (by decide) (by omega) fun c H1 c0 c1 k1 t1 U1 => ?_))
  refine ⟨c, rfl, by omega, by omega, fun D hD => ?_⟩
  have nD := U1.fresh hD
  have eD : Ex H1 (upd H1 D (.lst [])) := Ex.new hD
  have hl1 : H1 lk = some (.lst kv) := k1 _ _ nl hl
  have ik1 := ik.mono t1
  have hb3 : bal 3 = 14 := rfl
  refine lc_range (lo := 0) (n := c.toNat) (fun i H' => ∃ (ts : List M5.Ty) (acc : List V), Kp [u, uc] H1 H' ∧ Tk H1 H' ∧ UrnAt H' u uc (n + 1 + i * 15) ∧ H' D = some (.lst acc) ∧ ImAll K H' acc (Ty.dAll ts) ∧ ts.length = i ∧ ∀ t ∈ ts, t.Wf KS many ∧ t.depth ≤ 3 ∧ t.size + 1 ≤ 2 ^ 3) ?_ ?_ ?_
  · exact ⟨[], [], Kp.of eD, Tk.ex eD, (U1.ex eD).le (by omega), upd_same .., .nil, rfl, fun t ht => nomatch ht⟩
  · rintro i H2 hi ⟨ts, acc, k2, t2, U2, h2, i2, hts, hall⟩
    have g0 : ∀ v : V, ((wipe σ [9]).set 9 (some v))[0]? = some (some (.ref u)) := fun v => by simp [wipe, h0]
    have g1 : ∀ v : V, ((wipe σ [9]).set 9 (some v))[1]? = some (some (.ref lk)) := fun v => by simp [wipe, h1]
    have g4 : ∀ v : V, ((wipe σ [9]).set 9 (some v))[4]? = some (some (.int ((many : Nat) : Int))) := fun v => by simp [wipe, h4]
    refine ⟨wipe_set _ _ _, te_yes (iteT ?_)⟩
    refine ⟨_, g0 _, _, g1 _, _, g4 _, te_cons (te_ball (g0 _) U2 ed_int (by decide) (by decide) (by omega) fun d H3 d0 d1 k3 t3 U3 => ?_)⟩
    obtain ⟨d, rfl⟩ : ∃ e : Nat, d = (e : Int) := ⟨d.toNat, by omega⟩
    refine ⟨u, uc, _, lk, kv, KS, many, d, rfl, U3, k3 _ _ nl (k2 _ _ nl hl1), (ik1.mono t2).mono t3, hK, hK5, nl, hm, by omega, by omega, fun v t H4 k4 t4 U4 iv w1 w2 w3 => ?_⟩
    have h4' := k4 _ _ nD (k3 _ _ nD h2)
    refine ⟨acc, h4', ?_, ?_⟩
    · have := i2.length
      rw [this, Ty.dAll_map, List.length_map]
      exact Evl.sz_lt (by omega)
    · have tD : Tk H4 (upd H4 D (.lst (acc ++ [v]))) := Tk.upd (no_lst h4')
      refine ⟨ts ++ [t], acc ++ [v], ((k2.trans k3).trans k4).mutNew hD, ((t2.trans t3).trans t4).trans tD, (U4.upd nD).le (by omega), upd_same .., ?_, by rw [List.length_append, hts]; rfl, fun x hx => ?_⟩
      · rw [Ty.dAll_map, List.map_append, ← Ty.dAll_map]
        exact (((i2.mono t3).mono t4).append (.cons iv .nil)).mono tD
      · rcases List.mem_append.mp hx with hx | hx
        · exact hall x hx
        · obtain rfl : x = t := by simpa using hx
          exact ⟨w1, w2, w3⟩
  · rintro H2 ⟨ts, acc, k2, t2, U2, h2, i2, hts, hall⟩
    exact q D acc ts H2 (k1.some nD hD) (k1.trans k2) (t1.trans t2) (U2.le (by omega)) h2 i2 (by omega) hall
theorem el_add {σ : L2.St} {H : Hp} {ta tb : TE} {ds es : List PyData} (ha : El K ta σ H ds) (hb : El K tb σ H es) (hz : ds.length + es.length ≤ 100000) : El K (tOp (rAddA K) ta tb) σ H (ds ++ es) := fun H1 e Q q =>
  ha H1 e _ fun p vs H2 hp e2 h2 i2 => hb H2 (e.trans e2) _ fun p3 us H3 hp3 e3 h3 i3 => add_l (e3 _ _ h2) h3 (by rw [i2.length, i3.length]; exact Evl.sz_of hz) fun r hr => q r _ _ (Evl.fresh_back (e2.trans e3) hr) ((e2.trans e3).trans (Ex.new hr)) (upd_same ..) (((i2.ex e3).append i3).ex (Ex.new hr))
theorem ed_strI {σ : L2.St} {H : Hp} {te : TE} {i : Int} (h : Ed K te σ H (.int i)) (hi : i.natAbs.log2 < 1920) : Ed K (tCB (fun xs H Q => ∃ i, xs = [V.int i] ∧ i.natAbs.log2 < 1920 ∧ Q (V.str (toString i)) H) (tCons te tNil)) σ H (.str (sInt i)) := fun H1 e Q q => h H1 e _ fun v H2 e2 i2 => by
  obtain rfl := i2.int_of
  exact ⟨i, rfl, hi, q _ H2 e2 (.str _)⟩
def SlawProgram (K : PySem.W.Frag) : Sp := fun vs H Q E => ∃ u uc n, vs = [.ref u] ∧ UrnAt H u uc n ∧ n + 471 ≤ 1000000 ∧ ∀ v ks H2, Kp [u, uc] H H2 → Tk H H2 → UrnAt H2 u uc (n + 471) → Im K H2 v (pD ks) → PgOk ks → PgN ks → Q v H2
theorem mD_len (m : Mkr) : mD m = .tuple [.str m.1, .tuple (Ty.dAll m.2)] := rfl
theorem ok_law_program (T : Tx K mg) : Ok P w K mg base 7 d_law_program ["urn"] (SlawProgram K) := by
  have G_law_type := ok_law_type (P := P) (w := w) (base := base) T 3
  have G_law_ball := ok_law_ball (P := P) (w := w) (base := base) T
  refine (T.F_law_program).ok sc_law_program (fun vs H Q E ⟨u, uc, n, e, _⟩ => by rw [e]; rfl) (fun cdv A outer s H vs Q E hr h => ?_)
  obtain ⟨u, uc, n, rfl, hU, hn, q⟩ := h
  refine ⟨_, PSs.nox ((pss_cons (ps_set (i := 1) sc_law_program.nd rfl (by first | exact Or.inl rfl | exact Or.inr rfl) (pe_slice (sl_listK (K := K) rfl) (pe_lst (pa_cons (pe_tup (pa_cons pe_str (pa_cons pe_int pa_nil))) (pa_cons (pe_tup (pa_cons pe_str (pa_cons pe_int pa_nil))) (pa_cons (pe_tup (pa_cons pe_str (pa_cons pe_int pa_nil))) (pa_cons (pe_tup (pa_cons pe_str (pa_cons pe_int pa_nil))) (pa_cons (pe_tup (pa_cons pe_str (pa_cons pe_int pa_nil))) pa_nil)))))) po_none (po_some (pe_op (op_addK (K := K) rfl) pe_int (pe_call G_law_ball (hr.mono (by omega)) rfl T.g_law_ball T.k_law_ball T.B_law_ball .nil pass0 (pa_cons (pv 0) (pa_cons pe_int pa_nil)))))))
  (pss_cons (ps_set (i := 2) sc_law_program.nd rfl (by first | exact Or.inl rfl | exact Or.inr rfl) (pe_lst pa_nil))
  (pss_cons (ps_for PassesOwn.never rfl (pi_listK (K := K) rfl (pv 1)) (pg_tupK (K := K) (n := 2) rfl rfl (pgs_cons (pg_name (i := 3) sc_law_program.nd rfl (by first | exact Or.inl rfl | exact Or.inr rfl)) (pgs_cons (pg_name (i := 4) sc_law_program.nd rfl (by first | exact Or.inl rfl | exact Or.inr rfl)) pgs_nil))) (pss_cons (ps_set (i := 5) sc_law_program.nd rfl (by first | exact Or.inl rfl | exact Or.inr rfl) (pe_lst (pa_cons (pe_tup (pa_cons (pe_op (op_addK (K := K) rfl) pe_str (pv 3)) (pa_cons (pe_tup pa_nil) pa_nil))) pa_nil)))
  (pss_cons (ps_for PassesOwn.never rfl (pi_range1 (by rfl) T.b_range (pa_cons (pe_call G_law_ball (hr.mono (by omega)) rfl T.g_law_ball T.k_law_ball T.B_law_ball .nil pass0 (pa_cons (pv 0) (pa_cons pe_int pa_nil))) pa_nil)) (pg_name (i := 6) sc_law_program.nd rfl (by first | exact Or.inl rfl | exact Or.inr rfl)) (pss_cons (ps_setLc (i := 8) (own := [("k", 9)]) (by rfl) sc_law_program.nd rfl rfl (sw_true rfl rfl rfl (by decide +kernel)) (pi_range1 (by rfl) T.b_range (pa_cons (pe_call G_law_ball (hr.mono (by omega)) rfl T.g_law_ball T.k_law_ball T.B_law_ball .nil pass0 (pa_cons (pv 0) (pa_cons pe_int pa_nil))) pa_nil)) (blkOk_by (own := [("k", 9)]) (N := ["urn", "lots", "kinds", "name", "many", "makers", "m", "turn", "some", "k"]) (sc := defScope s_law_program) (by decide +kernel)) (fun _ _ _ _ _ => pg_name (i := 9) sc_law_program.nd rfl (by first | exact Or.inl rfl | exact Or.inr rfl)) (fun _ _ _ _ _ => pts_nil) (fun _ _ _ _ _ => (pe_call G_law_type (hr.mono (by omega)) rfl T.g_law_type T.k_law_type T.B_law_type .nil pass0 (pa_cons (pv 0) (pa_cons (pv 1) (pa_cons (pv 4) (pa_cons (pe_call G_law_ball (hr.mono (by omega)) rfl T.g_law_ball T.k_law_ball T.B_law_ball .nil pass0 (pa_cons (pv 0) (pa_cons pe_int pa_nil))) pa_nil)))))))
  (pss_one (ps_expr (pe_bm PySem.F.plainAttrs_list PySem.F.slot_list_append PySem.F.type_list_append mt_append (pv 5) (pa_cons (pe_tup (pa_cons (pe_op (op_addK (K := K) rfl) (pe_op (op_addK (K := K) rfl) pe_str (pv 3)) (pe_callTy call_str_int rfl T.b_str bb_str (pa_cons (pv 6) pa_nil))) (pa_cons (pe_callTy (call_tuple_ofK (K := K) rfl) rfl T.b_tuple bb_tuple (pa_cons (pv 8) pa_nil)) pa_nil))) pa_nil))))))
  (pss_cons (ps_set (i := 7) sc_law_program.nd rfl (by first | exact Or.inl rfl | exact Or.inr rfl) (pe_call G_law_ball (hr.mono (by omega)) rfl T.g_law_ball T.k_law_ball T.B_law_ball .nil pass0 (pa_cons (pv 0) (pa_cons (pe_callB (call_lenK (K := K) rfl) rfl T.b_len bb_len (pa_cons (pv 5) pa_nil)) pa_nil))))
  (pss_one (ps_expr (pe_bm PySem.F.plainAttrs_list PySem.F.slot_list_append PySem.F.type_list_append mt_append (pv 2) (pa_cons (pe_tup (pa_cons (pv 3) (pa_cons (pv 4) (pa_cons (pe_callTy (call_tuple_ofK (K := K) rfl) rfl T.b_tuple bb_tuple (pa_cons (pe_op (op_addK (K := K) rfl) (pe_slice (sl_listK (K := K) rfl) (pv 5) (po_some (pv 7)) po_none) (pe_slice (sl_listK (K := K) rfl) (pv 5) po_none (po_some (pv 7)))) pa_nil)) pa_nil)))) pa_nil))))))))
  (pss_one (ps_ret (pe_tup (pa_cons (pe_callTy (call_tuple_ofK (K := K) rfl) rfl T.b_tuple bb_tuple (pa_cons (pv 2) pa_nil)) (pa_cons (pe_tup pa_nil) (pa_cons (pe_tup pa_nil) (pa_cons (pe_tup pa_nil) pa_nil))))))))))), ?_⟩
  have pe : ∀ {σ : L2.St} {H1 : Hp} {s : Str} {i : Int}, Ed K (tTup (tCons (tC (.str s)) (tCons (tC (.int i)) tNil))) σ H1 (.tuple [.str s, .int i]) := ed_tup (ea_cons ed_str (ea_cons ed_int ea_nil))
  refine sq_set (El.at (K := K) (ds := LOTS.map kD) (el_lst (ea_cons pe (ea_cons pe (ea_cons pe (ea_cons pe (ea_cons pe ea_nil)))))) fun p vs H1 hp e1 h1 i1 => ?_)
  refine te_op (te_c (te_ball rfl (hU.ex e1) ed_int (by decide) (by decide) (by omega) fun c H2 c0 c1 k2 t2 U2 => add_i ⟨_, rfl, ?_⟩))
  obtain ⟨c, rfl⟩ : ∃ e : Nat, c = (e : Int) := ⟨c.toNat, by omega⟩
  have np : p ∉ [u, uc] := hU.fresh hp
  refine ⟨p, vs, rfl, Evl.sq_of (k2 _ _ np h1), fun lr hlr => ?_⟩
  have e3 : Ex H2 (upd H2 lr (.lst (cutV vs none (some (1 + (c : Int)))))) := Ex.new hlr
  have i3 := ((i1.mono t2).cut (lo := none) (hi := some (1 + (c : Int)))).ex e3
  have e1c : (1 : Int) + (c : Int) = ((1 + c : Nat) : Int) := by omega
  have hcut : W5.cutD (LOTS.map kD) none (some (1 + (c : Int))) = (LOTS.take (1 + c)).map kD := by rw [e1c, cutD_to, List.map_take]
  rw [hcut] at i3
  have h3 : upd H2 lr (.lst (cutV vs none (some (1 + (c : Int))))) lr = some (.lst (cutV vs none (some (1 + (c : Int))))) := upd_same ..
  have U3 := U2.ex e3
  have nlr := U2.fresh hlr
  have k3 : Kp [u, uc] H (upd H2 lr (.lst (cutV vs none (some (1 + (c : Int)))))) := ((Kp.of e1).trans k2).ex e3
  have t3 : Tk H (upd H2 lr (.lst (cutV vs none (some (1 + (c : Int)))))) := ((Tk.ex e1).trans t2).trans (Tk.ex e3)
  generalize cutV vs none (some (1 + (c : Int))) = kv at e3 i3 h3 U3 k3 t3
  generalize upd H2 lr (.lst kv) = H3 at e3 i3 h3 U3 k3 t3
  refine sq_set ⟨Nat.zero_le _, fun ak hak => ?_⟩
  have nak := U3.fresh hak
  have e4 : Ex H3 (upd H3 ak (.lst [])) := Ex.new hak
  have h4 : upd H3 ak (.lst []) ak = some (.lst []) := upd_same ..
  have U4 := U3.ex e4
  have k4 := k3.ex e4
  have t4 := t3.trans (Tk.ex e4)
  have hl4 := e4 _ _ h3
  have i4 := i3.ex e4
  have nlk : lr ≠ ak := fun z => by rw [z, hak] at h3; cases h3
  generalize upd H3 ak (.lst []) = H4 at e4 h4 U4 k4 t4 hl4 i4
  have hKS : KsOk (LOTS.take (1 + c)) := fun x hx => List.mem_of_mem_take hx
  have hK5 : (LOTS.take (1 + c)).length ≤ 5 := List.length_take_le' ..
  have hKl : (LOTS.take (1 + c)).length = 1 + c := by rw [List.length_take]; show min (1 + c) 5 = _; omega
  refine sq_forE (ev_v rfl) hl4 i4 fun H5 e5 => ?_
  have U5 := U4.ex e5
  refine ⟨fun i σ' H' => ∃ (o3 o4 o5 o6 o7 o8 o9 : Option V) (ks : List Knd) (vk : List V), σ' = [some (.ref u), some (.ref lr), some (.ref ak), o3, o4, o5, o6, o7, o8, o9] ∧ Kp (ak :: [u, uc]) H5 H' ∧ Tk H5 H' ∧ UrnAt H' u uc (n + 1 + i * 94) ∧ H' lr = some (.lst kv) ∧ H' ak = some (.lst vk) ∧ ImAll K H' vk (ks.map knD) ∧ ksOf ks = (LOTS.take (1 + c)).take i ∧ (∀ k ∈ ks, KGood (LOTS.take (1 + c)) k) ∧ i ≤ 5, ⟨none, none, none, none, none, none, none, [], [], rfl, Kp.refl _ _, Tk.refl _, U5.le (by omega), e5 _ _ hl4, e5 _ _ h4, .nil, rfl, (fun k hk => nomatch hk), Nat.zero_le _⟩, ?_, ?_, ?_⟩
  · rintro i σ' H' ⟨_, _, _, _, _, _, _, _, _, _, _, t, _, h, _⟩
    exact ⟨t, h⟩
  · rintro i y vy σ' H' hy iy ⟨o3, o4, o5, o6, o7, o8, o9, ks, vk, rfl, kk, tt, UU, hlr', hak', ik', hks, hgood, hi5⟩
    rw [List.getElem?_map] at hy
    obtain ⟨x, hx, rfl⟩ := Option.map_eq_some_iff.mp hy
    have hxK : x ∈ LOTS.take (1 + c) := List.mem_of_getElem? hx
    have hi : i < 5 := by
      have := (List.getElem?_eq_some_iff.mp hx).1
      omega
    obtain ⟨xs, xm⟩ := x
    have hx2 := (lots_ok _ (hKS _ hxK)).2
    have hx1 := lots_names.1 _ (hKS _ hxK)
    simp only at hx2 hx1
    obtain ⟨a, ws, rfl, ha, iw⟩ := iy.tup_of
    obtain ⟨x0, _, rfl, j0, iw⟩ := iw.cons_of
    obtain ⟨x1, _, rfl, j1, iw⟩ := iw.cons_of
    obtain rfl := iw.nil_of
    obtain rfl := j0.str_of
    obtain rfl := j1.int_of
    refine gd_two ha _ ?_
    have lN : ("N" : Str).length = 1 := rfl
    have lM : ("M" : Str).length = 1 := rfl
    refine sq_set (El.at (K := K) (ds := [mD ("N" ++ xs, [])]) (el_lst (ea_cons (ed_tup (ea_cons (ed_op ed_str (ed_var rfl (.str xs)) (rd_adds (by omega))) (ea_cons ed_tup0 ea_nil))) ea_nil)) fun am va H6 ham e6 h6 i6 => ?_)
    have nam := UU.fresh ham
    have U6 := UU.ex e6
    have neK : ak ≠ am := fun z => by rw [z, ham] at hak'; cases hak'
    have neL : lr ≠ am := fun z => by rw [z, ham] at hlr'; cases hlr'
    refine sq_forI (te_cons (te_ball (many := 3) rfl U6 ed_int (by decide) (by decide) (by omega) fun r H7 r0 r1 k7 t7 U7 => ?_))
    refine ⟨r, rfl, by omega, by omega, ?_⟩
    have nak7 : ak ∉ [u, uc] := nak
    have hl7 := k7 _ _ nlr (e6 _ _ hlr')
    have hk7 := k7 _ _ nak (e6 _ _ hak')
    have hm7 := k7 _ _ nam h6
    have iL : ImAll K H7 kv ((LOTS.take (1 + c)).map kD) := ((((i4.ex e5).mono tt).ex e6).mono t7)
    have iK7 := (ik'.ex e6).mono t7
    have iM7 := i6.mono t7
    have K7 : Kp (ak :: [u, uc]) H5 H7 := (kk.ex e6).trans (k7.sub fun p hp => List.mem_cons_of_mem _ hp)
    have T7 : Tk H5 H7 := (tt.trans (Tk.ex e6)).trans t7
    have am5 : H5 am = none := kk.some (fun hm => (List.mem_cons.mp hm).elim (fun z => neK z.symm) nam) ham
    refine for_range (lo := 0) (n := r.toNat) (fun j σ' H' => ∃ (o6 o7 o8 o9 : Option V) (ms : List Mkr) (vm : List V), σ' = [some (.ref u), some (.ref lr), some (.ref ak), some (.str xs), some (.int ((xm : Nat) : Int)), some (.ref am), o6, o7, o8, o9] ∧ Kp (ak :: [u, uc]) H5 H' ∧ Tk H7 H' ∧ UrnAt H' u uc (n + 1 + i * 94 + 1 + j * 46) ∧ H' am = some (.lst vm) ∧ ImAll K H' vm (ms.map mD) ∧ MInv (LOTS.take (1 + c)) xs xm j ms ∧ j ≤ 2 ∧ H' lr = some (.lst kv) ∧ H' ak = some (.lst vk)) ?_ ?_ ?_
    · refine ⟨o6, o7, o8, o9, [("N" ++ xs, [])], va, rfl, K7, Tk.refl _, U7.le (by omega), hm7, iM7, ⟨rfl, fun m hm => ?_, _, List.mem_cons_self .., rfl⟩, Nat.zero_le _, hl7, hk7⟩
      obtain rfl : m = ("N" ++ xs, []) := by simpa using hm
      exact ⟨Nat.zero_le _, fun t ht => nomatch ht⟩
    · rintro j σ' H' hj ⟨o6, o7, o8, o9, ms, vm, rfl, kb, tb, Ub, hm', im', hms, hj2, hlb, hkb⟩
      have hj3 : j < 2 := by omega
      rw [Int.zero_add]
      refine gd_name _ ?_
      refine sq_set (te_some (n := n + 1 + i * 94 + 1 + j * 46) rfl rfl rfl (by show 9 < 10; decide) Ub hlb (iL.mono tb) hKS hK5 nlr hx2 (by omega) fun D acc ts H8 hD k8 t8 U8 h8 i8 lts hall => ?_)
      have hm8 := k8 _ _ nam hm'
      have l0 := sInt_len.1
      have l1 := sInt_len.2
      have lj : (sInt (j : Int)).length ≤ 10 := by
        rcases (by omega : j = 0 ∨ j = 1) with rfl | rfl
        · exact l0
        · exact l1
      refine st_drop (te_append (d := mD ("M" ++ xs ++ sInt (j : Int), ts)) rfl hm8 (ed_tup (ea_cons (ed_op (ed_op ed_str (ed_var rfl (.str xs)) (rd_adds (by omega))) (ed_strI (ed_var rfl (.int (j : Int))) ?_) (rd_adds (by omega))) (ea_cons (ed_tupOfS (es_var rfl (Evl.sq_of h8) i8)) ea_nil))) ?_ fun v H9 e9 i9 => ?_)
      · rcases (by omega : j = 0 ∨ j = 1) with rfl | rfl <;> decide
      · have := im'.length
        have h1 := congrArg List.length hms.nm
        rw [List.length_map, List.length_take] at h1
        rw [this, List.length_map]
        omega
      · have hm9 := e9 _ _ hm8
        have t9 : Tk H9 (upd H9 am (.lst (vm ++ [v]))) := Tk.upd (no_lst hm9)
        have kb9 : Kp (ak :: [u, uc]) H5 H9 := (kb.trans (k8.sub fun p hp => List.mem_cons_of_mem _ hp)).ex e9
        refine ⟨_, _, _, _, ms ++ [("M" ++ xs ++ sInt (j : Int), ts)], vm ++ [v], rfl, kb9.mutNew am5, (((tb.trans t8).trans (Tk.ex e9)).trans t9), (((U8.ex e9).upd nam).le (by omega)), upd_same .., ?_, ⟨?_, fun m hm => ?_, ?_⟩, by omega, ?_, ?_⟩
        · rw [List.map_append]
          exact (((im'.mono t8).ex e9).append (.cons i9 .nil)).mono t9
        · rw [List.map_append, hms.nm, take_snoc (nk_get xs j hj3)]
          rfl
        · rcases List.mem_append.mp hm with hm | hm
          · exact hms.ok m hm
          · obtain rfl : m = ("M" ++ xs ++ sInt (j : Int), ts) := by simpa using hm
            refine ⟨lts, fun t ht => ?_⟩
            obtain ⟨w1, w2, w3⟩ := hall t ht
            exact ⟨w1, by omega, by omega⟩
        · obtain ⟨m, hm, e⟩ := hms.no
          exact ⟨m, List.mem_append.mpr (.inl hm), e⟩
        · rw [upd_ne neL]
          exact e9 _ _ (k8 _ _ nlr hlb)
        · rw [upd_ne neK]
          exact e9 _ _ (k8 _ _ nak hkb)
    · rintro σ' H' ⟨o6, o7, o8, o9, ms, vm, rfl, kb, tb, Ub, hm', im', hms, hj2, hlb, hkb⟩
      have hvl : vm.length = ms.length := by rw [im'.length, List.length_map]
      have hml : ms.length ≤ 3 ∧ 1 ≤ ms.length := by
        have h1 := congrArg List.length hms.nm
        rw [List.length_map, List.length_take] at h1
        have h3 : (nk xs).length = 3 := rfl
        omega
      refine sq_set (te_ball (many := (vm.length : Int)) rfl Ub (fun H1 e1 Q q' => ⟨_, rfl, len_l (Evl.sq_of (e1 _ _ hm')) (q' _ H1 (Ex.refl _) (.int _))⟩) (by omega) (by omega) (by omega) fun t H8 t0 t1 k8 t8 U8 => ?_)
      obtain ⟨t, rfl⟩ : ∃ e : Nat, t = (e : Int) := ⟨t.toNat, by omega⟩
      have hm8 := k8 _ _ nam hm'
      have hk8 := k8 _ _ nak hkb
      have im8 := im'.mono t8
      have hvk : vk.length ≤ 5 := by
        rw [ik'.length, List.length_map]
        have := congrArg List.length hks
        rw [ksOf, List.length_map, List.length_take] at this
        omega
      refine st_drop (te_append (d := knD (xs, xm, ms.drop t ++ ms.take t)) rfl hk8 (ed_tup (ea_cons (ed_var rfl (.str xs)) (ea_cons (ed_var rfl (.int _)) (ea_cons (ed_tupOf ((el_add ((el_sl (es_var rfl (Evl.sq_of hm8) im8) (eo_some (K := K) (ed_var rfl (.int (t : Int)))) eo_none).to (cutD_from _ _)) ((el_sl (es_var rfl (Evl.sq_of hm8) im8) eo_none (eo_some (K := K) (ed_var rfl (.int (t : Int))))).to (cutD_to _ _)) ?_).to ?_)) ea_nil)))) (by omega) fun v H9 e9 i9 => ?_)
      · rw [List.length_drop, List.length_take, List.length_map]; omega
      · rw [List.map_append, List.map_drop, List.map_take]
      · have hk9 := e9 _ _ hk8
        have t9 : Tk H9 (upd H9 ak (.lst (vk ++ [v]))) := Tk.upd (no_lst hk9)
        have kb9 : Kp (ak :: [u, uc]) H5 H9 := (kb.trans (k8.sub fun p hp => List.mem_cons_of_mem _ hp)).ex e9
        have hr2 : r.toNat ≤ 2 := by omega
        have hrm : r.toNat * 46 ≤ 2 * 46 := Nat.mul_le_mul_right _ hr2
        refine ⟨_, _, _, _, _, _, _, ks ++ [(xs, xm, ms.drop t ++ ms.take t)], vk ++ [v], rfl, kb9.upd (List.mem_cons_self ..), ((((T7.trans tb).trans t8).trans (Tk.ex e9)).trans t9), (((U8.ex e9).upd nak).le (by omega)), ?_, upd_same .., ?_, ?_, fun k hk => ?_, by omega⟩
        · rw [upd_ne nlk]
          exact e9 _ _ (k8 _ _ nlr hlb)
        · rw [List.map_append]
          exact ((((((ik'.ex e6).mono t7).mono tb).mono t8).ex e9).append (.cons i9 .nil)).mono t9
        · rw [ksOf, List.map_append, take_snoc hx, ← hks]
          rfl
        · rcases List.mem_append.mp hk with hk | hk
          · exact hgood k hk
          · obtain rfl : k = (xs, xm, ms.drop t ++ ms.take t) := by simpa using hk
            exact hms.good hxK hKS hr2 t
  · rintro σ' H' ⟨o3, o4, o5, o6, o7, o8, o9, ks, vk, rfl, kk, tt, UU, hlr', hak', ik', hks, hgood, hi5⟩
    have hl : ((LOTS.take (1 + c)).map kD).length = 1 + c := by rw [List.length_map, hKl]
    rw [hl] at hks UU
    rw [List.take_of_length_le (by omega)] at hks
    obtain ⟨p1, p2⟩ := pg_of (by omega) (by omega) hks hgood
    refine st_ret (Ed.at (K := K) (d := pD ks) (ed_tup (ea_cons (ed_tupOfS (es_var rfl (Evl.sq_of hak') ik')) (ea_cons ed_tup0 (ea_cons ed_tup0 (ea_cons ed_tup0 ea_nil))))) fun v H9 e9 i9 => ?_)
    have ak0 : H ak = none := k3.some nak hak
    have kf : Kp [u, uc] H H9 := ((((k4.ex e5).sub fun p hp => List.mem_cons_of_mem _ hp).trans kk).ex e9).drop ak0
    exact q v ks H9 kf (((t4.trans (Tk.ex e5)).trans tt).trans (Tk.ex e9)) ((UU.ex e9).le (by omega)) i9 p1 p2
end
end K55
/-! the law's own functions: words -/
namespace K55
open PySem PySem.Spec PyProof.Rows L2 W5 M5
open Evl (Ex Ev)
section
variable {P : Program} {w : World} {K : PySem.W.Frag} {mg : Str → Option Value} {base : Heap}
theorem te_lcLs {σ : L2.St} {H : Hp} {te tx : TE} {g : TG} {tt : TT} {vs : List Nat} {Q : VK} (h : te σ H fun x H1 => ∃ a, x = .ref a ∧ (∃ xs, SqL K H1 a xs) ∧ tLc (fun _ H2 R => R (Itl K a) H2) g tt tx vs σ H1 Q) : tLc (iList K te) g tt tx vs σ H Q := h
theorem Rch.trans {ks : List Knd} {t u v : M5.Ty} (h : Rch ks t u) (g : Rch ks u v) : Rch ks t v := by
  induction g with
  | refl => exact h
  | step _ f ih => exact ih.step f
def Plain (ks : List Knd) (t : M5.Ty) : Prop := ∀ u, Rch ks t u → ∀ a c, u ≠ .to a c
theorem Plain.fld {ks : List Knd} {t v : M5.Ty} (h : Plain ks t) (f : FldT ks t v) : Plain ks v := fun u hu => h u ((Rch.refl.step f).trans hu)
theorem Plain.rch {ks : List Knd} {t v : M5.Ty} (h : Plain ks t) (f : Rch ks t v) : Plain ks v := fun u hu => h u (f.trans hu)
def wb : Nat → Nat
  | 0 => 0
  | m + 1 => 1 + 3 * wb m
def SlawWords (K : PySem.W.Frag) (m : Nat) : Sp := fun vs H Q E => ∃ u uc n vp vt ks t, ∃ deep : Nat, vs = [.ref u, vp, vt, .int ((deep : Nat) : Int)] ∧ UrnAt H u uc n ∧ Im K H vp (pD ks) ∧ PgOk ks ∧ PgN ks ∧ Im K H vt (Ty.d t) ∧ t.Wf (ksOf ks) 0 ∧ Plain ks t ∧ deep < m ∧ m ≤ 4 ∧ n + wb m ≤ 1000000 ∧
  ∀ (v : V) (ws : List Wd) H2, Kp [u, uc] H H2 → Tk H H2 → UrnAt H2 u uc (n + wb m) → Im K H2 v (.tuple (ws.map Wd.d)) → 1 ≤ ws.length → ws.length ≤ wb m → Q v H2
theorem wb_le : ∀ m, m ≤ 4 → wb m ≤ 40 := by decide
theorem map_dp {H : Hp} {vs : List V} {ds : List PyData} (h : ImAll K H vs ds) : DpAll K H vs ds := h.dp
theorem ok_law_words (T : Tx K mg) : ∀ m : Nat, Ok P w K mg base (m + 7) d_law_words ["urn", "program", "thing", "deep"] (SlawWords K m)
  | 0 => by
    refine (T.F_law_words).ok sc_law_words (fun vs H Q E ⟨u, uc, n, vp, vt, ks, t, deep, e, _⟩ => by rw [e]; rfl) (fun cdv A outer s H vs Q E hr h => ?_)
    obtain ⟨u, uc, n, vp, vt, ks, t, deep, rfl, _, _, _, _, _, _, _, h, _⟩ := h
    exact absurd h (Nat.not_lt_zero _)
  | m + 1 => by
    have G_law_words := ok_law_words T m
    have G_law_ball := ok_law_ball (P := P) (w := w) (base := base) T
    have G_law_makers := ok_law_makers (P := P) (w := w) (base := base) T
    refine (T.F_law_words).ok sc_law_words (fun vs H Q E ⟨u, uc, n, vp, vt, ks, t, deep, e, _⟩ => by rw [e]; rfl) (fun cdv A outer s H vs Q E hr h => ?_)
    obtain ⟨u, uc, n, vp, vt, ks, t, deep, rfl, hU, ip, hP, hN, it, hw, hpl, hd, hm4, hn, q⟩ := h
    refine ⟨_, PSs.nox ((pss_cons (ps_if (pt_cmpR (op_eqK (K := K) rfl hr) (pv 2) pe_str (nomark _)) (pss_one (ps_ret (pe_tup (pa_cons (pe_op op_sub (pe_call G_law_ball (hr.mono (by omega)) rfl T.g_law_ball T.k_law_ball T.B_law_ball .nil pass0 (pa_cons (pv 0) (pa_cons pe_int pa_nil))) pe_int) pa_nil)))) pss_nil)
  (pss_cons (ps_setLc (i := 4) (own := [("one", 5)]) (by rfl) sc_law_words.nd rfl rfl (sw_true rfl rfl rfl (by decide +kernel)) (pi_listK (K := K) rfl (pe_call G_law_makers (hr.mono (by omega)) rfl T.g_law_makers T.k_law_makers T.B_law_makers .nil pass0 (pa_cons (pv 1) (pa_cons (pv 2) pa_nil)))) (blkOk_by (own := [("one", 5)]) (N := ["urn", "program", "thing", "deep", "options", "one", "maker", "fields", "found", "field"]) (sc := defScope s_law_words) (by decide +kernel)) (fun _ _ _ _ _ => pg_name (i := 5) sc_law_words.nd rfl (by first | exact Or.inl rfl | exact Or.inr rfl)) (fun _ _ _ _ _ => (pts_one (PW.pt (pw_or (pt_cmpR op_gt (pv 3) pe_int (nomark _)) (pw_or1 (pt_cmpR (op_eqK (K := K) rfl hr) (pe_ix (ix_seqK (K := K) rfl) (pv 5) pe_int (fun _ _ => rfl)) (pe_lst pa_nil) (nomark _))))))) (fun _ _ _ _ _ => (pv 5)))
  (pss_cons (ps_asg (pe_ix (ix_seqK (K := K) rfl) (pv 4) (pe_call G_law_ball (hr.mono (by omega)) rfl T.g_law_ball T.k_law_ball T.B_law_ball .nil pass0 (pa_cons (pv 0) (pa_cons (pe_callB (call_lenK (K := K) rfl) rfl T.b_len bb_len (pa_cons (pv 4) pa_nil)) pa_nil))) (fun _ _ => rfl)) (pg_tupK (K := K) (n := 2) rfl rfl (pgs_cons (pg_name (i := 6) sc_law_words.nd rfl (by first | exact Or.inl rfl | exact Or.inr rfl)) (pgs_cons (pg_name (i := 7) sc_law_words.nd rfl (by first | exact Or.inl rfl | exact Or.inr rfl)) pgs_nil))))
  (pss_cons (ps_set (i := 8) sc_law_words.nd rfl (by first | exact Or.inl rfl | exact Or.inr rfl) (pe_tup (pa_cons (pv 6) pa_nil)))
  (pss_cons (ps_for PassesOwn.never rfl (pi_listK (K := K) rfl (pv 7)) (pg_name (i := 9) sc_law_words.nd rfl (by first | exact Or.inl rfl | exact Or.inr rfl)) (pss_one (ps_set (i := 8) sc_law_words.nd rfl (by first | exact Or.inl rfl | exact Or.inr rfl) (pe_op (op_addK (K := K) rfl) (pv 8) (pe_call G_law_words (hr.mono (by omega)) rfl T.g_law_words T.k_law_words T.B_law_words .nil pass0 (pa_cons (pv 0) (pa_cons (pv 1) (pa_cons (pv 9) (pa_cons (pe_op op_sub (pv 3) pe_int) pa_nil)))))))))
  (pss_one (ps_ret (pv 8))))))))), ?_⟩
    have hwb : wb (m + 1) = 1 + 3 * wb m := rfl
    have hw40 := wb_le (m + 1) hm4
    cases t with
    | var i => exact absurd (show i < 0 from hw) (Nat.not_lt_zero _)
    | to a c => exact absurd rfl (hpl _ .refl a c)
    | whole =>
      refine sq_if (b := true) (eb_t (K := K) (ed_op (ed_var rfl it) ed_str (rd_eqs rfl))) (fun _ H1 e1 => ?_) fun z => by cases z
      refine st_ret (te_tup (te_cons (te_op (te_ball rfl (hU.ex e1) ed_int (by decide) (by decide) (by omega) fun i H2 i0 i1 k2 t2 U2 => te_c ⟨i, 4, rfl, rfl, by show 1 ≤ sizeLine; decide, fun p hp => ?_⟩))))
      have np := U2.fresh hp
      exact q (.ref p) [.int (i - 4)] _ (((Kp.of e1).trans k2).ex (Ex.new hp)) (((Tk.ex e1).trans t2).trans (Tk.ex (Ex.new hp))) ((U2.upd np).le (by omega)) (.tup (Evl.st_of (upd_same ..)) (.cons (.int _) .nil)) (Nat.le_refl _) (by show 1 ≤ _; omega)
    | of k ss =>
      refine sq_if (b := false) (eb_t (K := K) (ed_op (ed_var rfl it) ed_str (rd_eqs rfl))) (fun z => by cases z) fun _ H1 e1 => ?_
      refine sq_set (te_lcLs ⟨_, rfl, _, rfl, vp, vt, ks, k, ss, rfl, ip.ex e1, hP, it.ex e1, hw, fun p us kd H2 e2 hp h2 hkd hk hss pr => ⟨p, rfl, ⟨us, Evl.sq_of h2⟩, fun D hD => ?_⟩⟩)
      have e02 := e1.trans e2
      have U2 := hU.ex e02
      have hkn := hP.kn kd hkd
      have hml := hkn.2.2.1
      have hml1 := hkn.2.1
      have hpl' := Paired.length pr
      have nD := U2.fresh hD
      refine lc_list (K := K) (a := p) (xs := us) (fun j H' => Ex H2 H' ∧ ∃ acc ms', H' D = some (.lst acc) ∧ Paired (MkV K H1 H2 ss) acc ms' ∧ (∀ m ∈ ms', m ∈ kd.2.2 ∧ (0 < deep ∨ m.2 = [])) ∧ (∀ m ∈ kd.2.2.take j, (0 < deep ∨ m.2 = []) → m ∈ ms') ∧ acc.length ≤ j ∧ j ≤ us.length) ?_ ?_ ?_ ?_
      · exact ⟨Ex.new hD, [], [], upd_same .., .nil, (fun m hm => nomatch hm), (fun m hm => by simp at hm), Nat.le_refl _, Nat.zero_le _⟩
      · rintro j H' _ ⟨e3, _⟩
        exact Evl.ex_l e3 (Evl.sq_of h2)
      · rintro j x H3 hx ⟨e3, acc, ms', h3, pr3, hms, hms2, hal, hj⟩
        obtain ⟨mk, hmk, hmv⟩ := paired_get pr hx
        obtain ⟨a, l, us', rfl, ha, hl, iu, hl0⟩ := id hmv
        refine ⟨wipe_set _ _ _, ?_⟩
        have hjl : j < us.length := (List.getElem?_eq_some_iff.mp hx).1
        have hmm := List.mem_of_getElem? hmk
        have e0 : decide (0 < ((deep : Nat) : Int)) = decide (0 < deep) := by
          by_cases h : 0 < deep
          · rw [decide_eq_true h, decide_eq_true (by omega)]
          · rw [decide_eq_false h, decide_eq_false (by omega)]
        refine Eb.at (b := decide (0 < deep) || (mk.2.map fun t => (tput ss t).d).isEmpty) (eb_or (e0 ▸ eb_t (K := K) (ed_op (ed_var rfl (.int ((deep : Nat) : Int))) ed_int rd_cmp)) fun _ => eb_eqnilI (ev_ixT (v := .ref l) (ev_v rfl) (Evl.ex_t e3 ha) rfl) (e3 _ _ hl) (iu.ex e3)) fun H4 e4 => ?_
        cases hb : decide (0 < deep) || (mk.2.map fun t => (tput ss t).d).isEmpty with
        | false =>
          refine iteF ⟨e3.trans e4, acc, ms', e4 _ _ h3, pr3, hms, fun y hy hc => ?_, by omega, hjl⟩
          rw [take_snoc hmk] at hy
          rcases List.mem_append.mp hy with hy | hy
          · exact hms2 y hy hc
          · obtain rfl : y = mk := by simpa using hy
            rcases hc with hc | hc
            · rw [decide_eq_true hc] at hb; cases hb
            · rw [hc] at hb; simp at hb
        | true =>
          refine iteT ⟨_, rfl, acc, e4 _ _ h3, ?_, ?_⟩
          · exact Evl.sz_lt (by omega)
          · refine ⟨Ex.mut (e3.trans e4) hD, acc ++ [.ref a], ms' ++ [mk], upd_same .., Paired.snoc pr3 hmv, fun y hy => ?_, fun y hy hc => ?_, by rw [List.length_append]; simp only [List.length_cons, List.length_nil]; omega, hjl⟩
            · rcases List.mem_append.mp hy with hy | hy
              · exact hms y hy
              · obtain rfl : y = mk := by simpa using hy
                refine ⟨hmm, ?_⟩
                rw [Bool.or_eq_true] at hb
                rcases hb with hb | hb
                · exact .inl (of_decide_eq_true hb)
                · exact .inr (by simpa using hb)
            · rw [take_snoc hmk] at hy
              rcases List.mem_append.mp hy with hy | hy
              · exact List.mem_append.mpr (.inl (hms2 y hy hc))
              · exact List.mem_append.mpr (.inr hy)
      rintro H3 ⟨e3, acc, ms', h3, pr3, hms, hms2, hal, _⟩
      have hne : 0 < acc.length := by
        obtain ⟨m0, hm0, hz⟩ := hN kd hkd
        have : m0 ∈ ms' := hms2 m0 (by rw [hpl', List.take_length]; exact hm0) (.inr hz)
        rw [Paired.length pr3]
        exact List.length_pos_of_mem this
      have e03 := e02.trans e3
      have U3 := U2.ex e3
      refine sq_asg (te_op ⟨_, rfl, te_ball (many := (acc.length : Int)) rfl U3 (fun H1 e1 Q q' => ⟨_, rfl, len_l (Evl.sq_of (e1 _ _ h3)) (q' _ H1 (Ex.refl _) (.int _))⟩) (by omega) (by omega) (by omega) fun i H4 i0 i1 k4 t4 U4 => ?_⟩)
      obtain ⟨j, rfl⟩ : ∃ j : Nat, i = (j : Int) := ⟨i.toNat, by omega⟩
      have hj : j < acc.length := by omega
      obtain ⟨mk, hmk, hmv⟩ := paired_get pr3 (List.getElem?_eq_getElem hj)
      obtain ⟨a, l, us', ea, ha, hl, iu, hl0⟩ := hmv
      obtain ⟨hmm, hmd⟩ := hms mk (List.mem_of_getElem? hmk)
      have nl : l ∉ [u, uc] := (hU.ex e1).fresh hl0
      refine .inl ⟨D, acc, (j : Int), _, rfl, rfl, Evl.sq_of (k4 _ _ nD h3), atI_nat (List.getElem?_eq_getElem hj), ?_⟩
      rw [ea]
      refine gd_two (t4.sq (Evl.ex_t e3 ha)) _ ?_
      have hl4 := k4 _ _ nl (e3 _ _ hl)
      have iu4 := (iu.ex e3).mono t4
      have ip4 := (ip.ex e03).mono t4
      have k04 : Kp [u, uc] H H4 := (Kp.of e03).trans k4
      have t04 : Tk H H4 := (Tk.ex e03).trans t4
      refine sq_set (Ed.at (K := K) (d := .tuple [.str mk.1]) (ed_tup (ea_cons (ed_var rfl (.str mk.1)) ea_nil)) fun v5 H5 e5 i5 => ?_)
      rw [dAll_tput] at iu4
      have hf3 := (hkn.2.2.2 mk hmm).2.1
      refine sq_forE (ds := Ty.dAll (mk.2.map (tput ss))) (ev_v rfl) (e5 _ _ hl4) (iu4.ex e5) fun H6 e6 => ?_
      have e46 := e5.trans e6
      have U6 := U4.ex e46
      have ip6 := ip4.ex e46
      have hl6 := e46 _ _ hl4
      have k06 := k04.ex e46
      have t06 := t04.trans (Tk.ex e46)
      refine ⟨fun j σ' H' => ∃ (o4 o5 o6 o9 : Option V) (v8 : V) (ws : List Wd), σ' = [some (.ref u), some vp, some vt, some (.int ((deep : Nat) : Int)), o4, o5, o6, some (.ref l), some v8, o9] ∧ Kp [u, uc] H6 H' ∧ Tk H6 H' ∧ UrnAt H' u uc (n + 1 + j * wb m) ∧ Im K H' v8 (.tuple (ws.map Wd.d)) ∧ 1 ≤ ws.length ∧ ws.length ≤ 1 + j * wb m, ⟨_, _, _, _, v5, [.str mk.1], rfl, Kp.refl _ _, Tk.refl _, U6.le (by omega), i5.ex e6, Nat.le_refl _, by show 1 ≤ _; omega⟩, ?_, ?_, ?_⟩
      · rintro j σ' H7 ⟨_, _, _, _, _, _, _, k7, t7, _⟩
        exact ⟨t7, k7 _ _ nl hl6⟩
      · rintro j y vy σ' H7 hy iy ⟨o4, o5, o6, o9, v8, ws, rfl, k7, t7, U7, i8, l1, l2⟩
        rw [Ty.dAll_map, List.getElem?_map, List.getElem?_map] at hy
        obtain ⟨y1, hy1, rfl⟩ := Option.map_eq_some_iff.mp hy
        obtain ⟨g, hg, rfl⟩ := Option.map_eq_some_iff.mp hy1
        have hgm := List.mem_of_getElem? hg
        have hj3 : j < 3 := by
          have := (List.getElem?_eq_some_iff.mp hg).1
          omega
        have hdp : 0 < deep := hmd.resolve_right fun z => by rw [z] at hgm; cases hgm
        obtain ⟨d, rfl⟩ : ∃ d, deep = d + 1 := ⟨deep - 1, by omega⟩
        have hfl : FldT ks (.of k ss) (tput ss g) := ⟨k, ss, kd, mk, g, rfl, hkd, hk, hmm, hgm, rfl⟩
        have hjw : j * wb m ≤ 2 * wb m := Nat.mul_le_mul_right _ (by omega)
        refine gd_name _ ?_
        refine st_asg (te_op ⟨_, rfl, ⟨_, rfl, _, rfl, _, rfl, (ed_op (K := K) (z := .int ((d : Nat) : Int)) (ed_var rfl (.int (((d + 1 : Nat)) : Int))) ed_int (rd_int0.to (by congr 1; omega))).cn fun vd H8 e8 id => ?_⟩⟩)
        obtain rfl := id.int_of
        refine ⟨u, uc, _, vp, vy, ks, tput ss g, d, rfl, U7.ex e8, (ip6.mono t7).ex e8, hP, hN, iy.ex e8, hfl.wf hP hw, hpl.fld hfl, by omega, by omega, by omega, fun v9 ws' H9 k9 t9 U9 i9 m1 m2 => ?_⟩
        refine rd_addt (xs := ws.map Wd.d) (ys := ws'.map Wd.d) (by rw [List.length_map, List.length_map]; omega) H9 v8 v9 _ ((i8.ex e8).mono t9) i9 fun v10 H10 e10 i10 => ?_
        rw [← List.map_append] at i10
        exact ⟨_, _, _, _, v10, ws ++ ws', rfl, ((k7.ex e8).trans k9).ex e10, ((t7.trans (Tk.ex e8)).trans t9).trans (Tk.ex e10), (U9.ex e10).le (by rw [Nat.add_mul]; omega), i10, by rw [List.length_append]; omega, by rw [List.length_append, Nat.add_mul]; omega⟩
      · rintro σ' H7 ⟨o4, o5, o6, o9, v8, ws, rfl, k7, t7, U7, i8, l1, l2⟩
        rw [Ty.dAll_map, List.length_map, List.length_map] at U7 l2
        have hjw : mk.2.length * wb m ≤ 3 * wb m := Nat.mul_le_mul_right _ hf3
        exact st_ret ⟨_, rfl, q v8 ws H7 (k06.trans k7) (t06.trans t7) (U7.le (by omega)) i8 l1 (by omega)⟩
end
end K55
/-! the law's own functions: reading words, words that are near -/
namespace K55
open PySem PySem.Spec PyProof.Rows L2 W5 M5
open Evl (Ex Ev)
section
variable {P : Program} {w : World} {K : PySem.W.Frag} {mg : Str → Option Value} {base : Heap}
theorem ed_eqnilE {σ : L2.St} {H : Hp} {te : TE} {k : Nat} {p : Addr} {ws : List V} {ds : List PyData} (hv : Ev te σ H (.ref p)) (h : H p = some (.lst ws)) (im : ImAll K H ws ds) : Ed K (tOp (rEqP K (lineOf k)) te (tLst tNil)) σ H (.bool ds.isEmpty) := fun H1 e Q q => by
  refine hv H1 e _ fun Ha ea => ⟨Nat.zero_le _, fun p2 hp2 => ?_⟩
  have e' := e.trans ea
  have e2 : Ex Ha (upd Ha p2 (.lst [])) := Ex.new hp2
  refine ⟨.list ds, .list [], .lst (Evl.sq_of (e2 _ _ (e' _ _ h))) (im.ex (e'.trans e2)).dp, .lst (Evl.sq_of (upd_same ..)) .nil, im.plain, rfl, ?_, ?_⟩
  · exact Nat.le_trans (Nat.min_le_right _ _) (by simp [PyData.depth, PyData.depthAll, lineOf])
  · have : PyData.eqv (.list ds) (.list []) = ds.isEmpty := by cases ds <;> simp [PyData.eqv, PyData.eqvAll]
    rw [this]
    exact q _ _ (ea.trans e2) (.bl _)
/-- the object that is asked about, and what the law says of it -/
def ThLaw (K : PySem.W.Frag) (H : Hp) (ks : List Knd) (t : M5.Ty) (v : V) (r : Bool) : Prop := (∃ ws : List Wd, Im K H v (.tuple (ws.map Wd.d)) ∧ ws.length ≤ 4000 ∧ r = lawT ks ws [t]) ∨ (∃ q xs, v = .ref q ∧ H q = some (.lst xs) ∧ r = false) ∨ (∃ d, Im K H v d ∧ isT d "tuple" = false ∧ r = false)
def SlawIsOf (K : PySem.W.Frag) : Sp := fun vs H Q E => ∃ vp vt v ks t r, vs = [vp, vt, v] ∧ Im K H vp (pD ks) ∧ PgOk ks ∧ Im K H vt (Ty.d t) ∧ t.Wf (ksOf ks) 0 ∧ Plain ks t ∧ ThLaw K H ks t v r ∧ ∀ H2, Ex H H2 → Q (.bl r) H2
/-- the makers with a name -/
theorem te_some2 {σ : L2.St} {H : Hp} {vp vt vw : V} {ks : List Knd} {k : Str} {ss : List M5.Ty} {wd : Wd} {j : Nat} {Q : VK} (h0 : σ[0]? = some (some vp)) (h5 : σ[5]? = some (some vt)) (h4 : σ[4]? = some (some vw)) (h7 : 7 < σ.length) (ip : Im K H vp (pD ks)) (it : Im K H vt (Ty.d (.of k ss))) (iw : Im K H vw (Wd.d wd)) (hP : PgOk ks) (hw : (M5.Ty.of k ss).Wf (ksOf ks) 0)
    (q : ∀ D acc kd H2, Ex H H2 → H D = none → H2 D = some (.lst acc) → kd ∈ ks → kd.1 = k → Paired (MkV K H H2 ss) acc (kd.2.2.filter fun m => PyData.eqv (.str m.1) wd.d) → Q (.ref D) H2) :
    tLc (iList K (tCall (SlawMakers K) [] E0 (tCons (tVar 0) (tCons (tVar 5) tNil)))) (gName 7) (tTest (tOp (rEqP K (lineOf j)) (tOp (rIx K) (tVar 7) (tC (.int 0))) (tVar 4))) (tVar 7) [7] σ H Q := by
  refine te_lcLs ⟨_, h0, _, h5, vp, vt, ks, k, ss, rfl, ip, hP, it, hw, fun p us kd H2 e2 hp h2 hkd hk hss pr => ⟨p, rfl, ⟨us, Evl.sq_of h2⟩, fun D hD => ?_⟩⟩
  have hlen := Paired.length pr
  refine lc_list (K := K) (a := p) (xs := us) (fun i H' => Ex H2 H' ∧ ∃ acc, H' D = some (.lst acc) ∧ Paired (MkV K H H2 ss) acc ((kd.2.2.take i).filter fun m => PyData.eqv (.str m.1) wd.d) ∧ i ≤ us.length) ?_ ?_ ?_ ?_
  · exact ⟨Ex.new hD, [], upd_same .., .nil, Nat.zero_le _⟩
  · rintro i H' _ ⟨e3, _⟩
    exact Evl.ex_l e3 (Evl.sq_of h2)
  · rintro i x H3 hx ⟨e3, acc, h3, pr3, hi⟩
    obtain ⟨mk, hmk, hmv⟩ := paired_get pr hx
    obtain ⟨a, l, us', rfl, ha, hl, iu, hl0⟩ := id hmv
    have hil : i < us.length := (List.getElem?_eq_some_iff.mp hx).1
    refine ⟨wipe_set _ _ _, ?_⟩
    have g7 : ((wipe σ [7]).set 7 (some (V.ref a)))[7]? = some (some (.ref a)) := by simp [wipe, h7]
    have g4 : ((wipe σ [7]).set 7 (some (V.ref a)))[4]? = some (some vw) := by simp [wipe, h4]
    refine Eb.at (eb_t (K := K) (ed_op (ed_ev (ev_ixT (v := .str mk.1) (ev_v g7) (Evl.ex_t e3 ha) rfl) (.str _)) (ed_var g4 (iw.ex (e2.trans e3))) (rd_eq (B := lineOf j) (Nat.le_trans (Nat.min_le_left _ _) (by simp [PyData.depth, lineOf]))))) fun H4 e4 => ?_
    have hfl : (kd.2.2.take (i + 1)).filter (fun m => PyData.eqv (.str m.1) wd.d) = (kd.2.2.take i).filter (fun m => PyData.eqv (.str m.1) wd.d) ++ [mk].filter (fun m => PyData.eqv (.str m.1) wd.d) := by rw [take_snoc hmk, List.filter_append]
    cases hb : PyData.eqv (.str mk.1) wd.d with
    | false =>
      refine iteF ⟨e3.trans e4, acc, e4 _ _ h3, ?_, hil⟩
      rw [hfl, List.filter_cons]
      simpa [hb] using pr3
    | true =>
      have hal : acc.length ≤ i := by
        rw [Paired.length pr3]
        exact Nat.le_trans (List.length_filter_le ..) (by rw [List.length_take]; omega)
      have h3l : us.length ≤ 3 := by
        rw [hlen]
        exact (hP.kn kd hkd).2.2.1
      refine iteT ⟨_, g7, acc, e4 _ _ h3, Evl.sz_lt (by omega), Ex.mut (e3.trans e4) hD, acc ++ [.ref a], upd_same .., ?_, hil⟩
      rw [hfl, List.filter_cons, hb]
      exact Paired.snoc pr3 hmv
  · rintro H3 ⟨e3, acc, h3, pr3, _⟩
    rw [hlen, List.take_length] at pr3
    exact q D acc kd H3 (e2.trans e3) (Evl.fresh_back e2 hD) h3 hkd hk (Paired.mapP pr3 fun v m z => z.ex e3)
theorem eqv_strW (s : Str) (wd : Wd) (h : ∀ x, wd ≠ .str x) : PyData.eqv (.str s) wd.d = false := by
  cases wd with
  | str x => exact absurd rfl (h x)
  | int i => rfl
  | bool b => rfl
  | none => rfl
  | fn => rfl
theorem filter_find {kd : Knd} {s : Str} : (kd.2.2.filter fun m => PyData.eqv (.str m.1) (Wd.d (.str s))).head? = kd.2.2.find? fun m => m.1 == s := by
  rw [List.head?_filter]
  congr 1
/-- what the makers' pairs are as data -/
def mkD (ss : List M5.Ty) (m : Mkr) : PyData := .tuple [.str m.1, .list (m.2.map fun t => (tput ss t).d)]
theorem mkv_dp {H0 H : Hp} {ss : List M5.Ty} : ∀ {vs : List V} {ms : List Mkr}, Paired (MkV K H0 H ss) vs ms → DpAll K H vs (ms.map (mkD ss)) ∧ PyData.plainAll (ms.map (mkD ss)) = true
  | _, _, .nil => ⟨.nil, rfl⟩
  | _, _, .cons h t => by
    obtain ⟨a, l, us, rfl, ha, hl, iu, _⟩ := h
    obtain ⟨h1, h2⟩ := mkv_dp t
    refine ⟨.cons (.tup ha (.cons (.str _) (.cons (.lst (Evl.sq_of hl) iu.dp) .nil))) h1, ?_⟩
    have := iu.plain
    simp only [List.map_cons, PyData.plainAll, mkD, PyData.plain, this, h2, Bool.and_true]
theorem ok_law_is_of (T : Tx K mg) : Ok P w K mg base 7 d_law_is_of ["program", "thing", "words"] (SlawIsOf K) := by
  have G_law_makers := ok_law_makers (P := P) (w := w) (base := base) T
  refine (T.F_law_is_of).ok sc_law_is_of (fun vs H Q E ⟨vp, vt, v, ks, t, r, e, _⟩ => by rw [e]; rfl) (fun cdv A outer s H vs Q E hr h => ?_)
  obtain ⟨vp, vt, v, ks, t, r, rfl, ip, hP, it, hw, hpl, hv, q⟩ := h
  refine ⟨_, PSs.nox ((pss_cons (ps_if (pt_not (pt_val (pe_callB (call_isiK' (K := K) rfl) rfl T.b_isinstance bb_isinstance (pa_cons (pv 2) (pa_cons (pe_bltn (v := .ty "tuple") (by rfl) T.b_tuple bb_tuple rfl) pa_nil))))) (pss_one (ps_ret pe_bl)) pss_nil)
  (pss_cons (ps_set (i := 3) sc_law_is_of.nd rfl (by first | exact Or.inl rfl | exact Or.inr rfl) (pe_lst (pa_cons (pv 1) pa_nil)))
  (pss_cons (ps_for PassesOwn.never rfl (pi_tupK (K := K) rfl (pv 2)) (pg_name (i := 4) sc_law_is_of.nd rfl (by first | exact Or.inl rfl | exact Or.inr rfl)) (pss_cons (ps_if (pt_cmpR (op_eqK (K := K) rfl hr) (pv 3) (pe_lst pa_nil) (nomark _)) (pss_one (ps_ret pe_bl)) pss_nil)
  (pss_cons (ps_set (i := 5) sc_law_is_of.nd rfl (by first | exact Or.inl rfl | exact Or.inr rfl) (pe_bm0 PySem.F.plainAttrs_list PySem.F.slot_list_pop PySem.F.type_list_pop mt_pop (pv 3)))
  (pss_one (ps_if (PW.pt (pw_and (pt_val (pe_callB (call_isiK' (K := K) rfl) rfl T.b_isinstance bb_isinstance (pa_cons (pv 4) (pa_cons (pe_bltn (v := .ty "int") (by rfl) T.b_int bb_int rfl) pa_nil)))) (pw_and1 (pt_not (pt_val (pe_callB (call_isiK' (K := K) rfl) rfl T.b_isinstance bb_isinstance (pa_cons (pv 4) (pa_cons (pe_bltn (v := .ty "bool") (by rfl) T.b_bool bb_bool rfl) pa_nil)))))))) (pss_one (ps_if (pt_cmpR (op_neK (K := K) rfl hr) (pv 5) pe_str (nomark _)) (pss_one (ps_ret pe_bl)) pss_nil)) (pss_cons (ps_set (i := 6) sc_law_is_of.nd rfl (by first | exact Or.inl rfl | exact Or.inr rfl) (pe_ifExp (pt_cmpR (op_eqK (K := K) rfl hr) (pv 5) pe_str (nomark _)) (pe_lst pa_nil) (pe_lc (own := [("one", 7)]) (by rfl) sc_law_is_of.nd (pi_listK (K := K) rfl (pe_call G_law_makers (hr.mono (by omega)) rfl T.g_law_makers T.k_law_makers T.B_law_makers .nil pass0 (pa_cons (pv 0) (pa_cons (pv 5) pa_nil)))) (blkOk_by (own := [("one", 7)]) (N := ["program", "thing", "words", "due", "word", "wanted", "some", "one"]) (sc := defScope s_law_is_of) (by decide +kernel)) (fun _ _ _ _ _ => pg_name (i := 7) sc_law_is_of.nd rfl (by first | exact Or.inl rfl | exact Or.inr rfl)) (fun _ _ _ _ _ => (pts_one (pt_cmpR (op_eqK (K := K) rfl hr) (pe_ix (ix_seqK (K := K) rfl) (pv 7) pe_int (fun _ _ => rfl)) (pv 4) (nomark _)))) (fun _ _ _ _ _ => (pv 7)))))
  (pss_cons (ps_if (PW.pt (pw_or (pt_not (pt_val (pe_callB (call_isiK' (K := K) rfl) rfl T.b_isinstance bb_isinstance (pa_cons (pv 4) (pa_cons (pe_bltn (v := .ty "str") (by rfl) T.b_str bb_str rfl) pa_nil))))) (pw_or1 (pt_cmpR (op_eqK (K := K) rfl hr) (pv 6) (pe_lst pa_nil) (nomark _))))) (pss_one (ps_ret pe_bl)) pss_nil)
  (pss_one (ps_expr (pe_bm PySem.F.plainAttrs_list PySem.F.slot_list_extend PySem.F.type_list_extend mt_extend (pv 3) (pa_cons (pe_revL (pe_ix (ix_seqK (K := K) rfl) (pe_ix (ix_seqK (K := K) rfl) (pv 6) pe_int (fun _ _ => rfl)) pe_int (fun _ _ => rfl))) pa_nil)))))))))))
  (pss_one (ps_ret (pe_cmpR (op_eqK (K := K) rfl hr) (pv 3) (pe_lst pa_nil) (nomark _)))))))), ?_⟩
  rcases hv with ⟨ws, iv, hwl, hr'⟩ | ⟨a, xs, rfl, ha, rfl⟩ | ⟨d, iv, hd, rfl⟩
  rotate_left
  · refine sq_if (b := true) (eb_not (b := false) (eb_b (ed_isL rfl ha))) (fun _ H1 e1 => ?_) fun z => by cases z
    exact st_ret (te_c (q H1 e1))
  · refine sq_if (b := true) (eb_not (b := false) (eb_b ((ed_isi (ed_var rfl iv)).to (by rw [hd])))) (fun _ H1 e1 => ?_) fun z => by cases z
    exact st_ret (te_c (q H1 e1))
  refine sq_if (b := false) (eb_not (b := true) (eb_b (ed_isi (ed_var rfl iv)))) (fun z => by cases z) fun _ H1 e1 => ?_
  refine sq_set (El.at (K := K) (ds := [t.d]) (el_lst (ea_cons (ed_var rfl (it.ex e1)) ea_nil)) fun ad vd H2 had e2 h2 i2 => ?_)
  have e12 := e1.trans e2
  have had0 : H ad = none := Evl.fresh_back e1 had
  refine sq_forT (ed_var rfl (iv.ex e12)) fun H3 e3 => ?_
  have e13 := e12.trans e3
  have h3d := e3 _ _ h2
  have hl : (ws.map Wd.d).length = ws.length := List.length_map _
  have tk3 : ∀ {H'}, Kp [ad] H3 H' → Tk H3 H' := fun k => k.tk fun p hp => by
    obtain rfl : p = ad := by simpa using hp
    exact no_lst h3d
  have ex3 : ∀ {H' H''}, Kp [ad] H3 H' → Ex H' H'' → Ex H H'' := fun k e => (((Kp.of e13).trans k).drop had0).to_ex.trans e
  refine ⟨fun n σ' H' => ∃ (o4 o5 o6 o7 : Option V) (Us : List M5.Ty) (vd : List V), σ' = [some vp, some vt, some v, some (.ref ad), o4, o5, o6, o7] ∧ Kp [ad] H3 H' ∧ H' ad = some (.lst vd) ∧ ImAll K H' vd (Us.reverse.map Ty.d) ∧ (∀ u ∈ Us, Rch ks t u) ∧ lawT ks ws [t] = lawT ks (ws.drop n) Us ∧ Us.length ≤ 1 + 3 * n ∧ n ≤ ws.length, ⟨none, none, none, none, [t], vd, rfl, Kp.refl _ _, h3d, i2.ex e3, (fun u hu => by
      obtain rfl : u = t := by simpa using hu
      exact .refl), rfl, by simp, Nat.zero_le _⟩, ?_, ?_, ?_⟩
  · rintro n σ' H' ⟨_, _, _, _, _, _, _, k, _⟩
    exact tk3 k
  · rintro n y vy σ' H' hy iy ⟨o4, o5, o6, o7, Us, vd, rfl, k, hd, id, hrc, hT, hUl, hn⟩
    rw [List.getElem?_map] at hy
    obtain ⟨wd, hwd, rfl⟩ := Option.map_eq_some_iff.mp hy
    have hnl : n < ws.length := (List.getElem?_eq_some_iff.mp hwd).1
    have hdr : ws.drop n = wd :: ws.drop (n + 1) := (List.getElem?_eq_some_iff.mp hwd).2 ▸ List.drop_eq_getElem_cons (List.getElem?_eq_some_iff.mp hwd).1
    rw [hdr] at hT
    refine gd_name _ ?_
    have isE : ((Us.reverse.map Ty.d).isEmpty) = Us.isEmpty := by cases Us <;> simp
    refine sq_if (b := Us.isEmpty) ((eb_eqnilI (ev_v rfl) hd id).to isE) (fun hb H4 e4 => ?_) fun hb H4 e4 => ?_
    · have : Us = [] := by simpa using hb
      subst this
      rw [lawT] at hT
      have := q H4 (ex3 k e4)
      rw [hr', hT] at this
      exact st_ret (te_c this)
    obtain ⟨u, Us, rfl⟩ : ∃ u Us', Us = u :: Us' := by
      cases Us with
      | nil => simp at hb
      | cons u Us => exact ⟨u, Us, rfl⟩
    rw [lawT] at hT
    rw [List.reverse_cons, List.map_append] at id
    obtain ⟨vw, v5, rfl, idw, iu⟩ := ImAll.concat_of (id.ex e4)
    have hd4 := e4 _ _ hd
    have ru := hrc u (List.mem_cons_self ..)
    have wu := ru.wf hP hw
    have pu := hpl.rch ru
    have t5 : Tk H4 (upd H4 ad (.lst (vw ++ [v5]).dropLast)) := Tk.upd (no_lst hd4)
    refine sq_set (te_pop (v := v5) rfl hd4 (by simp) ?_)
    rw [List.dropLast_concat] at t5 ⊢
    have hd5 : upd H4 ad (.lst vw) ad = some (.lst vw) := upd_same ..
    have k5 : Kp [ad] H3 (upd H4 ad (.lst vw)) := (k.ex e4).upd (by simp)
    have idw5 := idw.mono t5
    have iu5 := iu.mono t5
    have iy5 := (iy.ex e4).mono t5
    generalize upd H4 ad (.lst vw) = H5 at hd5 k5 idw5 iu5 iy5
    have ip5 := (ip.ex e13).mono (tk3 k5)
    simp only [List.length_cons] at hUl
    have no : ∀ {H2}, Ex H5 H2 → stepT ks u wd = none → Q (.bl false) H2 := fun {H2} e hs => by
      rw [hs] at hT
      have := q H2 (ex3 k5 e)
      rw [hr', hT] at this
      exact this
    have isI : ∀ b, isIntD wd.d = b → Eb (tAnd (tB (tCB (rIsi K) (tCons (tVar 4) (tCons (tC (.ty "int")) tNil)))) (tNot (tB (tCB (rIsi K) (tCons (tVar 4) (tCons (tC (.ty "bool")) tNil)))))) [some vp, some vt, some v, some (.ref ad), some vy, some v5, o6, o7] H5 b := fun b e => by
      rw [← e]
      exact eb_and (eb_b (ed_isi (ed_var rfl iy5))) fun _ => eb_not (eb_b (ed_isi (ed_var rfl iy5)))
    cases hi : isIntD wd.d with
    | true =>
      obtain ⟨z, rfl⟩ : ∃ z, wd = .int z := by cases wd <;> first | exact ⟨_, rfl⟩ | cases hi
      refine st_els (isI _ hi) (fun _ H6 e6 => ?_) fun z => by cases z
      cases u with
      | var i => exact absurd (show i < 0 from wu) (Nat.not_lt_zero _)
      | to a c => exact absurd rfl (pu _ .refl a c)
      | whole =>
        refine st_els (b := false) (eb_t (K := K) (ed_op (ed_var rfl (iu5.ex e6)) ed_str (rd_nes rfl))) (fun z => by cases z) fun _ H7 e7 => ?_
        have e67 := e6.trans e7
        exact ⟨_, _, _, _, Us, vw, rfl, k5.ex e67, e67 _ _ hd5, idw5.ex e67, fun x hx => hrc x (List.mem_cons_of_mem _ hx), hT, by omega, hnl⟩
      | of k' ss =>
        refine st_els (b := true) (eb_t (K := K) (ed_op (ed_var rfl (iu5.ex e6)) ed_str (rd_nes rfl))) (fun _ H7 e7 => ?_) fun z => by cases z
        exact st_ret (te_c (no (e6.trans e7) rfl))
    | false =>
      refine st_els (isI _ hi) (fun z => by cases z) fun _ H6 e6 => ?_
      have isS : ∀ b H7, Ex H5 H7 → ∀ v6 : V, isT wd.d "str" = b → Eb (tB (tCB (rIsi K) (tCons (tVar 4) (tCons (tC (.ty "str")) tNil)))) [some vp, some vt, some v, some (.ref ad), some vy, some v5, some v6, o7] H7 b := fun b H7 e7 v6 e => by
        rw [← e]
        exact eb_b (ed_isi (ed_var rfl (iy5.ex e7)))
      cases u with
      | var i => exact absurd (show i < 0 from wu) (Nat.not_lt_zero _)
      | to a c => exact absurd rfl (pu _ .refl a c)
      | whole =>
        refine sq_set (te_if (b := true) (eb_t (K := K) (ed_op (ed_var rfl (iu5.ex e6)) ed_str (rd_eqs rfl))) (fun _ H7 e7 => ⟨Nat.zero_le _, fun p hp => ?_⟩) fun z => by cases z)
        have e8 : Ex H7 (upd H7 p (.lst [])) := Ex.new hp
        have h8 : upd H7 p (.lst []) p = some (.lst []) := upd_same ..
        generalize upd H7 p (.lst []) = H8 at e8 h8
        have e58 := (e6.trans e7).trans e8
        refine sq_if (b := true) (Eb.to (b' := !isT wd.d "str" || true) (eb_or (eb_not (isS _ H8 e58 _ rfl)) fun _ => eb_eqnilI (ds := []) (ev_v rfl) h8 .nil) (by simp)) (fun _ H9 e9 => ?_) fun z => by cases z
        exact st_ret (te_c (no (e58.trans e9) (by cases wd <;> first | rfl | cases hi)))
      | of k' ss =>
        refine sq_set (te_if (b := false) (eb_t (K := K) (ed_op (ed_var rfl (iu5.ex e6)) ed_str (rd_eqs rfl))) (fun z => by cases z) fun _ H7 e7 => te_some2 (wd := wd) rfl rfl rfl (by show 7 < 8; decide) (ip5.ex (e6.trans e7)) (iu5.ex (e6.trans e7)) (iy5.ex (e6.trans e7)) hP wu fun D acc kd H8 e8 hD0 hD hkd hk pr => ?_)
        have e58 := (e6.trans e7).trans e8
        by_cases hs : ∃ s, wd = .str s
        · obtain ⟨s, rfl⟩ := hs
          have hst : stepT ks (.of k' ss) (.str s) = (kd.2.2.find? fun m => m.1 == s).map fun m => m.2.map (tput ss) := fsOf_kd hP hkd hk ss s
          rw [← filter_find] at hst
          cases hf : kd.2.2.filter fun m => PyData.eqv (.str m.1) (Wd.d (.str s)) with
          | nil =>
            rw [hf] at pr hst
            cases pr
            refine sq_if (b := true) (eb_or (b := false) (c := true) (eb_not (b := true) (isS _ H8 e58 _ rfl)) fun _ => eb_eqnilI (ds := []) (ev_v rfl) hD .nil) (fun _ H9 e9 => ?_) fun z => by cases z
            exact st_ret (te_c (no (e58.trans e9) hst))
          | cons m ms =>
            rw [hf] at pr hst
            obtain ⟨_ , acc', rfl, hm', pr'⟩ : ∃ v0 acc', acc = v0 :: acc' ∧ MkV K H7 H8 ss v0 m ∧ Paired (MkV K H7 H8 ss) acc' ms := by
              cases pr with
              | cons a b => exact ⟨_, _, rfl, a, b⟩
            have dp := fun H1 (e : Ex H8 H1) => mkv_dp (K := K) (Paired.cons (hm'.ex e) (Paired.mapP pr' fun v m z => z.ex e))
            obtain ⟨a, l, us', rfl, ha, hl, iu', hl0⟩ := hm'
            refine sq_if (b := false) (eb_or (b := false) (c := false) (eb_not (b := true) (isS _ H8 e58 _ rfl)) fun _ => eb_eqnilE (ds := (m :: ms).map (mkD ss)) (ev_v rfl) hD (fun H1 e => (dp H1 e).1) (dp H8 (Ex.refl _)).2) (fun z => by cases z) fun _ H9 e9 => ?_
            have e59 := e58.trans e9
            have hd9 := e59 _ _ hd5
            have hmm : m ∈ kd.2.2 := (List.mem_filter.mp (show m ∈ kd.2.2.filter (fun m => PyData.eqv (.str m.1) (Wd.d (.str s))) by rw [hf]; exact List.mem_cons_self ..)).1
            have hst' : stepT ks (.of k' ss) (.str s) = some (m.2.map (tput ss)) := hst
            rw [hst'] at hT
            have hm3 := ((hP.kn kd hkd).2.2.2 m hmm).2.1
            have hul : us'.length = m.2.length := by rw [iu'.length, List.length_map]
            have hvl : vw.length = Us.length := by rw [idw5.length, List.length_map, List.length_reverse]
            refine st_drop ⟨_, rfl, .inl ⟨rfl, _, Evl.sq_of hd9⟩, ?_⟩
            refine (ev_ixT (v := .ref l) (ev_ixL (ev_v rfl) (Evl.sq_of (e9 _ _ hD)) (atI_nat (j := 0) rfl)) (Evl.ex_t e9 ha) rfl) H9 (Ex.refl _) _ fun H10 e10 => ⟨l, us', rfl, Evl.sq_of (e10 _ _ (e9 _ _ hl)), fun p hp => ?_⟩
            have npd : p ≠ ad := fun z => by rw [z, e10 _ _ hd9] at hp; cases hp
            have e11 : Ex H10 (upd H10 p (.lst us'.reverse)) := Ex.new hp
            have h11 : upd H10 p (.lst us'.reverse) p = some (.lst us'.reverse) := upd_same ..
            generalize upd H10 p (.lst us'.reverse) = H11 at e11 h11
            have e911 := e10.trans e11
            have hd11 := e911 _ _ hd9
            refine ⟨ad, p, vw, us'.reverse, rfl, rfl, hd11, h11, ?_, ?_⟩
            · rw [List.length_reverse]
              exact Evl.sz_of (by omega)
            · have t12 : Tk H11 (upd H11 ad (.lst (vw ++ us'.reverse))) := Tk.upd (no_lst hd11)
              refine ⟨_, _, _, _, m.2.map (tput ss) ++ Us, vw ++ us'.reverse, rfl, ((k5.ex e59).ex e911).upd (by simp), upd_same .., ?_, fun x hx => ?_, hT, by rw [List.length_append, List.length_map]; omega, hnl⟩
              · have hrev : ((m.2.map (tput ss) ++ Us).reverse.map Ty.d) = Us.reverse.map Ty.d ++ (m.2.map fun t => (tput ss t).d).reverse := by
                  rw [List.reverse_append, List.map_append, List.map_reverse (l := m.2.map (tput ss)), List.map_map]
                  rfl
                rw [hrev]
                exact ((idw5.ex (e59.trans e911)).append ((iu'.ex (e9.trans e911)).rev)).mono t12
              · rcases List.mem_append.mp hx with hx | hx
                · obtain ⟨g, hg, rfl⟩ := List.mem_map.mp hx
                  exact ru.step ⟨k', ss, kd, m, g, rfl, hkd, hk, hmm, hg, rfl⟩
                · exact hrc x (List.mem_cons_of_mem _ hx)
        · have hns : isT wd.d "str" = false := by cases wd <;> first | rfl | exact absurd ⟨_, rfl⟩ hs
          refine sq_if (b := true) (eb_or (b := true) (c := true) (eb_not (b := false) (isS _ H8 e58 _ hns)) fun z => by cases z) (fun _ H9 e9 => ?_) fun z => by cases z
          refine st_ret (te_c (no (e58.trans e9) ?_))
          cases wd <;> first | rfl | exact absurd ⟨_, rfl⟩ hs
  · rintro σ' H' ⟨o4, o5, o6, o7, Us, vd, rfl, k, hd, id, hrc, hT, hUl, hn⟩
    rw [hl, List.drop_length, lawT] at hT
    have isE : ((Us.reverse.map Ty.d).isEmpty) = Us.isEmpty := by cases Us <;> simp
    refine st_ret (Ed.at (K := K) (ed_eqnilE (ev_v rfl) hd id) fun v9 H9 e9 i9 => ?_)
    obtain rfl := i9.bl_of
    rw [isE, ← hT, ← hr']
    exact q H9 (ex3 k e9)
end
end K55
/-! the law's own functions: words that are near -/
namespace K55
open PySem PySem.Spec PyProof.Rows L2 W5 M5
open Evl (Ex Ev)
section
variable {P : Program} {w : World} {K : PySem.W.Frag} {mg : Str → Option Value} {base : Heap}
/-- words, a list that is not in S, or something else -/
def NearV (K : PySem.W.Frag) (S : List Addr) (H : Hp) (v : V) : Prop := (∃ ws : List Wd, Im K H v (.tuple (ws.map Wd.d)) ∧ ws.length ≤ 200) ∨ (∃ q xs, v = .ref q ∧ H q = some (.lst xs) ∧ q ∉ S) ∨ (∃ d, Im K H v d ∧ isT d "tuple" = false)
theorem NearV.kp {S : List Addr} {H H' : Hp} {v : V} (h : NearV K S H v) (k : Kp S H H') (t : Tk H H') : NearV K S H' v := by
  rcases h with ⟨ws, i, l⟩ | ⟨q, xs, rfl, h1, h2⟩ | ⟨d, i, h⟩
  · exact .inl ⟨ws, i.mono t, l⟩
  · exact .inr (.inl ⟨q, xs, rfl, k _ _ h2 h1, h2⟩)
  · exact .inr (.inr ⟨d, i.mono t, h⟩)
def SlawNear (K : PySem.W.Frag) : Sp := fun vs H Q E => ∃ u uc n v, ∃ ws : List Wd, vs = [.ref u, v] ∧ UrnAt H u uc n ∧ Im K H v (.tuple (ws.map Wd.d)) ∧ 1 ≤ ws.length ∧ ws.length ≤ 50 ∧ n + 3 ≤ 1000000 ∧ ∀ v2 H2, Kp [u, uc] H H2 → Tk H H2 → UrnAt H2 u uc (n + 3) → NearV K [u, uc] H2 v2 → Q v2 H2
def SW : List Wd := [.int 0, .bool true, .none, .str "NAa", .str "NBb", .str "MCc0", .fn, .str "Zz"]
theorem ok_law_near (T : Tx K mg) : Ok P w K mg base 3 d_law_near ["urn", "words"] (SlawNear K) := by
  have G_law_ball := ok_law_ball (P := P) (w := w) (base := base) T
  refine (T.F_law_near).ok sc_law_near (fun vs H Q E ⟨u, uc, n, v, ws, e, _⟩ => by rw [e]; rfl) (fun cdv A outer s H vs Q E hr h => ?_)
  obtain ⟨u, uc, n, v, ws, rfl, hU, iv, l1, l50, hn, q⟩ := h
  refine ⟨_, PSs.nox ((pss_cons (ps_set (i := 2) sc_law_near.nd rfl (by first | exact Or.inl rfl | exact Or.inr rfl) (pe_call G_law_ball (hr.mono (by omega)) rfl T.g_law_ball T.k_law_ball T.B_law_ball .nil pass0 (pa_cons (pv 0) (pa_cons (pe_callB (call_lenK (K := K) rfl) rfl T.b_len bb_len (pa_cons (pv 1) pa_nil)) pa_nil))))
  (pss_cons (ps_set (i := 3) sc_law_near.nd rfl (by first | exact Or.inl rfl | exact Or.inr rfl) (pe_lst (pa_cons pe_int (pa_cons pe_bl (pa_cons pe_non (pa_cons pe_str (pa_cons pe_str (pa_cons pe_str (pa_cons (pe_tup (pa_cons pe_str (pa_cons pe_int pa_nil))) (pa_cons pe_str pa_nil))))))))))
  (pss_cons (ps_set (i := 4) sc_law_near.nd rfl (by first | exact Or.inl rfl | exact Or.inr rfl) (pe_ix (ix_seqK (K := K) rfl) (pv 3) (pe_call G_law_ball (hr.mono (by omega)) rfl T.g_law_ball T.k_law_ball T.B_law_ball .nil pass0 (pa_cons (pv 0) (pa_cons pe_int pa_nil))) (fun _ _ => rfl)))
  (pss_cons (ps_set (i := 5) sc_law_near.nd rfl (by first | exact Or.inl rfl | exact Or.inr rfl) (pe_lst (pa_cons (pe_op (op_addK (K := K) rfl) (pe_op (op_addK (K := K) rfl) (pe_slice (sl_tupK (K := K) rfl) (pv 1) po_none (po_some (pv 2))) (pe_tup (pa_cons (pv 4) pa_nil))) (pe_slice (sl_tupK (K := K) rfl) (pv 1) (po_some (pe_op (op_addK (K := K) rfl) (pv 2) pe_int)) po_none)) (pa_cons (pe_op (op_addK (K := K) rfl) (pe_slice (sl_tupK (K := K) rfl) (pv 1) po_none (po_some (pv 2))) (pe_slice (sl_tupK (K := K) rfl) (pv 1) (po_some (pe_op (op_addK (K := K) rfl) (pv 2) pe_int)) po_none)) (pa_cons (pe_op (op_addK (K := K) rfl) (pe_op (op_addK (K := K) rfl) (pe_slice (sl_tupK (K := K) rfl) (pv 1) po_none (po_some (pv 2))) (pe_tup (pa_cons (pv 4) pa_nil))) (pe_slice (sl_tupK (K := K) rfl) (pv 1) (po_some (pv 2)) po_none)) pa_nil)))))
  (pss_one (ps_ret (pe_ix (ix_seqK (K := K) rfl) (pe_op (op_addK (K := K) rfl) (pv 5) (pe_lst (pa_cons (pe_callTy (call_list_ofK (K := K) rfl) rfl T.b_list bb_list (pa_cons (pv 1) pa_nil)) (pa_cons (pe_op (op_addK (K := K) rfl) (pv 1) (pe_tup (pa_cons pe_int pa_nil))) (pa_cons pe_non (pa_cons pe_int (pa_cons (pe_revT (pv 1)) pa_nil))))))) (pe_call G_law_ball (hr.mono (by omega)) rfl T.g_law_ball T.k_law_ball T.B_law_ball .nil pass0 (pa_cons (pv 0) (pa_cons pe_int pa_nil))) (fun _ _ => rfl))))))))), ?_⟩
  have hl : (ws.map Wd.d).length = ws.length := List.length_map _
  refine sq_set (te_ball (many := ((ws.length : Nat) : Int)) rfl hU ((ed_len (ed_var rfl iv)).to (by rw [hl])) (by omega) (by omega) (by omega) fun i H1 i0 i1 k1 t1 U1 => ?_)
  obtain ⟨j, rfl⟩ : ∃ j : Nat, i = (j : Int) := ⟨i.toNat, by omega⟩
  have iv1 := iv.mono t1
  refine sq_set (El.at (K := K) (ds := SW.map Wd.d) (el_lst (ea_cons ed_int (ea_cons ed_bl (ea_cons ed_non (ea_cons ed_str (ea_cons ed_str (ea_cons ed_str (ea_cons (ed_tup (ea_cons ed_str (ea_cons ed_int ea_nil))) (ea_cons ed_str ea_nil))))))))) fun ps vs H2 hps e2 h2 i2 => ?_)
  have U2 := U1.ex e2
  have nps := U1.fresh hps
  have hvl : vs.length = 8 := i2.length
  refine sq_set (te_op ⟨_, rfl, te_ball (many := 8) rfl U2 ed_int (by decide) (by decide) (by omega) fun i H3 i0' i8 k3 t3 U3 => ?_⟩)
  obtain ⟨g, rfl⟩ : ∃ g : Nat, i = (g : Int) := ⟨i.toNat, by omega⟩
  have hg : g < vs.length := by omega
  obtain ⟨d, hd, ivw⟩ := i2.getV (List.getElem?_eq_getElem hg)
  rw [List.getElem?_map] at hd
  obtain ⟨wd, hwd, rfl⟩ := Option.map_eq_some_iff.mp hd
  refine .inl ⟨ps, vs, (g : Int), vs[g], rfl, rfl, Evl.sq_of (k3 _ _ nps h2), atI_nat (List.getElem?_eq_getElem hg), ?_⟩
  have iw3 := ivw.mono t3
  have iv3 := (iv1.ex e2).mono t3
  generalize vs[g] = vw at iw3
  have k03 : Kp [u, uc] H H3 := ((k1.ex e2)).trans k3
  have t03 : Tk H H3 := (t1.trans (Tk.ex e2)).trans t3
  have sTo : ∀ {σ : L2.St} {H4 : Hp}, Ex H3 H4 → σ[1]? = some (some v) → σ[2]? = some (some (.int ((j : Nat) : Int))) → Ed K (L2.tSl (rSlA K) (tVar 1) tNoPart (tPart (tVar 2))) σ H4 (.tuple ((ws.take j).map Wd.d)) := fun e h1 h2 => (ed_sl (ed_var h1 (iv3.ex e)) eo_none (eo_some (K := K) (ed_var h2 (.int _)))).to (by rw [cutD_to, List.map_take])
  have sFrom : ∀ {σ : L2.St} {H4 : Hp}, Ex H3 H4 → σ[1]? = some (some v) → σ[2]? = some (some (.int ((j : Nat) : Int))) → Ed K (L2.tSl (rSlA K) (tVar 1) (tPart (tVar 2)) tNoPart) σ H4 (.tuple ((ws.drop j).map Wd.d)) := fun e h1 h2 => (ed_sl (ed_var h1 (iv3.ex e)) (eo_some (K := K) (ed_var h2 (.int _))) eo_none).to (by rw [cutD_from, List.map_drop])
  have sFrom1 : ∀ {σ : L2.St} {H4 : Hp}, Ex H3 H4 → σ[1]? = some (some v) → σ[2]? = some (some (.int ((j : Nat) : Int))) → Ed K (L2.tSl (rSlA K) (tVar 1) (tPart (tOp (rAddA K) (tVar 2) (tC (.int 1)))) tNoPart) σ H4 (.tuple ((ws.drop (j + 1)).map Wd.d)) := fun e h1 h2 => (ed_sl (lo := some (((j + 1 : Nat)) : Int)) (ed_var h1 (iv3.ex e)) (eo_some (K := K) ((ed_op (ed_var h2 (.int _)) ed_int rd_addi).to (by congr 1))) eo_none).to (by rw [cutD_from, List.map_drop])
  have one : ∀ {σ : L2.St} {H4 : Hp}, Ex H3 H4 → σ[4]? = some (some vw) → Ed K (tTup (tCons (tVar 4) tNil)) σ H4 (.tuple ([wd].map Wd.d)) := fun e h => ed_tup (ea_cons (ed_var h (iw3.ex e)) ea_nil)
  have add : ∀ {σ : L2.St} {H4 : Hp} {ta tb : TE} {xs ys : List Wd}, Ed K ta σ H4 (.tuple (xs.map Wd.d)) → Ed K tb σ H4 (.tuple (ys.map Wd.d)) → xs.length ≤ 1000 → ys.length ≤ 1000 → Ed K (tOp (rAddA K) ta tb) σ H4 (.tuple ((xs ++ ys).map Wd.d)) := fun a b l1 l2 => (ed_op a b (rd_addt (by rw [List.length_map, List.length_map]; omega))).to (by rw [List.map_append])
  have lt : (ws.take j).length ≤ 50 := Nat.le_trans (List.length_take_le ..) (by omega)
  have lt' : (ws.take j).length ≤ 50 := by rw [List.length_take]; omega
  have ld : ∀ i, (ws.drop i).length ≤ 50 := fun i => by rw [List.length_drop]; omega
  have ld0 := ld j
  have ld1 := ld (j + 1)
  refine sq_set (El.at (K := K) (ds := [.tuple ((ws.take j ++ [wd] ++ ws.drop (j + 1)).map Wd.d), .tuple ((ws.take j ++ ws.drop (j + 1)).map Wd.d), .tuple ((ws.take j ++ [wd] ++ ws.drop j).map Wd.d)]) (el_lst (ea_cons (add (add (sTo (Ex.refl _) rfl rfl) (one (Ex.refl _) rfl) (by omega) (by simp)) (sFrom1 (Ex.refl _) rfl rfl) (by simp only [List.length_append, List.length_cons, List.length_nil]; omega) (by omega)) (ea_cons (add (sTo (Ex.refl _) rfl rfl) (sFrom1 (Ex.refl _) rfl rfl) (by omega) (by omega)) (ea_cons (add (add (sTo (Ex.refl _) rfl rfl) (one (Ex.refl _) rfl) (by omega) (by simp)) (sFrom (Ex.refl _) rfl rfl) (by simp only [List.length_append, List.length_cons, List.length_nil]; omega) (by omega)) ea_nil)))) fun pf vf H4 hpf e4 h4 i4 => ?_)
  have U4 := U3.ex e4
  have iv4 := iv3.ex e4
  have npf := U3.fresh hpf
  refine st_ret (te_op (te_op ⟨_, rfl, ?_⟩))
  refine El.cn (el_listT (ed_var rfl iv4)) fun ql vl H5 hql e5 h5 i5 => ?_
  refine Ed.cn (K := K) (add (xs := ws) (ys := [.int 0]) (ed_var rfl (iv4.ex e5)) (ed_tup (ea_cons ed_int ea_nil)) (by omega) (by simp)) fun v6 H6 e6 i6 => ?_
  refine te_cons (te_c (te_cons (te_c (te_cons ⟨_, rfl, ?_⟩))))
  have iv6 := (iv4.ex e5).ex e6
  obtain ⟨ar, vr, rfl, har, ir⟩ := iv6.tup_of
  refine ⟨ar, vr, rfl, har, fun pr hpr => ⟨by show 5 ≤ sizeLine; decide, fun p5 hp5 => ?_⟩⟩
  have e7 : Ex H6 (upd H6 pr (.tup vr.reverse)) := Ex.new hpr
  have i7 : Im K (upd H6 pr (.tup vr.reverse)) (.ref pr) (.tuple (ws.reverse.map Wd.d)) := by
    rw [List.map_reverse]
    exact .tup (Evl.st_of (upd_same ..)) ((ir.rev).ex e7)
  generalize upd H6 pr (.tup vr.reverse) = H7 at e7 i7 hp5
  have e8 : Ex H7 (upd H7 p5 (.lst [.ref ql, v6, .non, .int 5, .ref pr])) := Ex.new hp5
  have h8 : upd H7 p5 (.lst [.ref ql, v6, .non, .int 5, .ref pr]) p5 = some (.lst [.ref ql, v6, .non, .int 5, .ref pr]) := upd_same ..
  generalize upd H7 p5 (.lst [.ref ql, v6, .non, .int 5, .ref pr]) = H8 at e8 h8
  have e48 := ((e5.trans e6).trans e7).trans e8
  have hvf : vf.length = 3 := i4.length
  refine add_l (e48 _ _ h4) h8 (by rw [hvf]; exact Evl.sz_of (by show 3 + 5 ≤ 100000; decide)) fun p9 hp9 => ?_
  have e9 : Ex H8 (upd H8 p9 (.lst (vf ++ [.ref ql, v6, .non, .int 5, .ref pr]))) := Ex.new hp9
  have h9 : upd H8 p9 (.lst (vf ++ [.ref ql, v6, .non, .int 5, .ref pr])) p9 = some (.lst (vf ++ [.ref ql, v6, .non, .int 5, .ref pr])) := upd_same ..
  generalize upd H8 p9 (.lst (vf ++ [.ref ql, v6, .non, .int 5, .ref pr])) = H9 at e9 h9
  have e49 := e48.trans e9
  have n9 := (U4.ex e48).fresh hp9
  have nql := U4.fresh hql
  have all : ∀ x ∈ vf ++ [.ref ql, v6, .non, .int 5, .ref pr], NearV K [u, uc] H9 x := fun x hx => by
    rcases List.mem_append.mp hx with hx | hx
    · obtain ⟨y0, _, rfl, k0, i4⟩ := i4.cons_of
      obtain ⟨y1, _, rfl, k1, i4⟩ := i4.cons_of
      obtain ⟨y2, _, rfl, k2, i4⟩ := i4.cons_of
      obtain rfl := i4.nil_of
      simp only [List.mem_cons, List.not_mem_nil, or_false] at hx
      rcases hx with rfl | rfl | rfl
      · exact .inl ⟨_, k0.ex e49, by simp only [List.length_append, List.length_cons, List.length_nil]; omega⟩
      · exact .inl ⟨_, k1.ex e49, by simp only [List.length_append]; omega⟩
      · exact .inl ⟨_, k2.ex e49, by simp only [List.length_append, List.length_cons, List.length_nil]; omega⟩
    · simp only [List.mem_cons, List.not_mem_nil, or_false] at hx
      have e69 := (e7.trans e8).trans e9
      rcases hx with rfl | rfl | rfl | rfl | rfl
      · exact .inr (.inl ⟨ql, vl, rfl, (e6.trans e69) _ _ h5, nql⟩)
      · exact .inl ⟨_, i6.ex e69, by simp only [List.length_append, List.length_cons, List.length_nil]; omega⟩
      · exact .inr (.inr ⟨.none, .non, rfl⟩)
      · exact .inr (.inr ⟨.int 5, .int 5, rfl⟩)
      · exact .inl ⟨_, i7.ex (e8.trans e9), by rw [List.length_reverse]; omega⟩
  have hal : (vf ++ [V.ref ql, v6, .non, .int 5, .ref pr]).length = 8 := by rw [List.length_append, hvf]; rfl
  refine te_ball (many := 8) rfl (U4.ex e49) ed_int (by decide) (by decide) (by omega) fun i H10 i0 i8 k10 t10 U10 => ?_
  obtain ⟨x, rfl⟩ : ∃ x : Nat, i = (x : Int) := ⟨i.toNat, by omega⟩
  have hx : x < (vf ++ [V.ref ql, v6, .non, .int 5, .ref pr]).length := by omega
  refine .inl ⟨p9, _, (x : Int), (vf ++ [V.ref ql, v6, .non, .int 5, .ref pr])[x], rfl, rfl, Evl.sq_of (k10 _ _ n9 h9), atI_nat (List.getElem?_eq_getElem hx), ?_⟩
  exact q _ H10 ((k03.ex (e4.trans e49)).trans k10) ((t03.trans (Tk.ex (e4.trans e49))).trans t10) (U10.le (by omega)) ((all _ (List.getElem_mem hx)).kp k10 t10)
end
end K55
/-! the law -/
namespace K55
open PySem PySem.Spec PyProof.Rows L2 W5 M5
open Evl (Ex Ev)
def gRev {α : Type} (us ws : List α) : List α := match us with
  | [] => ws.reverse
  | _ => []
section
variable {P : Program} {w : World} {K : PySem.W.Frag} {mg : Str → Option Value} {base : Heap}
theorem Tx.KB_is_of (T : Tx K mg) : KBinds K (fdOf K d_is_of) ["program", "closed", "thing"] ["thing", "closed", "program"] gRev gRev := by
  have F := T.F_is_of
  obtain ⟨oc, od, dV, kV, doc, pm, an, cdv, ct, osl, e, lk, hcd, hD, hK⟩ := F.ex
  refine ⟨fun s us ws X hl => ?_, fun r rz => ?_⟩
  · rw [e]
    rcases hD with ⟨_, rfl⟩ | ⟨e', _⟩
    · cases us with
      | cons _ _ => exact absurd hl (by simp [gRev])
      | nil =>
        have hl' : ws.length = 3 := by simpa [gRev] using hl
        match ws, hl' with
        | [a, b, c], _ => exact BindsTo.of_eq rfl
    · exact absurd rfl e'
  · cases r with
    | nil => exact rz.reverse
    | cons _ _ => exact .nil
theorem st_forI {σ : L2.St} {H : Hp} {ta : TA} {g : TG} {tb : TS} {D : Ends} (h : ta σ H fun vs H1 => ∃ j : Int, vs = [.int j] ∧ -(2 ^ 62) ≤ j ∧ j < 2 ^ 62 ∧ tFor (fun _ H1 R => R (Itr 0 j.toNat) H1) g tb D σ H1) : tFor (iRng1 ta) g tb D σ H := h
theorem st_forLs {σ : L2.St} {H : Hp} {te : TE} {g : TG} {tb : TS} {D : Ends} (h : te σ H fun x H1 => ∃ a, x = .ref a ∧ (∃ xs, SqL K H1 a xs) ∧ tFor (fun _ H2 R => R (Itl K a) H2) g tb D σ H1) : tFor (iList K te) g tb D σ H := h
def pairD : PyData → PyData
  | .tuple [a, b, _] => .tuple [a, b]
  | d => d
theorem NearV.lst {S : List Addr} {H : Hp} {v : V} {D : Addr} {xs ys : List V} (h : NearV K S H v) (hD : H D = some (.lst xs)) (nD : D ∉ S) : NearV K S (upd H D (.lst ys)) v := by
  have t : Tk H (upd H D (.lst ys)) := Tk.upd (no_lst hD)
  rcases h with ⟨ws, i, l⟩ | ⟨q, xs', rfl, h1, h2⟩ | ⟨d, i, h⟩
  · exact .inl ⟨ws, i.mono t, l⟩
  · by_cases e : q = D
    · subst e
      exact .inr (.inl ⟨q, _, rfl, upd_same .., h2⟩)
    · exact .inr (.inl ⟨q, xs', rfl, by rw [upd_ne e]; exact h1, h2⟩)
  · exact .inr (.inr ⟨d, i.mono t, h⟩)
theorem NearV.both {S : List Addr} {H : Hp} {v : V} {ks : List Knd} {t : M5.Ty} (hP : PgOk ks) (h : NearV K S H v) : ∃ r, ∀ H', Ex H H' → ThRes K [] H' ks t v r ∧ ThLaw K H' ks t v r := by
  rcases h with ⟨ws, i, l⟩ | ⟨q, xs, rfl, h1, h2⟩ | ⟨d, i, h⟩
  · exact ⟨awB ks ws && hasT ks ws [t], fun H' e => ⟨.inl ⟨ws, i.ex e, by omega, rfl⟩, .inl ⟨ws, i.ex e, by omega, (lawT_of hP ws t).symm⟩⟩⟩
  · exact ⟨false, fun H' e => ⟨.inr (.inl ⟨q, xs, rfl, e _ _ h1, (by simp), rfl⟩), .inr (.inl ⟨q, xs, rfl, e _ _ h1, rfl⟩)⟩⟩
  · exact ⟨false, fun H' e => ⟨.inr (.inr ⟨d, i.ex e, h, rfl⟩), .inr (.inr ⟨d, i.ex e, h, rfl⟩)⟩⟩
def Slaw (K : PySem.W.Frag) : Sp := fun vs H Q E => ∃ (a : Addr) (cells : List Int), vs = [.ref a] ∧ SqL K H a (cells.map V.int) ∧ cells.length ≤ 63 ∧ ∀ H2, Q (.bl true) H2
theorem ok_law (T : Tx K mg) : Ok P w K mg base 163 d_law ["script"] (Slaw K) := by
  have G_law_urn := ok_law_urn (P := P) (w := w) (base := base) T
  have G_law_program := ok_law_program (P := P) (w := w) (base := base) T
  have G_check := ok_check (P := P) (w := w) (base := base) T
  have G_law_type := ok_law_type (P := P) (w := w) (base := base) T 4
  have G_law_ball := ok_law_ball (P := P) (w := w) (base := base) T
  have G_law_plain := ok_law_plain (P := P) (w := w) (base := base) T
  have G_law_like := ok_law_like (P := P) (w := w) (base := base) T
  have G_is_plain := ok_is_plain (P := P) (w := w) (base := base) T
  have G_is_of := ok_is_of (P := P) (w := w) (base := base) T
  have G_law_words := ok_law_words (P := P) (w := w) (base := base) T 4
  have G_law_near := ok_law_near (P := P) (w := w) (base := base) T
  have G_law_is_of := ok_law_is_of (P := P) (w := w) (base := base) T
  refine (T.F_law).ok sc_law (fun vs H Q E ⟨a, cells, e, _⟩ => by rw [e]; rfl) (fun cdv A outer s H vs Q E hr h => ?_)
  obtain ⟨a, cells, rfl, ha, hc63, q⟩ := h
  refine ⟨_, PSs.nox ((pss_cons (ps_set (i := 1) sc_law.nd rfl (by first | exact Or.inl rfl | exact Or.inr rfl) (pe_call G_law_urn (hr.mono (by omega)) rfl T.g_law_urn T.k_law_urn T.B_law_urn .nil pass0 (pa_cons (pv 0) pa_nil)))
  (pss_cons (ps_for PassesOwn.never rfl (pi_range1 (by rfl) T.b_range (pa_cons (pe_op (op_addK (K := K) rfl) pe_int (pe_callB (call_min2 rfl) rfl T.b_min bb_min (pa_cons (pe_callB (call_lenK (K := K) rfl) rfl T.b_len bb_len (pa_cons (pv 0) pa_nil)) (pa_cons pe_int pa_nil)))) pa_nil)) (pg_name (i := 2) sc_law.nd rfl (by first | exact Or.inl rfl | exact Or.inr rfl)) (pss_cons (ps_set (i := 3) sc_law.nd rfl (by first | exact Or.inl rfl | exact Or.inr rfl) (pe_call G_law_program (hr.mono (by omega)) rfl T.g_law_program T.k_law_program T.B_law_program .nil pass0 (pa_cons (pv 1) pa_nil)))
  (pss_cons (ps_if (pt_cmpR op_isnA (pe_call G_check (hr.mono (by omega)) rfl T.g_check T.k_check T.B_check .nil pass0 (pa_cons (pv 3) pa_nil)) pe_non (nomark _)) (pss_one (ps_ret pe_bl)) pss_nil)
  (pss_cons (ps_setLc (i := 4) (own := [("name", 10), ("many", 11), ("makers", 12)]) (by rfl) sc_law.nd rfl rfl (sw_true rfl rfl rfl (by decide +kernel)) (pi_tupK (K := K) rfl (pe_ix (ix_seqK (K := K) rfl) (pv 3) pe_int (fun _ _ => rfl))) (blkOk_by (own := [("name", 10), ("many", 11), ("makers", 12)]) (N := ["script", "urn", "turn", "program", "pairs", "k", "thing", "plain", "words", "one", "name", "many", "makers", "bend"]) (sc := defScope s_law) (by decide +kernel)) (fun _ _ _ _ _ => pg_tupK (K := K) (n := 3) rfl rfl (pgs_cons (pg_name (i := 10) sc_law.nd rfl (by first | exact Or.inl rfl | exact Or.inr rfl)) (pgs_cons (pg_name (i := 11) sc_law.nd rfl (by first | exact Or.inl rfl | exact Or.inr rfl)) (pgs_cons (pg_name (i := 12) sc_law.nd rfl (by first | exact Or.inl rfl | exact Or.inr rfl)) pgs_nil)))) (fun _ _ _ _ _ => pts_nil) (fun _ _ _ _ _ => (pe_tup (pa_cons (pv 10) (pa_cons (pv 11) pa_nil)))))
  (pss_one (ps_for PassesOwn.never rfl (pi_range1 (by rfl) T.b_range (pa_cons pe_int pa_nil)) (pg_name (i := 5) sc_law.nd rfl (by first | exact Or.inl rfl | exact Or.inr rfl)) (pss_cons (ps_set (i := 6) sc_law.nd rfl (by first | exact Or.inl rfl | exact Or.inr rfl) (pe_call G_law_type (hr.mono (by omega)) rfl T.g_law_type T.k_law_type T.B_law_type .nil pass0 (pa_cons (pv 1) (pa_cons (pv 4) (pa_cons pe_int (pa_cons (pe_call G_law_ball (hr.mono (by omega)) rfl T.g_law_ball T.k_law_ball T.B_law_ball .nil pass0 (pa_cons (pv 1) (pa_cons pe_int pa_nil))) pa_nil))))))
  (pss_cons (ps_set (i := 7) sc_law.nd rfl (by first | exact Or.inl rfl | exact Or.inr rfl) (pe_call G_law_plain (hr.mono (by omega)) rfl T.g_law_plain T.k_law_plain T.B_law_plain .nil pass0 (pa_cons (pv 3) (pa_cons (pv 6) pa_nil))))
  (pss_cons (ps_if (pt_cmpR op_isA (pv 7) pe_non (nomark _)) (pss_one ps_continue) pss_nil)
  (pss_cons (ps_if (pt_not (pt_val (pe_call G_law_like (hr.mono (by omega)) rfl T.g_law_like T.k_law_like T.B_law_like .nil pass0 (pa_cons (pe_call G_is_plain (hr.mono (by omega)) rfl T.g_is_plain T.k_is_plain T.B_is_plain .nil pass0 (pa_cons (pv 3) (pa_cons (pv 6) pa_nil))) (pa_cons (pv 7) pa_nil))))) (pss_one (ps_ret pe_bl)) pss_nil)
  (pss_cons (ps_if (pt_not (pt_val (pv 7))) (pss_cons (ps_if (PW.pt (pw_or (pt_cmpR op_isnA (pe_call G_is_of (hr.mono (by omega)) rfl T.g_is_of T.k_is_of T.B_is_of .nil pass0 (pa_cons (pv 3) (pa_cons (pv 6) (pa_cons (pe_tup (pa_cons pe_int pa_nil)) pa_nil)))) pe_bl (nomark _)) (pw_or1 (pt_cmpR op_isnA (pe_call G_is_of (hr.mono (by omega)) rfl T.g_is_of T.k_is_of T.B_is_of .nil pass0 (pa_cons (pv 3) (pa_cons (pv 6) (pa_cons pe_non pa_nil)))) pe_bl (nomark _))))) (pss_one (ps_ret pe_bl)) pss_nil)
  (pss_one ps_continue)) pss_nil)
  (pss_cons (ps_set (i := 8) sc_law.nd rfl (by first | exact Or.inl rfl | exact Or.inr rfl) (pe_call G_law_words (hr.mono (by omega)) rfl T.g_law_words T.k_law_words T.B_law_words .nil pass0 (pa_cons (pv 1) (pa_cons (pv 3) (pa_cons (pv 6) (pa_cons pe_int pa_nil))))))
  (pss_cons (ps_if (pt_cmpR op_gt (pe_callB (call_lenK (K := K) rfl) rfl T.b_len bb_len (pa_cons (pv 8) pa_nil)) pe_int (nomark _)) (pss_one ps_continue) pss_nil)
  (pss_one (ps_for PassesOwn.never rfl (pi_listK (K := K) rfl (pe_op (op_addK (K := K) rfl) (pe_lst (pa_cons (pv 8) pa_nil)) (pe_lc (own := [("bend", 13)]) (by rfl) sc_law.nd (pi_range1 (by rfl) T.b_range (pa_cons pe_int pa_nil)) (blkOk_by (own := [("bend", 13)]) (N := ["script", "urn", "turn", "program", "pairs", "k", "thing", "plain", "words", "one", "name", "many", "makers", "bend"]) (sc := defScope s_law) (by decide +kernel)) (fun _ _ _ _ _ => pg_name (i := 13) sc_law.nd rfl (by first | exact Or.inl rfl | exact Or.inr rfl)) (fun _ _ _ _ _ => pts_nil) (fun _ _ _ _ _ => (pe_call G_law_near (hr.mono (by omega)) rfl T.g_law_near T.k_law_near T.B_law_near .nil pass0 (pa_cons (pv 1) (pa_cons (pv 8) pa_nil))))))) (pg_name (i := 9) sc_law.nd rfl (by first | exact Or.inl rfl | exact Or.inr rfl)) (pss_one (ps_if (pt_not (pt_val (pe_call G_law_like (hr.mono (by omega)) rfl T.g_law_like T.k_law_like T.B_law_like .nil pass0 (pa_cons (pe_callK0 G_is_of (hr.mono (by omega)) (by rfl) T.g_is_of T.k_is_of (Tx.KB_is_of T) pass0 (pk_cons (pv 9) (pk_cons (pv 6) (pk_cons (pv 3) pk_nil)))) (pa_cons (pe_call G_law_is_of (hr.mono (by omega)) rfl T.g_law_is_of T.k_law_is_of T.B_law_is_of .nil pass0 (pa_cons (pv 3) (pa_cons (pv 6) (pa_cons (pv 9) pa_nil)))) pa_nil))))) (pss_one (ps_ret pe_bl)) pss_nil)))))))))))))))))
  (pss_one (ps_ret pe_bl))))), ?_⟩
  refine sq_set ⟨_, rfl, a, cells, rfl, ha, fun u uc H1 e1 hu huc U1 => ?_⟩
  have ha1 := Evl.ex_l e1 ha
  refine sq_forI (te_cons (te_op (te_c ((ed_lenL (es_var rfl ha1 (im_intsZ cells))).cn fun v2 H2 e2 i2 => te_cons (te_c ?_)))))
  obtain rfl := i2.int_of
  refine ⟨_, _, rfl, add_i ⟨_, rfl, ?_⟩⟩
  have U2 := U1.ex e2
  have hcl : (cells.map PyData.int).length = cells.length := List.length_map _
  rw [hcl]
  obtain ⟨N, hN, hN9⟩ : ∃ N : Nat, (3 + (if (6 : Int) < ((cells.length : Nat) : Int) then 6 else ((cells.length : Nat) : Int))) = (N : Int) ∧ N ≤ 9 := by
    by_cases h : (6 : Int) < ((cells.length : Nat) : Int)
    · exact ⟨9, by rw [if_pos h]; rfl, Nat.le_refl _⟩
    · exact ⟨3 + cells.length, by rw [if_neg h]; omega, by omega⟩
  rw [hN]
  refine ⟨by omega, by omega, ?_⟩
  have hto : ((N : Int)).toNat = N := Int.toNat_natCast _
  refine for_range (lo := 0) (n := ((N : Int)).toNat) (fun i σ' H' => ∃ (o2 o3 o4 o5 o6 o7 o8 o9 o10 o11 o12 o13 : Option V), σ' = [some (.ref a), some (.ref u), o2, o3, o4, o5, o6, o7, o8, o9, o10, o11, o12, o13] ∧ UrnAt H' u uc (i * 720)) ⟨_, _, _, _, _, _, _, _, _, _, _, _, rfl, U2.le (by omega)⟩ ?_ ?_
  rotate_left
  · rintro σ' H' ⟨o2, o3, o4, o5, o6, o7, o8, o9, o10, o11, o12, o13, rfl, _⟩
    exact q H'
  clear hr U2 U1 ha1 e1 e2 ha
  rintro i σ' H1 hi ⟨o2, o3, o4, o5, o6, o7, o8, o9, o10, o11, o12, o13, rfl, U1⟩
  have hi9 : i < 9 := by omega
  refine gd_name _ ?_
  refine sq_set ⟨_, rfl, u, uc, _, rfl, U1, by omega, fun vp ks H2 k2 t2 U2 ip hP hPN => ?_⟩
  refine sq_if (b := false) (eb_t (K := K) (ed_op (ed_call (R := Rneed) (ea_cons (ed_var rfl ip) ea_nil) ⟨ks, hP, rfl, rfl⟩) ed_non rd_isnN)) (fun z => by cases z) fun _ H3 e3 => ?_
  have U3 := U2.ex e3
  have ip3 := ip.ex e3
  have hkl := hP.len
  refine sq_set (El.at (K := K) (ds := (ksOf ks).map kD) ((el_lc (p := fun _ => true) (f := pairD) (ed_op (ed_var rfl ip3) ed_int (rd_ix (i := 0) (d := .tuple (ks.map knD)) rfl)) (by rw [List.length_map]; omega) fun j x v H4 hx e4 i4 => ?_).to ?_) fun pl vpl H4 hpl e4 h4 i4 => ?_)
  · rw [List.getElem?_map] at hx
    obtain ⟨y, hy, rfl⟩ := Option.map_eq_some_iff.mp hx
    obtain ⟨a2, ws2, rfl, ha2, iw2⟩ := i4.tup_of
    obtain ⟨x0, _, rfl, j0, iw2⟩ := iw2.cons_of
    obtain ⟨x1, _, rfl, j1, iw2⟩ := iw2.cons_of
    obtain ⟨x2, _, rfl, j2, iw2⟩ := iw2.cons_of
    obtain rfl := iw2.nil_of
    exact ⟨_, gd_three ha2, rfl, eb_yes, fun _ => ed_tup (ds := [.str y.1, .int ((y.2.1 : Nat) : Int)]) (ea_cons (ed_var rfl j0) (ea_cons (ed_var rfl j1) ea_nil))⟩
  · rw [List.filter_eq_self.mpr (fun _ _ => rfl), List.map_map, ksOf, List.map_map]
    rfl
  have U4 := U3.ex e4
  have ip4 := ip3.ex e4
  have npl := U3.fresh hpl
  have hks5 : (ksOf ks).length ≤ 5 := by rw [ksOf, List.length_map]; exact hkl
  refine st_forI (te_cons (te_c ⟨3, rfl, by decide, by decide, ?_⟩))
  refine for_range (lo := 0) (n := (3 : Int).toNat) (fun j σ' H' => ∃ (o2 o5 o6 o7 o8 o9 o10 o11 o12 o13 : Option V), σ' = [some (.ref a), some (.ref u), o2, some vp, some (.ref pl), o5, o6, o7, o8, o9, o10, o11, o12, o13] ∧ UrnAt H' u uc (i * 720 + 471 + j * 83) ∧ Im K H' vp (pD ks) ∧ H' pl = some (.lst vpl) ∧ ImAll K H' vpl ((ksOf ks).map kD)) ⟨_, _, _, _, _, _, _, _, _, _, rfl, U4.le (by omega), ip4, h4, i4⟩ ?_ ?_
  rotate_left
  · rintro σ' H' ⟨o2, o5, o6, o7, o8, o9, o10, o11, o12, o13, rfl, U', _⟩
    have h3 : (3 : Int).toNat = 3 := rfl
    rw [h3] at U'
    exact ⟨_, _, _, _, _, _, _, _, _, _, _, _, rfl, U'.le (by omega)⟩
  clear U1 U2 U3 U4 ip ip3 ip4 e3 e4 k2 t2 h4 i4 hpl H1 H2 H3 H4 o2 o3 o4 o5 o6 o7 o8 o9 o10 o11 o12 o13
  rintro j σ' H1 hj ⟨o2, o5, o6, o7, o8, o9, o10, o11, o12, o13, rfl, U1, ip1, h1, i1⟩
  have hj3 : j < 3 := hj
  have hb4 : bal 4 = 30 := rfl
  have hw4 : wb 4 = 40 := rfl
  refine gd_name _ ?_
  refine sq_set ⟨_, rfl, _, rfl, te_cons (te_c (te_cons ⟨_, rfl, te_cons (te_c ⟨u, uc, _, 4, rfl, U1, by decide, by decide, by omega, fun d H2 d0 d4 k2 t2 U2 => ?_⟩)⟩))⟩
  obtain ⟨d, rfl⟩ : ∃ e : Nat, d = (e : Int) := ⟨d.toNat, by omega⟩
  refine ⟨u, uc, _, pl, vpl, ksOf ks, 0, d, rfl, U2, k2 _ _ npl h1, i1.mono t2, hP.g.ok, hks5, npl, by decide, by omega, by omega, fun vt t H3 k3 t3 U3 it hw hdp hsz => ?_⟩
  have h3 := k3 _ _ npl (k2 _ _ npl h1)
  have i3 := (i1.mono t2).mono t3
  have ip3 := (ip1.mono t2).mono t3
  have h16 : 2 ^ 4 = 16 := rfl
  rw [h16] at hsz
  have fin : ∀ {H' : Hp} {o2 o5 o6 o7 o8 o9 o10 o11 o12 o13 : Option V}, Ex H3 H' → ∃ (p2 p5 p6 p7 p8 p9 p10 p11 p12 p13 : Option V), [some (V.ref a), some (.ref u), o2, some vp, some (.ref pl), o5, o6, o7, o8, o9, o10, o11, o12, o13] = [some (.ref a), some (.ref u), p2, some vp, some (.ref pl), p5, p6, p7, p8, p9, p10, p11, p12, p13] ∧ UrnAt H' u uc (i * 720 + 471 + (j + 1) * 83) ∧ Im K H' vp (pD ks) ∧ H' pl = some (.lst vpl) ∧ ImAll K H' vpl ((ksOf ks).map kD) := fun {H' _ _ _ _ _ _ _ _ _ _} e => ⟨_, _, _, _, _, _, _, _, _, _, rfl, (U3.ex e).le (by omega), ip3.ex e, e _ _ h3, i3.ex e⟩
  refine sq_set ⟨_, rfl, _, rfl, vp, vt, ks, t, rfl, ip3, hP, hPN, it, hw, by omega, fun H4 e4 => ?_, fun b H4 e4 hlp => ?_⟩
  · refine sq_if (b := true) (eb_t (K := K) (ed_op (ed_var rfl .non) ed_non rd_isN)) (fun _ H5 e5 => ?_) fun z => by cases z
    exact fin (e4.trans e5)
  have ip4 := ip3.ex e4
  have it4 := it.ex e4
  refine sq_if (b := false) (eb_t (K := K) (ed_op (ed_var rfl (.bl b)) ed_non rd_isN)) (fun z => by cases z) fun _ H5 e5 => ?_
  have ip5 := ip4.ex e5
  have it5 := it4.ex e5
  refine sq_if (b := false) (eb_not (b := true) (eb_b (K := K) (ed_call (R := Rlike) (ds := [.bool b, .bool b]) (ea_cons (fun H6 e6 Q' q' => ⟨_, rfl, _, rfl, vp, vt, ks, t, rfl, hP, ip5.ex e6, it5.ex e6, hw, by omega, by omega, fun b' H7 e7 hip => ?_⟩) (ea_cons (ed_var rfl (.bl b)) ea_nil)) ⟨b, b, rfl, by simp⟩))) (fun z => by cases z) fun _ H6 e6 => ?_
  · rw [hlp.eq hip]
    exact q' _ H7 e7 (.bl b)
  have ip6 := ip5.ex e6
  have it6 := it5.ex e6
  have e36 := (e4.trans e5).trans e6
  cases b with
  | false =>
    refine sq_if (b := true) (eb_not (b := false) (eb_b (K := K) (ed_var rfl (.bl false)))) (fun _ H7 e7 => ?_) fun z => by cases z
    have ip7 := ip6.ex e7
    have it7 := it6.ex e7
    have no : ∀ {σ : L2.St} {tx : TE} {r : Bool} {dx : PyData}, σ[3]? = some (some vp) → σ[6]? = some (some vt) → Ed K tx σ H7 dx → (∀ H' v, Im K H' v dx → ThRes K [] H' ks t v r) → Ed K (tCall (SisOf K) [] E0 (tCons (tVar 3) (tCons (tVar 6) (tCons tx tNil)))) σ H7 (.bool false) := fun h3 h6 hx hth H8 e8 Q' q' => ⟨_, h3, _, h6, (hx.mono e8).cn fun v9 H9 e9 i9 => ⟨vp, vt, v9, ks, t, _, rfl, hP, (ip7.ex e8).ex e9, (it7.ex e8).ex e9, hw, by omega, by omega, hth H9 v9 i9, fun b' H10 e10 hip => by
      rw [hlp.eq hip]
      exact q' _ H10 (e9.trans e10) (.bl false)⟩⟩
    refine sq_if (b := false) (eb_or (b := false) (c := false) (eb_t (K := K) (ed_op (no rfl rfl (ed_tup (ds := [.int 0]) (ea_cons ed_int ea_nil)) fun H' v i => .inl ⟨[.int 0], i, by decide, rfl⟩) ed_bl rd_isnB)) fun _ => eb_t (K := K) (ed_op (no rfl rfl ed_non fun H' v i => .inr (.inr ⟨.none, i, rfl, rfl⟩)) ed_bl rd_isnB)) (fun z => by cases z) fun _ H8 e8 => ?_
    exact fin ((e36.trans e7).trans e8)
  | true =>
    refine sq_if (b := false) (eb_not (b := true) (eb_b (K := K) (ed_var rfl (.bl true)))) (fun z => by cases z) fun _ H7 e7 => ?_
    have e37 := e36.trans e7
    have U7 := U3.ex e37
    have ip7 := ip6.ex e7
    have it7 := it6.ex e7
    have hplain : Plain ks t := fun x hx => by
      rcases hlp with ⟨_, L, ht, _, hL⟩ | ⟨z, _⟩
      · exact (hL x (rch_in ht hL x hx)).1
      · cases z
    refine sq_set ⟨_, rfl, _, rfl, _, rfl, u, uc, _, vp, vt, ks, t, 3, rfl, U7, ip7, hP, hPN, it7, hw, hplain, by decide, by decide, by omega, fun v8 ws H8 k8 t8 U8 i8 l1 l40 => ?_⟩
    rw [hw4] at U8 l40
    have hwl : (ws.map Wd.d).length = ws.length := List.length_map _
    refine sq_if (b := false) ((eb_t (K := K) (ed_op (ed_len (ed_var rfl i8)) ed_int rd_cmp)).to (by rw [hwl]; exact decide_eq_false (by omega))) (fun z => by cases z) fun _ H9 e9 => ?_
    have U9 := U8.ex e9
    have i9 := i8.ex e9
    have ip9 := (ip7.mono t8).ex e9
    have it9 := (it7.mono t8).ex e9
    have h9 : H9 pl = some (.lst vpl) := e9 _ _ (k8 _ _ npl (e37 _ _ h3))
    have i9p := (((i3.ex e37).mono t8).ex e9)
    refine st_forLs (te_op (te_cons ⟨_, rfl, by show 1 ≤ sizeLine; decide, fun p1 hp1 => te_lcI (te_cons (te_c ⟨4, rfl, by decide, by decide, fun D hD => ?_⟩))⟩))
    have e10 : Ex H9 (upd H9 p1 (.lst [v8])) := Ex.new hp1
    have h10 : upd H9 p1 (.lst [v8]) p1 = some (.lst [v8]) := upd_same ..
    generalize upd H9 p1 (.lst [v8]) = H10 at e10 h10 hD
    have U10 := U9.ex e10
    have i10 := i9.ex e10
    have np1 := U9.fresh hp1
    have nD := U10.fresh hD
    have nD1 : D ≠ p1 := fun z => by rw [z, h10] at hD; cases hD
    have eD : Ex H10 (upd H10 D (.lst [])) := Ex.new hD
    refine lc_range (lo := 0) (n := (4 : Int).toNat) (fun g H' => ∃ acc : List V, Kp [u, uc] H10 H' ∧ Tk H10 H' ∧ UrnAt H' u uc (i * 720 + 471 + j * 83 + 1 + bal 4 + 40 + g * 3) ∧ H' D = some (.lst acc) ∧ (∀ x ∈ acc, NearV K [u, uc] H' x) ∧ acc.length = g) ⟨[], Kp.of eD, Tk.ex eD, (U10.ex eD).le (by omega), upd_same .., (fun x hx => nomatch hx), rfl⟩ ?_ ?_
    · rintro g H11 hg ⟨acc, k11, t11, U11, h11, n11, l11⟩
      have hg4 : g < 4 := hg
      refine ⟨rfl, te_yes (iteT ?_)⟩
      refine ⟨_, rfl, _, rfl, u, uc, _, v8, ws, rfl, U11, i10.mono t11, l1, by omega, by omega, fun v12 H12 k12 t12 U12 n12 => ?_⟩
      have h12 := k12 _ _ nD h11
      have tD : Tk H12 (upd H12 D (.lst (acc ++ [v12]))) := Tk.upd (no_lst h12)
      refine ⟨acc, h12, Evl.sz_lt (by omega), acc ++ [v12], (k11.trans k12).mutNew hD, (t11.trans t12).trans tD, (U12.upd nD).le (by omega), upd_same .., fun x hx => ?_, by rw [List.length_append, l11]; rfl⟩
      rcases List.mem_append.mp hx with hx | hx
      · exact ((n11 x hx).kp k12 t12).lst h12 nD
      · obtain rfl : x = v12 := by simpa using hx
        exact n12.lst h12 nD
    · rintro H11 ⟨acc, k11, t11, U11, h11, n11, l11⟩
      have h44 : (4 : Int).toNat = 4 := rfl
      rw [h44] at U11 l11
      refine add_l (k11 _ _ np1 h10) h11 (by rw [l11]; exact Evl.sz_of (by show 1 + 4 ≤ 100000; decide)) fun pr hpr => ⟨pr, rfl, ?_⟩
      have e12 : Ex H11 (upd H11 pr (.lst ([v8] ++ acc))) := Ex.new hpr
      have h12 : upd H11 pr (.lst ([v8] ++ acc)) pr = some (.lst ([v8] ++ acc)) := upd_same ..
      generalize upd H11 pr (.lst ([v8] ++ acc)) = H12 at e12 h12
      have U12 := U11.ex e12
      have t912 : Tk H9 H12 := (Tk.ex e10).trans (t11.trans (Tk.ex e12))
      have ip12 := ip9.mono t912
      have it12 := it9.mono t912
      have i12p := i9p.mono t912
      have h12p : H12 pl = some (.lst vpl) := e12 _ _ (k11 _ _ npl (e10 _ _ h9))
      have n12 : ∀ x ∈ [v8] ++ acc, NearV K [u, uc] H12 x := fun x hx => by
        rcases List.mem_append.mp hx with hx | hx
        · obtain rfl : x = v8 := by simpa using hx
          exact .inl ⟨ws, ((i10.mono t11).ex e12), by omega⟩
        · exact (n11 x hx).kp (Kp.of e12) (Tk.ex e12)
      refine ⟨⟨_, Evl.sq_of h12⟩, ?_⟩
      refine for_list (K := K) (a := pr) (xs := [v8] ++ acc) (fun g σ' H' => ∃ (o2 o5 o9 o10 o11 o12 o13 : Option V), σ' = [some (.ref a), some (.ref u), o2, some vp, some (.ref pl), o5, some vt, some (.bl true), some v8, o9, o10, o11, o12, o13] ∧ Ex H12 H') ⟨_, _, _, _, _, _, _, rfl, Ex.refl _⟩ ?_ ?_ ?_
      · rintro g σ' H' _ ⟨_, _, _, _, _, _, _, _, e⟩
        exact Evl.ex_l e (Evl.sq_of h12)
      · rintro g x σ' H13 hx ⟨o2, o5, o9, o10, o11, o12, o13, rfl, e13⟩
        refine gd_name _ ?_
        have nx := (n12 x (List.mem_of_getElem? hx)).kp (S := [u, uc]) (Kp.of e13) (Tk.ex e13)
        obtain ⟨r, hr⟩ := nx.both (t := t) hP
        have ip13 := ip12.ex e13
        have it13 := it12.ex e13
        refine st_els (b := false) (eb_not (b := true) (eb_b (K := K) (ed_call (R := Rlike) (ds := [.bool r, .bool r]) (ea_cons (fun H14 e14 Q' q' => ⟨_, rfl, _, rfl, _, rfl, vp, vt, x, ks, t, r, rfl, hP, ip13.ex e14, it13.ex e14, hw, by omega, by omega, (hr H14 e14).1, fun b' H15 e15 hip => ?_⟩) (ea_cons (fun H14 e14 Q' q' => ⟨_, rfl, _, rfl, _, rfl, vp, vt, x, ks, t, r, rfl, ip13.ex e14, hP, it13.ex e14, hw, hplain, (hr H14 e14).2, fun H15 e15 => q' _ H15 e15 (.bl r)⟩) ea_nil)) ⟨r, r, rfl, by simp⟩))) (fun z => by cases z) fun _ H14 e14 => ?_
        · rw [hlp.eq hip]
          exact q' _ H15 e15 (.bl r)
        · exact ⟨_, _, _, _, _, _, _, rfl, e13.trans e14⟩
      · rintro σ' H13 ⟨o2, o5, o9, o10, o11, o12, o13, rfl, e13⟩
        exact ⟨_, _, _, _, _, _, _, _, _, _, rfl, (U12.ex e13).le (by omega), ip12.ex e13, e13 _ _ h12p, i12p.ex e13⟩
end
end K55
/-! the joining -/
namespace K55
open PySem PySem.Spec PyProof.Rows L2 W5
theorem facts {P : Program} {w : World} {K : PySem.W.Frag} {h : Heap} {mg : Str → Option Value} {f : Addr} (X : K.In h) (G : h.Ns mainGlobals mg) (hfa : mg ("law" : Str) = some (.ref f)) (c : He.SaysD fa fn K) (e : ex K = true) :
    ∃ fd : FuncData, (∀ (s : Shared) (v : Value), BindsTo s fd ⟨[v], []⟩ [("script", v)]) ∧ ∀ base : Heap, K.In base → base.Ns mainGlobals mg → FnOk P w K mg base CX0 163 f fd ["script"] (Slaw K) := by
  have T : Tx K mg := ⟨c, e, h, X, G⟩
  have e1 := hfa.symm.trans T.g_law
  cases e1
  have b := FunD.bindsA (ps := ["script"]) T.F_law fun _ _ _ _ _ _ us hl => match us, hl with | [_], _ => rfl
  exact ⟨fdOf K d_law, fun s v => b s [v] rfl, fun base _ _ => ok_law T⟩
end K55
open PySem PySem.W PySem.Calls PyProof.Rows
theorem PySem.Challenge.cw_waychosen_k55_plain_types_and_values_holds : PySem.Challenge.rw_waychosen_k55_plain_types_and_values.Holds := by
  w_on; o_law
  refine HandSHeadRun.head_any (r := OpenLaw.row PySem.Challenge.rw_waychosen_k55_plain_types_and_values) (q := view (OpenLaw.row PySem.Challenge.rw_waychosen_k55_plain_types_and_values).prog [121]) (H := K55.hk) (ob := K55.ob) (M := 6200) (loose := K55.names) (d := HandSHeadRun.topDef (OpenLaw.row PySem.Challenge.rw_waychosen_k55_plain_types_and_values).prog 121) (kwd := []) K55.ob_eq
    (by kernel_rfl) (fun s => by kernel_rfl) K55.run (by kernel_rfl) (by kernel_rfl) (by kernel_rfl) (by rfl) (by first | assumption | decide +kernel) (by decide +kernel) ⟨rfl, rfl, rfl, rfl, rfl, by decide +kernel⟩ ?hw ?hc
  case hw => w_witness2
  case hc =>
    refine L2.walk_ofE (l := PySem.Challenge.rw_waychosen_k55_plain_types_and_values) (n := 63) (k := 163) (x := "script") (CX := L2.CX0) rfl (by decide) (by kernel_rfl) ⟨rfl, by decide, by decide⟩ ?F (fun _ _ _ _ z => z)
    intro w mg fa h Y G hmg0
    obtain ⟨K, KX, c, hex⟩ := Y
    have hmg : mg ("law" : PySem.Str) = some (.ref fa) := by
      have e : (HandSHeadRun.topDef (OpenLaw.row PySem.Challenge.rw_waychosen_k55_plain_types_and_values).prog 121).name = ("law" : PySem.Str) := by kernel_rfl
      rw [← e]
      exact hmg0
    obtain ⟨fd, hb, hF⟩ := K55.facts (P := (PySem.Challenge.rw_waychosen_k55_plain_types_and_values).prog) (w := w) KX G hmg c hex
    exact ⟨K, fd, K55.Slaw K, KX, hb, fun H a ns hl _ hS => ⟨a, ns, rfl, hS, hl, fun _ => rfl⟩, hF⟩

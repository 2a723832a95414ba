import PyProof.Rows.All
import Wide.All
import OpenK.AllK
import Wide.FinOn
import KE.KStateDown
import Lean
import HandS.ForMost
import HandS.Exc
import HandS.Defaults
import HandS.IsInst
import HandS.ClsMeth
import HandS.Zip
import HandS.FStrTup
import HandS.Head0
import HandS.Head1
import HandS.Head2
import HandS.HeadEnd
import HandS.HeadHook1
import HandS.HeadHook2
import PySem.Challenge.RW_manyboard_k22_whole_tied_all_the_way
import PyProof.NeData
import KE.KCallOwn
import HandS.Walk
import PyProof.EnumMake
import HandS.Zip0
set_option Elab.async false
set_option linter.all false
set_option maxRecDepth 100000
set_option maxHeartbeats 4000000
/-! the text by places -/
namespace Mb
open PySem L2
def top (i : Nat) : Stmt := PySem.Challenge.pw_manyboard_k22_whole_tied_all_the_way.main.body.getD i (.Pass ⟨0, 0, 0, 0⟩)
abbrev s_is_name : Stmt := top 13
abbrev s_asked_names : Stmt := top 14
abbrev s_asked_once : Stmt := top 15
abbrev s_asked_size : Stmt := top 19
abbrev s_Statement_parts : Stmt := inClass (top 20) 1
abbrev s_Statement_size : Stmt := inClass (top 20) 2
abbrev s_Statement_words : Stmt := inClass (top 20) 3
abbrev s_OnCell_init : Stmt := inClass (top 21) 0
abbrev s_Write_told : Stmt := inClass (top 22) 0
abbrev s_Wait_told : Stmt := inClass (top 23) 0
abbrev s_Mark_told : Stmt := inClass (top 24) 1
abbrev s_Skip_told : Stmt := inClass (top 25) 0
abbrev s_Stop_told : Stmt := inClass (top 26) 0
abbrev s_Mark_init : Stmt := inClass (top 24) 0
abbrev s_in_braces : Stmt := top 27
abbrev s_If_init : Stmt := inClass (top 28) 0
abbrev s_If_parts : Stmt := inClass (top 28) 2
abbrev s_If_words : Stmt := inClass (top 28) 3
abbrev s_While_init : Stmt := inClass (top 29) 0
abbrev s_While_parts : Stmt := inClass (top 29) 2
abbrev s_While_words : Stmt := inClass (top 29) 3
abbrev s_Choose_init : Stmt := inClass (top 30) 0
abbrev s_Choose_parts : Stmt := inClass (top 30) 2
abbrev s_Choose_words : Stmt := inClass (top 30) 3
abbrev s_Loop_init : Stmt := inClass (top 31) 0
abbrev s_Loop_parts : Stmt := inClass (top 31) 2
abbrev s_Loop_words : Stmt := inClass (top 31) 3
abbrev s_Program_init : Stmt := inClass (top 32) 0
abbrev s_Program_size : Stmt := inClass (top 32) 1
abbrev s_Program_deep : Stmt := inClass (top 32) 2
abbrev s_Program_words : Stmt := inClass (top 32) 3
abbrev s_Program_str : Stmt := inClass (top 32) 5
abbrev s_looks_lefts : Stmt := top 34
abbrev s_left_of_cell : Stmt := top 36
abbrev s_left : Stmt := top 37
abbrev s_asked_cells : Stmt := top 42
abbrev s_Board_init : Stmt := inClass (top 43) 0
abbrev s_Board_values_of : Stmt := inClass (top 43) 2
abbrev s_Board_asked : Stmt := inClass (top 43) 4
abbrev s_Board_others : Stmt := inClass (top 43) 5
abbrev s_looks_rooms : Stmt := top 46
abbrev s_Machine_init : Stmt := inClass (top 48) 0
abbrev s_Machine_number_row : Stmt := inClass (top 48) 1
abbrev s_Machine_lay_row : Stmt := inClass (top 48) 2
abbrev s_Machine_begin_of : Stmt := inClass (top 48) 3
abbrev s_Machine_lay : Stmt := inClass (top 48) 4
abbrev s_Machine_steps_of : Stmt := inClass (top 48) 5
abbrev s_Machine_asked : Stmt := inClass (top 48) 7
abbrev s_Machine_steps : Stmt := inClass (top 48) 8
abbrev s_Machine_mark_of : Stmt := inClass (top 48) 9
abbrev s_law_state : Stmt := top 51
abbrev s_law_digit : Stmt := top 52
abbrev s_law_name : Stmt := top 53
abbrev s_law_names : Stmt := top 54
abbrev s_law_cells : Stmt := top 55
abbrev s_law_simple : Stmt := top 56
abbrev s_law_statement : Stmt := top 57
abbrev s_law_row : Stmt := top 58
abbrev s_law_program : Stmt := top 59
abbrev s_law_made : Stmt := top 60
abbrev s_law_built : Stmt := top 61
abbrev s_law_text : Stmt := top 62
abbrev s_law_mark : Stmt := top 63
abbrev s_law : Stmt := top 64
def d_is_name : He.DefD := ⟨("is_name", none), "is_name", "is_name", defArgs s_is_name, defBody s_is_name, defScope s_is_name, [], []⟩
def d_asked_names : He.DefD := ⟨("asked_names", none), "asked_names", "asked_names", defArgs s_asked_names, defBody s_asked_names, defScope s_asked_names, [], []⟩
def d_asked_once : He.DefD := ⟨("asked_once", none), "asked_once", "asked_once", defArgs s_asked_once, defBody s_asked_once, defScope s_asked_once, [], []⟩
def d_asked_size : He.DefD := ⟨("asked_size", none), "asked_size", "asked_size", defArgs s_asked_size, defBody s_asked_size, defScope s_asked_size, [], []⟩
def d_Statement_parts : He.DefD := ⟨("Statement", some "parts"), "parts", "Statement.parts", defArgs s_Statement_parts, defBody s_Statement_parts, defScope s_Statement_parts, [], []⟩
def d_Statement_size : He.DefD := ⟨("Statement", some "size"), "size", "Statement.size", defArgs s_Statement_size, defBody s_Statement_size, defScope s_Statement_size, [], []⟩
def d_Statement_words : He.DefD := ⟨("Statement", some "words"), "words", "Statement.words", defArgs s_Statement_words, defBody s_Statement_words, defScope s_Statement_words, [], []⟩
def d_OnCell_init : He.DefD := ⟨("OnCell", some "__init__"), "__init__", "OnCell.__init__", defArgs s_OnCell_init, defBody s_OnCell_init, defScope s_OnCell_init, [], []⟩
def d_Write_told : He.DefD := ⟨("Write", some "told"), "told", "Write.told", defArgs s_Write_told, defBody s_Write_told, defScope s_Write_told, [], []⟩
def d_Wait_told : He.DefD := ⟨("Wait", some "told"), "told", "Wait.told", defArgs s_Wait_told, defBody s_Wait_told, defScope s_Wait_told, [], []⟩
def d_Mark_told : He.DefD := ⟨("Mark", some "told"), "told", "Mark.told", defArgs s_Mark_told, defBody s_Mark_told, defScope s_Mark_told, [], []⟩
def d_Skip_told : He.DefD := ⟨("Skip", some "told"), "told", "Skip.told", defArgs s_Skip_told, defBody s_Skip_told, defScope s_Skip_told, [], []⟩
def d_Stop_told : He.DefD := ⟨("Stop", some "told"), "told", "Stop.told", defArgs s_Stop_told, defBody s_Stop_told, defScope s_Stop_told, [], []⟩
def d_Mark_init : He.DefD := ⟨("Mark", some "__init__"), "__init__", "Mark.__init__", defArgs s_Mark_init, defBody s_Mark_init, defScope s_Mark_init, [], []⟩
def d_in_braces : He.DefD := ⟨("in_braces", none), "in_braces", "in_braces", defArgs s_in_braces, defBody s_in_braces, defScope s_in_braces, [], []⟩
def d_If_init : He.DefD := ⟨("If", some "__init__"), "__init__", "If.__init__", defArgs s_If_init, defBody s_If_init, defScope s_If_init, [], []⟩
def d_If_parts : He.DefD := ⟨("If", some "parts"), "parts", "If.parts", defArgs s_If_parts, defBody s_If_parts, defScope s_If_parts, [], []⟩
def d_If_words : He.DefD := ⟨("If", some "words"), "words", "If.words", defArgs s_If_words, defBody s_If_words, defScope s_If_words, [], []⟩
def d_While_init : He.DefD := ⟨("While", some "__init__"), "__init__", "While.__init__", defArgs s_While_init, defBody s_While_init, defScope s_While_init, [], []⟩
def d_While_parts : He.DefD := ⟨("While", some "parts"), "parts", "While.parts", defArgs s_While_parts, defBody s_While_parts, defScope s_While_parts, [], []⟩
def d_While_words : He.DefD := ⟨("While", some "words"), "words", "While.words", defArgs s_While_words, defBody s_While_words, defScope s_While_words, [], []⟩
def d_Choose_init : He.DefD := ⟨("Choose", some "__init__"), "__init__", "Choose.__init__", defArgs s_Choose_init, defBody s_Choose_init, defScope s_Choose_init, [], []⟩
def d_Choose_parts : He.DefD := ⟨("Choose", some "parts"), "parts", "Choose.parts", defArgs s_Choose_parts, defBody s_Choose_parts, defScope s_Choose_parts, [], []⟩
def d_Choose_words : He.DefD := ⟨("Choose", some "words"), "words", "Choose.words", defArgs s_Choose_words, defBody s_Choose_words, defScope s_Choose_words, [], []⟩
def d_Loop_init : He.DefD := ⟨("Loop", some "__init__"), "__init__", "Loop.__init__", defArgs s_Loop_init, defBody s_Loop_init, defScope s_Loop_init, [], []⟩
def d_Loop_parts : He.DefD := ⟨("Loop", some "parts"), "parts", "Loop.parts", defArgs s_Loop_parts, defBody s_Loop_parts, defScope s_Loop_parts, [], []⟩
def d_Loop_words : He.DefD := ⟨("Loop", some "words"), "words", "Loop.words", defArgs s_Loop_words, defBody s_Loop_words, defScope s_Loop_words, [], []⟩
def d_Program_init : He.DefD := ⟨("Program", some "__init__"), "__init__", "Program.__init__", defArgs s_Program_init, defBody s_Program_init, defScope s_Program_init, [], []⟩
def d_Program_size : He.DefD := ⟨("Program", some "size"), "size", "Program.size", defArgs s_Program_size, defBody s_Program_size, defScope s_Program_size, [], []⟩
def d_Program_deep : He.DefD := ⟨("Program", some "deep"), "deep", "Program.deep", defArgs s_Program_deep, defBody s_Program_deep, defScope s_Program_deep, [], []⟩
def d_Program_words : He.DefD := ⟨("Program", some "words"), "words", "Program.words", defArgs s_Program_words, defBody s_Program_words, defScope s_Program_words, [], []⟩
def d_Program_str : He.DefD := ⟨("Program", some "__str__"), "__str__", "Program.__str__", defArgs s_Program_str, defBody s_Program_str, defScope s_Program_str, [], []⟩
def d_looks_lefts : He.DefD := ⟨("looks_lefts", none), "looks", "looks", defArgs s_looks_lefts, defBody s_looks_lefts, defScope s_looks_lefts, [], []⟩
def d_left_of_cell : He.DefD := ⟨("left_of_cell", none), "left_of_cell", "left_of_cell", defArgs s_left_of_cell, defBody s_left_of_cell, defScope s_left_of_cell, [], []⟩
def d_left : He.DefD := ⟨("left", none), "left", "left", defArgs s_left, defBody s_left, defScope s_left, [], []⟩
def d_asked_cells : He.DefD := ⟨("asked_cells", none), "asked_cells", "asked_cells", defArgs s_asked_cells, defBody s_asked_cells, defScope s_asked_cells, [], []⟩
def d_Board_init : He.DefD := ⟨("Board", some "__init__"), "__init__", "Board.__init__", defArgs s_Board_init, defBody s_Board_init, defScope s_Board_init, [], []⟩
def d_Board_values_of : He.DefD := ⟨("Board", some "values_of"), "values_of", "Board.values_of", defArgs s_Board_values_of, defBody s_Board_values_of, defScope s_Board_values_of, [], []⟩
def d_Board_asked : He.DefD := ⟨("Board", some "asked"), "asked", "Board.asked", defArgs s_Board_asked, defBody s_Board_asked, defScope s_Board_asked, [], []⟩
def d_Board_others : He.DefD := ⟨("Board", some "others"), "others", "Board.others", defArgs s_Board_others, defBody s_Board_others, defScope s_Board_others, [], []⟩
def d_looks_rooms : He.DefD := ⟨("looks_rooms", none), "looks", "looks", defArgs s_looks_rooms, defBody s_looks_rooms, defScope s_looks_rooms, [], []⟩
def d_Machine_init : He.DefD := ⟨("Machine", some "__init__"), "__init__", "Machine.__init__", defArgs s_Machine_init, defBody s_Machine_init, defScope s_Machine_init, [], []⟩
def d_Machine_number_row : He.DefD := ⟨("Machine", some "number_row"), "number_row", "Machine.number_row", defArgs s_Machine_number_row, defBody s_Machine_number_row, defScope s_Machine_number_row, [], []⟩
def d_Machine_lay_row : He.DefD := ⟨("Machine", some "lay_row"), "lay_row", "Machine.lay_row", defArgs s_Machine_lay_row, defBody s_Machine_lay_row, defScope s_Machine_lay_row, [], []⟩
def d_Machine_begin_of : He.DefD := ⟨("Machine", some "begin_of"), "begin_of", "Machine.begin_of", defArgs s_Machine_begin_of, defBody s_Machine_begin_of, defScope s_Machine_begin_of, [], []⟩
def d_Machine_lay : He.DefD := ⟨("Machine", some "lay"), "lay", "Machine.lay", defArgs s_Machine_lay, defBody s_Machine_lay, defScope s_Machine_lay, [], []⟩
def d_Machine_steps_of : He.DefD := ⟨("Machine", some "steps_of"), "steps_of", "Machine.steps_of", defArgs s_Machine_steps_of, defBody s_Machine_steps_of, defScope s_Machine_steps_of, [], []⟩
def d_Machine_asked : He.DefD := ⟨("Machine", some "asked"), "asked", "Machine.asked", defArgs s_Machine_asked, defBody s_Machine_asked, defScope s_Machine_asked, [], []⟩
def d_Machine_steps : He.DefD := ⟨("Machine", some "steps"), "steps", "Machine.steps", defArgs s_Machine_steps, defBody s_Machine_steps, defScope s_Machine_steps, [], []⟩
def d_Machine_mark_of : He.DefD := ⟨("Machine", some "mark_of"), "mark_of", "Machine.mark_of", defArgs s_Machine_mark_of, defBody s_Machine_mark_of, defScope s_Machine_mark_of, [], []⟩
def d_law_state : He.DefD := ⟨("_law_state", none), "_law_state", "_law_state", defArgs s_law_state, defBody s_law_state, defScope s_law_state, [], []⟩
def d_law_digit : He.DefD := ⟨("_law_digit", none), "_law_digit", "_law_digit", defArgs s_law_digit, defBody s_law_digit, defScope s_law_digit, [], []⟩
def d_law_name : He.DefD := ⟨("_law_name", none), "_law_name", "_law_name", defArgs s_law_name, defBody s_law_name, defScope s_law_name, [], []⟩
def d_law_names : He.DefD := ⟨("_law_names", none), "_law_names", "_law_names", defArgs s_law_names, defBody s_law_names, defScope s_law_names, [], []⟩
def d_law_cells : He.DefD := ⟨("_law_cells", none), "_law_cells", "_law_cells", defArgs s_law_cells, defBody s_law_cells, defScope s_law_cells, [], []⟩
def d_law_simple : He.DefD := ⟨("_law_simple", none), "_law_simple", "_law_simple", defArgs s_law_simple, defBody s_law_simple, defScope s_law_simple, [], []⟩
def d_law_statement : He.DefD := ⟨("_law_statement", none), "_law_statement", "_law_statement", defArgs s_law_statement, defBody s_law_statement, defScope s_law_statement, [], []⟩
def d_law_row : He.DefD := ⟨("_law_row", none), "_law_row", "_law_row", defArgs s_law_row, defBody s_law_row, defScope s_law_row, [], []⟩
def d_law_program : He.DefD := ⟨("_law_program", none), "_law_program", "_law_program", defArgs s_law_program, defBody s_law_program, defScope s_law_program, [], []⟩
def d_law_made : He.DefD := ⟨("_law_made", none), "_law_made", "_law_made", defArgs s_law_made, defBody s_law_made, defScope s_law_made, [], []⟩
def d_law_built : He.DefD := ⟨("_law_built", none), "_law_built", "_law_built", defArgs s_law_built, defBody s_law_built, defScope s_law_built, [], []⟩
def d_law_text : He.DefD := ⟨("_law_text", none), "_law_text", "_law_text", defArgs s_law_text, defBody s_law_text, defScope s_law_text, [], []⟩
def d_law_mark : He.DefD := ⟨("_law_mark", none), "_law_mark", "_law_mark", defArgs s_law_mark, defBody s_law_mark, defScope s_law_mark, [], []⟩
def d_law : He.DefD := ⟨("law", none), "law", "law", defArgs s_law, defBody s_law, defScope s_law, [], []⟩
/-! facts of the classes, as a program tells them -/
open PySem.W in
def methB (K : Frag) (x m : Str) (p : Str × Option Str) : Bool := He.eqO (findIn K (.ref (He.ga K x)) m) (some (some (.ref (He.fAd K p)))) && (isFn K (.ref (He.fAd K p)) && keepIn K (.ref (He.fAd K p)))
open PySem.W in
def mkB (K : Frag) (x : Str) (p : Str × Option Str) : Bool := makesIn K (He.ga K x) && (He.eqO (findIn K (.ref (He.ga K x)) "__init__") (some (some (.ref (He.fAd K p)))) && (isFn K (.ref (He.fAd K p)) && keepIn K (.ref (He.ga K x))))
open PySem.W in
def mk0B (K : Frag) (x : Str) : Bool := makesIn K (He.ga K x) && (He.eqO (findIn K (.ref (He.ga K x)) "__init__") (some (some (.builtin "object.__init__"))) && keepIn K (.ref (He.ga K x)))
open PySem.W in
def tyB (K : Frag) (x : Str) : Bool := He.eqO (findIn K (.ref (He.ga K x)) "__class__") (some (some (.builtin "object.__class__"))) && decide (mroIn K (He.ga K x) (.type "object") = some true)
open PySem.W in
def tyB0 (K : Frag) : Bool := He.eqO (specialIn K (.builtin "object.__class__") "__get__") (some (some (.builtin "getset_descriptor.__get__"))) && decide (takesIn K (.builtin "object.__class__") = some true)
open PySem.W in
def kitB (K : Frag) (x y : Str) (b : Bool) : Bool := decide (kitOne K (.ref (He.ga K x)) (.ref (He.ga K y)) = some b)
open PySem.W in
def crB (K : Frag) : Bool := readsIn K (He.ga K "OnCell") (.type "type") && (He.eqO (specialIn K (.ref (He.ga K "OnCell")) "__getattribute__") (some (some (.builtin "type.__getattribute__"))) && (match findCls K (.ref (He.ga K "OnCell")) (.type "type") "__init__" with
  | some (.val (.ref f)) => decide (f = He.fAd K ("OnCell", some "__init__"))
  | _ => false))

def fct0 : List (PySem.W.Frag → Bool) := [fun K => He.Fa.ok K (.glo "is_name"),
  fun K => He.Fa.ok K (.glo "asked_names"),
  fun K => He.Fa.ok K (.glo "asked_once"),
  fun K => He.Fa.ok K (.glo "asked_size"),
  fun K => He.Fa.ok K (.glo "OnCell"),
  fun K => He.Fa.ok K (.glo "in_braces"),
  fun K => He.Fa.ok K (.glo "looks_lefts"),
  fun K => He.Fa.ok K (.glo "left_of_cell"),
  fun K => He.Fa.ok K (.glo "left"),
  fun K => He.Fa.ok K (.glo "asked_cells"),
  fun K => He.Fa.ok K (.glo "looks_rooms"),
  fun K => He.Fa.ok K (.glo "Write"),
  fun K => He.Fa.ok K (.glo "Wait"),
  fun K => He.Fa.ok K (.glo "Mark")]
def fct1 : List (PySem.W.Frag → Bool) := [fun K => He.Fa.ok K (.glo "Skip"),
  fun K => He.Fa.ok K (.glo "Stop"),
  fun K => He.Fa.ok K (.glo "If"),
  fun K => He.Fa.ok K (.glo "While"),
  fun K => He.Fa.ok K (.glo "Choose"),
  fun K => He.Fa.ok K (.glo "Loop"),
  fun K => He.Fa.ok K (.glo "Program"),
  fun K => He.Fa.ok K (.glo "Board"),
  fun K => He.Fa.ok K (.glo "Machine"),
  fun K => He.Fa.ok K (.glo "GO"),
  fun K => He.Fa.ok K (.glo "_law_state"),
  fun K => He.Fa.ok K (.glo "_law_digit"),
  fun K => He.Fa.ok K (.glo "_law_name"),
  fun K => He.Fa.ok K (.glo "_law_names")]
def fct2 : List (PySem.W.Frag → Bool) := [fun K => He.Fa.ok K (.glo "_law_cells"),
  fun K => He.Fa.ok K (.glo "_law_simple"),
  fun K => He.Fa.ok K (.glo "_law_statement"),
  fun K => He.Fa.ok K (.glo "_law_row"),
  fun K => He.Fa.ok K (.glo "_law_program"),
  fun K => He.Fa.ok K (.glo "_law_made"),
  fun K => He.Fa.ok K (.glo "_law_built"),
  fun K => He.Fa.ok K (.glo "_law_text"),
  fun K => He.Fa.ok K (.glo "_law_mark"),
  fun K => He.Fa.ok K (.glo "law"),
  fun K => He.Fa.ok K (.free "len"),
  fun K => He.Fa.ok K (.free "sum"),
  fun K => He.Fa.ok K (.free "max"),
  fun K => He.Fa.ok K (.free "isinstance")]
def fct3 : List (PySem.W.Frag → Bool) := [fun K => He.Fa.ok K (.free "list"),
  fun K => He.Fa.ok K (.free "tuple"),
  fun K => He.Fa.ok K (.free "str"),
  fun K => He.Fa.ok K (.free "range"),
  fun K => He.Fa.ok K (.free "abs"),
  fun K => He.Fa.ok K (.free "int"),
  fun K => He.Fa.ok K (.free "enumerate"),
  fun K => He.Fa.ok K (.free "zip"),
  fun K => He.Fa.ok K (.free "all"),
  fun K => He.Fa.ok K (.int "LONGEST" 10),
  fun K => He.Fa.ok K (.int "MOST_STATEMENTS" 24),
  fun K => He.Fa.ok K (.int "MOST_DEEP" 6),
  fun K => He.Fa.ok K (.int "MOST_CELLS" 3),
  fun K => He.Fa.ok K (.int "LEAST_VALUES" 2)]
def fct4 : List (PySem.W.Frag → Bool) := [fun K => He.Fa.ok K (.int "MOST_VALUES" 4),
  fun K => He.Fa.ok K (.str "LETTERS" "abcdefghijklmnopqrstuvwxyz"),
  fun K => He.Fa.ok K (.str "FIGURES" "0123456789"),
  fun K => He.Fa.ok K (.cls "Write"),
  fun K => He.Fa.ok K (.cls "Wait"),
  fun K => He.Fa.ok K (.cls "Mark"),
  fun K => He.Fa.ok K (.cls "Skip"),
  fun K => He.Fa.ok K (.cls "Stop"),
  fun K => He.Fa.ok K (.cls "If"),
  fun K => He.Fa.ok K (.cls "While"),
  fun K => He.Fa.ok K (.cls "Choose"),
  fun K => He.Fa.ok K (.cls "Loop"),
  fun K => He.Fa.ok K (.cls "Program"),
  fun K => He.Fa.ok K (.cls "Board")]
def fct5 : List (PySem.W.Frag → Bool) := [fun K => He.Fa.ok K (.cls "Machine"),
  fun K => He.Fa.ok K (.noat "Write" "cell"),
  fun K => He.Fa.ok K (.noat "Write" "value"),
  fun K => He.Fa.ok K (.noat "Wait" "cell"),
  fun K => He.Fa.ok K (.noat "Wait" "value"),
  fun K => He.Fa.ok K (.noat "Mark" "name"),
  fun K => He.Fa.ok K (.noat "If" "cell"),
  fun K => He.Fa.ok K (.noat "If" "value"),
  fun K => He.Fa.ok K (.noat "If" "yes"),
  fun K => He.Fa.ok K (.noat "If" "no"),
  fun K => He.Fa.ok K (.noat "While" "cell"),
  fun K => He.Fa.ok K (.noat "While" "value"),
  fun K => He.Fa.ok K (.noat "While" "body"),
  fun K => He.Fa.ok K (.noat "Choose" "one")]
def fct6 : List (PySem.W.Frag → Bool) := [fun K => He.Fa.ok K (.noat "Choose" "other"),
  fun K => He.Fa.ok K (.noat "Loop" "body"),
  fun K => He.Fa.ok K (.noat "Program" "row"),
  fun K => He.Fa.ok K (.noat "Board" "names"),
  fun K => He.Fa.ok K (.noat "Board" "rows"),
  fun K => He.Fa.ok K (.noat "Machine" "plan"),
  fun K => He.Fa.ok K (.noat "Machine" "text"),
  fun K => He.Fa.ok K (.noat "Machine" "places"),
  fun K => He.Fa.ok K (.noat "Machine" "exits"),
  fun K => methB K "Write" "size" ("Statement", some "size"),
  fun K => methB K "Write" "parts" ("Statement", some "parts"),
  fun K => methB K "Write" "words" ("Statement", some "words"),
  fun K => methB K "Write" "told" ("Write", some "told"),
  fun K => methB K "Wait" "size" ("Statement", some "size")]
def fct7 : List (PySem.W.Frag → Bool) := [fun K => methB K "Wait" "parts" ("Statement", some "parts"),
  fun K => methB K "Wait" "words" ("Statement", some "words"),
  fun K => methB K "Wait" "told" ("Wait", some "told"),
  fun K => methB K "Mark" "size" ("Statement", some "size"),
  fun K => methB K "Mark" "parts" ("Statement", some "parts"),
  fun K => methB K "Mark" "words" ("Statement", some "words"),
  fun K => methB K "Mark" "told" ("Mark", some "told"),
  fun K => methB K "Skip" "size" ("Statement", some "size"),
  fun K => methB K "Skip" "parts" ("Statement", some "parts"),
  fun K => methB K "Skip" "words" ("Statement", some "words"),
  fun K => methB K "Skip" "told" ("Skip", some "told"),
  fun K => methB K "Stop" "size" ("Statement", some "size"),
  fun K => methB K "Stop" "parts" ("Statement", some "parts"),
  fun K => methB K "Stop" "words" ("Statement", some "words")]
def fct8 : List (PySem.W.Frag → Bool) := [fun K => methB K "Stop" "told" ("Stop", some "told"),
  fun K => methB K "If" "size" ("Statement", some "size"),
  fun K => methB K "If" "parts" ("If", some "parts"),
  fun K => methB K "If" "words" ("If", some "words"),
  fun K => methB K "While" "size" ("Statement", some "size"),
  fun K => methB K "While" "parts" ("While", some "parts"),
  fun K => methB K "While" "words" ("While", some "words"),
  fun K => methB K "Choose" "size" ("Statement", some "size"),
  fun K => methB K "Choose" "parts" ("Choose", some "parts"),
  fun K => methB K "Choose" "words" ("Choose", some "words"),
  fun K => methB K "Loop" "size" ("Statement", some "size"),
  fun K => methB K "Loop" "parts" ("Loop", some "parts"),
  fun K => methB K "Loop" "words" ("Loop", some "words"),
  fun K => methB K "Program" "size" ("Program", some "size")]
def fct9 : List (PySem.W.Frag → Bool) := [fun K => methB K "Program" "deep" ("Program", some "deep"),
  fun K => methB K "Program" "words" ("Program", some "words"),
  fun K => methB K "Program" "__str__" ("Program", some "__str__"),
  fun K => methB K "Board" "values_of" ("Board", some "values_of"),
  fun K => methB K "Board" "asked" ("Board", some "asked"),
  fun K => methB K "Board" "others" ("Board", some "others"),
  fun K => methB K "Machine" "number_row" ("Machine", some "number_row"),
  fun K => methB K "Machine" "lay_row" ("Machine", some "lay_row"),
  fun K => methB K "Machine" "begin_of" ("Machine", some "begin_of"),
  fun K => methB K "Machine" "lay" ("Machine", some "lay"),
  fun K => methB K "Machine" "steps_of" ("Machine", some "steps_of"),
  fun K => methB K "Machine" "asked" ("Machine", some "asked"),
  fun K => methB K "Machine" "steps" ("Machine", some "steps"),
  fun K => methB K "Machine" "mark_of" ("Machine", some "mark_of")]
def fct10 : List (PySem.W.Frag → Bool) := [fun K => mkB K "Write" ("OnCell", some "__init__"),
  fun K => mkB K "Wait" ("OnCell", some "__init__"),
  fun K => mkB K "Mark" ("Mark", some "__init__"),
  fun K => mkB K "If" ("If", some "__init__"),
  fun K => mkB K "While" ("While", some "__init__"),
  fun K => mkB K "Choose" ("Choose", some "__init__"),
  fun K => mkB K "Loop" ("Loop", some "__init__"),
  fun K => mkB K "Program" ("Program", some "__init__"),
  fun K => mkB K "Board" ("Board", some "__init__"),
  fun K => mkB K "Machine" ("Machine", some "__init__"),
  fun K => mk0B K "Skip",
  fun K => mk0B K "Stop",
  fun K => tyB K "Write",
  fun K => kitB K "Write" "Write" true]
def fct11 : List (PySem.W.Frag → Bool) := [fun K => kitB K "Write" "Wait" false,
  fun K => kitB K "Write" "Mark" false,
  fun K => kitB K "Write" "Skip" false,
  fun K => kitB K "Write" "Stop" false,
  fun K => kitB K "Write" "If" false,
  fun K => kitB K "Write" "While" false,
  fun K => kitB K "Write" "Choose" false,
  fun K => kitB K "Write" "Loop" false,
  fun K => tyB K "Wait",
  fun K => kitB K "Wait" "Write" false,
  fun K => kitB K "Wait" "Wait" true,
  fun K => kitB K "Wait" "Mark" false,
  fun K => kitB K "Wait" "Skip" false,
  fun K => kitB K "Wait" "Stop" false]
def fct12 : List (PySem.W.Frag → Bool) := [fun K => kitB K "Wait" "If" false,
  fun K => kitB K "Wait" "While" false,
  fun K => kitB K "Wait" "Choose" false,
  fun K => kitB K "Wait" "Loop" false,
  fun K => tyB K "Mark",
  fun K => kitB K "Mark" "Write" false,
  fun K => kitB K "Mark" "Wait" false,
  fun K => kitB K "Mark" "Mark" true,
  fun K => kitB K "Mark" "Skip" false,
  fun K => kitB K "Mark" "Stop" false,
  fun K => kitB K "Mark" "If" false,
  fun K => kitB K "Mark" "While" false,
  fun K => kitB K "Mark" "Choose" false,
  fun K => kitB K "Mark" "Loop" false]
def fct13 : List (PySem.W.Frag → Bool) := [fun K => tyB K "Skip",
  fun K => kitB K "Skip" "Write" false,
  fun K => kitB K "Skip" "Wait" false,
  fun K => kitB K "Skip" "Mark" false,
  fun K => kitB K "Skip" "Skip" true,
  fun K => kitB K "Skip" "Stop" false,
  fun K => kitB K "Skip" "If" false,
  fun K => kitB K "Skip" "While" false,
  fun K => kitB K "Skip" "Choose" false,
  fun K => kitB K "Skip" "Loop" false,
  fun K => tyB K "Stop",
  fun K => kitB K "Stop" "Write" false,
  fun K => kitB K "Stop" "Wait" false,
  fun K => kitB K "Stop" "Mark" false]
def fct14 : List (PySem.W.Frag → Bool) := [fun K => kitB K "Stop" "Skip" false,
  fun K => kitB K "Stop" "Stop" true,
  fun K => kitB K "Stop" "If" false,
  fun K => kitB K "Stop" "While" false,
  fun K => kitB K "Stop" "Choose" false,
  fun K => kitB K "Stop" "Loop" false,
  fun K => tyB K "If",
  fun K => kitB K "If" "Write" false,
  fun K => kitB K "If" "Wait" false,
  fun K => kitB K "If" "Mark" false,
  fun K => kitB K "If" "Skip" false,
  fun K => kitB K "If" "Stop" false,
  fun K => kitB K "If" "If" true,
  fun K => kitB K "If" "While" false]
def fct15 : List (PySem.W.Frag → Bool) := [fun K => kitB K "If" "Choose" false,
  fun K => kitB K "If" "Loop" false,
  fun K => tyB K "While",
  fun K => kitB K "While" "Write" false,
  fun K => kitB K "While" "Wait" false,
  fun K => kitB K "While" "Mark" false,
  fun K => kitB K "While" "Skip" false,
  fun K => kitB K "While" "Stop" false,
  fun K => kitB K "While" "If" false,
  fun K => kitB K "While" "While" true,
  fun K => kitB K "While" "Choose" false,
  fun K => kitB K "While" "Loop" false,
  fun K => tyB K "Choose",
  fun K => kitB K "Choose" "Write" false]
def fct16 : List (PySem.W.Frag → Bool) := [fun K => kitB K "Choose" "Wait" false,
  fun K => kitB K "Choose" "Mark" false,
  fun K => kitB K "Choose" "Skip" false,
  fun K => kitB K "Choose" "Stop" false,
  fun K => kitB K "Choose" "If" false,
  fun K => kitB K "Choose" "While" false,
  fun K => kitB K "Choose" "Choose" true,
  fun K => kitB K "Choose" "Loop" false,
  fun K => tyB K "Loop",
  fun K => kitB K "Loop" "Write" false,
  fun K => kitB K "Loop" "Wait" false,
  fun K => kitB K "Loop" "Mark" false,
  fun K => kitB K "Loop" "Skip" false,
  fun K => kitB K "Loop" "Stop" false]
def fct17 : List (PySem.W.Frag → Bool) := [fun K => kitB K "Loop" "If" false,
  fun K => kitB K "Loop" "While" false,
  fun K => kitB K "Loop" "Choose" false,
  fun K => kitB K "Loop" "Loop" true,
  fun K => tyB0 K,
  fun K => He.tupB K "GO" [.str "go"],
  fun K => crB K]
def facts : List (PySem.W.Frag → Bool) := fct0 ++ (fct1 ++ (fct2 ++ (fct3 ++ (fct4 ++ (fct5 ++ (fct6 ++ (fct7 ++ (fct8 ++ (fct9 ++ (fct10 ++ (fct11 ++ (fct12 ++ (fct13 ++ (fct14 ++ (fct15 ++ (fct16 ++ (fct17)))))))))))))))))
def dfs0 : List He.DefD := [d_is_name, d_asked_names, d_asked_once, d_asked_size, d_Statement_parts, d_Statement_size, d_Statement_words, d_OnCell_init, d_Write_told, d_Wait_told, d_Mark_told, d_Skip_told]
def dfs1 : List He.DefD := [d_Stop_told, d_Mark_init, d_in_braces, d_If_init, d_If_parts, d_If_words, d_While_init, d_While_parts, d_While_words, d_Choose_init, d_Choose_parts, d_Choose_words]
def dfs2 : List He.DefD := [d_Loop_init, d_Loop_parts, d_Loop_words, d_Program_init, d_Program_size, d_Program_deep, d_Program_words, d_Program_str, d_looks_lefts, d_left_of_cell, d_left, d_asked_cells]
def dfs3 : List He.DefD := [d_Board_init, d_Board_values_of, d_Board_asked, d_Board_others, d_looks_rooms, d_Machine_init, d_Machine_number_row, d_Machine_lay_row, d_Machine_begin_of, d_Machine_lay, d_Machine_steps_of, d_Machine_asked]
def dfs4 : List He.DefD := [d_Machine_steps, d_Machine_mark_of, d_law_state, d_law_digit, d_law_name, d_law_names, d_law_cells, d_law_simple, d_law_statement, d_law_row, d_law_program, d_law_made]
def dfs5 : List He.DefD := [d_law_built, d_law_text, d_law_mark, d_law]
def dfs : List He.DefD := dfs0 ++ (dfs1 ++ (dfs2 ++ (dfs3 ++ (dfs4 ++ (dfs5)))))
def nms0 : List PySem.Str := ["_wall", "BoardError", "BadCount", "NoName", "Twice", "NoCell", "NoValue", "NoRoom", "LETTERS", "FIGURES", "LONGEST", "is_name"]
def nms1 : List PySem.Str := ["asked_names", "asked_once", "MOST_STATEMENTS", "MOST_DEEP", "asked_size", "Statement", "OnCell", "Write", "Wait", "Mark", "Skip", "Stop"]
def nms2 : List PySem.Str := ["in_braces", "If", "While", "Choose", "Loop", "Program", "looks", "looks_lefts", "left_of_cell", "left", "MOST_CELLS", "LEAST_VALUES"]
def nms3 : List PySem.Str := ["MOST_VALUES", "asked_cells", "Board", "GO", "looks_rooms", "Machine", "_law_cell_at", "_law_state", "_law_digit", "_law_name", "_law_names", "_law_cells"]
def nms4 : List PySem.Str := ["_law_simple", "_law_statement", "_law_row", "_law_program", "_law_made", "_law_built", "_law_text", "_law_mark"]
def nms : List PySem.Str := nms0 ++ (nms1 ++ (nms2 ++ (nms3 ++ (nms4))))
/-! the hook: what the head says of its heap -/
def clsN : List Str := ["Write", "Wait", "Mark", "Skip", "Stop", "If", "While", "Choose", "Loop", "Program", "Machine"]
def clsN2 : List Str := ["Board", "OnCell", "Statement"]
abbrev Gt : Type := Addr → Option Obj
def glbG (g : Gt) : PySem.W.Frag := He.frG g [mainGlobals]
def clsG (g : Gt) : List Addr := (clsN ++ clsN2).map fun x => He.ga (glbG g) x
def nsO (o : Option Obj) : Addr := match o with
  | some o => (match o.data with
    | .cls cd => cd.ns
    | _ => 0)
  | none => 0
def cdO (o : Option Obj) : Addr := match o with
  | some o => (match o.data with
    | .func fd => (match fd.code with
      | .ref c => c
      | _ => 0)
    | _ => 0)
  | none => 0
def adr1 (g : Gt) : List Addr := mainGlobals :: (clsG g ++ (clsG g).map fun a => nsO (g a))
def fnG (g : Gt) : List Addr := dfs.map fun d => He.fAd (He.frG g (adr1 g)) d.at_
def adrs (g : Gt) : List Addr := adr1 g ++ (cStatics :: He.ga (glbG g) "GO" :: (fnG g ++ (fnG g).map fun a => cdO (g a)))
abbrev Al : Type := Bool × List He.FnW
def obsM (K : PySem.W.Frag) : Al := ((facts.all fun f => f K) && dfs.all fun d => d.ok K, dfs.map fun d => He.fnW K d.at_)
def valM : Al := (true, dfs.map He.DefD.val)
def SaysM (K : PySem.W.Frag) : Prop := obsM K = valM
def obsMG (g : Addr → Option Obj) : Al := obsM (He.frG g (adrs g))
def hk : PySem.W.Hook where
  α := Al
  obs := fun s => obsMG s.heap.get?
  val := fun _ => valM
  says := fun _ h => ∃ K : PySem.W.Frag, K.In h ∧ SaysM K
  of := fun _ _ e => ⟨_, He.frG_in, e⟩
  keeps := fun _ _ _ ⟨K, hK, c⟩ k => ⟨K, PySem.W.Frag.In.keeps hK k, c⟩
def ob (s : PySem.W.SharedT) : Al := obsMG (HandSHeadRun.getT s)
theorem ob_eq (s : PySem.W.SharedT) : ob s = hk.obs s.abs := by
  have e : HandSHeadRun.getT s = s.abs.heap.get? := funext fun a => HandSHeadRun.getT_eq s a
  unfold ob
  rw [e] <;> rfl
abbrev Rw : PySem.W.OpenRow := PySem.W.OpenLaw.row PySem.Challenge.rw_manyboard_k22_whole_tied_all_the_way
abbrev qv : Program := PySem.W.view Rw.prog [64]
end Mb

namespace Mb
open PySem L2
theorem run (w : World) : HandSHeadRun.RunEq Rw qv hk ob 20000 nms w := by
  intro os
  kernel_rfl
/-! the facts, one by one -/
section
variable {K : PySem.W.Frag}
theorem SaysM.fact (c : SaysM K) (i : Nat) {f : PySem.W.Frag → Bool} (h : facts[i]? = some f := by rfl) : f K = true := by
  have c1 := (He.ba (show ((facts.all fun f => f K) && dfs.all fun d => d.ok K) = true from congrArg (fun z : Al => z.1) c)).1
  exact List.all_eq_true.mp c1 f (List.mem_of_getElem? h)
theorem SaysM.dfn (c : SaysM K) (i : Nat) {d : He.DefD} (h : dfs[i]? = some d := by rfl) : ∃ fd, FunD K d.name d.qual d.params d.body d.scope (d.dvs K) (d.kws K) (He.fAd K d.at_) fd := by
  have c2 := (He.ba (show ((facts.all fun f => f K) && dfs.all fun d => d.ok K) = true from congrArg (fun z : Al => z.1) c)).2
  have e : dfs.map (fun d => He.fnW K d.at_) = dfs.map He.DefD.val := congrArg (fun z : Al => z.2) c
  have e2 : (dfs.map fun d => He.fnW K d.at_)[i]? = (dfs.map He.DefD.val)[i]? := by rw [e]
  rw [List.getElem?_map, List.getElem?_map, h] at e2
  exact He.DefD.funD (Option.some.inj e2) (List.all_eq_true.mp c2 d (List.mem_of_getElem? h))

theorem f_glo_is_name (c : SaysM K) : (He.Fa.ok K (.glo "is_name")) = true := c.fact 0
theorem f_glo_asked_names (c : SaysM K) : (He.Fa.ok K (.glo "asked_names")) = true := c.fact 1
theorem f_glo_asked_once (c : SaysM K) : (He.Fa.ok K (.glo "asked_once")) = true := c.fact 2
theorem f_glo_asked_size (c : SaysM K) : (He.Fa.ok K (.glo "asked_size")) = true := c.fact 3
theorem f_glo_OnCell (c : SaysM K) : (He.Fa.ok K (.glo "OnCell")) = true := c.fact 4
theorem f_glo_in_braces (c : SaysM K) : (He.Fa.ok K (.glo "in_braces")) = true := c.fact 5
theorem f_glo_looks_lefts (c : SaysM K) : (He.Fa.ok K (.glo "looks_lefts")) = true := c.fact 6
theorem f_glo_left_of_cell (c : SaysM K) : (He.Fa.ok K (.glo "left_of_cell")) = true := c.fact 7
theorem f_glo_left (c : SaysM K) : (He.Fa.ok K (.glo "left")) = true := c.fact 8
theorem f_glo_asked_cells (c : SaysM K) : (He.Fa.ok K (.glo "asked_cells")) = true := c.fact 9
theorem f_glo_looks_rooms (c : SaysM K) : (He.Fa.ok K (.glo "looks_rooms")) = true := c.fact 10
theorem f_glo_Write (c : SaysM K) : (He.Fa.ok K (.glo "Write")) = true := c.fact 11
theorem f_glo_Wait (c : SaysM K) : (He.Fa.ok K (.glo "Wait")) = true := c.fact 12
theorem f_glo_Mark (c : SaysM K) : (He.Fa.ok K (.glo "Mark")) = true := c.fact 13
theorem f_glo_Skip (c : SaysM K) : (He.Fa.ok K (.glo "Skip")) = true := c.fact 14
theorem f_glo_Stop (c : SaysM K) : (He.Fa.ok K (.glo "Stop")) = true := c.fact 15
theorem f_glo_If (c : SaysM K) : (He.Fa.ok K (.glo "If")) = true := c.fact 16
theorem f_glo_While (c : SaysM K) : (He.Fa.ok K (.glo "While")) = true := c.fact 17
theorem f_glo_Choose (c : SaysM K) : (He.Fa.ok K (.glo "Choose")) = true := c.fact 18
theorem f_glo_Loop (c : SaysM K) : (He.Fa.ok K (.glo "Loop")) = true := c.fact 19
theorem f_glo_Program (c : SaysM K) : (He.Fa.ok K (.glo "Program")) = true := c.fact 20
theorem f_glo_Board (c : SaysM K) : (He.Fa.ok K (.glo "Board")) = true := c.fact 21
theorem f_glo_Machine (c : SaysM K) : (He.Fa.ok K (.glo "Machine")) = true := c.fact 22
theorem f_glo_GO (c : SaysM K) : (He.Fa.ok K (.glo "GO")) = true := c.fact 23
theorem f_glo__law_state (c : SaysM K) : (He.Fa.ok K (.glo "_law_state")) = true := c.fact 24
theorem f_glo__law_digit (c : SaysM K) : (He.Fa.ok K (.glo "_law_digit")) = true := c.fact 25
theorem f_glo__law_name (c : SaysM K) : (He.Fa.ok K (.glo "_law_name")) = true := c.fact 26
theorem f_glo__law_names (c : SaysM K) : (He.Fa.ok K (.glo "_law_names")) = true := c.fact 27
theorem f_glo__law_cells (c : SaysM K) : (He.Fa.ok K (.glo "_law_cells")) = true := c.fact 28
theorem f_glo__law_simple (c : SaysM K) : (He.Fa.ok K (.glo "_law_simple")) = true := c.fact 29
theorem f_glo__law_statement (c : SaysM K) : (He.Fa.ok K (.glo "_law_statement")) = true := c.fact 30
theorem f_glo__law_row (c : SaysM K) : (He.Fa.ok K (.glo "_law_row")) = true := c.fact 31
theorem f_glo__law_program (c : SaysM K) : (He.Fa.ok K (.glo "_law_program")) = true := c.fact 32
theorem f_glo__law_made (c : SaysM K) : (He.Fa.ok K (.glo "_law_made")) = true := c.fact 33
theorem f_glo__law_built (c : SaysM K) : (He.Fa.ok K (.glo "_law_built")) = true := c.fact 34
theorem f_glo__law_text (c : SaysM K) : (He.Fa.ok K (.glo "_law_text")) = true := c.fact 35
theorem f_glo__law_mark (c : SaysM K) : (He.Fa.ok K (.glo "_law_mark")) = true := c.fact 36
theorem f_glo_law (c : SaysM K) : (He.Fa.ok K (.glo "law")) = true := c.fact 37
theorem f_free_len (c : SaysM K) : (He.Fa.ok K (.free "len")) = true := c.fact 38
theorem f_free_sum (c : SaysM K) : (He.Fa.ok K (.free "sum")) = true := c.fact 39
theorem f_free_max (c : SaysM K) : (He.Fa.ok K (.free "max")) = true := c.fact 40
theorem f_free_isinstance (c : SaysM K) : (He.Fa.ok K (.free "isinstance")) = true := c.fact 41
theorem f_free_list (c : SaysM K) : (He.Fa.ok K (.free "list")) = true := c.fact 42
theorem f_free_tuple (c : SaysM K) : (He.Fa.ok K (.free "tuple")) = true := c.fact 43
theorem f_free_str (c : SaysM K) : (He.Fa.ok K (.free "str")) = true := c.fact 44
theorem f_free_range (c : SaysM K) : (He.Fa.ok K (.free "range")) = true := c.fact 45
theorem f_free_abs (c : SaysM K) : (He.Fa.ok K (.free "abs")) = true := c.fact 46
theorem f_free_int (c : SaysM K) : (He.Fa.ok K (.free "int")) = true := c.fact 47
theorem f_free_enumerate (c : SaysM K) : (He.Fa.ok K (.free "enumerate")) = true := c.fact 48
theorem f_free_zip (c : SaysM K) : (He.Fa.ok K (.free "zip")) = true := c.fact 49
theorem f_free_all (c : SaysM K) : (He.Fa.ok K (.free "all")) = true := c.fact 50
theorem f_int_LONGEST (c : SaysM K) : (He.Fa.ok K (.int "LONGEST" 10)) = true := c.fact 51
theorem f_int_MOST_STATEMENTS (c : SaysM K) : (He.Fa.ok K (.int "MOST_STATEMENTS" 24)) = true := c.fact 52
theorem f_int_MOST_DEEP (c : SaysM K) : (He.Fa.ok K (.int "MOST_DEEP" 6)) = true := c.fact 53
theorem f_int_MOST_CELLS (c : SaysM K) : (He.Fa.ok K (.int "MOST_CELLS" 3)) = true := c.fact 54
theorem f_int_LEAST_VALUES (c : SaysM K) : (He.Fa.ok K (.int "LEAST_VALUES" 2)) = true := c.fact 55
theorem f_int_MOST_VALUES (c : SaysM K) : (He.Fa.ok K (.int "MOST_VALUES" 4)) = true := c.fact 56
theorem f_str_LETTERS (c : SaysM K) : (He.Fa.ok K (.str "LETTERS" "abcdefghijklmnopqrstuvwxyz")) = true := c.fact 57
theorem f_str_FIGURES (c : SaysM K) : (He.Fa.ok K (.str "FIGURES" "0123456789")) = true := c.fact 58
theorem f_cls_Write (c : SaysM K) : (He.Fa.ok K (.cls "Write")) = true := c.fact 59
theorem f_cls_Wait (c : SaysM K) : (He.Fa.ok K (.cls "Wait")) = true := c.fact 60
theorem f_cls_Mark (c : SaysM K) : (He.Fa.ok K (.cls "Mark")) = true := c.fact 61
theorem f_cls_Skip (c : SaysM K) : (He.Fa.ok K (.cls "Skip")) = true := c.fact 62
theorem f_cls_Stop (c : SaysM K) : (He.Fa.ok K (.cls "Stop")) = true := c.fact 63
theorem f_cls_If (c : SaysM K) : (He.Fa.ok K (.cls "If")) = true := c.fact 64
theorem f_cls_While (c : SaysM K) : (He.Fa.ok K (.cls "While")) = true := c.fact 65
theorem f_cls_Choose (c : SaysM K) : (He.Fa.ok K (.cls "Choose")) = true := c.fact 66
theorem f_cls_Loop (c : SaysM K) : (He.Fa.ok K (.cls "Loop")) = true := c.fact 67
theorem f_cls_Program (c : SaysM K) : (He.Fa.ok K (.cls "Program")) = true := c.fact 68
theorem f_cls_Board (c : SaysM K) : (He.Fa.ok K (.cls "Board")) = true := c.fact 69
theorem f_cls_Machine (c : SaysM K) : (He.Fa.ok K (.cls "Machine")) = true := c.fact 70
theorem f_no_Write_cell (c : SaysM K) : (He.Fa.ok K (.noat "Write" "cell")) = true := c.fact 71
theorem f_no_Write_value (c : SaysM K) : (He.Fa.ok K (.noat "Write" "value")) = true := c.fact 72
theorem f_no_Wait_cell (c : SaysM K) : (He.Fa.ok K (.noat "Wait" "cell")) = true := c.fact 73
theorem f_no_Wait_value (c : SaysM K) : (He.Fa.ok K (.noat "Wait" "value")) = true := c.fact 74
theorem f_no_Mark_name (c : SaysM K) : (He.Fa.ok K (.noat "Mark" "name")) = true := c.fact 75
theorem f_no_If_cell (c : SaysM K) : (He.Fa.ok K (.noat "If" "cell")) = true := c.fact 76
theorem f_no_If_value (c : SaysM K) : (He.Fa.ok K (.noat "If" "value")) = true := c.fact 77
theorem f_no_If_yes (c : SaysM K) : (He.Fa.ok K (.noat "If" "yes")) = true := c.fact 78
theorem f_no_If_no (c : SaysM K) : (He.Fa.ok K (.noat "If" "no")) = true := c.fact 79
theorem f_no_While_cell (c : SaysM K) : (He.Fa.ok K (.noat "While" "cell")) = true := c.fact 80
theorem f_no_While_value (c : SaysM K) : (He.Fa.ok K (.noat "While" "value")) = true := c.fact 81
theorem f_no_While_body (c : SaysM K) : (He.Fa.ok K (.noat "While" "body")) = true := c.fact 82
theorem f_no_Choose_one (c : SaysM K) : (He.Fa.ok K (.noat "Choose" "one")) = true := c.fact 83
theorem f_no_Choose_other (c : SaysM K) : (He.Fa.ok K (.noat "Choose" "other")) = true := c.fact 84
theorem f_no_Loop_body (c : SaysM K) : (He.Fa.ok K (.noat "Loop" "body")) = true := c.fact 85
theorem f_no_Program_row (c : SaysM K) : (He.Fa.ok K (.noat "Program" "row")) = true := c.fact 86
theorem f_no_Board_names (c : SaysM K) : (He.Fa.ok K (.noat "Board" "names")) = true := c.fact 87
theorem f_no_Board_rows (c : SaysM K) : (He.Fa.ok K (.noat "Board" "rows")) = true := c.fact 88
theorem f_no_Machine_plan (c : SaysM K) : (He.Fa.ok K (.noat "Machine" "plan")) = true := c.fact 89
theorem f_no_Machine_text (c : SaysM K) : (He.Fa.ok K (.noat "Machine" "text")) = true := c.fact 90
theorem f_no_Machine_places (c : SaysM K) : (He.Fa.ok K (.noat "Machine" "places")) = true := c.fact 91
theorem f_no_Machine_exits (c : SaysM K) : (He.Fa.ok K (.noat "Machine" "exits")) = true := c.fact 92
theorem f_m_Write_size (c : SaysM K) : (methB K "Write" "size" ("Statement", some "size")) = true := c.fact 93
theorem f_m_Write_parts (c : SaysM K) : (methB K "Write" "parts" ("Statement", some "parts")) = true := c.fact 94
theorem f_m_Write_words (c : SaysM K) : (methB K "Write" "words" ("Statement", some "words")) = true := c.fact 95
theorem f_m_Write_told (c : SaysM K) : (methB K "Write" "told" ("Write", some "told")) = true := c.fact 96
theorem f_m_Wait_size (c : SaysM K) : (methB K "Wait" "size" ("Statement", some "size")) = true := c.fact 97
theorem f_m_Wait_parts (c : SaysM K) : (methB K "Wait" "parts" ("Statement", some "parts")) = true := c.fact 98
theorem f_m_Wait_words (c : SaysM K) : (methB K "Wait" "words" ("Statement", some "words")) = true := c.fact 99
theorem f_m_Wait_told (c : SaysM K) : (methB K "Wait" "told" ("Wait", some "told")) = true := c.fact 100
theorem f_m_Mark_size (c : SaysM K) : (methB K "Mark" "size" ("Statement", some "size")) = true := c.fact 101
theorem f_m_Mark_parts (c : SaysM K) : (methB K "Mark" "parts" ("Statement", some "parts")) = true := c.fact 102
theorem f_m_Mark_words (c : SaysM K) : (methB K "Mark" "words" ("Statement", some "words")) = true := c.fact 103
theorem f_m_Mark_told (c : SaysM K) : (methB K "Mark" "told" ("Mark", some "told")) = true := c.fact 104
theorem f_m_Skip_size (c : SaysM K) : (methB K "Skip" "size" ("Statement", some "size")) = true := c.fact 105
theorem f_m_Skip_parts (c : SaysM K) : (methB K "Skip" "parts" ("Statement", some "parts")) = true := c.fact 106
theorem f_m_Skip_words (c : SaysM K) : (methB K "Skip" "words" ("Statement", some "words")) = true := c.fact 107
theorem f_m_Skip_told (c : SaysM K) : (methB K "Skip" "told" ("Skip", some "told")) = true := c.fact 108
theorem f_m_Stop_size (c : SaysM K) : (methB K "Stop" "size" ("Statement", some "size")) = true := c.fact 109
theorem f_m_Stop_parts (c : SaysM K) : (methB K "Stop" "parts" ("Statement", some "parts")) = true := c.fact 110
theorem f_m_Stop_words (c : SaysM K) : (methB K "Stop" "words" ("Statement", some "words")) = true := c.fact 111
theorem f_m_Stop_told (c : SaysM K) : (methB K "Stop" "told" ("Stop", some "told")) = true := c.fact 112
theorem f_m_If_size (c : SaysM K) : (methB K "If" "size" ("Statement", some "size")) = true := c.fact 113
theorem f_m_If_parts (c : SaysM K) : (methB K "If" "parts" ("If", some "parts")) = true := c.fact 114
theorem f_m_If_words (c : SaysM K) : (methB K "If" "words" ("If", some "words")) = true := c.fact 115
theorem f_m_While_size (c : SaysM K) : (methB K "While" "size" ("Statement", some "size")) = true := c.fact 116
theorem f_m_While_parts (c : SaysM K) : (methB K "While" "parts" ("While", some "parts")) = true := c.fact 117
theorem f_m_While_words (c : SaysM K) : (methB K "While" "words" ("While", some "words")) = true := c.fact 118
theorem f_m_Choose_size (c : SaysM K) : (methB K "Choose" "size" ("Statement", some "size")) = true := c.fact 119
theorem f_m_Choose_parts (c : SaysM K) : (methB K "Choose" "parts" ("Choose", some "parts")) = true := c.fact 120
theorem f_m_Choose_words (c : SaysM K) : (methB K "Choose" "words" ("Choose", some "words")) = true := c.fact 121
theorem f_m_Loop_size (c : SaysM K) : (methB K "Loop" "size" ("Statement", some "size")) = true := c.fact 122
theorem f_m_Loop_parts (c : SaysM K) : (methB K "Loop" "parts" ("Loop", some "parts")) = true := c.fact 123
theorem f_m_Loop_words (c : SaysM K) : (methB K "Loop" "words" ("Loop", some "words")) = true := c.fact 124
theorem f_m_Program_size (c : SaysM K) : (methB K "Program" "size" ("Program", some "size")) = true := c.fact 125
theorem f_m_Program_deep (c : SaysM K) : (methB K "Program" "deep" ("Program", some "deep")) = true := c.fact 126
theorem f_m_Program_words (c : SaysM K) : (methB K "Program" "words" ("Program", some "words")) = true := c.fact 127
theorem f_m_Program_str (c : SaysM K) : (methB K "Program" "__str__" ("Program", some "__str__")) = true := c.fact 128
theorem f_m_Board_values_of (c : SaysM K) : (methB K "Board" "values_of" ("Board", some "values_of")) = true := c.fact 129
theorem f_m_Board_asked (c : SaysM K) : (methB K "Board" "asked" ("Board", some "asked")) = true := c.fact 130
theorem f_m_Board_others (c : SaysM K) : (methB K "Board" "others" ("Board", some "others")) = true := c.fact 131
theorem f_m_Machine_number_row (c : SaysM K) : (methB K "Machine" "number_row" ("Machine", some "number_row")) = true := c.fact 132
theorem f_m_Machine_lay_row (c : SaysM K) : (methB K "Machine" "lay_row" ("Machine", some "lay_row")) = true := c.fact 133
theorem f_m_Machine_begin_of (c : SaysM K) : (methB K "Machine" "begin_of" ("Machine", some "begin_of")) = true := c.fact 134
theorem f_m_Machine_lay (c : SaysM K) : (methB K "Machine" "lay" ("Machine", some "lay")) = true := c.fact 135
theorem f_m_Machine_steps_of (c : SaysM K) : (methB K "Machine" "steps_of" ("Machine", some "steps_of")) = true := c.fact 136
theorem f_m_Machine_asked (c : SaysM K) : (methB K "Machine" "asked" ("Machine", some "asked")) = true := c.fact 137
theorem f_m_Machine_steps (c : SaysM K) : (methB K "Machine" "steps" ("Machine", some "steps")) = true := c.fact 138
theorem f_m_Machine_mark_of (c : SaysM K) : (methB K "Machine" "mark_of" ("Machine", some "mark_of")) = true := c.fact 139
theorem f_mk_Write (c : SaysM K) : (mkB K "Write" ("OnCell", some "__init__")) = true := c.fact 140
theorem f_mk_Wait (c : SaysM K) : (mkB K "Wait" ("OnCell", some "__init__")) = true := c.fact 141
theorem f_mk_Mark (c : SaysM K) : (mkB K "Mark" ("Mark", some "__init__")) = true := c.fact 142
theorem f_mk_If (c : SaysM K) : (mkB K "If" ("If", some "__init__")) = true := c.fact 143
theorem f_mk_While (c : SaysM K) : (mkB K "While" ("While", some "__init__")) = true := c.fact 144
theorem f_mk_Choose (c : SaysM K) : (mkB K "Choose" ("Choose", some "__init__")) = true := c.fact 145
theorem f_mk_Loop (c : SaysM K) : (mkB K "Loop" ("Loop", some "__init__")) = true := c.fact 146
theorem f_mk_Program (c : SaysM K) : (mkB K "Program" ("Program", some "__init__")) = true := c.fact 147
theorem f_mk_Board (c : SaysM K) : (mkB K "Board" ("Board", some "__init__")) = true := c.fact 148
theorem f_mk_Machine (c : SaysM K) : (mkB K "Machine" ("Machine", some "__init__")) = true := c.fact 149
theorem f_mk_Skip (c : SaysM K) : (mk0B K "Skip") = true := c.fact 150
theorem f_mk_Stop (c : SaysM K) : (mk0B K "Stop") = true := c.fact 151
theorem f_ty_Write (c : SaysM K) : (tyB K "Write") = true := c.fact 152
theorem f_is_Write_Write (c : SaysM K) : (kitB K "Write" "Write" true) = true := c.fact 153
theorem f_is_Write_Wait (c : SaysM K) : (kitB K "Write" "Wait" false) = true := c.fact 154
theorem f_is_Write_Mark (c : SaysM K) : (kitB K "Write" "Mark" false) = true := c.fact 155
theorem f_is_Write_Skip (c : SaysM K) : (kitB K "Write" "Skip" false) = true := c.fact 156
theorem f_is_Write_Stop (c : SaysM K) : (kitB K "Write" "Stop" false) = true := c.fact 157
theorem f_is_Write_If (c : SaysM K) : (kitB K "Write" "If" false) = true := c.fact 158
theorem f_is_Write_While (c : SaysM K) : (kitB K "Write" "While" false) = true := c.fact 159
theorem f_is_Write_Choose (c : SaysM K) : (kitB K "Write" "Choose" false) = true := c.fact 160
theorem f_is_Write_Loop (c : SaysM K) : (kitB K "Write" "Loop" false) = true := c.fact 161
theorem f_ty_Wait (c : SaysM K) : (tyB K "Wait") = true := c.fact 162
theorem f_is_Wait_Write (c : SaysM K) : (kitB K "Wait" "Write" false) = true := c.fact 163
theorem f_is_Wait_Wait (c : SaysM K) : (kitB K "Wait" "Wait" true) = true := c.fact 164
theorem f_is_Wait_Mark (c : SaysM K) : (kitB K "Wait" "Mark" false) = true := c.fact 165
theorem f_is_Wait_Skip (c : SaysM K) : (kitB K "Wait" "Skip" false) = true := c.fact 166
theorem f_is_Wait_Stop (c : SaysM K) : (kitB K "Wait" "Stop" false) = true := c.fact 167
theorem f_is_Wait_If (c : SaysM K) : (kitB K "Wait" "If" false) = true := c.fact 168
theorem f_is_Wait_While (c : SaysM K) : (kitB K "Wait" "While" false) = true := c.fact 169
theorem f_is_Wait_Choose (c : SaysM K) : (kitB K "Wait" "Choose" false) = true := c.fact 170
theorem f_is_Wait_Loop (c : SaysM K) : (kitB K "Wait" "Loop" false) = true := c.fact 171
theorem f_ty_Mark (c : SaysM K) : (tyB K "Mark") = true := c.fact 172
theorem f_is_Mark_Write (c : SaysM K) : (kitB K "Mark" "Write" false) = true := c.fact 173
theorem f_is_Mark_Wait (c : SaysM K) : (kitB K "Mark" "Wait" false) = true := c.fact 174
theorem f_is_Mark_Mark (c : SaysM K) : (kitB K "Mark" "Mark" true) = true := c.fact 175
theorem f_is_Mark_Skip (c : SaysM K) : (kitB K "Mark" "Skip" false) = true := c.fact 176
theorem f_is_Mark_Stop (c : SaysM K) : (kitB K "Mark" "Stop" false) = true := c.fact 177
theorem f_is_Mark_If (c : SaysM K) : (kitB K "Mark" "If" false) = true := c.fact 178
theorem f_is_Mark_While (c : SaysM K) : (kitB K "Mark" "While" false) = true := c.fact 179
theorem f_is_Mark_Choose (c : SaysM K) : (kitB K "Mark" "Choose" false) = true := c.fact 180
theorem f_is_Mark_Loop (c : SaysM K) : (kitB K "Mark" "Loop" false) = true := c.fact 181
theorem f_ty_Skip (c : SaysM K) : (tyB K "Skip") = true := c.fact 182
theorem f_is_Skip_Write (c : SaysM K) : (kitB K "Skip" "Write" false) = true := c.fact 183
theorem f_is_Skip_Wait (c : SaysM K) : (kitB K "Skip" "Wait" false) = true := c.fact 184
theorem f_is_Skip_Mark (c : SaysM K) : (kitB K "Skip" "Mark" false) = true := c.fact 185
theorem f_is_Skip_Skip (c : SaysM K) : (kitB K "Skip" "Skip" true) = true := c.fact 186
theorem f_is_Skip_Stop (c : SaysM K) : (kitB K "Skip" "Stop" false) = true := c.fact 187
theorem f_is_Skip_If (c : SaysM K) : (kitB K "Skip" "If" false) = true := c.fact 188
theorem f_is_Skip_While (c : SaysM K) : (kitB K "Skip" "While" false) = true := c.fact 189
theorem f_is_Skip_Choose (c : SaysM K) : (kitB K "Skip" "Choose" false) = true := c.fact 190
theorem f_is_Skip_Loop (c : SaysM K) : (kitB K "Skip" "Loop" false) = true := c.fact 191
theorem f_ty_Stop (c : SaysM K) : (tyB K "Stop") = true := c.fact 192
theorem f_is_Stop_Write (c : SaysM K) : (kitB K "Stop" "Write" false) = true := c.fact 193
theorem f_is_Stop_Wait (c : SaysM K) : (kitB K "Stop" "Wait" false) = true := c.fact 194
theorem f_is_Stop_Mark (c : SaysM K) : (kitB K "Stop" "Mark" false) = true := c.fact 195
theorem f_is_Stop_Skip (c : SaysM K) : (kitB K "Stop" "Skip" false) = true := c.fact 196
theorem f_is_Stop_Stop (c : SaysM K) : (kitB K "Stop" "Stop" true) = true := c.fact 197
theorem f_is_Stop_If (c : SaysM K) : (kitB K "Stop" "If" false) = true := c.fact 198
theorem f_is_Stop_While (c : SaysM K) : (kitB K "Stop" "While" false) = true := c.fact 199
theorem f_is_Stop_Choose (c : SaysM K) : (kitB K "Stop" "Choose" false) = true := c.fact 200
theorem f_is_Stop_Loop (c : SaysM K) : (kitB K "Stop" "Loop" false) = true := c.fact 201
theorem f_ty_If (c : SaysM K) : (tyB K "If") = true := c.fact 202
theorem f_is_If_Write (c : SaysM K) : (kitB K "If" "Write" false) = true := c.fact 203
theorem f_is_If_Wait (c : SaysM K) : (kitB K "If" "Wait" false) = true := c.fact 204
theorem f_is_If_Mark (c : SaysM K) : (kitB K "If" "Mark" false) = true := c.fact 205
theorem f_is_If_Skip (c : SaysM K) : (kitB K "If" "Skip" false) = true := c.fact 206
theorem f_is_If_Stop (c : SaysM K) : (kitB K "If" "Stop" false) = true := c.fact 207
theorem f_is_If_If (c : SaysM K) : (kitB K "If" "If" true) = true := c.fact 208
theorem f_is_If_While (c : SaysM K) : (kitB K "If" "While" false) = true := c.fact 209
theorem f_is_If_Choose (c : SaysM K) : (kitB K "If" "Choose" false) = true := c.fact 210
theorem f_is_If_Loop (c : SaysM K) : (kitB K "If" "Loop" false) = true := c.fact 211
theorem f_ty_While (c : SaysM K) : (tyB K "While") = true := c.fact 212
theorem f_is_While_Write (c : SaysM K) : (kitB K "While" "Write" false) = true := c.fact 213
theorem f_is_While_Wait (c : SaysM K) : (kitB K "While" "Wait" false) = true := c.fact 214
theorem f_is_While_Mark (c : SaysM K) : (kitB K "While" "Mark" false) = true := c.fact 215
theorem f_is_While_Skip (c : SaysM K) : (kitB K "While" "Skip" false) = true := c.fact 216
theorem f_is_While_Stop (c : SaysM K) : (kitB K "While" "Stop" false) = true := c.fact 217
theorem f_is_While_If (c : SaysM K) : (kitB K "While" "If" false) = true := c.fact 218
theorem f_is_While_While (c : SaysM K) : (kitB K "While" "While" true) = true := c.fact 219
theorem f_is_While_Choose (c : SaysM K) : (kitB K "While" "Choose" false) = true := c.fact 220
theorem f_is_While_Loop (c : SaysM K) : (kitB K "While" "Loop" false) = true := c.fact 221
theorem f_ty_Choose (c : SaysM K) : (tyB K "Choose") = true := c.fact 222
theorem f_is_Choose_Write (c : SaysM K) : (kitB K "Choose" "Write" false) = true := c.fact 223
theorem f_is_Choose_Wait (c : SaysM K) : (kitB K "Choose" "Wait" false) = true := c.fact 224
theorem f_is_Choose_Mark (c : SaysM K) : (kitB K "Choose" "Mark" false) = true := c.fact 225
theorem f_is_Choose_Skip (c : SaysM K) : (kitB K "Choose" "Skip" false) = true := c.fact 226
theorem f_is_Choose_Stop (c : SaysM K) : (kitB K "Choose" "Stop" false) = true := c.fact 227
theorem f_is_Choose_If (c : SaysM K) : (kitB K "Choose" "If" false) = true := c.fact 228
theorem f_is_Choose_While (c : SaysM K) : (kitB K "Choose" "While" false) = true := c.fact 229
theorem f_is_Choose_Choose (c : SaysM K) : (kitB K "Choose" "Choose" true) = true := c.fact 230
theorem f_is_Choose_Loop (c : SaysM K) : (kitB K "Choose" "Loop" false) = true := c.fact 231
theorem f_ty_Loop (c : SaysM K) : (tyB K "Loop") = true := c.fact 232
theorem f_is_Loop_Write (c : SaysM K) : (kitB K "Loop" "Write" false) = true := c.fact 233
theorem f_is_Loop_Wait (c : SaysM K) : (kitB K "Loop" "Wait" false) = true := c.fact 234
theorem f_is_Loop_Mark (c : SaysM K) : (kitB K "Loop" "Mark" false) = true := c.fact 235
theorem f_is_Loop_Skip (c : SaysM K) : (kitB K "Loop" "Skip" false) = true := c.fact 236
theorem f_is_Loop_Stop (c : SaysM K) : (kitB K "Loop" "Stop" false) = true := c.fact 237
theorem f_is_Loop_If (c : SaysM K) : (kitB K "Loop" "If" false) = true := c.fact 238
theorem f_is_Loop_While (c : SaysM K) : (kitB K "Loop" "While" false) = true := c.fact 239
theorem f_is_Loop_Choose (c : SaysM K) : (kitB K "Loop" "Choose" false) = true := c.fact 240
theorem f_is_Loop_Loop (c : SaysM K) : (kitB K "Loop" "Loop" true) = true := c.fact 241
theorem f_ty (c : SaysM K) : (tyB0 K) = true := c.fact 242
theorem f_tup_GO (c : SaysM K) : (He.tupB K "GO" [.str "go"]) = true := c.fact 243
theorem f_cr_OnCell (c : SaysM K) : (crB K) = true := c.fact 244
theorem fn_is_name (c : SaysM K) : ∃ fd, FunD K d_is_name.name d_is_name.qual (defArgs s_is_name) (defBody s_is_name) (defScope s_is_name) [] [] (He.fAd K d_is_name.at_) fd := c.dfn 0
theorem fn_asked_names (c : SaysM K) : ∃ fd, FunD K d_asked_names.name d_asked_names.qual (defArgs s_asked_names) (defBody s_asked_names) (defScope s_asked_names) [] [] (He.fAd K d_asked_names.at_) fd := c.dfn 1
theorem fn_asked_once (c : SaysM K) : ∃ fd, FunD K d_asked_once.name d_asked_once.qual (defArgs s_asked_once) (defBody s_asked_once) (defScope s_asked_once) [] [] (He.fAd K d_asked_once.at_) fd := c.dfn 2
theorem fn_asked_size (c : SaysM K) : ∃ fd, FunD K d_asked_size.name d_asked_size.qual (defArgs s_asked_size) (defBody s_asked_size) (defScope s_asked_size) [] [] (He.fAd K d_asked_size.at_) fd := c.dfn 3
theorem fn_Statement_parts (c : SaysM K) : ∃ fd, FunD K d_Statement_parts.name d_Statement_parts.qual (defArgs s_Statement_parts) (defBody s_Statement_parts) (defScope s_Statement_parts) [] [] (He.fAd K d_Statement_parts.at_) fd := c.dfn 4
theorem fn_Statement_size (c : SaysM K) : ∃ fd, FunD K d_Statement_size.name d_Statement_size.qual (defArgs s_Statement_size) (defBody s_Statement_size) (defScope s_Statement_size) [] [] (He.fAd K d_Statement_size.at_) fd := c.dfn 5
theorem fn_Statement_words (c : SaysM K) : ∃ fd, FunD K d_Statement_words.name d_Statement_words.qual (defArgs s_Statement_words) (defBody s_Statement_words) (defScope s_Statement_words) [] [] (He.fAd K d_Statement_words.at_) fd := c.dfn 6
theorem fn_OnCell_init (c : SaysM K) : ∃ fd, FunD K d_OnCell_init.name d_OnCell_init.qual (defArgs s_OnCell_init) (defBody s_OnCell_init) (defScope s_OnCell_init) [] [] (He.fAd K d_OnCell_init.at_) fd := c.dfn 7
theorem fn_Write_told (c : SaysM K) : ∃ fd, FunD K d_Write_told.name d_Write_told.qual (defArgs s_Write_told) (defBody s_Write_told) (defScope s_Write_told) [] [] (He.fAd K d_Write_told.at_) fd := c.dfn 8
theorem fn_Wait_told (c : SaysM K) : ∃ fd, FunD K d_Wait_told.name d_Wait_told.qual (defArgs s_Wait_told) (defBody s_Wait_told) (defScope s_Wait_told) [] [] (He.fAd K d_Wait_told.at_) fd := c.dfn 9
theorem fn_Mark_told (c : SaysM K) : ∃ fd, FunD K d_Mark_told.name d_Mark_told.qual (defArgs s_Mark_told) (defBody s_Mark_told) (defScope s_Mark_told) [] [] (He.fAd K d_Mark_told.at_) fd := c.dfn 10
theorem fn_Skip_told (c : SaysM K) : ∃ fd, FunD K d_Skip_told.name d_Skip_told.qual (defArgs s_Skip_told) (defBody s_Skip_told) (defScope s_Skip_told) [] [] (He.fAd K d_Skip_told.at_) fd := c.dfn 11
theorem fn_Stop_told (c : SaysM K) : ∃ fd, FunD K d_Stop_told.name d_Stop_told.qual (defArgs s_Stop_told) (defBody s_Stop_told) (defScope s_Stop_told) [] [] (He.fAd K d_Stop_told.at_) fd := c.dfn 12
theorem fn_Mark_init (c : SaysM K) : ∃ fd, FunD K d_Mark_init.name d_Mark_init.qual (defArgs s_Mark_init) (defBody s_Mark_init) (defScope s_Mark_init) [] [] (He.fAd K d_Mark_init.at_) fd := c.dfn 13
theorem fn_in_braces (c : SaysM K) : ∃ fd, FunD K d_in_braces.name d_in_braces.qual (defArgs s_in_braces) (defBody s_in_braces) (defScope s_in_braces) [] [] (He.fAd K d_in_braces.at_) fd := c.dfn 14
theorem fn_If_init (c : SaysM K) : ∃ fd, FunD K d_If_init.name d_If_init.qual (defArgs s_If_init) (defBody s_If_init) (defScope s_If_init) [] [] (He.fAd K d_If_init.at_) fd := c.dfn 15
theorem fn_If_parts (c : SaysM K) : ∃ fd, FunD K d_If_parts.name d_If_parts.qual (defArgs s_If_parts) (defBody s_If_parts) (defScope s_If_parts) [] [] (He.fAd K d_If_parts.at_) fd := c.dfn 16
theorem fn_If_words (c : SaysM K) : ∃ fd, FunD K d_If_words.name d_If_words.qual (defArgs s_If_words) (defBody s_If_words) (defScope s_If_words) [] [] (He.fAd K d_If_words.at_) fd := c.dfn 17
theorem fn_While_init (c : SaysM K) : ∃ fd, FunD K d_While_init.name d_While_init.qual (defArgs s_While_init) (defBody s_While_init) (defScope s_While_init) [] [] (He.fAd K d_While_init.at_) fd := c.dfn 18
theorem fn_While_parts (c : SaysM K) : ∃ fd, FunD K d_While_parts.name d_While_parts.qual (defArgs s_While_parts) (defBody s_While_parts) (defScope s_While_parts) [] [] (He.fAd K d_While_parts.at_) fd := c.dfn 19
theorem fn_While_words (c : SaysM K) : ∃ fd, FunD K d_While_words.name d_While_words.qual (defArgs s_While_words) (defBody s_While_words) (defScope s_While_words) [] [] (He.fAd K d_While_words.at_) fd := c.dfn 20
theorem fn_Choose_init (c : SaysM K) : ∃ fd, FunD K d_Choose_init.name d_Choose_init.qual (defArgs s_Choose_init) (defBody s_Choose_init) (defScope s_Choose_init) [] [] (He.fAd K d_Choose_init.at_) fd := c.dfn 21
theorem fn_Choose_parts (c : SaysM K) : ∃ fd, FunD K d_Choose_parts.name d_Choose_parts.qual (defArgs s_Choose_parts) (defBody s_Choose_parts) (defScope s_Choose_parts) [] [] (He.fAd K d_Choose_parts.at_) fd := c.dfn 22
theorem fn_Choose_words (c : SaysM K) : ∃ fd, FunD K d_Choose_words.name d_Choose_words.qual (defArgs s_Choose_words) (defBody s_Choose_words) (defScope s_Choose_words) [] [] (He.fAd K d_Choose_words.at_) fd := c.dfn 23
theorem fn_Loop_init (c : SaysM K) : ∃ fd, FunD K d_Loop_init.name d_Loop_init.qual (defArgs s_Loop_init) (defBody s_Loop_init) (defScope s_Loop_init) [] [] (He.fAd K d_Loop_init.at_) fd := c.dfn 24
theorem fn_Loop_parts (c : SaysM K) : ∃ fd, FunD K d_Loop_parts.name d_Loop_parts.qual (defArgs s_Loop_parts) (defBody s_Loop_parts) (defScope s_Loop_parts) [] [] (He.fAd K d_Loop_parts.at_) fd := c.dfn 25
theorem fn_Loop_words (c : SaysM K) : ∃ fd, FunD K d_Loop_words.name d_Loop_words.qual (defArgs s_Loop_words) (defBody s_Loop_words) (defScope s_Loop_words) [] [] (He.fAd K d_Loop_words.at_) fd := c.dfn 26
theorem fn_Program_init (c : SaysM K) : ∃ fd, FunD K d_Program_init.name d_Program_init.qual (defArgs s_Program_init) (defBody s_Program_init) (defScope s_Program_init) [] [] (He.fAd K d_Program_init.at_) fd := c.dfn 27
theorem fn_Program_size (c : SaysM K) : ∃ fd, FunD K d_Program_size.name d_Program_size.qual (defArgs s_Program_size) (defBody s_Program_size) (defScope s_Program_size) [] [] (He.fAd K d_Program_size.at_) fd := c.dfn 28
theorem fn_Program_deep (c : SaysM K) : ∃ fd, FunD K d_Program_deep.name d_Program_deep.qual (defArgs s_Program_deep) (defBody s_Program_deep) (defScope s_Program_deep) [] [] (He.fAd K d_Program_deep.at_) fd := c.dfn 29
theorem fn_Program_words (c : SaysM K) : ∃ fd, FunD K d_Program_words.name d_Program_words.qual (defArgs s_Program_words) (defBody s_Program_words) (defScope s_Program_words) [] [] (He.fAd K d_Program_words.at_) fd := c.dfn 30
theorem fn_Program_str (c : SaysM K) : ∃ fd, FunD K d_Program_str.name d_Program_str.qual (defArgs s_Program_str) (defBody s_Program_str) (defScope s_Program_str) [] [] (He.fAd K d_Program_str.at_) fd := c.dfn 31
theorem fn_looks_lefts (c : SaysM K) : ∃ fd, FunD K d_looks_lefts.name d_looks_lefts.qual (defArgs s_looks_lefts) (defBody s_looks_lefts) (defScope s_looks_lefts) [] [] (He.fAd K d_looks_lefts.at_) fd := c.dfn 32
theorem fn_left_of_cell (c : SaysM K) : ∃ fd, FunD K d_left_of_cell.name d_left_of_cell.qual (defArgs s_left_of_cell) (defBody s_left_of_cell) (defScope s_left_of_cell) [] [] (He.fAd K d_left_of_cell.at_) fd := c.dfn 33
theorem fn_left (c : SaysM K) : ∃ fd, FunD K d_left.name d_left.qual (defArgs s_left) (defBody s_left) (defScope s_left) [] [] (He.fAd K d_left.at_) fd := c.dfn 34
theorem fn_asked_cells (c : SaysM K) : ∃ fd, FunD K d_asked_cells.name d_asked_cells.qual (defArgs s_asked_cells) (defBody s_asked_cells) (defScope s_asked_cells) [] [] (He.fAd K d_asked_cells.at_) fd := c.dfn 35
theorem fn_Board_init (c : SaysM K) : ∃ fd, FunD K d_Board_init.name d_Board_init.qual (defArgs s_Board_init) (defBody s_Board_init) (defScope s_Board_init) [] [] (He.fAd K d_Board_init.at_) fd := c.dfn 36
theorem fn_Board_values_of (c : SaysM K) : ∃ fd, FunD K d_Board_values_of.name d_Board_values_of.qual (defArgs s_Board_values_of) (defBody s_Board_values_of) (defScope s_Board_values_of) [] [] (He.fAd K d_Board_values_of.at_) fd := c.dfn 37
theorem fn_Board_asked (c : SaysM K) : ∃ fd, FunD K d_Board_asked.name d_Board_asked.qual (defArgs s_Board_asked) (defBody s_Board_asked) (defScope s_Board_asked) [] [] (He.fAd K d_Board_asked.at_) fd := c.dfn 38
theorem fn_Board_others (c : SaysM K) : ∃ fd, FunD K d_Board_others.name d_Board_others.qual (defArgs s_Board_others) (defBody s_Board_others) (defScope s_Board_others) [] [] (He.fAd K d_Board_others.at_) fd := c.dfn 39
theorem fn_looks_rooms (c : SaysM K) : ∃ fd, FunD K d_looks_rooms.name d_looks_rooms.qual (defArgs s_looks_rooms) (defBody s_looks_rooms) (defScope s_looks_rooms) [] [] (He.fAd K d_looks_rooms.at_) fd := c.dfn 40
theorem fn_Machine_init (c : SaysM K) : ∃ fd, FunD K d_Machine_init.name d_Machine_init.qual (defArgs s_Machine_init) (defBody s_Machine_init) (defScope s_Machine_init) [] [] (He.fAd K d_Machine_init.at_) fd := c.dfn 41
theorem fn_Machine_number_row (c : SaysM K) : ∃ fd, FunD K d_Machine_number_row.name d_Machine_number_row.qual (defArgs s_Machine_number_row) (defBody s_Machine_number_row) (defScope s_Machine_number_row) [] [] (He.fAd K d_Machine_number_row.at_) fd := c.dfn 42
theorem fn_Machine_lay_row (c : SaysM K) : ∃ fd, FunD K d_Machine_lay_row.name d_Machine_lay_row.qual (defArgs s_Machine_lay_row) (defBody s_Machine_lay_row) (defScope s_Machine_lay_row) [] [] (He.fAd K d_Machine_lay_row.at_) fd := c.dfn 43
theorem fn_Machine_begin_of (c : SaysM K) : ∃ fd, FunD K d_Machine_begin_of.name d_Machine_begin_of.qual (defArgs s_Machine_begin_of) (defBody s_Machine_begin_of) (defScope s_Machine_begin_of) [] [] (He.fAd K d_Machine_begin_of.at_) fd := c.dfn 44
theorem fn_Machine_lay (c : SaysM K) : ∃ fd, FunD K d_Machine_lay.name d_Machine_lay.qual (defArgs s_Machine_lay) (defBody s_Machine_lay) (defScope s_Machine_lay) [] [] (He.fAd K d_Machine_lay.at_) fd := c.dfn 45
theorem fn_Machine_steps_of (c : SaysM K) : ∃ fd, FunD K d_Machine_steps_of.name d_Machine_steps_of.qual (defArgs s_Machine_steps_of) (defBody s_Machine_steps_of) (defScope s_Machine_steps_of) [] [] (He.fAd K d_Machine_steps_of.at_) fd := c.dfn 46
theorem fn_Machine_asked (c : SaysM K) : ∃ fd, FunD K d_Machine_asked.name d_Machine_asked.qual (defArgs s_Machine_asked) (defBody s_Machine_asked) (defScope s_Machine_asked) [] [] (He.fAd K d_Machine_asked.at_) fd := c.dfn 47
theorem fn_Machine_steps (c : SaysM K) : ∃ fd, FunD K d_Machine_steps.name d_Machine_steps.qual (defArgs s_Machine_steps) (defBody s_Machine_steps) (defScope s_Machine_steps) [] [] (He.fAd K d_Machine_steps.at_) fd := c.dfn 48
theorem fn_Machine_mark_of (c : SaysM K) : ∃ fd, FunD K d_Machine_mark_of.name d_Machine_mark_of.qual (defArgs s_Machine_mark_of) (defBody s_Machine_mark_of) (defScope s_Machine_mark_of) [] [] (He.fAd K d_Machine_mark_of.at_) fd := c.dfn 49
theorem fn_law_state (c : SaysM K) : ∃ fd, FunD K d_law_state.name d_law_state.qual (defArgs s_law_state) (defBody s_law_state) (defScope s_law_state) [] [] (He.fAd K d_law_state.at_) fd := c.dfn 50
theorem fn_law_digit (c : SaysM K) : ∃ fd, FunD K d_law_digit.name d_law_digit.qual (defArgs s_law_digit) (defBody s_law_digit) (defScope s_law_digit) [] [] (He.fAd K d_law_digit.at_) fd := c.dfn 51
theorem fn_law_name (c : SaysM K) : ∃ fd, FunD K d_law_name.name d_law_name.qual (defArgs s_law_name) (defBody s_law_name) (defScope s_law_name) [] [] (He.fAd K d_law_name.at_) fd := c.dfn 52
theorem fn_law_names (c : SaysM K) : ∃ fd, FunD K d_law_names.name d_law_names.qual (defArgs s_law_names) (defBody s_law_names) (defScope s_law_names) [] [] (He.fAd K d_law_names.at_) fd := c.dfn 53
theorem fn_law_cells (c : SaysM K) : ∃ fd, FunD K d_law_cells.name d_law_cells.qual (defArgs s_law_cells) (defBody s_law_cells) (defScope s_law_cells) [] [] (He.fAd K d_law_cells.at_) fd := c.dfn 54
theorem fn_law_simple (c : SaysM K) : ∃ fd, FunD K d_law_simple.name d_law_simple.qual (defArgs s_law_simple) (defBody s_law_simple) (defScope s_law_simple) [] [] (He.fAd K d_law_simple.at_) fd := c.dfn 55
theorem fn_law_statement (c : SaysM K) : ∃ fd, FunD K d_law_statement.name d_law_statement.qual (defArgs s_law_statement) (defBody s_law_statement) (defScope s_law_statement) [] [] (He.fAd K d_law_statement.at_) fd := c.dfn 56
theorem fn_law_row (c : SaysM K) : ∃ fd, FunD K d_law_row.name d_law_row.qual (defArgs s_law_row) (defBody s_law_row) (defScope s_law_row) [] [] (He.fAd K d_law_row.at_) fd := c.dfn 57
theorem fn_law_program (c : SaysM K) : ∃ fd, FunD K d_law_program.name d_law_program.qual (defArgs s_law_program) (defBody s_law_program) (defScope s_law_program) [] [] (He.fAd K d_law_program.at_) fd := c.dfn 58
theorem fn_law_made (c : SaysM K) : ∃ fd, FunD K d_law_made.name d_law_made.qual (defArgs s_law_made) (defBody s_law_made) (defScope s_law_made) [] [] (He.fAd K d_law_made.at_) fd := c.dfn 59
theorem fn_law_built (c : SaysM K) : ∃ fd, FunD K d_law_built.name d_law_built.qual (defArgs s_law_built) (defBody s_law_built) (defScope s_law_built) [] [] (He.fAd K d_law_built.at_) fd := c.dfn 60
theorem fn_law_text (c : SaysM K) : ∃ fd, FunD K d_law_text.name d_law_text.qual (defArgs s_law_text) (defBody s_law_text) (defScope s_law_text) [] [] (He.fAd K d_law_text.at_) fd := c.dfn 61
theorem fn_law_mark (c : SaysM K) : ∃ fd, FunD K d_law_mark.name d_law_mark.qual (defArgs s_law_mark) (defBody s_law_mark) (defScope s_law_mark) [] [] (He.fAd K d_law_mark.at_) fd := c.dfn 62
theorem fn_law (c : SaysM K) : ∃ fd, FunD K d_law.name d_law.qual (defArgs s_law) (defBody s_law) (defScope s_law) [] [] (He.fAd K d_law.at_) fd := c.dfn 63
end
end Mb


set_option Elab.async false
set_option linter.all false
set_option maxRecDepth 100000
set_option maxHeartbeats 4000000
/-! the context of the defs, rules of our own -/
namespace Mb
open PySem PySem.Spec PyProof.Rows L2
/-! ### what the head leaves, by names -/
structure TX (K : PySem.W.Frag) (mg : Str → Option Value) : Prop where
  c : SaysM K
  g : ∃ h : Heap, K.In h ∧ h.Ns mainGlobals mg
section
variable {K : PySem.W.Frag} {mg : Str → Option Value}
theorem TX.glo (T : TX K mg) {x : Str} (e : He.Fa.ok K (.glo x) = true) : mg x = some (.ref (He.ga K x)) :=
  let ⟨_, a, b⟩ := T.g
  He.glo_ok a b e
theorem TX.free (T : TX K mg) {x : Str} (e : He.Fa.ok K (.free x) = true) : mg x = none :=
  let ⟨_, a, b⟩ := T.g
  He.free_ok a b e
theorem TX.int (T : TX K mg) {x : Str} {i : Int} (e : He.Fa.ok K (.int x i) = true) : ∃ u, mg x = some u ∧ RelV (.int i) u :=
  let ⟨_, a, b⟩ := T.g
  let ⟨t, q⟩ := He.int_ok a b e
  ⟨_, q, t, rfl⟩
theorem TX.str (T : TX K mg) {x z : Str} (e : He.Fa.ok K (.str x z) = true) : ∃ u, mg x = some u ∧ RelV (.str z) u :=
  let ⟨_, a, b⟩ := T.g
  let ⟨t, q⟩ := He.str_ok a b e
  ⟨_, q, t, rfl⟩
theorem TX.ref (T : TX K mg) {x : Str} (e : He.Fa.ok K (.glo x) = true) : ∃ u, mg x = some u ∧ RelV (.ref (He.ga K x)) u := ⟨_, T.glo e, rfl⟩
theorem cls_of {x : Str} (e : He.Fa.ok K (.cls x) = true) : Cls K (He.ga K x) := He.cls_ok e
theorem no_of {x a : Str} (e : He.Fa.ok K (.noat x a) = true) : NoAttr K (He.ga K x) a := He.noat_ok e
theorem meth_of {x m : Str} {p : Str × Option Str} (e : methB K x m p = true) : Meth K (He.ga K x) m (He.fAd K p) := by
  obtain ⟨a, b⟩ := He.ba e
  obtain ⟨b, c⟩ := He.ba b
  exact ⟨He.eqO_ok a, b, c⟩
theorem mk_of {x : Str} {p : Str × Option Str} (e : mkB K x p = true) : Mk K (He.ga K x) (He.fAd K p) := by
  obtain ⟨a, b⟩ := He.ba e
  obtain ⟨b, c⟩ := He.ba b
  obtain ⟨c, d⟩ := He.ba c
  exact ⟨a, He.eqO_ok b, c, d⟩
theorem kit_of {x y : Str} {b : Bool} (e : kitB K x y b = true) : PySem.W.kitOne K (.ref (He.ga K x)) (.ref (He.ga K y)) = some b := of_decide_eq_true e
theorem ty_of {x : Str} (c : SaysM K) (e : tyB K x = true) (k : Cls K (He.ga K x)) {H : Hp} {a dx : Addr} {fs : List (Str × V)} (ha : H a = some (.ins (He.ga K x) dx fs)) : TyX K H (.ref a) (.ref (He.ga K x)) := by
  obtain ⟨a1, a2⟩ := He.ba e
  obtain ⟨b1, b2⟩ := He.ba (f_ty c)
  exact .base (.ins ha k (He.eqO_ok a1) (He.eqO_ok b1) (of_decide_eq_true b2) (of_decide_eq_true a2))
end

/-! ### defs, methods, classes that may be called -/
/-- the module's name x stands for a def that keeps sp at level k -/
structure Cal (P : Program) (w : World) (K : PySem.W.Frag) (mg : Str → Option Value) (base : Heap) (k : Nat) (x : Str) (sp : Sp) : Prop where
  ex : ∃ (f : Addr) (fd : FuncData) (ps : List Str), FnOk P w K mg base CX0 k f fd ps sp ∧ Binds K fd ps [] ∧ PySem.W.keepIn K (.ref f) = true ∧ mg x = some (.ref f)
/-- m is a method of the class at C that keeps sp at level k -/
structure Met (P : Program) (w : World) (K : PySem.W.Frag) (mg : Str → Option Value) (base : Heap) (k : Nat) (C : Addr) (m : Str) (sp : Sp) : Prop where
  ex : ∃ (f : Addr) (fd : FuncData) (ps : List Str), FnOk P w K mg base CX0 k f fd ps sp ∧ Binds K fd ps [] ∧ Meth K C m f ∧ Cls K C
/-- the module's name x stands for the class at C, whose __init__ keeps sp at level k -/
structure Mak (P : Program) (w : World) (K : PySem.W.Frag) (mg : Str → Option Value) (base : Heap) (k : Nat) (x : Str) (C : Addr) (sp : Sp) : Prop where
  ex : ∃ (f : Addr) (fd : FuncData) (ps : List Str), FnOk P w K mg base CX0 k f fd ps sp ∧ Binds K fd ps [] ∧ Mk K C f ∧ mg x = some (.ref C)
/-! ### a def by its body -/
section
variable {P : Program} {w : World} {K : PySem.W.Frag} {mg : Str → Option Value} {base : Heap} {n qual m : Str} {params : Arguments} {body : List Stmt} {scope : Scope} {N ps : List Str} {k : Nat} {sp : Sp} {C : Addr}
/-- what a body has to show -/
def Bdy (P : Program) (w : World) (K : PySem.W.Frag) (mg : Str → Option Value) (base : Heap) (N : List Str) (qual : Str) (scope : Scope) (f : Addr) (k : Nat) (body : List Stmt) (sp : Sp) : Prop :=
  ∀ (cdv : Value) (A : Around) (outer : List Env) (s : Shared) (H : Hp) (vs : List V) (Q : VK) (E : XK), Room k (A.deeper (envOfC qual scope s.heap.objs.size f cdv)) → sp vs H Q E →
    ∃ t, PSs (cxOf CX0 P w K mg base N qual scope f cdv A outer s H E).nox body t ∧ t { nx := fun _ H2 => Q .non H2, rt := Q } (start N vs) H
def Bnd (n qual : Str) (params : Arguments) (body : List Stmt) (scope : Scope) (ps : List Str) : Prop :=
  ∀ (kV doc pm : Value) (an : Option Addr) (cdv ct : Value) (us : List Value), us.length = ps.length → bindArgs (PySem.W.fnOf n qual params body scope .none kV doc pm an cdv ct) ⟨us, []⟩ = pure (ps.zip us)
theorem okD {f : Addr} {fd : FuncData} (F : FunD K n qual params body scope [] [] f fd) (S : FnScope N ps scope) (len : ∀ vs H Q E, sp vs H Q E → vs.length = ps.length) (hb : Bdy P w K mg base N qual scope f k body sp) : FnOk P w K mg base CX0 (k + 1) f fd ps sp :=
  F.ok S len fun cdv A outer s H vs Q E hr h =>
    let ⟨t, a, b⟩ := hb cdv A outer s H vs Q E hr h
    ⟨t, a.nox, b⟩
theorem calD {x : Str} (F : ∃ fd, FunD K n qual params body scope [] [] (He.fAd K (x, none)) fd) (hm : mg x = some (.ref (He.ga K x))) (S : FnScope N ps scope) (bn : Bnd n qual params body scope ps)
    (len : ∀ vs H Q E, sp vs H Q E → vs.length = ps.length) (hb : Bdy P w K mg base N qual scope (He.fAd K (x, none)) k body sp) : Cal P w K mg base (k + 1) x sp := by
  obtain ⟨fd, F⟩ := F
  exact ⟨_, fd, ps, okD F S len hb, F.bindsN bn, F.kp, hm⟩
theorem metD {p : Str × Option Str} (F : ∃ fd, FunD K n qual params body scope [] [] (He.fAd K p) fd) (c : Cls K C) (hm : Meth K C m (He.fAd K p)) (S : FnScope N ps scope) (bn : Bnd n qual params body scope ps)
    (len : ∀ vs H Q E, sp vs H Q E → vs.length = ps.length) (hb : Bdy P w K mg base N qual scope (He.fAd K p) k body sp) : Met P w K mg base (k + 1) C m sp := by
  obtain ⟨fd, F⟩ := F
  exact ⟨_, fd, ps, okD F S len hb, F.bindsN bn, hm, c⟩
theorem makD {x : Str} {p : Str × Option Str} (F : ∃ fd, FunD K n qual params body scope [] [] (He.fAd K p) fd) (M : Mk K C (He.fAd K p)) (hm : mg x = some (.ref C)) (S : FnScope N ps scope) (bn : Bnd n qual params body scope ps)
    (len : ∀ vs H Q E, sp vs H Q E → vs.length = ps.length) (hb : Bdy P w K mg base N qual scope (He.fAd K p) k body sp) : Mak P w K mg base (k + 1) x C sp := by
  obtain ⟨fd, F⟩ := F
  exact ⟨_, fd, ps, okD F S len hb, F.bindsN bn, M, hm⟩
theorem Cal.wk {j : Nat} {x : Str} {sp2 : Sp} (c : Cal P w K mg base k x sp) (h : k ≤ j) (i : ∀ vs H Q E, sp2 vs H Q E → sp vs H Q E) : Cal P w K mg base j x sp2 := by
  obtain ⟨f, fd, ps, F, r⟩ := c.ex
  exact ⟨f, fd, ps, (F.mono h).imp i, r⟩
theorem Met.wk {j : Nat} {sp2 : Sp} (c : Met P w K mg base k C m sp) (h : k ≤ j) (i : ∀ vs H Q E, sp2 vs H Q E → sp vs H Q E) : Met P w K mg base j C m sp2 := by
  obtain ⟨f, fd, ps, F, r⟩ := c.ex
  exact ⟨f, fd, ps, (F.mono h).imp i, r⟩
theorem Mak.wk {j : Nat} {x : Str} {sp2 : Sp} (c : Mak P w K mg base k x C sp) (h : k ≤ j) (i : ∀ vs H Q E, sp2 vs H Q E → sp vs H Q E) : Mak P w K mg base j x C sp2 := by
  obtain ⟨f, fd, ps, F, r⟩ := c.ex
  exact ⟨f, fd, ps, (F.mono h).imp i, r⟩
end

/-! ### their calls -/
section
variable {X : Cx} {k j : Nat} {C : Addr} {x m : Str} {sp : Sp} {p pos apos : Pos} {e o : Expr} {es : List Expr} {ta : TE} {t : TA}
theorem pe_c (c : Cal X.prog X.w X.K X.mg X.base k x sp) (hr : Room j X.A) (ha : PA X (e :: es) t) (hk : k ≤ j := by first | decide | omega) (hg : Gl X x := by rfl)
    (hdb : (x == ("__debug__" : Str)) = false := by decide) (he : starEach (e :: es) X.env = (false, eval e X.env) :: starEach es X.env := by rfl) (hpl : (backTo pos (starEach es X.env)).any (·.1) = false := by rfl) :
    PE X (.Call (.Name x p) (e :: es) [] pos) (tCall sp [] E0 t) := by
  obtain ⟨f, fd, ps, F, b, kp, hm⟩ := c.ex
  exact pe_call F (hr.mono hk) hg hm kp b .nil pass0 ha hdb he hpl
theorem pe_mk (c : Mak X.prog X.w X.K X.mg X.base k x C sp) (hr : Room j X.A) (ha : PA X (e :: es) t) (hk : k + 1 ≤ j := by first | decide | omega) (hg : Gl X x := by rfl)
    (hdb : (x == ("__debug__" : Str)) = false := by decide) (he : starEach (e :: es) X.env = (false, eval e X.env) :: starEach es X.env := by rfl) (hpl : (backTo pos (starEach es X.env)).any (·.1) = false := by rfl) :
    PE X (.Call (.Name x p) (e :: es) [] pos) (tMake C sp [] E0 t) := by
  obtain ⟨f, fd, ps, F, b, M, hm⟩ := c.ex
  exact pe_make M F (hr.mono hk) hg hm b .nil pass0 ha hdb he hpl
theorem pe_mt {pl : Sem Bool} (c : Met X.prog X.w X.K X.mg X.base k C m sp) (hr : Room j X.A) (he : PE X o ta) (ha : PA X (e :: es) t) (hk : k ≤ j := by first | decide | omega)
    (hst : starEach (e :: es) X.env = (false, eval e X.env) :: starEach es X.env := by rfl) (hpl : (backTo pos (starEach es X.env)).any (·.1) = false := by rfl)
    (ht : eval (.Call (.Attribute o m apos) (e :: es) [] pos) X.env = (do
      let ov ← eval o X.env
      standAt apos.atName
      let (f, first) ← holding [ov] (getMethod ov m pl)
      callWith pos f first (backTo pos (starEach (e :: es) X.env)) (backToKw pos (keywordEach [] X.env))) := by rfl) :
    PE X (.Call (.Attribute o m apos) (e :: es) [] pos) (tMeth C m sp [] E0 ta t) := by
  obtain ⟨f, fd, ps, F, b, hm, hc⟩ := c.ex
  exact pe_meth (pl := pl) he hc hm F (hr.mono hk) b .nil pass0 ha hst hpl ht
theorem pe_mt0 {pl : Sem Bool} (c : Met X.prog X.w X.K X.mg X.base k C m sp) (hr : Room j X.A) (he : PE X o ta) (hk : k ≤ j := by first | decide | omega)
    (ht : eval (.Call (.Attribute o m apos) [] [] pos) X.env = (do
      let ov ← eval o X.env
      standAt apos.atName
      let (f, first) ← holding [ov] (getMethod ov m pl)
      callWith pos f first (backTo pos (starEach [] X.env)) (backToKw pos (keywordEach [] X.env))) := by rfl) :
    PE X (.Call (.Attribute o m apos) [] [] pos) (tMeth C m sp [] E0 ta tNil) := by
  obtain ⟨f, fd, ps, F, b, hm, hc⟩ := c.ex
  exact pe_meth0 (pl := pl) he hc hm F (hr.mono hk) b .nil pass0 ht
end

/-! ### a rule chosen at the reading -/
section
variable {X : Cx} {ι : Sort _}
def tAny (t : ι → TE) : TE := fun σ H Q => ∃ i, t i σ H Q
def ttAny (t : ι → TT) : TT := fun σ H Q => ∃ i, t i σ H Q
def tsAny (t : ι → TS) : TS := fun D σ H => ∃ i, t i D σ H
theorem pe_ex {e : Expr} {t : ι → TE} (h : ∀ i, PE X e (t i)) : PE X e (tAny t) :=
  ⟨fun pins s σ H Q I ⟨i, q⟩ => (h i).run pins s σ H Q I q⟩
theorem pt_ex {e : Expr} {t : ι → TT} (h : ∀ i, PT X e (t i)) : PT X e (ttAny t) :=
  ⟨fun pins s σ H Q I ⟨i, q⟩ => (h i).run pins s σ H Q I q⟩
theorem pss_ex {e : List Stmt} {t : ι → TS} (h : ∀ i, PSs X e (t i)) : PSs X e (tsAny t) :=
  ⟨fun pins s σ H D I ⟨i, q⟩ => (h i).run pins s σ H D I q⟩
theorem ps_ex {e : Stmt} {t : ι → TS} (h : ∀ i, PS X e (t i)) : PS X e (tsAny t) :=
  ⟨fun pins s σ H D I ⟨i, q⟩ => (h i).run pins s σ H D I q⟩
end

/-! ### C() of a class without an __init__ of its own -/
section
variable {X : Cx} {x : Str} {p pos : Pos} {C : Addr}
def tBare (C : Addr) : TE := fun _ H Q => ∀ x dx, H x = none → H dx = none → dx ≠ x → Q (.ref x) (upd (upd H dx (.own x)) x (.ins C dx []))
theorem pe_bare (hm : PySem.W.makesIn X.K C = true) (hi : PySem.W.findIn X.K (.ref C) "__init__" = some (some (.builtin "object.__init__"))) (hk : PySem.W.keepIn X.K (.ref C) = true) (hg : Gl X x) (hx : X.mg x = some (.ref C))
    (hdb : (x == ("__debug__" : Str)) = false := by decide) : PE X (.Call (.Name x p) [] [] pos) (tBare C) := by
  refine ⟨fun pins s σ H Q I q => ?_⟩
  refine wpAny_Call_Name_kw (ld_glob I hg hx ?_ hdb)
  refine PySem.W.callWith_K0 I.kIn hk (wpAny_call ?_)
  have J := Inv.made (C := C) I
  have hq := q (s.heap.objs.size + 1) s.heap.objs.size (I.hok.fresh (Nat.le_succ _)) (I.hok.fresh (Nat.le_refl _)) (Nat.ne_of_lt (Nat.lt_succ_self _))
  refine make_map0 I.kIn hm hi (fun self => PySem.W.Looks.of_pure (PySem.W.oi_bind self)) ?_
  have Y := PySem.W.makes_of (M := model X.prog X.w) I.kIn hm
  have e2 : ((s.heap.push PySem.W.emptyDict).push (PySem.W.instObj C s.heap.objs.size)).get? (s.heap.objs.size + 1) = some (PySem.W.instObj C s.heap.objs.size) := by
    have z := Heap.get?_push_size (s.heap.push PySem.W.emptyDict) (o := PySem.W.instObj C s.heap.objs.size) rfl
    rwa [Heap.size_push] at z
  have t1 : PySem.W.Looks (model X.prog X.w) ((s.heap.push PySem.W.emptyDict).push (PySem.W.instObj C s.heap.objs.size)) (typeOf (.ref (s.heap.objs.size + 1))) (.ref C) := (PySem.W.Looks.ld e2).andThen .now
  have t2 : PySem.W.Looks (model X.prog X.w) ((s.heap.push PySem.W.emptyDict).push (PySem.W.instObj C s.heap.objs.size)) (isInstance (.ref (s.heap.objs.size + 1)) (.type "object")) true :=
    t1.andThen (Y.top.keeps fun b o e => Heap.get?_push_of_some _ (Heap.get?_push_of_some _ e))
  refine codeAny_call_builtin PySem.W.oi_plain PySem.W.entry_oi (@PySem.W.check_slot (model X.prog X.w) _ _ _ "object.__init__" "object" "__init__" (.ref (s.heap.objs.size + 1)) [] [] _ PySem.W.oi_kind PySem.W.oi_split t2 (PySem.W.oi_args (.ref (s.heap.objs.size + 1))) ?_)
  rw [PySem.W.oi_run]
  exact wpAny_pure ⟨rfl, V.ref (s.heap.objs.size + 1), _, J, rfl, hq⟩
end

/-! ### C.f(e, ..): a def read off its class -/
section
variable {X : Cx} {k j : Nat} {C f : Addr} {fd : FuncData} {ps : List Str} {sp : Sp} {m : Str} {pos apos : Pos} {e o : Expr} {es : List Expr} {ta : TE} {t : TA}
def tOff (C : Addr) (sp : Sp) (ta : TE) (t : TA) : TE := fun σ H Q => ta σ H fun x H1 => x = .ref C ∧ t σ H1 fun vs H2 => sp vs H2 Q E0
theorem pe_off {pl : Sem Bool} (he : PE X o ta) (r : ClX.CRead X.K C (.type "type")) (cv : ClX.CVal X.K C (.type "type") m (.ref f) (.ref f)) (kp : PySem.W.keepIn X.K (.ref f) = true) (F : FnOk X.prog X.w X.K X.mg X.base CX0 k f fd ps sp) (hr : Room k X.A) (hb : Binds X.K fd ps []) (ha : PA X (e :: es) t)
    (hst : starEach (e :: es) X.env = (false, eval e X.env) :: starEach es X.env := by rfl) (hpl : (backTo pos (starEach es X.env)).any (·.1) = false := by rfl)
    (ht : eval (.Call (.Attribute o m apos) (e :: es) [] pos) X.env = (do
      let ov ← eval o X.env
      standAt apos.atName
      let (f, first) ← holding [ov] (getMethod ov m pl)
      callWith pos f first (backTo pos (starEach (e :: es) X.env)) (backToKw pos (keywordEach [] X.env))) := by rfl) :
    PE X (.Call (.Attribute o m apos) (e :: es) [] pos) (tOff C sp ta t) := by
  refine ⟨fun pins s σ H Q I q => ?_⟩
  refine PySem.W.methodCall_KW (pl := pl) (thn (he.run pins s σ H _ I q) fun u s1 ⟨x, H1, I1, rx, ex, q1⟩ => ?_) ht
  subst ex
  obtain rfl : u = Value.ref C := rx
  refine PySem.W.method_cls I1.kIn r.ga (ClX.getcval_ok I1 r cv fun s2 I2 => ?_)
  refine PySem.W.callWith_K (first := []) (h₀ := X.base) I.ok.mod.kin kp (thn (ha.run pos pins s2 σ H1 _ I2 q1) fun us s3 ⟨vs, H2, I3, rv, q2⟩ => ⟨I3.kIn, ?_⟩) hst hpl
  exact run_fn (ds := []) (dvs := []) F hr hb .nil pass0 I3 rv (by rw [List.append_nil]; exact q2)
end

/-! ### xs != [] whatever xs holds -/
def rNeNil (K : PySem.W.Frag) : R2 := fun x y H Q => ∃ a b xs, x = .ref a ∧ y = .ref b ∧ SqL K H a xs ∧ SqL K H b [] ∧ Q (.bl (!xs.isEmpty)) H
theorem op_neNil {X : Cx} (hu : X.A.units + 64 < cLine) : OpR X (compareOp .NotEq) (rNeNil X.K) := by
  rintro pins s σ H x y v u Q I rx ry ⟨a, b, xs, rfl, rfl, ha, hb, q⟩
  obtain rfl : v = Value.ref a := rx
  obtain rfl : u = Value.ref b := ry
  obtain ⟨its, r1, p1, z1⟩ := I.list ha
  obtain ⟨its2, r2, p2, z2⟩ := I.list hb
  cases r2
  cases r1 with
  | nil => exact SeqAt.RcNeAt.lists (e := fun _ => true) p1.isList p2.isList rfl (by omega) (fun j h1 _ => absurd h1 (by simp)) X.prog X.w _ _ ⟨.bl false, H, I, rfl, q⟩
  | cons _ _ => exact SeqAt.RcNeAt.lists_lengths p1.isList p2.isList (by simp) (by omega) X.prog X.w _ _ ⟨.bl true, H, I, rfl, q⟩
/-! ### short words -/
theorem iteB {b : Bool} {A B : Prop} (e : b = true) (h : A) : if b = true then A else B := by
  rw [if_pos e]
  exact h
theorem iteN {b : Bool} {A B : Prop} (e : b = false) (h : B) : if b = true then A else B := by
  rw [e, if_neg Bool.false_ne_true]
  exact h
section
variable {X : Cx} {x : Str} {v : V} {p pos : Pos} {e : Expr} {es : List Expr} {t : TA} {id T : String} {r : List V → Hp → VK → Prop}
theorem pe_gl (h : ∃ u, X.mg x = some u ∧ RelV v u) (hg : Gl X x := by rfl) (hd : (x == ("__debug__" : Str)) = false := by decide) : PE X (.Name x pos) (tC v) :=
  let ⟨_, a, b⟩ := h
  pe_glob hg a b hd
theorem pe_b (hc : CallR X (.builtin id) r) (hv : bootBuiltins x = some (.builtin id)) (hm : X.mg x = none) (ha : PA X (e :: es) t) (hg : Gl X x := by rfl) (hn : x ≠ "__name__" := by decide) (hdb : (x == ("__debug__" : Str)) = false := by decide)
    (he : starEach (e :: es) X.env = (false, eval e X.env) :: starEach es X.env := by rfl) (hpl : (backTo pos (starEach es X.env)).any (·.1) = false := by rfl) : PE X (.Call (.Name x p) (e :: es) [] pos) (tCB r t) :=
  pe_callB hc hg hm hv ha hn hdb he hpl
theorem pe_ty (hc : CallR X (.type T) r) (hv : bootBuiltins x = some (.type T)) (hm : X.mg x = none) (ha : PA X (e :: es) t) (hg : Gl X x := by rfl) (hn : x ≠ "__name__" := by decide) (hdb : (x == ("__debug__" : Str)) = false := by decide)
    (he : starEach (e :: es) X.env = (false, eval e X.env) :: starEach es X.env := by rfl) (hpl : (backTo pos (starEach es X.env)).any (·.1) = false := by rfl) : PE X (.Call (.Name x p) (e :: es) [] pos) (tCB r t) :=
  pe_callTy hc hg hm hv ha hn hdb he hpl
end
theorem bb_len : bootBuiltins "len" = some (.builtin "len") := by decide +kernel
theorem bb_sum : bootBuiltins "sum" = some (.builtin "sum") := by decide +kernel
theorem bb_max : bootBuiltins "max" = some (.builtin "max") := by decide +kernel
theorem bb_isi : bootBuiltins "isinstance" = some (.builtin "isinstance") := by decide +kernel
theorem bb_abs : bootBuiltins "abs" = some (.builtin "abs") := by decide +kernel
theorem bb_all : bootBuiltins "all" = some (.builtin "all") := by decide +kernel
theorem bb_list : bootBuiltins "list" = some (.type "list") := by decide +kernel
theorem bb_tuple : bootBuiltins "tuple" = some (.type "tuple") := by decide +kernel
theorem bb_str : bootBuiltins "str" = some (.type "str") := by decide +kernel
theorem bb_int : bootBuiltins "int" = some (.type "int") := by decide +kernel

/-! ### heaps -/
theorem smU {H H1 : Hp} {D : Addr} {o : HO} (s : Same H H1) (n : H D = none) : Same H (upd H1 D o) := fun b u e => by
  rw [upd_ne (ne_of_none e n)]
  exact s b u e
/-- a new object -/
theorem smN {H H1 : Hp} {D : Addr} {o : HO} (s : Same H H1) (n : H1 D = none) : Same H (upd H1 D o) := smU s (s.free n)

/-! ### loops -/
section
variable {J : It} {n : Nat} {G : Hp → Prop} {Y : Nat → Hp → V → Hp → Prop}
/-- the new list at D has i items so far, of which Iv tells -/
def Acc (Iv : Nat → List V → Hp → Prop) (D : Addr) (i : Nat) (H : Hp) : Prop := ∃ acc, acc.length = i ∧ H D = some (.lst acc) ∧ Iv i acc H
/-- how a turn ends -/
theorem acc_end {Iv : Nat → List V → Hp → Prop} {D : Addr} {i : Nat} {H : Hp} {acc : List V} {y : V} (hi : i < n) (hn : n ≤ sizeLine) (e1 : acc.length = i) (e2 : H D = some (.lst acc)) (q : Iv (i + 1) (acc ++ [y]) (upd H D (.lst (acc ++ [y])))) :
    ∃ ac, H D = some (.lst ac) ∧ ac.length < sizeLine ∧ Acc Iv D (i + 1) (upd H D (.lst (ac ++ [y]))) :=
  ⟨acc, e2, by omega, acc ++ [y], by rw [List.length_append, e1]; rfl, upd_same, q⟩
/-- a comprehension without tests, the new list's content told -/
theorem lc_m (wk : Walk J n G Y) {g : TG} {te : TE} {vs : List Nat} {σ : L2.St} {H1 : Hp} {D : Addr} {Qd : Hp → Prop} (Iv : Nat → List V → Hp → Prop) (h0 : Iv 0 [] (upd H1 D (.lst [])))
    (hG : ∀ i acc H, i ≤ n → H D = some (.lst acc) → Iv i acc H → G H)
    (hs : ∀ i x acc H H2, i < n → acc.length = i → H D = some (.lst acc) → Iv i acc H → Y i H x H2 → g x (wipe σ vs) H2 fun σ2 H3 => wipe σ2 vs = wipe σ vs ∧ tYes σ2 H3 fun b H4 =>
      if b = true then te σ2 H4 fun y H5 => ∃ acc, H5 D = some (.lst acc) ∧ acc.length < sizeLine ∧ Acc Iv D (i + 1) (upd H5 D (.lst (acc ++ [y]))) else Acc Iv D (i + 1) H4)
    (hd : ∀ acc H, acc.length = n → H D = some (.lst acc) → Iv n acc H → Qd H) :
    ∃ W : Nat → Nat → Hp → Prop, (∃ m, W 0 m (upd H1 D (.lst []))) ∧ ∀ i m H, W i m H →
      (J.stop i H ∧ Qd H) ∨ (J.go i H ∧ ∃ Nx : Hp → Prop, (∀ H2, Nx H2 → ∃ m2, m2 < m ∧ W (i + 1) m2 H2) ∧ ∀ x H2, J.yld i H x H2 → g x (wipe σ vs) H2 fun σ2 H3 => wipe σ2 vs = wipe σ vs ∧ tYes σ2 H3 fun b H4 =>
        if b = true then te σ2 H4 fun y H5 => ∃ acc, H5 D = some (.lst acc) ∧ acc.length < sizeLine ∧ Nx (upd H5 D (.lst (acc ++ [y]))) else Nx H4) :=
  lc_it wk (Acc Iv D) ⟨[], rfl, upd_same, h0⟩ (fun i H hi ⟨acc, _, e, q⟩ => hG i acc H hi e q) (fun i x H H2 hi ⟨acc, e1, e2, q⟩ y => hs i x acc H H2 hi e1 e2 q y) (fun H ⟨acc, a, b, c⟩ => hd acc H a b c)
theorem yesI {te : TE} {σ : L2.St} {H : Hp} {Q : VK} {E : Hp → Prop} (h : te σ H Q) : tYes σ H fun b H4 => if b = true then te σ H4 Q else E H4 := by
  show (if true = true then te σ H Q else E H)
  exact iteT h
/-- .. the target one name -/
theorem lc_n (wk : Walk J n G Y) {i0 : Nat} {te : TE} {vs : List Nat} {σ : L2.St} {H1 : Hp} {D : Addr} {Qd : Hp → Prop} (Iv : Nat → List V → Hp → Prop) (h0 : Iv 0 [] (upd H1 D (.lst [])))
    (hG : ∀ i acc H, i ≤ n → H D = some (.lst acc) → Iv i acc H → G H) (hw : ∀ x : V, wipe ((wipe σ vs).set i0 (some x)) vs = wipe σ vs)
    (hs : ∀ i x acc H H2, i < n → acc.length = i → H D = some (.lst acc) → Iv i acc H → Y i H x H2 →
      te ((wipe σ vs).set i0 (some x)) H2 fun y H5 => ∃ acc, H5 D = some (.lst acc) ∧ acc.length < sizeLine ∧ Acc Iv D (i + 1) (upd H5 D (.lst (acc ++ [y]))))
    (hd : ∀ acc H, acc.length = n → H D = some (.lst acc) → Iv n acc H → Qd H) :
    ∃ W : Nat → Nat → Hp → Prop, (∃ m, W 0 m (upd H1 D (.lst []))) ∧ ∀ i m H, W i m H →
      (J.stop i H ∧ Qd H) ∨ (J.go i H ∧ ∃ Nx : Hp → Prop, (∀ H2, Nx H2 → ∃ m2, m2 < m ∧ W (i + 1) m2 H2) ∧ ∀ x H2, J.yld i H x H2 → gName i0 x (wipe σ vs) H2 fun σ2 H3 => wipe σ2 vs = wipe σ vs ∧ tYes σ2 H3 fun b H4 =>
        if b = true then te σ2 H4 fun y H5 => ∃ acc, H5 D = some (.lst acc) ∧ acc.length < sizeLine ∧ Nx (upd H5 D (.lst (acc ++ [y]))) else Nx H4) :=
  lc_m wk Iv h0 hG (fun i x acc H H2 a b c d e => ⟨hw x, yesI (hs i x acc H H2 a b c d e)⟩) hd
/-- .. the target a pair of names -/
theorem lc_p (wk : Walk J n G Y) {K : PySem.W.Frag} {i0 j0 : Nat} {te : TE} {vs : List Nat} {σ : L2.St} {H1 : Hp} {D : Addr} {Qd : Hp → Prop} (Iv : Nat → List V → Hp → Prop) (h0 : Iv 0 [] (upd H1 D (.lst [])))
    (hG : ∀ i acc H, i ≤ n → H D = some (.lst acc) → Iv i acc H → G H) (hw : ∀ x y : V, wipe (((wipe σ vs).set i0 (some x)).set j0 (some y)) vs = wipe σ vs)
    (hs : ∀ i x acc H H2, i < n → acc.length = i → H D = some (.lst acc) → Iv i acc H → Y i H x H2 → ∃ a u v, x = .ref a ∧ SqT K H2 a [u, v] ∧
      te (((wipe σ vs).set i0 (some u)).set j0 (some v)) H2 fun y H5 => ∃ acc, H5 D = some (.lst acc) ∧ acc.length < sizeLine ∧ Acc Iv D (i + 1) (upd H5 D (.lst (acc ++ [y]))))
    (hd : ∀ acc H, acc.length = n → H D = some (.lst acc) → Iv n acc H → Qd H) :
    ∃ W : Nat → Nat → Hp → Prop, (∃ m, W 0 m (upd H1 D (.lst []))) ∧ ∀ i m H, W i m H →
      (J.stop i H ∧ Qd H) ∨ (J.go i H ∧ ∃ Nx : Hp → Prop, (∀ H2, Nx H2 → ∃ m2, m2 < m ∧ W (i + 1) m2 H2) ∧ ∀ x H2, J.yld i H x H2 → gTup K 2 (gCons (gName i0) (gCons (gName j0) gNil)) x (wipe σ vs) H2 fun σ2 H3 => wipe σ2 vs = wipe σ vs ∧ tYes σ2 H3 fun b H4 =>
        if b = true then te σ2 H4 fun y H5 => ∃ acc, H5 D = some (.lst acc) ∧ acc.length < sizeLine ∧ Nx (upd H5 D (.lst (acc ++ [y]))) else Nx H4) :=
  lc_m wk Iv h0 hG (fun i x acc H H2 a b c d e => by
    obtain ⟨p, u, v, e1, e2, e3⟩ := hs i x acc H H2 a b c d e
    refine ⟨p, _, e1, e2, rfl, u, _, rfl, v, _, rfl, rfl, hw u v, yesI e3⟩) hd
end
end Mb


set_option Elab.async false
set_option linter.all false
set_option maxRecDepth 100000
set_option maxHeartbeats 4000000
/-! names -/
namespace Mb
open PySem PySem.Spec PyProof.Rows L2
abbrev zLet : Str := "abcdefghijklmnopqrstuvwxyz"
abbrev zFig : Str := "0123456789"
structure NameOk (z : Str) : Prop where
  lo : 1 ≤ z.length
  hi : z.length ≤ 10
  fst : ∃ c, z.cps[0]? = some c ∧ c ∈ zLet.cps.toList
  all : ∀ c ∈ z.cps.toList, c ∈ zLet.cps.toList ∨ c ∈ zFig.cps.toList
def spIsName : Sp := fun vs H Q _ => ∃ z, vs = [.str z] ∧ NameOk z ∧ ∀ H2, Same H H2 → Q (.bl true) H2
def spAskedNames (K : PySem.W.Frag) : Sp := fun vs H Q _ => ∃ (a : Addr) (zs : List Str), vs = [.ref a] ∧ SqL K H a (zs.map V.str) ∧ (∀ z ∈ zs, NameOk z) ∧ ∀ H2, Same H H2 → Q .non H2
def spAskedOnce (K : PySem.W.Frag) : Sp := fun vs H Q _ => ∃ (a : Addr) (zs : List Str), vs = [.ref a] ∧ SqL K H a (zs.map V.str) ∧ zs.Nodup ∧ zs.length ≤ 1000 ∧ ∀ H2, Same H H2 → Q .non H2
def spAskedSize : Sp := fun vs H Q _ => ∃ i j : Int, vs = [.int i, .int j] ∧ i ≤ 24 ∧ j ≤ 6 ∧ Q .non H
section
variable {P : Program} {w : World} {K : PySem.W.Frag} {mg : Str → Option Value} {base : Heap}
theorem sc_is_name : FnScope ["text", "sign"] ["text"] (defScope s_is_name) := ⟨rfl, rfl, rfl, by decide +kernel, rfl, by decide +kernel, by decide +kernel⟩
theorem ok_is_name (T : TX K mg) : Cal P w K mg base 1 "is_name" spIsName := by
  refine calD (fn_is_name T.c) (T.glo (f_glo_is_name T.c)) sc_is_name (fun _ _ _ _ _ _ us hl => match us, hl with | [_], _ => rfl) (fun vs H Q E h => ?_) (fun cdv A outer s H vs Q E hr h => ?_)
  · obtain ⟨z, rfl, _⟩ := h
    rfl
  · obtain ⟨z, rfl, hz, k⟩ := h
    refine ⟨_, pss_cons (ps_if (PW.pt (pw_or (pt_not (pt_chain op_le op_le pe_int (pe_b call_len_str bb_len (T.free (f_free_len T.c)) (pa_cons (pv 0) pa_nil)) (pe_gl (T.int (f_int_LONGEST T.c)))))
        (pw_or1 (pt_cmpR op_notIn_sign (pe_item_str (pv 0) pe_int (fun _ _ => rfl)) (pe_gl (T.str (f_str_LETTERS T.c))) (by rfl))))) (pss_one (ps_ret pe_bl)) pss_nil)
      (pss_one (ps_ret (pe_b (cr_all rfl) bb_all (T.free (f_free_all T.c)) (pa_cons (pe_lc (own := [("sign", 1)]) (g := gName 1) (tt := tYes) rfl sc_is_name.nd (pi_str (pv 0)) (blkOk_by (N := ["text", "sign"]) (sc := defScope s_is_name) (by decide +kernel))
        (fun _ _ _ _ _ => pg_name (i := 1) sc_is_name.nd rfl (Or.inl rfl)) (fun _ _ _ _ _ => pts_nil)
        (fun _ _ _ _ _ => pe_or (pe_cmpR op_in_sign (pv 1) (pe_gl (T.str (f_str_LETTERS T.c))) (by rfl)) (pe_one (pe_cmpR op_in_sign (pv 1) (pe_gl (T.str (f_str_FIGURES T.c))) (by rfl))))) pa_nil)))), ?_⟩
    obtain ⟨c, hc, hcl⟩ := hz.fst
    have hlo := hz.lo
    have hhi := hz.hi
    have hsz : z.length ≤ sizeLine := by
      have : (10 : Nat) ≤ sizeLine := by decide
      omega
    have d1 : decide ((1 : Int) ≤ (z.length : Int)) = true := decide_eq_true (by omega)
    have d2 : decide ((z.length : Int) ≤ (10 : Int)) = true := decide_eq_true (by omega)
    refine ⟨_, rfl, z, rfl, hsz, _, _, rfl, rfl, _, rfl, ?_⟩
    refine iteB d1 ⟨_, _, rfl, rfl, ?_⟩
    refine ⟨_, rfl, iteN (by rw [d2]; rfl) ?_⟩
    refine ⟨_, rfl, z, 0, c, rfl, rfl, by omega, by decide, by omega, hc, c, zLet, rfl, rfl, ?_⟩
    refine ⟨_, rfl, iteN (by rw [decide_eq_true hcl]; rfl) ?_⟩
    refine ⟨_, rfl, z, rfl, fun D hD => ?_⟩
    refine lc_n (walk_str (z := z)) (fun i acc Hx => acc = List.replicate i (V.bl true) ∧ Same H Hx) ⟨rfl, smU (Same.refl H) hD⟩ (fun _ _ _ _ _ _ => trivial) (fun _ => rfl) ?_ ?_
    · intro i x acc H1 H2 hi e1 e2 q y
      obtain ⟨rfl, c2, hc2, rfl⟩ := y
      obtain ⟨qa, qs⟩ := q
      have hn : z.cps.size ≤ sizeLine := hsz
      have fin : ∃ ac, H2 D = some (.lst ac) ∧ ac.length < sizeLine ∧ Acc (fun i acc Hx => acc = List.replicate i (V.bl true) ∧ Same H Hx) D (i + 1) (upd H2 D (.lst (ac ++ [V.bl true]))) :=
        acc_end hi hn e1 e2 ⟨by rw [qa, List.replicate_succ'], smU qs hD⟩
      refine ⟨_, rfl, c2, zLet, rfl, rfl, ?_⟩
      rcases hz.all c2 (Array.mem_toList_iff.mpr (Array.mem_of_getElem? hc2)) with m | m
      · exact ⟨_, rfl, iteB (decide_eq_true m) fin⟩
      · by_cases m2 : c2 ∈ zLet.cps.toList
        · exact ⟨_, rfl, iteB (decide_eq_true m2) fin⟩
        · refine ⟨_, rfl, iteN (decide_eq_false m2) ⟨_, rfl, c2, zFig, rfl, rfl, ?_⟩⟩
          rw [decide_eq_true m]
          exact fin
    · intro acc H1 e1 e2 q
      refine ⟨D, List.replicate z.cps.size true, rfl, SqL.of (by rw [e2, q.1]; simp), ?_⟩
      have e : (List.replicate z.cps.size true).all id = true := by simp
      show Q (.bl ((List.replicate z.cps.size true).all id)) H1
      rw [e]
      exact k _ q.2
theorem map_at {α β : Type} {f : α → β} {l : List α} {i : Nat} {y : β} (h : (l.map f)[i]? = some y) : ∃ x, l[i]? = some x ∧ y = f x := by
  rw [List.getElem?_map] at h
  cases e : l[i]? with
  | none =>
    rw [e] at h
    cases h
  | some x =>
    rw [e] at h
    exact ⟨x, rfl, (Option.some.inj h).symm⟩
theorem sc_asked_names : FnScope ["texts", "text"] ["texts"] (defScope s_asked_names) := ⟨rfl, rfl, rfl, by decide +kernel, rfl, by decide +kernel, by decide +kernel⟩
theorem ok_asked_names (T : TX K mg) : Cal P w K mg base 2 "asked_names" (spAskedNames K) := by
  refine calD (fn_asked_names T.c) (T.glo (f_glo_asked_names T.c)) sc_asked_names (fun _ _ _ _ _ _ us hl => match us, hl with | [_], _ => rfl) (fun vs H Q E h => ?_) (fun cdv A outer s H vs Q E hr h => ?_)
  · obtain ⟨a, z, rfl, _⟩ := h
    rfl
  · obtain ⟨a, zs, rfl, hS, hz, k⟩ := h
    refine ⟨_, pss_one (ps_for PassesOwn.never rfl (pi_list (pv 0)) (pg_name (i := 1) sc_asked_names.nd rfl (Or.inl rfl))
      (pss_one (ps_if (pt_not (pt_val (pe_c (ok_is_name T) hr (pa_cons (pv 1) pa_nil)))) (pss_one ps_never) pss_nil))), ?_⟩
    refine ⟨_, rfl, a, rfl, ⟨_, hS⟩, for_it walk_list (fun i σ H2 => (∃ v, σ = [some (.ref a), v]) ∧ Same H H2) ⟨⟨none, rfl⟩, Same.refl H⟩ (fun i σ H2 _ q => q.2.seq hS) ?_ (fun σ H2 q => k H2 q.2)⟩
    rintro i x σ H1 H2 hi ⟨⟨v, rfl⟩, q⟩ ⟨rfl, hx⟩
    obtain ⟨z, hz1, rfl⟩ := map_at hx
    refine ⟨_, rfl, z, rfl, hz z (List.mem_of_getElem? hz1), fun H4 s4 => ⟨_, rfl, iteN rfl ?_⟩⟩
    exact ⟨⟨_, rfl⟩, q.trans s4⟩
theorem sc_asked_once : FnScope ["names", "seen", "name"] ["names"] (defScope s_asked_once) := ⟨rfl, rfl, rfl, by decide +kernel, rfl, by decide +kernel, by decide +kernel⟩
theorem take_mem {zs : List Str} {i : Nat} {z : Str} (hn : zs.Nodup) (h : zs[i]? = some z) : ¬ z ∈ zs.take i := by
  intro m
  obtain ⟨j, hj, e⟩ := List.mem_iff_getElem.mp m
  rw [List.length_take] at hj
  rw [List.getElem_take] at e
  have hj2 : j < zs.length := by omega
  have e2 : zs[j]? = some z := by rw [List.getElem?_eq_getElem hj2, e]
  have := nd_ix hn e2 h
  omega
theorem ok_asked_once (T : TX K mg) : Cal P w K mg base 1 "asked_once" (spAskedOnce K) := by
  refine calD (fn_asked_once T.c) (T.glo (f_glo_asked_once T.c)) sc_asked_once (fun _ _ _ _ _ _ us hl => match us, hl with | [_], _ => rfl) (fun vs H Q E h => ?_) (fun cdv A outer s H vs Q E hr h => ?_)
  · obtain ⟨a, z, rfl, _⟩ := h
    rfl
  · obtain ⟨a, zs, rfl, hS, hn, hl, k⟩ := h
    have hu := hu_of hr
    refine ⟨_, pss_cons (ps_set (i := 1) sc_asked_once.nd rfl (Or.inl rfl) pe_dnewK)
      (pss_one (ps_for PassesOwn.never rfl (pi_list (pv 0)) (pg_name (i := 2) sc_asked_once.nd rfl (Or.inl rfl))
        (pss_cons (ps_if (pt_cmp (pc_din hu (pv 2) (pv 1))) (pss_one ps_never) pss_nil)
        (pss_one (ps_dput hu (pv 1) (pv 2) pe_bl rfl))))), ?_⟩
    intro d hd
    refine ⟨_, rfl, a, rfl, ⟨_, (smU (Same.refl H) hd).seq hS⟩, for_it walk_list (fun i σ H2 => (∃ v, σ = [some (.ref a), some (.ref d), v]) ∧ Same H H2 ∧ ∃ kvs : List (Key × V), H2 d = some (.dK kvs) ∧ kvs.length ≤ i ∧ ∀ z, valV kvs (.inr z) ≠ none → z ∈ zs.take i)
      ⟨⟨none, rfl⟩, smU (Same.refl H) hd, [], upd_same, Nat.le_refl _, fun z h => absurd rfl h⟩ (fun i σ H2 _ q => q.2.1.seq hS) ?_ (fun σ H2 q => k H2 q.2.1)⟩
    rintro i x σ H1 H2 hi ⟨⟨v, rfl⟩, q, kvs, hk, hlk, hz⟩ ⟨rfl, hx⟩
    obtain ⟨z, hz1, rfl⟩ := map_at hx
    have hno : valV kvs (.inr z) = none := by
      cases e : valV kvs (.inr z) with
      | none => rfl
      | some u => exact absurd (hz z (by rw [e]; simp)) (take_mem hn hz1)
    have hil : i < zs.length := (List.getElem?_eq_some_iff.mp hz1).1
    have hs : (1000 : Nat) < sizeLine := by decide
    refine ⟨_, rfl, _, rfl, d, _, rfl, DGet.k (k := .inr z) hk, _, rfl, iteN (by rw [hno]; rfl) ?_⟩
    refine ⟨_, rfl, _, rfl, d, _, rfl, DPut.k (k := .inr z) hk (by omega), ?_⟩
    have hp : putK kvs (Sum.inr z) (V.bl true) = kvs ++ [(.inr z, .bl true)] := putK_new _ hno
    refine ⟨⟨_, rfl⟩, smU q hd, _, upd_same, by rw [hp, List.length_append]; exact Nat.succ_le_succ hlk, fun z2 h2 => ?_⟩
    rw [valV_put] at h2
    rw [List.take_succ_eq_append_getElem hil]
    by_cases e : (Sum.inr z2 : Key) = .inr z
    · have e3 : zs[i] = z2 := by
        have e4 : z2 = z := Sum.inr.inj e
        rw [e4]
        have := List.getElem?_eq_getElem hil
        rw [hz1] at this
        exact (Option.some.inj this).symm
      rw [e3]
      simp
    · rw [if_neg e] at h2
      exact List.mem_append_left _ (hz z2 h2)
theorem sc_asked_size : FnScope ["size", "deep"] ["size", "deep"] (defScope s_asked_size) := ⟨rfl, rfl, rfl, by decide +kernel, rfl, by decide +kernel, by decide +kernel⟩
theorem ok_asked_size (T : TX K mg) : Cal P w K mg base 1 "asked_size" spAskedSize := by
  refine calD (fn_asked_size T.c) (T.glo (f_glo_asked_size T.c)) sc_asked_size (fun _ _ _ _ _ _ us hl => match us, hl with | [_, _], _ => rfl) (fun vs H Q E h => ?_) (fun cdv A outer s H vs Q E hr h => ?_)
  · obtain ⟨i, j, rfl, _⟩ := h
    rfl
  · obtain ⟨i, j, rfl, hi, hj, k⟩ := h
    refine ⟨_, pss_cons (ps_if (pt_cmpR op_gt (pv 0) (pe_gl (T.int (f_int_MOST_STATEMENTS T.c))) (nomark _)) (pss_one ps_never) pss_nil)
      (pss_one (ps_if (pt_cmpR op_gt (pv 1) (pe_gl (T.int (f_int_MOST_DEEP T.c))) (nomark _)) (pss_one ps_never) pss_nil)), ?_⟩
    refine ⟨_, rfl, _, _, rfl, rfl, _, rfl, iteN (decide_eq_false (by omega)) ⟨_, rfl, _, _, rfl, rfl, _, rfl, iteN (decide_eq_false (by omega)) k⟩⟩
end
end Mb


set_option Elab.async false
set_option linter.all false
set_option maxRecDepth 100000
set_option maxHeartbeats 4000000
/-! statements as plain data, and where they stand -/
namespace Mb
open PySem PySem.Spec PyProof.Rows L2
inductive Kd where
  | write (c v : Str) | wait (c v : Str) | mark (n : Str) | skip | stop | iff (c v : Str) | whil (c v : Str) | choose | loop
inductive Stm where
  | mk (k : Kd) (a b : List Stm)
def Stm.kd : Stm → Kd
  | .mk k _ _ => k
def Stm.pa : Stm → List Stm
  | .mk _ a _ => a
def Stm.pb : Stm → List Stm
  | .mk _ _ b => b
/-- the class's name -/
def Kd.cn : Kd → Str
  | .write _ _ => "Write" | .wait _ _ => "Wait" | .mark _ => "Mark" | .skip => "Skip" | .stop => "Stop" | .iff _ _ => "If" | .whil _ _ => "While" | .choose => "Choose" | .loop => "Loop"
/-- how many programs stand within it -/
def Kd.np : Kd → Nat
  | .iff _ _ => 2 | .choose => 2 | .whil _ _ => 1 | .loop => 1 | _ => 0
/-- its attributes -/
def Kd.fl (k : Kd) (p q : V) : List (Str × V) := match k with
  | .write c v => [("cell", .str c), ("value", .str v)]
  | .wait c v => [("cell", .str c), ("value", .str v)]
  | .mark n => [("name", .str n)]
  | .skip => []
  | .stop => []
  | .iff c v => [("cell", .str c), ("value", .str v), ("yes", p), ("no", q)]
  | .whil c v => [("cell", .str c), ("value", .str v), ("body", p)]
  | .choose => [("one", p), ("other", q)]
  | .loop => [("body", p)]
/-- the programs within it, as values -/
def Kd.prt (k : Kd) (p q : V) : List V := match k with
  | .iff _ _ => [p, q] | .choose => [p, q] | .whil _ _ => [p] | .loop => [p] | _ => []
def Stm.parts (s : Stm) : List (List Stm) := match s.kd with
  | .iff _ _ => [s.pa, s.pb] | .choose => [s.pa, s.pb] | .whil _ _ => [s.pa] | .loop => [s.pa] | _ => []
mutual
def Stm.sz : Stm → Nat
  | .mk _ a b => 1 + (szs a + szs b)
def szs : List Stm → Nat
  | [] => 0
  | s :: r => s.sz + szs r
end
theorem szs_nil : szs [] = 0 := by simp [szs]
theorem szs_cons (s : Stm) (r : List Stm) : szs (s :: r) = s.sz + szs r := by simp [szs]
theorem Stm.sz_eq (s : Stm) : s.sz = 1 + (szs s.pa + szs s.pb) := by
  cases s
  simp [Stm.sz, Stm.pa, Stm.pb]
theorem szs_app (p q : List Stm) : szs (p ++ q) = szs p + szs q := by
  induction p with
  | nil => simp [szs_nil]
  | cons s r ih => rw [List.cons_append, szs_cons, szs_cons, ih]; omega

/-! ### what a heap keeps -/
/-- instances, tuples and dicts are as they were -/
structure Fz (H H2 : Hp) : Prop where
  ins : ∀ b C dx fs, H b = some (.ins C dx fs) → H2 b = some (.ins C dx fs)
  tup : ∀ b xs, H b = some (.tup xs) → H2 b = some (.tup xs)
  dct : ∀ b xs, H b = some (.dK xs) → H2 b = some (.dK xs)
theorem Fz.refl (H : Hp) : Fz H H := ⟨fun _ _ _ _ e => e, fun _ _ e => e, fun _ _ e => e⟩
theorem Fz.trans {H H1 H2 : Hp} (a : Fz H H1) (b : Fz H1 H2) : Fz H H2 := ⟨fun c _ _ _ e => b.ins c _ _ _ (a.ins c _ _ _ e), fun c _ e => b.tup c _ (a.tup c _ e), fun c _ e => b.dct c _ (a.dct c _ e)⟩
theorem Fz.of {H H1 : Hp} (s : Same H H1) : Fz H H1 := ⟨fun b _ _ _ e => s b _ e, fun b _ e => s b _ e, fun b _ e => s b _ e⟩
/-- a list is written -/
theorem Fz.lst {H : Hp} {D : Addr} {xs : List V} {o : HO} (h : H D = some (.lst xs)) : Fz H (upd H D o) :=
  ⟨fun b _ _ _ e => by rw [upd_ne (ne_of e h (by intro z; cases z))]; exact e, fun b _ e => by rw [upd_ne (ne_of e h (by intro z; cases z))]; exact e, fun b _ e => by rw [upd_ne (ne_of e h (by intro z; cases z))]; exact e⟩
theorem Fz.new {H : Hp} {D : Addr} {o : HO} (h : H D = none) : Fz H (upd H D o) := Fz.of (smU (Same.refl H) h)

/-! ### where statements and programs stand -/
def PartsOk (P : V → List Stm → Prop) (k : Kd) (p q : V) (a b : List Stm) : Prop := (1 ≤ k.np → P p a) ∧ (k.np = 0 → a = []) ∧ (2 ≤ k.np → P q b) ∧ (k.np < 2 → b = [])
def SOf (K : PySem.W.Frag) (H : Hp) (P : V → List Stm → Prop) (v : V) (s : Stm) : Prop :=
  ∃ x dx p q, v = .ref x ∧ H x = some (.ins (He.ga K s.kd.cn) dx (s.kd.fl p q)) ∧ PartsOk P s.kd p q s.pa s.pb
def PAt (K : PySem.W.Frag) (H : Hp) : Nat → V → List Stm → Prop
  | 0 => fun _ _ => False
  | n + 1 => fun v ss => ∃ x dx t as, v = .ref x ∧ H x = some (.ins (He.ga K "Program") dx [("row", .ref t)]) ∧ H t = some (.tup as) ∧ szs ss ≤ 24 ∧ Paired (SOf K H (PAt K H n)) as ss
abbrev SAt (K : PySem.W.Frag) (H : Hp) (n : Nat) : V → Stm → Prop := SOf K H (PAt K H n)
theorem PartsOk.imp {P P2 : V → List Stm → Prop} {k : Kd} {p q : V} {a b : List Stm} (h : PartsOk P k p q a b) (i : ∀ v ss, P v ss → P2 v ss) : PartsOk P2 k p q a b :=
  ⟨fun z => i _ _ (h.1 z), h.2.1, fun z => i _ _ (h.2.2.1 z), h.2.2.2⟩
theorem SOf.fz {K : PySem.W.Frag} {H H2 : Hp} {P P2 : V → List Stm → Prop} (z : Fz H H2) (i : ∀ v ss, P v ss → P2 v ss) {v : V} {s : Stm} (h : SOf K H P v s) : SOf K H2 P2 v s := by
  obtain ⟨x, dx, p, q, e, a, b⟩ := h
  exact ⟨x, dx, p, q, e, z.ins _ _ _ _ a, b.imp i⟩
theorem PAt.fz {K : PySem.W.Frag} {H H2 : Hp} (z : Fz H H2) : ∀ (n : Nat) (v : V) (ss : List Stm), PAt K H n v ss → PAt K H2 n v ss
  | 0, _, _, h => h
  | n + 1, v, ss, ⟨x, dx, t, as, e, a, b, y, c⟩ => ⟨x, dx, t, as, e, z.ins _ _ _ _ a, z.tup _ _ b, y, c.mono fun _ _ h => h.fz z (PAt.fz z n)⟩
theorem SAt.fz {K : PySem.W.Frag} {H H2 : Hp} (z : Fz H H2) {n : Nat} {v : V} {s : Stm} (h : SAt K H n v s) : SAt K H2 n v s := SOf.fz z (PAt.fz z n) h
theorem Rows.fz {K : PySem.W.Frag} {H H2 : Hp} (z : Fz H H2) {n : Nat} {as : List V} {ss : List Stm} (h : Paired (SAt K H n) as ss) : Paired (SAt K H2 n) as ss := h.mono fun _ _ e => SAt.fz z e
/-- deeper is allowed -/
theorem PAt.up {K : PySem.W.Frag} {H : Hp} : ∀ (n : Nat) (v : V) (ss : List Stm), PAt K H n v ss → PAt K H (n + 1) v ss
  | 0, _, _, h => h.elim
  | n + 1, v, ss, ⟨x, dx, t, as, e, a, b, y, c⟩ => ⟨x, dx, t, as, e, a, b, y, c.mono fun _ _ h => h.fz (Fz.refl H) (PAt.up n)⟩
theorem SAt.up {K : PySem.W.Frag} {H : Hp} {n : Nat} {v : V} {s : Stm} (h : SAt K H n v s) : SAt K H (n + 1) v s := SOf.fz (Fz.refl H) (PAt.up n) h
theorem SAt.ups {K : PySem.W.Frag} {H : Hp} {n m : Nat} (l : n ≤ m) {v : V} {s : Stm} (h : SAt K H n v s) : SAt K H m v s := by
  induction l with
  | refl => exact h
  | step _ ih => exact SAt.up ih
/-! ### pairs of lists -/
theorem pair_at {α β : Type} {F : α → β → Prop} : ∀ {as : List α} {bs : List β} {i : Nat} {a : α}, Paired F as bs → as[i]? = some a → ∃ b, bs[i]? = some b ∧ F a b
  | _, _, 0, _, .cons h _, e => ⟨_, rfl, by cases e; exact h⟩
  | _, _, i + 1, _, .cons _ t, e => pair_at (i := i) t e
theorem pair_app {α β : Type} {F : α → β → Prop} : ∀ {as cs : List α} {bs ds : List β}, Paired F as bs → Paired F cs ds → Paired F (as ++ cs) (bs ++ ds)
  | _, _, _, _, .nil, h => h
  | _, _, _, _, .cons a t, h => .cons a (pair_app t h)
theorem pair_tk {α β : Type} {F : α → β → Prop} : ∀ {as : List α} {bs : List β} (n : Nat), Paired F as bs → Paired F (as.take n) (bs.take n)
  | _, _, 0, _ => .nil
  | _, _, _ + 1, .nil => .nil
  | _, _, n + 1, .cons a t => .cons a (pair_tk n t)
theorem pair_dr {α β : Type} {F : α → β → Prop} : ∀ {as : List α} {bs : List β} (n : Nat), Paired F as bs → Paired F (as.drop n) (bs.drop n)
  | _, _, 0, h => h
  | _, _, _ + 1, .nil => .nil
  | _, _, n + 1, .cons _ t => pair_dr n t
/-- the programs within a statement -/
theorem prt_at {K : PySem.W.Frag} {H : Hp} {n : Nat} {s : Stm} {p q : V} (h : PartsOk (PAt K H n) s.kd p q s.pa s.pb) : Paired (PAt K H n) (s.kd.prt p q) s.parts := by
  cases s with
  | mk k a b =>
    cases k with
    | iff c v => exact .cons (h.1 (show 1 ≤ 2 by decide)) (.cons (h.2.2.1 (show 2 ≤ 2 by decide)) .nil)
    | choose => exact .cons (h.1 (show 1 ≤ 2 by decide)) (.cons (h.2.2.1 (show 2 ≤ 2 by decide)) .nil)
    | whil c v => exact .cons (h.1 (show 1 ≤ 1 by decide)) .nil
    | loop => exact .cons (h.1 (show 1 ≤ 1 by decide)) .nil
    | _ => exact .nil
/-- sizes by the programs within -/
theorem parts_sz {P : V → List Stm → Prop} {s : Stm} {p q : V} (h : PartsOk P s.kd p q s.pa s.pb) : s.sz = 1 + (s.parts.map szs).sum := by
  rw [Stm.sz_eq]
  cases s with
  | mk k a b =>
    cases k with
    | iff c v => simp [Stm.parts, Stm.kd]
    | choose => simp [Stm.parts, Stm.kd]
    | whil c v =>
      have e : b = [] := h.2.2.2 (show 1 < 2 by decide)
      subst e
      simp [Stm.parts, Stm.kd, Stm.pb, szs_nil]
    | loop =>
      have e : b = [] := h.2.2.2 (show 1 < 2 by decide)
      subst e
      simp [Stm.parts, Stm.kd, Stm.pb, szs_nil]
    | _ =>
      have e : a = [] := h.2.1 rfl
      have e2 : b = [] := h.2.2.2 (show 0 < 2 by decide)
      subst e e2
      simp [Stm.parts, Stm.kd, Stm.pa, Stm.pb, szs_nil]
theorem prt_len (k : Kd) (p q : V) : (k.prt p q).length ≤ 2 := by cases k <;> simp [Kd.prt]
theorem fl_size (k : Kd) (p q : V) : (k.fl p q).lookup ("size" : Str) = none := by cases k <;> rfl
theorem fl_parts (k : Kd) (p q : V) : (k.fl p q).lookup ("parts" : Str) = none := by cases k <;> rfl
theorem fl_words (k : Kd) (p q : V) : (k.fl p q).lookup ("words" : Str) = none := by cases k <;> rfl
theorem fl_told (k : Kd) (p q : V) : (k.fl p q).lookup ("told" : Str) = none := by cases k <;> rfl
theorem sz_pos (s : Stm) : 1 ≤ s.sz := by rw [Stm.sz_eq]; omega
theorem len_szs : ∀ ss : List Stm, ss.length ≤ szs ss
  | [] => Nat.zero_le _
  | s :: r => by
    have := len_szs r
    have := sz_pos s
    rw [szs_cons, List.length_cons]
    omega
theorem small24 {n : Nat} (h : n ≤ 24) : n ≤ sizeLine := Nat.le_trans h (by decide)
theorem PAt.ref {K : PySem.W.Frag} {H : Hp} {n : Nat} {v : V} {ss : List Stm} (h : PAt K H n v ss) : ∃ x dx t, v = .ref x ∧ H x = some (.ins (He.ga K "Program") dx [("row", .ref t)]) := by
  cases n with
  | zero => exact h.elim
  | succ n =>
    obtain ⟨x, dx, t, as, e, a, _⟩ := h
    exact ⟨x, dx, t, e, a⟩
theorem PAt.few {K : PySem.W.Frag} {H : Hp} {n : Nat} {v : V} {ss : List Stm} (h : PAt K H n v ss) : szs ss ≤ 24 := by
  cases n with
  | zero => exact h.elim
  | succ n =>
    obtain ⟨x, dx, t, as, e, a, _, b, _⟩ := h
    exact b
end Mb


set_option Elab.async false
set_option linter.all false
set_option maxRecDepth 100000
set_option maxHeartbeats 4000000
/-! the statements' methods -/
namespace Mb
open PySem PySem.Spec PyProof.Rows L2
def spParts (K : PySem.W.Frag) (k : Kd) : Sp := fun vs H Q _ => ∃ x dx p q, vs = [.ref x] ∧ H x = some (.ins (He.ga K k.cn) dx (k.fl p q)) ∧ ∀ l, H l = none → Q (.ref l) (upd H l (.lst (k.prt p q)))
def Kd.told (k : Kd) : List V := match k with
  | .write c v => [.str "write", .str c, .str v]
  | .wait c v => [.str "wait", .str c, .str v]
  | .mark n => [.str "mark", .str n]
  | .skip => [.str "skip"]
  | _ => [.str "stop"]
def spTold (K : PySem.W.Frag) (k : Kd) : Sp := fun vs H Q _ => ∃ x dx p q, vs = [.ref x] ∧ H x = some (.ins (He.ga K k.cn) dx (k.fl p q)) ∧ ∀ l, H l = none → Q (.ref l) (upd H l (.tup k.told))
section
variable {P : Program} {w : World} {K : PySem.W.Frag} {mg : Str → Option Value} {base : Heap}
theorem bn1 {n qual : Str} {params : Arguments} {body : List Stmt} {scope : Scope} {p : Str} (h : ∀ (kV doc pm : Value) (an : Option Addr) (cdv ct : Value) (u : Value), bindArgs (PySem.W.fnOf n qual params body scope .none kV doc pm an cdv ct) ⟨[u], []⟩ = pure ([p].zip [u])) : Bnd n qual params body scope [p] :=
  fun _ _ _ _ _ _ us hl => match us, hl with | [_], _ => h _ _ _ _ _ _ _
theorem len1 {k : Kd} : ∀ vs H Q E, spParts K k vs H Q E → vs.length = (["self"] : List Str).length := fun vs H Q E h => by
  obtain ⟨x, dx, p, q, rfl, _⟩ := h
  rfl
theorem len1t {k : Kd} : ∀ vs H Q E, spTold K k vs H Q E → vs.length = (["self"] : List Str).length := fun vs H Q E h => by
  obtain ⟨x, dx, p, q, rfl, _⟩ := h
  rfl
theorem sc_Statement_parts : FnScope ["self"] ["self"] (defScope s_Statement_parts) := ⟨rfl, rfl, rfl, by decide +kernel, rfl, by decide +kernel, by decide +kernel⟩
theorem st_parts (T : TX K mg) (k : Kd) (hk : ∀ p q, k.prt p q = []) (c : Cls K (He.ga K k.cn)) (m : Meth K (He.ga K k.cn) "parts" (He.fAd K ("Statement", some "parts"))) : Met P w K mg base 1 (He.ga K k.cn) "parts" (spParts K k) := by
  refine metD (fn_Statement_parts T.c) c m sc_Statement_parts (bn1 fun _ _ _ _ _ _ _ => rfl) len1 (fun cdv A outer s H vs Q E hr h => ?_)
  obtain ⟨x, dx, p, q, rfl, hx, kk⟩ := h
  refine ⟨_, pss_one (ps_ret (pe_lst pa_nil)), (by show 0 ≤ sizeLine; decide), fun l hl => ?_⟩
  have := kk l hl
  rw [hk] at this
  exact this
theorem sc_If_parts : FnScope ["self"] ["self"] (defScope s_If_parts) := ⟨rfl, rfl, rfl, by decide +kernel, rfl, by decide +kernel, by decide +kernel⟩
theorem sc_While_parts : FnScope ["self"] ["self"] (defScope s_While_parts) := ⟨rfl, rfl, rfl, by decide +kernel, rfl, by decide +kernel, by decide +kernel⟩
theorem sc_Choose_parts : FnScope ["self"] ["self"] (defScope s_Choose_parts) := ⟨rfl, rfl, rfl, by decide +kernel, rfl, by decide +kernel, by decide +kernel⟩
theorem sc_Loop_parts : FnScope ["self"] ["self"] (defScope s_Loop_parts) := ⟨rfl, rfl, rfl, by decide +kernel, rfl, by decide +kernel, by decide +kernel⟩
theorem ok_parts (T : TX K mg) (k : Kd) : Met P w K mg base 1 (He.ga K k.cn) "parts" (spParts K k) := by
  have c := T.c
  cases k with
  | write c0 v => exact st_parts T _ (fun _ _ => rfl) (cls_of (f_cls_Write c)) (meth_of (f_m_Write_parts c))
  | wait c0 v => exact st_parts T _ (fun _ _ => rfl) (cls_of (f_cls_Wait c)) (meth_of (f_m_Wait_parts c))
  | mark n => exact st_parts T _ (fun _ _ => rfl) (cls_of (f_cls_Mark c)) (meth_of (f_m_Mark_parts c))
  | skip => exact st_parts T _ (fun _ _ => rfl) (cls_of (f_cls_Skip c)) (meth_of (f_m_Skip_parts c))
  | stop => exact st_parts T _ (fun _ _ => rfl) (cls_of (f_cls_Stop c)) (meth_of (f_m_Stop_parts c))
  | iff c0 v =>
    refine metD (fn_If_parts c) (cls_of (f_cls_If c)) (meth_of (f_m_If_parts c)) sc_If_parts (bn1 fun _ _ _ _ _ _ _ => rfl) len1 (fun cdv A outer s H vs Q E hr h => ?_)
    obtain ⟨x, dx, p, q, rfl, hx, kk⟩ := h
    refine ⟨_, pss_one (ps_ret (pe_lst (pa_cons (pe_fld (pv 0) rfl) (pa_cons (pe_fld (pv 0) rfl) pa_nil)))), ?_⟩
    exact ⟨_, rfl, x, _, dx, _, _, rfl, hx, cls_of (f_cls_If c), no_of (f_no_If_yes c), rfl, _, rfl, x, _, dx, _, _, rfl, hx, cls_of (f_cls_If c), no_of (f_no_If_no c), rfl, (by show 2 ≤ sizeLine; decide), kk⟩
  | whil c0 v =>
    refine metD (fn_While_parts c) (cls_of (f_cls_While c)) (meth_of (f_m_While_parts c)) sc_While_parts (bn1 fun _ _ _ _ _ _ _ => rfl) len1 (fun cdv A outer s H vs Q E hr h => ?_)
    obtain ⟨x, dx, p, q, rfl, hx, kk⟩ := h
    refine ⟨_, pss_one (ps_ret (pe_lst (pa_cons (pe_fld (pv 0) rfl) pa_nil))), ?_⟩
    exact ⟨_, rfl, x, _, dx, _, _, rfl, hx, cls_of (f_cls_While c), no_of (f_no_While_body c), rfl, (by show 1 ≤ sizeLine; decide), kk⟩
  | choose =>
    refine metD (fn_Choose_parts c) (cls_of (f_cls_Choose c)) (meth_of (f_m_Choose_parts c)) sc_Choose_parts (bn1 fun _ _ _ _ _ _ _ => rfl) len1 (fun cdv A outer s H vs Q E hr h => ?_)
    obtain ⟨x, dx, p, q, rfl, hx, kk⟩ := h
    refine ⟨_, pss_one (ps_ret (pe_lst (pa_cons (pe_fld (pv 0) rfl) (pa_cons (pe_fld (pv 0) rfl) pa_nil)))), ?_⟩
    exact ⟨_, rfl, x, _, dx, _, _, rfl, hx, cls_of (f_cls_Choose c), no_of (f_no_Choose_one c), rfl, _, rfl, x, _, dx, _, _, rfl, hx, cls_of (f_cls_Choose c), no_of (f_no_Choose_other c), rfl, (by show 2 ≤ sizeLine; decide), kk⟩
  | loop =>
    refine metD (fn_Loop_parts c) (cls_of (f_cls_Loop c)) (meth_of (f_m_Loop_parts c)) sc_Loop_parts (bn1 fun _ _ _ _ _ _ _ => rfl) len1 (fun cdv A outer s H vs Q E hr h => ?_)
    obtain ⟨x, dx, p, q, rfl, hx, kk⟩ := h
    refine ⟨_, pss_one (ps_ret (pe_lst (pa_cons (pe_fld (pv 0) rfl) pa_nil))), ?_⟩
    exact ⟨_, rfl, x, _, dx, _, _, rfl, hx, cls_of (f_cls_Loop c), no_of (f_no_Loop_body c), rfl, (by show 1 ≤ sizeLine; decide), kk⟩
theorem sc_Write_told : FnScope ["self"] ["self"] (defScope s_Write_told) := ⟨rfl, rfl, rfl, by decide +kernel, rfl, by decide +kernel, by decide +kernel⟩
theorem sc_Wait_told : FnScope ["self"] ["self"] (defScope s_Wait_told) := ⟨rfl, rfl, rfl, by decide +kernel, rfl, by decide +kernel, by decide +kernel⟩
theorem sc_Mark_told : FnScope ["self"] ["self"] (defScope s_Mark_told) := ⟨rfl, rfl, rfl, by decide +kernel, rfl, by decide +kernel, by decide +kernel⟩
theorem sc_Skip_told : FnScope ["self"] ["self"] (defScope s_Skip_told) := ⟨rfl, rfl, rfl, by decide +kernel, rfl, by decide +kernel, by decide +kernel⟩
theorem sc_Stop_told : FnScope ["self"] ["self"] (defScope s_Stop_told) := ⟨rfl, rfl, rfl, by decide +kernel, rfl, by decide +kernel, by decide +kernel⟩
def Kd.flat (k : Kd) : Prop := match k with
  | .write _ _ => True | .wait _ _ => True | .mark _ => True | .skip => True | .stop => True | _ => False
theorem ok_told (T : TX K mg) (k : Kd) (hf : k.flat) : Met P w K mg base 1 (He.ga K k.cn) "told" (spTold K k) := by
  have c := T.c
  cases k with
  | write c0 v =>
    refine metD (fn_Write_told c) (cls_of (f_cls_Write c)) (meth_of (f_m_Write_told c)) sc_Write_told (bn1 fun _ _ _ _ _ _ _ => rfl) len1t (fun cdv A outer s H vs Q E hr h => ?_)
    obtain ⟨x, dx, p, q, rfl, hx, kk⟩ := h
    refine ⟨_, pss_one (ps_ret (pe_tup (pa_cons pe_str (pa_cons (pe_fld (pv 0) rfl) (pa_cons (pe_fld (pv 0) rfl) pa_nil))))), ?_⟩
    exact ⟨_, rfl, x, _, dx, _, _, rfl, hx, cls_of (f_cls_Write c), no_of (f_no_Write_cell c), rfl, _, rfl, x, _, dx, _, _, rfl, hx, cls_of (f_cls_Write c), no_of (f_no_Write_value c), rfl, (by show 3 ≤ sizeLine; decide), kk⟩
  | wait c0 v =>
    refine metD (fn_Wait_told c) (cls_of (f_cls_Wait c)) (meth_of (f_m_Wait_told c)) sc_Wait_told (bn1 fun _ _ _ _ _ _ _ => rfl) len1t (fun cdv A outer s H vs Q E hr h => ?_)
    obtain ⟨x, dx, p, q, rfl, hx, kk⟩ := h
    refine ⟨_, pss_one (ps_ret (pe_tup (pa_cons pe_str (pa_cons (pe_fld (pv 0) rfl) (pa_cons (pe_fld (pv 0) rfl) pa_nil))))), ?_⟩
    exact ⟨_, rfl, x, _, dx, _, _, rfl, hx, cls_of (f_cls_Wait c), no_of (f_no_Wait_cell c), rfl, _, rfl, x, _, dx, _, _, rfl, hx, cls_of (f_cls_Wait c), no_of (f_no_Wait_value c), rfl, (by show 3 ≤ sizeLine; decide), kk⟩
  | mark n =>
    refine metD (fn_Mark_told c) (cls_of (f_cls_Mark c)) (meth_of (f_m_Mark_told c)) sc_Mark_told (bn1 fun _ _ _ _ _ _ _ => rfl) len1t (fun cdv A outer s H vs Q E hr h => ?_)
    obtain ⟨x, dx, p, q, rfl, hx, kk⟩ := h
    refine ⟨_, pss_one (ps_ret (pe_tup (pa_cons pe_str (pa_cons (pe_fld (pv 0) rfl) pa_nil)))), ?_⟩
    exact ⟨_, rfl, x, _, dx, _, _, rfl, hx, cls_of (f_cls_Mark c), no_of (f_no_Mark_name c), rfl, (by show 2 ≤ sizeLine; decide), kk⟩
  | skip =>
    refine metD (fn_Skip_told c) (cls_of (f_cls_Skip c)) (meth_of (f_m_Skip_told c)) sc_Skip_told (bn1 fun _ _ _ _ _ _ _ => rfl) len1t (fun cdv A outer s H vs Q E hr h => ?_)
    obtain ⟨x, dx, p, q, rfl, hx, kk⟩ := h
    exact ⟨_, pss_one (ps_ret (pe_tup (pa_cons pe_str pa_nil))), (by show 1 ≤ sizeLine; decide), kk⟩
  | stop =>
    refine metD (fn_Stop_told c) (cls_of (f_cls_Stop c)) (meth_of (f_m_Stop_told c)) sc_Stop_told (bn1 fun _ _ _ _ _ _ _ => rfl) len1t (fun cdv A outer s H vs Q E hr h => ?_)
    obtain ⟨x, dx, p, q, rfl, hx, kk⟩ := h
    exact ⟨_, pss_one (ps_ret (pe_tup (pa_cons pe_str pa_nil))), (by show 1 ≤ sizeLine; decide), kk⟩
  | _ => exact hf.elim
end
end Mb


set_option Elab.async false
set_option linter.all false
set_option maxRecDepth 100000
set_option maxHeartbeats 4000000
/-! sizes and depths -/
namespace Mb
open PySem PySem.Spec PyProof.Rows L2
theorem sum_cast {α : Type} (f : α → Nat) : ∀ l : List α, (l.map fun x => ((f x : Nat) : Int)).sum = (((l.map f).sum : Nat) : Int)
  | [] => rfl
  | x :: r => by
    rw [List.map_cons, List.sum_cons, List.map_cons, List.sum_cons, sum_cast f r]
    omega
theorem take_map {α β : Type} (f : α → β) {l : List α} {i : Nat} {x : α} (h : l[i]? = some x) : (l.take i).map f ++ [f x] = (l.take (i + 1)).map f := by
  obtain ⟨hi, e⟩ := List.getElem?_eq_some_iff.mp h
  rw [List.take_succ_eq_append_getElem hi, List.map_append, e] <;> rfl
def spPSize (K : PySem.W.Frag) (n : Nat) : Sp := fun vs H Q _ => ∃ v ss, vs = [v] ∧ PAt K H n v ss ∧ ∀ H2, Same H H2 → Q (.int (szs ss)) H2
def spSSize (K : PySem.W.Frag) (n : Nat) : Sp := fun vs H Q _ => ∃ v s, vs = [v] ∧ SAt K H n v s ∧ ∀ H2, Same H H2 → Q (.int s.sz) H2
/-- between 1 and n -/
def spDeep (K : PySem.W.Frag) (n : Nat) : Sp := fun vs H Q _ => ∃ v ss, vs = [v] ∧ PAt K H n v ss ∧ ∀ (d : Int) H2, 1 ≤ d → d ≤ n → Same H H2 → Q (.int d) H2
section
variable {P : Program} {w : World} {K : PySem.W.Frag} {mg : Str → Option Value} {base : Heap}
theorem sc_Statement_size : FnScope ["self", "part"] ["self"] (defScope s_Statement_size) := ⟨rfl, rfl, rfl, by decide +kernel, rfl, by decide +kernel, by decide +kernel⟩
theorem sc_Program_size : FnScope ["self", "statement"] ["self"] (defScope s_Program_size) := ⟨rfl, rfl, rfl, by decide +kernel, rfl, by decide +kernel, by decide +kernel⟩
theorem st_meths (T : TX K mg) (k : Kd) : Cls K (He.ga K k.cn) ∧ Meth K (He.ga K k.cn) "size" (He.fAd K ("Statement", some "size")) := by
  have c := T.c
  cases k with
  | write c0 v => exact ⟨cls_of (f_cls_Write c), meth_of (f_m_Write_size c)⟩
  | wait c0 v => exact ⟨cls_of (f_cls_Wait c), meth_of (f_m_Wait_size c)⟩
  | mark n => exact ⟨cls_of (f_cls_Mark c), meth_of (f_m_Mark_size c)⟩
  | skip => exact ⟨cls_of (f_cls_Skip c), meth_of (f_m_Skip_size c)⟩
  | stop => exact ⟨cls_of (f_cls_Stop c), meth_of (f_m_Stop_size c)⟩
  | iff c0 v => exact ⟨cls_of (f_cls_If c), meth_of (f_m_If_size c)⟩
  | whil c0 v => exact ⟨cls_of (f_cls_While c), meth_of (f_m_While_size c)⟩
  | choose => exact ⟨cls_of (f_cls_Choose c), meth_of (f_m_Choose_size c)⟩
  | loop => exact ⟨cls_of (f_cls_Loop c), meth_of (f_m_Loop_size c)⟩
theorem st_size (T : TX K mg) {n : Nat} (hP : Met P w K mg base (2 * n + 1) (He.ga K "Program") "size" (spPSize K n)) (k : Kd) : Met P w K mg base (2 * n + 2) (He.ga K k.cn) "size" (spSSize K n) := by
  refine metD (fn_Statement_size T.c) (st_meths T k).1 (st_meths T k).2 sc_Statement_size (bn1 fun _ _ _ _ _ _ _ => rfl) (fun vs H Q E h => by obtain ⟨v, s, rfl, _⟩ := h; rfl) (fun cdv A outer s0 H vs Q E hr h => ?_)
  obtain ⟨v, s, rfl, ⟨x, dx, p, q, rfl, hx, hp⟩, kk⟩ := h
  refine ⟨_, pss_one (ps_ret (pe_op op_add pe_int (pe_b (cr_sum rfl) bb_sum (T.free (f_free_sum T.c)) (pa_cons (pe_lc (own := [("part", 1)]) (g := gName 1) (tt := tYes) rfl sc_Statement_size.nd
    (pi_list (pe_mt0 (ok_parts T s.kd) hr (pv 0))) (blkOk_by (N := ["self", "part"]) (sc := defScope s_Statement_size) (by decide +kernel)) (fun _ _ _ _ _ => pg_name (i := 1) sc_Statement_size.nd rfl (Or.inl rfl)) (fun _ _ _ _ _ => pts_nil)
    (fun _ _ _ _ _ => pe_mt0 hP hr (pv 1))) pa_nil)))), ?_⟩
  refine ⟨_, rfl, x, dx, _, rfl, hx, fl_parts _ _ _, x, dx, p, q, rfl, hx, fun l hl => ⟨l, rfl, ⟨_, SqL.of upd_same⟩, fun D hD => ?_⟩⟩
  have s1 : Same H (upd H l (.lst (s.kd.prt p q))) := smU (Same.refl H) hl
  have hz : s.kd.prt p q = s.kd.prt p q := rfl
  have hpp := prt_at hp
  have hlen : (s.kd.prt p q).length ≤ sizeLine := Nat.le_trans (prt_len _ p q) (by decide)
  refine lc_n (walk_list (xs := s.kd.prt p q)) (fun i acc H2 => Same (upd H l (.lst (s.kd.prt p q))) H2 ∧ acc = (s.parts.take i).map fun ss => V.int (szs ss)) ⟨smU (Same.refl _) hD, rfl⟩ (fun i acc H2 _ _ q => SqL.of (q.1 _ _ upd_same)) (fun _ => rfl) ?_ ?_
  · rintro i x1 acc H1 H2 hi e1 e2 ⟨q1, q2⟩ ⟨rfl, hx1⟩
    obtain ⟨ss, hs1, hs2⟩ := pair_at hpp hx1
    have hs3 := PAt.fz (Fz.of (s1.trans q1)) _ _ _ hs2
    obtain ⟨y, dy, t, rfl, hy⟩ := hs3.ref
    refine ⟨_, rfl, y, dy, _, rfl, hy, rfl, _, ss, rfl, hs3, fun H5 s5 => ?_⟩
    refine acc_end hi hlen e1 (s5 _ _ e2) ⟨smU (q1.trans s5) hD, ?_⟩
    rw [q2, take_map _ hs1]
  · intro acc H2 e1 e2 q
    refine ⟨D, s.parts.map fun ss => ((szs ss : Nat) : Int), rfl, SqL.of ?_, _, _, rfl, rfl, ?_⟩
    · rw [e2, q.2, List.take_of_length_le (by rw [← hpp.length]; exact Nat.le_refl _), List.map_map] <;> rfl
    · have e : (1 : Int) + (s.parts.map fun ss => ((szs ss : Nat) : Int)).sum = (s.sz : Int) := by
        rw [parts_sz hp, sum_cast]
        omega
      have := kk H2 (s1.trans q.1)
      rw [← e] at this
      exact this
theorem szs_sum (ss : List Stm) : szs ss = (ss.map Stm.sz).sum := by
  induction ss with
  | nil => simp [szs_nil]
  | cons s r ih => rw [szs_cons, ih]; simp
theorem pr_size (T : TX K mg) {n : Nat} (hS : ∀ k : Kd, Met P w K mg base (2 * n + 2) (He.ga K k.cn) "size" (spSSize K n)) : Met P w K mg base (2 * (n + 1) + 1) (He.ga K "Program") "size" (spPSize K (n + 1)) := by
  refine metD (k := 2 * n + 2) (fn_Program_size T.c) (cls_of (f_cls_Program T.c)) (meth_of (f_m_Program_size T.c)) sc_Program_size (bn1 fun _ _ _ _ _ _ _ => rfl) (fun vs H Q E h => by obtain ⟨v, s, rfl, _⟩ := h; rfl) (fun cdv A outer s0 H vs Q E hr h => ?_)
  obtain ⟨v, ss, rfl, ⟨x, dx, t, as, rfl, hx, ht, h24, hp⟩, kk⟩ := h
  refine ⟨_, pss_one (ps_ret (pe_b (cr_sum rfl) bb_sum (T.free (f_free_sum T.c)) (pa_cons (pe_lc (own := [("statement", 1)]) (g := gName 1) (tt := tYes) rfl sc_Program_size.nd
    (pi_tup (pe_fld (pv 0) rfl)) (blkOk_by (N := ["self", "statement"]) (sc := defScope s_Program_size) (by decide +kernel)) (fun _ _ _ _ _ => pg_name (i := 1) sc_Program_size.nd rfl (Or.inl rfl)) (fun _ _ _ _ _ => pts_nil)
    (fun _ _ _ _ _ => pe_ex fun k : Kd => pe_mt0 (hS k) hr (pv 1))) pa_nil))), ?_⟩
  refine ⟨_, rfl, x, _, dx, _, _, rfl, hx, cls_of (f_cls_Program T.c), no_of (f_no_Program_row T.c), rfl, t, rfl, ⟨_, SqT.of ht⟩, fun D hD => ?_⟩
  have hlen : as.length ≤ sizeLine := by
    rw [hp.length]
    exact small24 (Nat.le_trans (len_szs ss) h24)
  refine lc_n (walk_tup (xs := as)) (fun i acc H2 => Same H H2 ∧ acc = (ss.take i).map fun s => V.int s.sz) ⟨smU (Same.refl _) hD, rfl⟩ (fun i acc H2 _ _ q => SqT.of (q.1 _ _ ht)) (fun _ => rfl) ?_ ?_
  · rintro i x1 acc H1 H2 hi e1 e2 ⟨q1, q2⟩ ⟨rfl, hx1⟩
    obtain ⟨s, hs1, hs2⟩ := pair_at hp hx1
    have hs3 := SAt.fz (Fz.of q1) hs2
    obtain ⟨y, dy, p, q, rfl, hy, _⟩ := id hs3
    refine ⟨s.kd, _, rfl, y, dy, _, rfl, hy, fl_size _ _ _, _, s, rfl, hs3, fun H5 s5 => ?_⟩
    refine acc_end hi hlen e1 (s5 _ _ e2) ⟨smU (q1.trans s5) hD, ?_⟩
    rw [q2, take_map _ hs1]
  · intro acc H2 e1 e2 q
    refine ⟨D, ss.map fun s => ((s.sz : Nat) : Int), rfl, SqL.of ?_, ?_⟩
    · rw [e2, q.2, List.take_of_length_le (by rw [← hp.length]; exact Nat.le_refl _), List.map_map] <;> rfl
    · have := kk H2 q.1
      rw [szs_sum, ← sum_cast] at this
      exact this
/-- the size of all that stand n deep -/
theorem ok_size (T : TX K mg) : ∀ n : Nat, Met P w K mg base (2 * n + 1) (He.ga K "Program") "size" (spPSize K n) ∧ ∀ k : Kd, Met P w K mg base (2 * n + 2) (He.ga K k.cn) "size" (spSSize K n)
  | 0 => by
    have h0 : Met P w K mg base 1 (He.ga K "Program") "size" (spPSize K 0) := by
      refine metD (fn_Program_size T.c) (cls_of (f_cls_Program T.c)) (meth_of (f_m_Program_size T.c)) sc_Program_size (bn1 fun _ _ _ _ _ _ _ => rfl) (fun vs H Q E h => by obtain ⟨v, s, rfl, _⟩ := h; rfl) (fun cdv A outer s0 H vs Q E hr h => ?_)
      obtain ⟨v, ss, _, h1, _⟩ := h
      exact h1.elim
    exact ⟨h0, st_size T h0⟩
  | n + 1 => by
    have h1 := pr_size T (ok_size T n).2
    exact ⟨h1, st_size T h1⟩
theorem ok_psize (T : TX K mg) (n : Nat) : Met P w K mg base (2 * n + 1) (He.ga K "Program") "size" (spPSize K n) := (ok_size T n).1
theorem ok_ssize (T : TX K mg) (n : Nat) (k : Kd) : Met P w K mg base (2 * n + 2) (He.ga K k.cn) "size" (spSSize K n) := (ok_size T n).2 k
/-! ### the depth -/
theorem sc_Program_deep : FnScope ["self", "found", "statement", "part"] ["self"] (defScope s_Program_deep) := ⟨rfl, rfl, rfl, by decide +kernel, rfl, by decide +kernel, by decide +kernel⟩
theorem pr_deep (T : TX K mg) {n : Nat} (hP : Met P w K mg base (n + 1) (He.ga K "Program") "deep" (spDeep K n)) : Met P w K mg base (n + 2) (He.ga K "Program") "deep" (spDeep K (n + 1)) := by
  refine metD (fn_Program_deep T.c) (cls_of (f_cls_Program T.c)) (meth_of (f_m_Program_deep T.c)) sc_Program_deep (bn1 fun _ _ _ _ _ _ _ => rfl) (fun vs H Q E h => by obtain ⟨v, s, rfl, _⟩ := h; rfl) (fun cdv A outer s0 H vs Q E hr h => ?_)
  obtain ⟨v, ss, rfl, ⟨x, dx, t, as, rfl, hx, ht, h24, hp⟩, kk⟩ := h
  refine ⟨_, pss_cons (ps_set (i := 1) sc_Program_deep.nd rfl (Or.inl rfl) pe_int)
    (pss_cons (ps_for PassesOwn.never rfl (pi_tup (pe_fld (pv 0) rfl)) (pg_name (i := 2) sc_Program_deep.nd rfl (Or.inl rfl))
      (pss_ex fun k : Kd => pss_one (ps_set (i := 1) sc_Program_deep.nd rfl (Or.inl rfl) (pe_b (cr_max rfl) bb_max (T.free (f_free_max T.c)) (pa_cons (pe_op op_cat (pe_lst (pa_cons (pv 1) pa_nil))
        (pe_lc (own := [("part", 3)]) (g := gName 3) (tt := tYes) rfl sc_Program_deep.nd (pi_list (pe_mt0 (ok_parts T k) hr (pv 2))) (blkOk_by (N := ["self", "found", "statement", "part"]) (sc := defScope s_Program_deep) (by decide +kernel))
          (fun _ _ _ _ _ => pg_name (i := 3) sc_Program_deep.nd rfl (Or.inl rfl)) (fun _ _ _ _ _ => pts_nil) (fun _ _ _ _ _ => pe_mt0 hP hr (pv 3)))) pa_nil)))))
    (pss_one (ps_ret (pe_op op_add pe_int (pv 1))))), ?_⟩
  refine ⟨_, rfl, x, _, dx, _, _, rfl, hx, cls_of (f_cls_Program T.c), no_of (f_no_Program_row T.c), rfl, t, rfl, ⟨_, SqT.of ht⟩, for_it (walk_tup (xs := as)) (fun i σ H2 => ∃ (d : Int) (v : Option V), σ = [some (.ref x), some (.int d), v, none] ∧ 0 ≤ d ∧ d ≤ n ∧ Same H H2)
    ⟨0, none, rfl, by omega, by omega, Same.refl H⟩ (fun i σ H2 _ ⟨_, _, _, _, _, q⟩ => SqT.of (q _ _ ht)) ?_ ?_⟩
  · rintro i x1 σ H1 H2 hi ⟨d, v, rfl, d0, dn, q1⟩ ⟨rfl, hx1⟩
    obtain ⟨s, hs1, hs2⟩ := pair_at hp hx1
    have hs3 := SAt.fz (Fz.of q1) hs2
    obtain ⟨y, dy, p, q, rfl, hy, hpa⟩ := id hs3
    have hpp := prt_at hpa
    have hlen : (s.kd.prt p q).length ≤ sizeLine := Nat.le_trans (prt_len _ p q) (by decide)
    refine ⟨s.kd, _, rfl, (by show 1 ≤ sizeLine; decide), fun l0 hl0 => ?_⟩
    have f0 : Fz H2 (upd H2 l0 (.lst [V.int d])) := Fz.new hl0
    refine ⟨_, rfl, y, dy, _, rfl, f0.ins _ _ _ _ hy, fl_parts _ _ _, y, dy, p, q, rfl, f0.ins _ _ _ _ hy, fun l hl => ⟨l, rfl, ⟨_, SqL.of upd_same⟩, fun D hD => ?_⟩⟩
    generalize hHa : upd H2 l0 (.lst [V.int d]) = Ha at hl hD f0
    have a0 : Ha l0 = some (.lst [V.int d]) := by rw [← hHa]; exact upd_same
    have sa : Same H2 Ha := by rw [← hHa]; exact smU (Same.refl _) hl0
    have sb : Same Ha (upd Ha l (.lst (s.kd.prt p q))) := smU (Same.refl _) hl
    refine lc_n (walk_list (xs := s.kd.prt p q)) (fun i acc H3 => Same (upd Ha l (.lst (s.kd.prt p q))) H3 ∧ ∃ ds : List Int, acc = ds.map V.int ∧ ∀ e ∈ ds, 0 ≤ e ∧ e ≤ n) ⟨smU (Same.refl _) hD, [], rfl, fun e he => by cases he⟩ (fun i acc H3 _ _ q => SqL.of (q.1 _ _ upd_same)) (fun _ => rfl) ?_ ?_
    · rintro j x2 acc H3 H4 hj e1 e2 ⟨r1, ds, r2, r3⟩ ⟨rfl, hx2⟩
      obtain ⟨pp, ht1, ht2⟩ := pair_at hpp hx2
      have ht3 := PAt.fz (Fz.of ((sa.trans sb).trans r1)) _ _ _ ht2
      obtain ⟨z, dz, tz, rfl, hz⟩ := ht3.ref
      refine ⟨_, rfl, z, dz, _, rfl, hz, rfl, _, pp, rfl, ht3, fun e H5 l1 l2 s5 => ?_⟩
      refine acc_end hj hlen e1 (s5 _ _ e2) ⟨smU (r1.trans s5) hD, ds ++ [e], by rw [r2]; simp, fun e3 he3 => ?_⟩
      rcases List.mem_append.mp he3 with z1 | z1
      · exact r3 e3 z1
      · have : e3 = e := by simpa using z1
        subst this
        omega
    · rintro acc H3 e1 e2 ⟨r1, ds, r2, r3⟩
      have sab := (sa.trans sb).trans r1
      have z0 : H3 l0 = some (.lst [V.int d]) := (sb.trans r1) _ _ a0
      refine ⟨l0, D, _, _, rfl, rfl, z0, e2, ?_, fun m hm => ?_⟩
      · rw [e1]
        have := prt_len s.kd p q
        exact Nat.le_trans (show 1 + (s.kd.prt p q).length ≤ 3 by omega) (by decide)
      · refine ⟨m, d :: ds, rfl, SqL.of (by rw [upd_same, r2] <;> rfl), by simp, fun e he _ => ?_⟩
        have he2 : 0 ≤ e ∧ e ≤ n := by
          rcases List.mem_cons.mp he with z1 | z1
          · omega
          · exact r3 e z1
        exact ⟨e, _, rfl, he2.1, he2.2, smU (q1.trans sab) (by rcases hq : H m with _ | o; rfl; exact absurd hm (by rw [(q1.trans sab) _ _ hq]; simp))⟩
  · rintro σ H1 ⟨d, v, rfl, d0, dn, q1⟩
    exact ⟨_, rfl, _, _, rfl, rfl, kk _ _ (by omega) (by omega) q1⟩
theorem ok_deep (T : TX K mg) : ∀ n : Nat, Met P w K mg base (n + 1) (He.ga K "Program") "deep" (spDeep K n)
  | 0 => by
    refine metD (fn_Program_deep T.c) (cls_of (f_cls_Program T.c)) (meth_of (f_m_Program_deep T.c)) sc_Program_deep (bn1 fun _ _ _ _ _ _ _ => rfl) (fun vs H Q E h => by obtain ⟨v, s, rfl, _⟩ := h; rfl) (fun cdv A outer s0 H vs Q E hr h => ?_)
    obtain ⟨v, ss, _, h1, _⟩ := h
    exact h1.elim
  | n + 1 => pr_deep T (ok_deep T n)
end
end Mb


set_option Elab.async false
set_option linter.all false
set_option maxRecDepth 100000
set_option maxHeartbeats 4000000
/-! words and texts -/
namespace Mb
open PySem PySem.Spec PyProof.Rows L2
def brc (ws : List Str) : List Str := [("{" : Str)] ++ ws ++ [("}" : Str)]
mutual
def Stm.wds : Stm → List Str
  | .mk k a b => match k with
    | .write c v => ["write", c, v]
    | .wait c v => ["wait", c, v]
    | .mark n => ["mark", n]
    | .skip => ["skip"]
    | .stop => ["stop"]
    | .iff c v => ([("if" : Str), c, v] : List Str) ++ brc (wdss a) ++ [("else" : Str)] ++ brc (wdss b)
    | .whil c v => ([("while" : Str), c, v] : List Str) ++ brc (wdss a)
    | .choose => [("choose" : Str)] ++ brc (wdss a) ++ [("or" : Str)] ++ brc (wdss b)
    | .loop => [("loop" : Str)] ++ brc (wdss a)
def wdss : List Stm → List Str
  | [] => []
  | s :: r => s.wds ++ wdss r
end
theorem wdss_nil : wdss [] = [] := by simp [wdss]
theorem wdss_cons (s : Stm) (r : List Stm) : wdss (s :: r) = s.wds ++ wdss r := by simp [wdss]
theorem brc_len (ws : List Str) : (brc ws).length = ws.length + 2 := by simp [brc]
mutual
theorem wds_len : ∀ s : Stm, s.wds.length ≤ 9 * s.sz
  | .mk k a b => by
    have h1 := wdss_len a
    have h2 := wdss_len b
    have h3 : (Stm.mk k a b).sz = 1 + (szs a + szs b) := Stm.sz_eq _
    cases k <;> simp only [Stm.wds, List.length_append, brc_len, List.length_cons, List.length_nil] <;> omega
theorem wdss_len : ∀ ss : List Stm, (wdss ss).length ≤ 9 * szs ss
  | [] => by rw [wdss_nil]; exact Nat.zero_le _
  | s :: r => by
    have h1 := wds_len s
    have h2 := wdss_len r
    rw [wdss_cons, szs_cons, List.length_append]
    omega
end
theorem flat_told {s : Stm} (h : s.kd.flat) : s.kd.told = s.wds.map V.str := by
  cases s with
  | mk k a b =>
    cases k <;> first | exact h.elim | simp [Stm.kd, Kd.told, Stm.wds]
def spBraces (K : PySem.W.Frag) (n : Nat) : Sp := fun vs H Q _ => ∃ v ss, vs = [v] ∧ PAt K H n v ss ∧ ∀ l H2, Same H H2 → H2 l = some (.lst ((brc (wdss ss)).map V.str)) → Q (.ref l) H2
def spPWords (K : PySem.W.Frag) (n : Nat) : Sp := fun vs H Q _ => ∃ v ss, vs = [v] ∧ PAt K H n v ss ∧ ∀ l H2, Same H H2 → H2 l = some (.lst ((wdss ss).map V.str)) → Q (.ref l) H2
def spSWords (K : PySem.W.Frag) (n : Nat) (k : Kd) : Sp := fun vs H Q _ => ∃ v s, vs = [v] ∧ s.kd = k ∧ SAt K H n v s ∧ s.sz ≤ 24 ∧ ∀ l H2, Same H H2 → H2 l = some (.lst (s.wds.map V.str)) → Q (.ref l) H2
def spStr (K : PySem.W.Frag) (n : Nat) : Sp := fun vs H Q _ => ∃ v ss, vs = [v] ∧ PAt K H n v ss ∧ (∀ z ∈ wdss ss, z.length ≤ 10) ∧ ∀ H2, Same H H2 → Q (.str (Txt.join " " (wdss ss))) H2
section
variable {P : Program} {w : World} {K : PySem.W.Frag} {mg : Str → Option Value} {base : Heap}
theorem sc_in_braces : FnScope ["program"] ["program"] (defScope s_in_braces) := ⟨rfl, rfl, rfl, by decide +kernel, rfl, by decide +kernel, by decide +kernel⟩
theorem le_sl {n m : Nat} (h : n ≤ m) (hm : m ≤ 2000) : n ≤ sizeLine := Nat.le_trans (Nat.le_trans h hm) (by decide)
theorem st_braces (T : TX K mg) {n : Nat} (hP : Met P w K mg base (3 * n + 1) (He.ga K "Program") "words" (spPWords K n)) : Cal P w K mg base (3 * n + 2) "in_braces" (spBraces K n) := by
  refine calD (k := 3 * n + 1) (fn_in_braces T.c) (T.glo (f_glo_in_braces T.c)) sc_in_braces (bn1 fun _ _ _ _ _ _ _ => rfl) (fun vs H Q E h => by obtain ⟨v, s, rfl, _⟩ := h; rfl) (fun cdv A outer s0 H vs Q E hr h => ?_)
  obtain ⟨v, ss, rfl, hp, kk⟩ := h
  refine ⟨_, pss_one (ps_ret (pe_op op_cat (pe_op op_cat (pe_lst (pa_cons pe_str pa_nil)) (pe_mt0 hP hr (pv 0))) (pe_lst (pa_cons pe_str pa_nil)))), ?_⟩
  have hl := wdss_len ss
  have h24 := hp.few
  refine ⟨(by show 1 ≤ sizeLine; decide), fun l0 hl0 => ?_⟩
  have hp1 := PAt.fz (Fz.new (o := .lst [V.str "{"]) hl0) _ _ _ hp
  obtain ⟨x, dx, t, rfl, hx⟩ := hp1.ref
  refine ⟨_, rfl, x, dx, _, rfl, hx, rfl, _, ss, rfl, hp1, fun l1 H1 s1 e1 => ?_⟩
  have sa : Same H H1 := (smU (Same.refl H) hl0).trans s1
  refine ⟨l0, l1, _, _, rfl, rfl, s1 _ _ upd_same, e1, le_sl (m := 2000) (by rw [List.length_map]; show 1 + (wdss ss).length ≤ 2000; omega) (by decide), fun l2 hl2 => ?_⟩
  have sb := smN (o := .lst ([V.str "{"] ++ (wdss ss).map V.str)) sa hl2
  refine ⟨(by show 1 ≤ sizeLine; decide), fun l3 hl3 => ?_⟩
  have sc := smN (o := .lst [V.str "}"]) sb hl3
  refine ⟨l2, l3, _, _, rfl, rfl, by rw [upd_ne (ne_of_none upd_same hl3)]; exact upd_same, upd_same, le_sl (m := 2000) (by rw [List.length_append, List.length_map]; show 1 + (wdss ss).length + 1 ≤ 2000; omega) (by decide), fun l4 hl4 => ?_⟩
  exact kk l4 _ (smN sc hl4) (by rw [upd_same]; simp [brc])
theorem sc_Statement_words : FnScope ["self"] ["self"] (defScope s_Statement_words) := ⟨rfl, rfl, rfl, by decide +kernel, rfl, by decide +kernel, by decide +kernel⟩
theorem sc_If_words : FnScope ["self"] ["self"] (defScope s_If_words) := ⟨rfl, rfl, rfl, by decide +kernel, rfl, by decide +kernel, by decide +kernel⟩
theorem sc_While_words : FnScope ["self"] ["self"] (defScope s_While_words) := ⟨rfl, rfl, rfl, by decide +kernel, rfl, by decide +kernel, by decide +kernel⟩
theorem sc_Choose_words : FnScope ["self"] ["self"] (defScope s_Choose_words) := ⟨rfl, rfl, rfl, by decide +kernel, rfl, by decide +kernel, by decide +kernel⟩
theorem sc_Loop_words : FnScope ["self"] ["self"] (defScope s_Loop_words) := ⟨rfl, rfl, rfl, by decide +kernel, rfl, by decide +kernel, by decide +kernel⟩
theorem len1w {n : Nat} {k : Kd} : ∀ vs H Q E, spSWords K n k vs H Q E → vs.length = (["self"] : List Str).length := fun vs H Q E h => by
  obtain ⟨v, s, rfl, _⟩ := h
  rfl
theorem flat_words (T : TX K mg) {n : Nat} (k : Kd) (hf : k.flat) (c : Cls K (He.ga K k.cn)) (m : Meth K (He.ga K k.cn) "words" (He.fAd K ("Statement", some "words"))) : Met P w K mg base 2 (He.ga K k.cn) "words" (spSWords K n k) := by
  refine metD (fn_Statement_words T.c) c m sc_Statement_words (bn1 fun _ _ _ _ _ _ _ => rfl) len1w (fun cdv A outer s0 H vs Q E hr h => ?_)
  obtain ⟨v, s, rfl, rfl, ⟨x, dx, p, q, rfl, hx, hp⟩, h24, kk⟩ := h
  refine ⟨_, pss_one (ps_ret (pe_ty call_list_of bb_list (T.free (f_free_list T.c)) (pa_cons (pe_mt0 (ok_told T s.kd hf) hr (pv 0)) pa_nil))), ?_⟩
  refine ⟨_, rfl, x, dx, _, rfl, hx, fl_told _ _ _, x, dx, p, q, rfl, hx, fun t ht => ⟨t, _, rfl, .inr (SqT.of upd_same), fun l hl => ?_⟩⟩
  exact kk l _ (smN (smU (Same.refl H) ht) hl) (by rw [upd_same, flat_told hf])
/-- one program in braces behind a row of words -/
theorem cat_len {as : List Str} {ws : List Str} {n : Nat} (h : as.length ≤ 8) (hw : ws.length ≤ 9 * n) (hn : n ≤ 24) : ((as.map V.str).length + ((brc ws).map V.str).length) ≤ 300 := by
  rw [List.length_map, List.length_map, brc_len]
  omega
theorem st_words (T : TX K mg) {n : Nat} (hB : Cal P w K mg base (3 * n + 2) "in_braces" (spBraces K n)) (k : Kd) : Met P w K mg base (3 * n + 3) (He.ga K k.cn) "words" (spSWords K n k) := by
  have c := T.c
  cases k with
  | write c0 v => exact (flat_words T (.write c0 v) trivial (cls_of (f_cls_Write c)) (meth_of (f_m_Write_words c))).wk (by omega) fun _ _ _ _ h => h
  | wait c0 v => exact (flat_words T (.wait c0 v) trivial (cls_of (f_cls_Wait c)) (meth_of (f_m_Wait_words c))).wk (by omega) fun _ _ _ _ h => h
  | mark m => exact (flat_words T (.mark m) trivial (cls_of (f_cls_Mark c)) (meth_of (f_m_Mark_words c))).wk (by omega) fun _ _ _ _ h => h
  | skip => exact (flat_words T .skip trivial (cls_of (f_cls_Skip c)) (meth_of (f_m_Skip_words c))).wk (by omega) fun _ _ _ _ h => h
  | stop => exact (flat_words T .stop trivial (cls_of (f_cls_Stop c)) (meth_of (f_m_Stop_words c))).wk (by omega) fun _ _ _ _ h => h
  | iff c0 v0 =>
    refine metD (k := 3 * n + 2) (fn_If_words c) (cls_of (f_cls_If c)) (meth_of (f_m_If_words c)) sc_If_words (bn1 fun _ _ _ _ _ _ _ => rfl) len1w (fun cdv A outer s0 H vs Q E hr h => ?_)
    obtain ⟨v, s, rfl, hk, hS, h24, kk⟩ := h
    obtain ⟨kd, a, b⟩ := s
    obtain rfl : kd = Kd.iff c0 v0 := hk
    obtain ⟨x, dx, p, q, rfl, hx, hp⟩ := hS
    refine ⟨_, pss_one (ps_ret (pe_op op_cat (pe_op op_cat (pe_op op_cat (pe_lst (pa_cons pe_str (pa_cons (pe_fld (pv 0) rfl) (pa_cons (pe_fld (pv 0) rfl) pa_nil)))) (pe_c hB hr (pa_cons (pe_fld (pv 0) rfl) pa_nil)))
      (pe_lst (pa_cons pe_str pa_nil))) (pe_c hB hr (pa_cons (pe_fld (pv 0) rfl) pa_nil)))), ?_⟩
    have hsz : (Stm.mk (Kd.iff c0 v0) a b).sz = 1 + (szs a + szs b) := Stm.sz_eq _
    have la := wdss_len a
    have lb := wdss_len b
    have pa : PAt K H n p a := hp.1 (show 1 ≤ 2 by decide)
    have pb : PAt K H n q b := hp.2.2.1 (show 2 ≤ 2 by decide)
    refine ⟨_, rfl, x, _, dx, _, _, rfl, hx, cls_of (f_cls_If c), no_of (f_no_If_cell c), rfl, _, rfl, x, _, dx, _, _, rfl, hx, cls_of (f_cls_If c), no_of (f_no_If_value c), rfl, (by show 3 ≤ sizeLine; decide), fun l0 hl0 => ?_⟩
    have s1 : Same H (upd H l0 (.lst [V.str "if", .str c0, .str v0])) := smU (Same.refl H) hl0
    refine ⟨_, rfl, x, _, dx, _, _, rfl, s1 _ _ hx, cls_of (f_cls_If c), no_of (f_no_If_yes c), rfl, _, a, rfl, PAt.fz (Fz.of s1) _ _ _ pa, fun l1 H1 t1 e1 => ?_⟩
    have s2 := s1.trans t1
    refine ⟨l0, l1, _, _, rfl, rfl, t1 _ _ upd_same, e1, le_sl (m := 2000) (by rw [List.length_map, brc_len]; show 3 + ((wdss a).length + 2) ≤ 2000; omega) (by decide), fun l2 hl2 => ?_⟩
    have s3 := smN (o := .lst ([V.str "if", .str c0, .str v0] ++ (brc (wdss a)).map V.str)) s2 hl2
    refine ⟨(by show 1 ≤ sizeLine; decide), fun l3 hl3 => ?_⟩
    have s4 := smN (o := .lst [V.str "else"]) s3 hl3
    refine ⟨l2, l3, _, _, rfl, rfl, by rw [upd_ne (ne_of_none upd_same hl3)]; exact upd_same, upd_same, le_sl (m := 2000) (by rw [List.length_append, List.length_map, brc_len]; show 3 + ((wdss a).length + 2) + 1 ≤ 2000; omega) (by decide), fun l4 hl4 => ?_⟩
    have s5 := smN (o := .lst ([V.str "if", .str c0, .str v0] ++ (brc (wdss a)).map V.str ++ [V.str "else"])) s4 hl4
    refine ⟨_, rfl, x, _, dx, _, _, rfl, s5 _ _ hx, cls_of (f_cls_If c), no_of (f_no_If_no c), rfl, _, b, rfl, PAt.fz (Fz.of s5) _ _ _ pb, fun l5 H5 t5 e5 => ?_⟩
    have s6 := s5.trans t5
    refine ⟨l4, l5, _, _, rfl, rfl, t5 _ _ upd_same, e5, le_sl (m := 2000) (by rw [List.length_append, List.length_append, List.length_map, List.length_map, brc_len, brc_len]; show 3 + ((wdss a).length + 2) + 1 + ((wdss b).length + 2) ≤ 2000; omega) (by decide), fun l6 hl6 => ?_⟩
    exact kk l6 _ (smN s6 hl6) (by rw [upd_same]; simp [Stm.wds])
  | whil c0 v0 =>
    refine metD (k := 3 * n + 2) (fn_While_words c) (cls_of (f_cls_While c)) (meth_of (f_m_While_words c)) sc_While_words (bn1 fun _ _ _ _ _ _ _ => rfl) len1w (fun cdv A outer s0 H vs Q E hr h => ?_)
    obtain ⟨v, s, rfl, hk, hS, h24, kk⟩ := h
    obtain ⟨kd, a, b⟩ := s
    obtain rfl : kd = Kd.whil c0 v0 := hk
    obtain ⟨x, dx, p, q, rfl, hx, hp⟩ := hS
    refine ⟨_, pss_one (ps_ret (pe_op op_cat (pe_lst (pa_cons pe_str (pa_cons (pe_fld (pv 0) rfl) (pa_cons (pe_fld (pv 0) rfl) pa_nil)))) (pe_c hB hr (pa_cons (pe_fld (pv 0) rfl) pa_nil)))), ?_⟩
    have hsz : (Stm.mk (Kd.whil c0 v0) a b).sz = 1 + (szs a + szs b) := Stm.sz_eq _
    have la := wdss_len a
    have pa : PAt K H n p a := hp.1 (show 1 ≤ 1 by decide)
    refine ⟨_, rfl, x, _, dx, _, _, rfl, hx, cls_of (f_cls_While c), no_of (f_no_While_cell c), rfl, _, rfl, x, _, dx, _, _, rfl, hx, cls_of (f_cls_While c), no_of (f_no_While_value c), rfl, (by show 3 ≤ sizeLine; decide), fun l0 hl0 => ?_⟩
    have s1 : Same H (upd H l0 (.lst [V.str "while", .str c0, .str v0])) := smU (Same.refl H) hl0
    refine ⟨_, rfl, x, _, dx, _, _, rfl, s1 _ _ hx, cls_of (f_cls_While c), no_of (f_no_While_body c), rfl, _, a, rfl, PAt.fz (Fz.of s1) _ _ _ pa, fun l1 H1 t1 e1 => ?_⟩
    have s2 := s1.trans t1
    refine ⟨l0, l1, _, _, rfl, rfl, t1 _ _ upd_same, e1, le_sl (m := 2000) (by rw [List.length_map, brc_len]; show 3 + ((wdss a).length + 2) ≤ 2000; omega) (by decide), fun l2 hl2 => ?_⟩
    exact kk l2 _ (smN s2 hl2) (by rw [upd_same]; simp [Stm.wds])
  | choose =>
    refine metD (k := 3 * n + 2) (fn_Choose_words c) (cls_of (f_cls_Choose c)) (meth_of (f_m_Choose_words c)) sc_Choose_words (bn1 fun _ _ _ _ _ _ _ => rfl) len1w (fun cdv A outer s0 H vs Q E hr h => ?_)
    obtain ⟨v, s, rfl, hk, hS, h24, kk⟩ := h
    obtain ⟨kd, a, b⟩ := s
    obtain rfl : kd = Kd.choose := hk
    obtain ⟨x, dx, p, q, rfl, hx, hp⟩ := hS
    refine ⟨_, pss_one (ps_ret (pe_op op_cat (pe_op op_cat (pe_op op_cat (pe_lst (pa_cons pe_str pa_nil)) (pe_c hB hr (pa_cons (pe_fld (pv 0) rfl) pa_nil)))
      (pe_lst (pa_cons pe_str pa_nil))) (pe_c hB hr (pa_cons (pe_fld (pv 0) rfl) pa_nil)))), ?_⟩
    have hsz : (Stm.mk Kd.choose a b).sz = 1 + (szs a + szs b) := Stm.sz_eq _
    have la := wdss_len a
    have lb := wdss_len b
    have pa : PAt K H n p a := hp.1 (show 1 ≤ 2 by decide)
    have pb : PAt K H n q b := hp.2.2.1 (show 2 ≤ 2 by decide)
    refine ⟨(by show 1 ≤ sizeLine; decide), fun l0 hl0 => ?_⟩
    have s1 : Same H (upd H l0 (.lst [V.str "choose"])) := smU (Same.refl H) hl0
    refine ⟨_, rfl, x, _, dx, _, _, rfl, s1 _ _ hx, cls_of (f_cls_Choose c), no_of (f_no_Choose_one c), rfl, _, a, rfl, PAt.fz (Fz.of s1) _ _ _ pa, fun l1 H1 t1 e1 => ?_⟩
    have s2 := s1.trans t1
    refine ⟨l0, l1, _, _, rfl, rfl, t1 _ _ upd_same, e1, le_sl (m := 2000) (by rw [List.length_map, brc_len]; show 1 + ((wdss a).length + 2) ≤ 2000; omega) (by decide), fun l2 hl2 => ?_⟩
    have s3 := smN (o := .lst ([V.str "choose"] ++ (brc (wdss a)).map V.str)) s2 hl2
    refine ⟨(by show 1 ≤ sizeLine; decide), fun l3 hl3 => ?_⟩
    have s4 := smN (o := .lst [V.str "or"]) s3 hl3
    refine ⟨l2, l3, _, _, rfl, rfl, by rw [upd_ne (ne_of_none upd_same hl3)]; exact upd_same, upd_same, le_sl (m := 2000) (by rw [List.length_append, List.length_map, brc_len]; show 1 + ((wdss a).length + 2) + 1 ≤ 2000; omega) (by decide), fun l4 hl4 => ?_⟩
    have s5 := smN (o := .lst ([V.str "choose"] ++ (brc (wdss a)).map V.str ++ [V.str "or"])) s4 hl4
    refine ⟨_, rfl, x, _, dx, _, _, rfl, s5 _ _ hx, cls_of (f_cls_Choose c), no_of (f_no_Choose_other c), rfl, _, b, rfl, PAt.fz (Fz.of s5) _ _ _ pb, fun l5 H5 t5 e5 => ?_⟩
    have s6 := s5.trans t5
    refine ⟨l4, l5, _, _, rfl, rfl, t5 _ _ upd_same, e5, le_sl (m := 2000) (by rw [List.length_append, List.length_append, List.length_map, List.length_map, brc_len, brc_len]; show 1 + ((wdss a).length + 2) + 1 + ((wdss b).length + 2) ≤ 2000; omega) (by decide), fun l6 hl6 => ?_⟩
    exact kk l6 _ (smN s6 hl6) (by rw [upd_same]; simp [Stm.wds])
  | loop =>
    refine metD (k := 3 * n + 2) (fn_Loop_words c) (cls_of (f_cls_Loop c)) (meth_of (f_m_Loop_words c)) sc_Loop_words (bn1 fun _ _ _ _ _ _ _ => rfl) len1w (fun cdv A outer s0 H vs Q E hr h => ?_)
    obtain ⟨v, s, rfl, hk, hS, h24, kk⟩ := h
    obtain ⟨kd, a, b⟩ := s
    obtain rfl : kd = Kd.loop := hk
    obtain ⟨x, dx, p, q, rfl, hx, hp⟩ := hS
    refine ⟨_, pss_one (ps_ret (pe_op op_cat (pe_lst (pa_cons pe_str pa_nil)) (pe_c hB hr (pa_cons (pe_fld (pv 0) rfl) pa_nil)))), ?_⟩
    have hsz : (Stm.mk Kd.loop a b).sz = 1 + (szs a + szs b) := Stm.sz_eq _
    have la := wdss_len a
    have pa : PAt K H n p a := hp.1 (show 1 ≤ 1 by decide)
    refine ⟨(by show 1 ≤ sizeLine; decide), fun l0 hl0 => ?_⟩
    have s1 : Same H (upd H l0 (.lst [V.str "loop"])) := smU (Same.refl H) hl0
    refine ⟨_, rfl, x, _, dx, _, _, rfl, s1 _ _ hx, cls_of (f_cls_Loop c), no_of (f_no_Loop_body c), rfl, _, a, rfl, PAt.fz (Fz.of s1) _ _ _ pa, fun l1 H1 t1 e1 => ?_⟩
    have s2 := s1.trans t1
    refine ⟨l0, l1, _, _, rfl, rfl, t1 _ _ upd_same, e1, le_sl (m := 2000) (by rw [List.length_map, brc_len]; show 1 + ((wdss a).length + 2) ≤ 2000; omega) (by decide), fun l2 hl2 => ?_⟩
    exact kk l2 _ (smN s2 hl2) (by rw [upd_same]; simp [Stm.wds])
theorem sc_Program_words : FnScope ["self", "found", "statement"] ["self"] (defScope s_Program_words) := ⟨rfl, rfl, rfl, by decide +kernel, rfl, by decide +kernel, by decide +kernel⟩
theorem mem_sz {ss : List Stm} {s : Stm} (h : s ∈ ss) : s.sz ≤ szs ss := by
  induction ss with
  | nil => cases h
  | cons a r ih =>
    rw [szs_cons]
    rcases List.mem_cons.mp h with e | e
    · subst e; omega
    · have := ih e; omega
theorem wdss_app (p q : List Stm) : wdss (p ++ q) = wdss p ++ wdss q := by
  induction p with
  | nil => simp [wdss_nil]
  | cons s r ih => rw [List.cons_append, wdss_cons, wdss_cons, ih, List.append_assoc]
theorem wdss_take {ss : List Stm} {i : Nat} {s : Stm} (h : ss[i]? = some s) : wdss (ss.take i) ++ s.wds = wdss (ss.take (i + 1)) := by
  obtain ⟨hi, e⟩ := List.getElem?_eq_some_iff.mp h
  rw [List.take_succ_eq_append_getElem hi, wdss_app, e, wdss_cons, wdss_nil, List.append_nil]
theorem szs_take (ss : List Stm) (i : Nat) : szs (ss.take i) ≤ szs ss := by
  have := szs_app (ss.take i) (ss.drop i)
  rw [List.take_append_drop] at this
  omega
theorem pr_words (T : TX K mg) {n : Nat} (hS : ∀ k : Kd, Met P w K mg base (3 * n + 3) (He.ga K k.cn) "words" (spSWords K n k)) : Met P w K mg base (3 * (n + 1) + 1) (He.ga K "Program") "words" (spPWords K (n + 1)) := by
  refine metD (k := 3 * n + 3) (fn_Program_words T.c) (cls_of (f_cls_Program T.c)) (meth_of (f_m_Program_words T.c)) sc_Program_words (bn1 fun _ _ _ _ _ _ _ => rfl) (fun vs H Q E h => by obtain ⟨v, s, rfl, _⟩ := h; rfl) (fun cdv A outer s0 H vs Q E hr h => ?_)
  obtain ⟨v, ss, rfl, ⟨x, dx, t, as, rfl, hx, ht, h24, hp⟩, kk⟩ := h
  refine ⟨_, pss_cons (ps_set (i := 1) sc_Program_words.nd rfl (Or.inl rfl) (pe_lst pa_nil))
    (pss_cons (ps_for PassesOwn.never rfl (pi_tup (pe_fld (pv 0) rfl)) (pg_name (i := 2) sc_Program_words.nd rfl (Or.inl rfl))
      (pss_ex fun k : Kd => pss_one (ps_expr (pe_bm PySem.F.plainAttrs_list PySem.F.slot_list_extend PySem.F.type_list_extend mt_extend (pv 1) (pa_cons (pe_mt0 (hS k) hr (pv 2)) pa_nil)))))
    (pss_one (ps_ret (pv 1)))), ?_⟩
  refine ⟨(by show 0 ≤ sizeLine; decide), fun f hf => ?_⟩
  refine ⟨_, rfl, x, _, dx, _, _, rfl, by rw [upd_ne (ne_of_none hx hf)]; exact hx, cls_of (f_cls_Program T.c), no_of (f_no_Program_row T.c), rfl, t, rfl, ⟨_, SqT.of (by rw [upd_ne (ne_of_none ht hf)]; exact ht)⟩,
    for_it (walk_tup (xs := as)) (fun i σ H2 => (∃ v : Option V, σ = [some (.ref x), some (.ref f), v]) ∧ Same H H2 ∧ H2 f = some (.lst ((wdss (ss.take i)).map V.str))) ⟨⟨none, rfl⟩, smU (Same.refl H) hf, by rw [upd_same]; simp [wdss_nil]⟩ (fun i σ H2 _ q => SqT.of (q.2.1 _ _ ht)) ?_ ?_⟩
  · rintro i x1 σ H1 H2 hi ⟨⟨v, rfl⟩, q1, q2⟩ ⟨rfl, hx1⟩
    obtain ⟨s, hs1, hs2⟩ := pair_at hp hx1
    have hs3 := SAt.fz (Fz.of q1) hs2
    obtain ⟨y, dy, p, q, rfl, hy, hpa⟩ := id hs3
    have hm := mem_sz (List.mem_of_getElem? hs1)
    refine ⟨s.kd, _, rfl, Or.inl ⟨rfl, _, SqL.of q2⟩, _, rfl, y, dy, _, rfl, hy, fl_words _ _ _, _, s, rfl, rfl, hs3, by omega, fun l H5 s5 e5 => ?_⟩
    have e6 := s5 _ _ q2
    have l1 := wdss_len (ss.take (i + 1))
    have l2 := szs_take ss (i + 1)
    rw [← wdss_take hs1, List.length_append] at l1
    refine ⟨f, l, _, _, rfl, rfl, e6, e5, le_sl (m := 2000) (by rw [List.length_map, List.length_map]; omega) (by decide), ⟨_, rfl⟩, smU (q1.trans s5) hf, ?_⟩
    rw [upd_same, ← wdss_take hs1, List.map_append]
  · rintro σ H1 ⟨⟨v, rfl⟩, q1, q2⟩
    refine ⟨_, rfl, kk f _ q1 ?_⟩
    rw [q2, List.take_of_length_le (by rw [← hp.length]; exact Nat.le_refl _)]
theorem ok_words (T : TX K mg) : ∀ n : Nat, Met P w K mg base (3 * n + 1) (He.ga K "Program") "words" (spPWords K n)
  | 0 => by
    refine metD (fn_Program_words T.c) (cls_of (f_cls_Program T.c)) (meth_of (f_m_Program_words T.c)) sc_Program_words (bn1 fun _ _ _ _ _ _ _ => rfl) (fun vs H Q E h => by obtain ⟨v, s, rfl, _⟩ := h; rfl) (fun cdv A outer s0 H vs Q E hr h => ?_)
    obtain ⟨v, ss, _, h1, _⟩ := h
    exact h1.elim
  | n + 1 => pr_words T (st_words T (st_braces T (ok_words T n)))
theorem sc_Program_str : FnScope ["self"] ["self"] (defScope s_Program_str) := ⟨rfl, rfl, rfl, by decide +kernel, rfl, by decide +kernel, by decide +kernel⟩
theorem sum_len {l : List Str} (h : ∀ z ∈ l, z.length ≤ 10) : (l.map (·.length)).sum ≤ 10 * l.length := by
  induction l with
  | nil => simp
  | cons a r ih =>
    have h1 := h a List.mem_cons_self
    have h2 := ih fun z hz => h z (List.mem_cons_of_mem _ hz)
    rw [List.map_cons, List.sum_cons, List.length_cons]
    omega
theorem ok_str (T : TX K mg) (n : Nat) : Met P w K mg base (3 * n + 2) (He.ga K "Program") "__str__" (spStr K n) := by
  refine metD (k := 3 * n + 1) (fn_Program_str T.c) (cls_of (f_cls_Program T.c)) (meth_of (f_m_Program_str T.c)) sc_Program_str (bn1 fun _ _ _ _ _ _ _ => rfl) (fun vs H Q E h => by obtain ⟨v, s, rfl, _⟩ := h; rfl) (fun cdv A outer s0 H vs Q E hr h => ?_)
  obtain ⟨v, ss, rfl, hp, hz, kk⟩ := h
  obtain ⟨x, dx, t, rfl, hx⟩ := hp.ref
  refine ⟨_, pss_one (ps_ret (pe_bm PySem.F.plainAttrs_str PySem.F.slot_str_join PySem.F.type_str_join mt_join pe_str (pa_cons (pe_mt0 (ok_words T n) hr (pv 0)) pa_nil))), ?_⟩
  refine ⟨rfl, _, rfl, x, dx, _, rfl, hx, rfl, _, ss, rfl, hp, fun l H1 s1 e1 => ⟨" ", l, wdss ss, rfl, rfl, .inl (SqL.of e1), ?_, kk H1 s1⟩⟩
  · have h1 := sum_len hz
    have h2 := wdss_len ss
    have h3 := hp.few
    have h4 : (" " : Str).length = 1 := by decide +kernel
    rw [h4]
    omega
end
end Mb


set_option Elab.async false
set_option linter.all false
set_option maxRecDepth 100000
set_option maxHeartbeats 4000000
/-! the classes' makers -/
namespace Mb
open PySem PySem.Spec PyProof.Rows L2
/-- a new instance at x gets just the attributes fs -/
def Made (C : Addr) (x dx : Addr) (fs : List (Str × V)) (H H2 : Hp) : Prop := H2 x = some (.ins C dx fs) ∧ ∀ b o, b ≠ x → H b = some o → H2 b = some o
def spOnCell (C : Addr) : Sp := fun vs H Q _ => ∃ x dx c v, vs = [.ref x, .str c, .str v] ∧ H x = some (.ins C dx []) ∧ NameOk c ∧ NameOk v ∧ ∀ H2, Made C x dx [("cell", .str c), ("value", .str v)] H H2 → Q .non H2
def spMarkI (C : Addr) : Sp := fun vs H Q _ => ∃ x dx n, vs = [.ref x, .str n] ∧ H x = some (.ins C dx []) ∧ NameOk n ∧ ∀ H2, Made C x dx [("name", .str n)] H H2 → Q .non H2
def spIfI (C : Addr) : Sp := fun vs H Q _ => ∃ x dx c v p q, vs = [.ref x, .str c, .str v, p, q] ∧ H x = some (.ins C dx []) ∧ NameOk c ∧ NameOk v ∧ ∀ H2, Made C x dx [("cell", .str c), ("value", .str v), ("yes", p), ("no", q)] H H2 → Q .non H2
def spWhileI (C : Addr) : Sp := fun vs H Q _ => ∃ x dx c v p, vs = [.ref x, .str c, .str v, p] ∧ H x = some (.ins C dx []) ∧ NameOk c ∧ NameOk v ∧ ∀ H2, Made C x dx [("cell", .str c), ("value", .str v), ("body", p)] H H2 → Q .non H2
def spChooseI (C : Addr) : Sp := fun vs H Q _ => ∃ x dx p q, vs = [.ref x, p, q] ∧ H x = some (.ins C dx []) ∧ ∀ H2, Made C x dx [("one", p), ("other", q)] H H2 → Q .non H2
def spLoopI (C : Addr) : Sp := fun vs H Q _ => ∃ x dx p, vs = [.ref x, p] ∧ H x = some (.ins C dx []) ∧ ∀ H2, Made C x dx [("body", p)] H H2 → Q .non H2
theorem put2 (a b : V) : putF "value" b (putF "cell" a []) = [(("cell" : Str), a), ("value", b)] := rfl
theorem put3 (a b c : V) : putF "body" c [(("cell" : Str), a), ("value", b)] = [(("cell" : Str), a), ("value", b), ("body", c)] := rfl
theorem put4 (a b c d : V) : putF "no" d (putF "yes" c [(("cell" : Str), a), ("value", b)]) = [(("cell" : Str), a), ("value", b), ("yes", c), ("no", d)] := rfl
section
variable {P : Program} {w : World} {K : PySem.W.Frag} {mg : Str → Option Value} {base : Heap}
theorem sc_OnCell_init : FnScope ["self", "cell", "value"] ["self", "cell", "value"] (defScope s_OnCell_init) := ⟨rfl, rfl, rfl, by decide +kernel, rfl, by decide +kernel, by decide +kernel⟩
theorem bd_OnCell (T : TX K mg) {C : Addr} (c : Cls K C) (n1 : NoAttr K C "cell") (n2 : NoAttr K C "value") : ∀ {f : Addr}, Bdy P w K mg base ["self", "cell", "value"] "OnCell.__init__" (defScope s_OnCell_init) f 2 (defBody s_OnCell_init) (spOnCell C) := by
  intro f cdv A outer s0 H vs Q E hr h
  obtain ⟨x, dx, cc, v, rfl, hx, oc, ov, kk⟩ := h
  refine ⟨_, pss_cons (ps_expr (pe_c (ok_asked_names T) hr (pa_cons (pe_lst (pa_cons (pv 1) (pa_cons (pv 2) pa_nil))) pa_nil)))
    (pss_cons (ps_fld (pv 0) (pv 1) rfl) (pss_one (ps_fld (pv 0) (pv 2) rfl))), ?_⟩
  refine ⟨_, rfl, _, rfl, (by show 2 ≤ sizeLine; decide), fun l hl => ⟨l, [cc, v], rfl, SqL.of upd_same, ?_, fun H2 s2 => ?_⟩⟩
  · intro z hz
    rcases List.mem_cons.mp hz with e | e
    · rw [e]; exact oc
    · have e2 : z = v := by simpa using e
      rw [e2]; exact ov
  · have s3 : Same H H2 := (smU (Same.refl H) hl).trans s2
    refine ⟨_, rfl, _, rfl, x, C, dx, [], rfl, s3 _ _ hx, c, n1, (by show 0 < 1000; decide), _, rfl, _, rfl, x, C, dx, _, rfl, upd_same, c, n2, (by show 1 < 1000; decide), ?_⟩
    exact kk _ ⟨upd_same, fun b o hb e => by rw [upd_ne hb, upd_ne hb]; exact s3 b o e⟩
theorem ln3 {C : Addr} : ∀ vs H Q E, spOnCell C vs H Q E → vs.length = (["self", "cell", "value"] : List Str).length := fun vs H Q E h => by
  obtain ⟨x, dx, c, v, rfl, _⟩ := h
  rfl
theorem bn3 : Bnd "__init__" "OnCell.__init__" (defArgs s_OnCell_init) (defBody s_OnCell_init) (defScope s_OnCell_init) ["self", "cell", "value"] := fun _ _ _ _ _ _ us hl => match us, hl with | [_, _, _], _ => rfl
theorem ok_Write (T : TX K mg) : Mak P w K mg base 3 "Write" (He.ga K "Write") (spOnCell (He.ga K "Write")) :=
  makD (fn_OnCell_init T.c) (mk_of (f_mk_Write T.c)) (T.glo (f_glo_Write T.c)) sc_OnCell_init bn3 ln3 (bd_OnCell T (cls_of (f_cls_Write T.c)) (no_of (f_no_Write_cell T.c)) (no_of (f_no_Write_value T.c)))
theorem ok_Wait (T : TX K mg) : Mak P w K mg base 3 "Wait" (He.ga K "Wait") (spOnCell (He.ga K "Wait")) :=
  makD (fn_OnCell_init T.c) (mk_of (f_mk_Wait T.c)) (T.glo (f_glo_Wait T.c)) sc_OnCell_init bn3 ln3 (bd_OnCell T (cls_of (f_cls_Wait T.c)) (no_of (f_no_Wait_cell T.c)) (no_of (f_no_Wait_value T.c)))
theorem sc_Mark_init : FnScope ["self", "name"] ["self", "name"] (defScope s_Mark_init) := ⟨rfl, rfl, rfl, by decide +kernel, rfl, by decide +kernel, by decide +kernel⟩
theorem ok_Mark (T : TX K mg) : Mak P w K mg base 3 "Mark" (He.ga K "Mark") (spMarkI (He.ga K "Mark")) := by
  refine makD (fn_Mark_init T.c) (mk_of (f_mk_Mark T.c)) (T.glo (f_glo_Mark T.c)) sc_Mark_init (fun _ _ _ _ _ _ us hl => match us, hl with | [_, _], _ => rfl) (fun vs H Q E h => by obtain ⟨x, dx, n, rfl, _⟩ := h; rfl) (fun cdv A outer s0 H vs Q E hr h => ?_)
  obtain ⟨x, dx, n, rfl, hx, on, kk⟩ := h
  refine ⟨_, pss_cons (ps_expr (pe_c (ok_asked_names T) hr (pa_cons (pe_lst (pa_cons (pv 1) pa_nil)) pa_nil))) (pss_one (ps_fld (pv 0) (pv 1) rfl)), ?_⟩
  refine ⟨_, rfl, (by show 1 ≤ sizeLine; decide), fun l hl => ⟨l, [n], rfl, SqL.of upd_same, ?_, fun H2 s2 => ?_⟩⟩
  · intro z hz
    have e2 : z = n := by simpa using hz
    rw [e2]; exact on
  · have s3 : Same H H2 := (smU (Same.refl H) hl).trans s2
    refine ⟨_, rfl, _, rfl, x, _, dx, [], rfl, s3 _ _ hx, cls_of (f_cls_Mark T.c), no_of (f_no_Mark_name T.c), (by show 0 < 1000; decide), ?_⟩
    exact kk _ ⟨upd_same, fun b o hb e => by rw [upd_ne hb]; exact s3 b o e⟩
/-- OnCell.__init__(self, cell, value) of an instance of another class -/
theorem on_cell (T : TX K mg) {C : Addr} (c : Cls K C) (n1 : NoAttr K C "cell") (n2 : NoAttr K C "value") : ClX.CRead K (He.ga K "OnCell") (.type "type") ∧ ClX.CVal K (He.ga K "OnCell") (.type "type") "__init__" (.ref (He.fAd K ("OnCell", some "__init__"))) (.ref (He.fAd K ("OnCell", some "__init__"))) ∧
    PySem.W.keepIn K (.ref (He.fAd K ("OnCell", some "__init__"))) = true ∧ ∃ fd, FnOk P w K mg base CX0 3 (He.fAd K ("OnCell", some "__init__")) fd ["self", "cell", "value"] (spOnCell C) ∧ Binds K fd ["self", "cell", "value"] [] := by
  obtain ⟨a1, a2⟩ := He.ba (f_cr_OnCell T.c)
  obtain ⟨a3, a4⟩ := He.ba a2
  obtain ⟨fd, F⟩ := fn_OnCell_init T.c
  refine ⟨⟨a1, He.eqO_ok a3⟩, ⟨?_, rfl⟩, F.kp, fd, okD F sc_OnCell_init ln3 (bd_OnCell T c n1 n2), F.bindsN bn3⟩
  cases e : PySem.W.findCls K (.ref (He.ga K "OnCell")) (.type "type") "__init__" with
  | none => rw [e] at a4; cases a4
  | some r =>
    rw [e] at a4
    cases r with
    | get _ _ _ _ => cases a4
    | val u =>
      cases u with
      | ref g => rw [of_decide_eq_true a4]
      | _ => cases a4
theorem sc_If_init : FnScope ["self", "cell", "value", "yes", "no"] ["self", "cell", "value", "yes", "no"] (defScope s_If_init) := ⟨rfl, rfl, rfl, by decide +kernel, rfl, by decide +kernel, by decide +kernel⟩
theorem ok_If (T : TX K mg) : Mak P w K mg base 4 "If" (He.ga K "If") (spIfI (He.ga K "If")) := by
  refine makD (fn_If_init T.c) (mk_of (f_mk_If T.c)) (T.glo (f_glo_If T.c)) sc_If_init (fun _ _ _ _ _ _ us hl => match us, hl with | [_, _, _, _, _], _ => rfl) (fun vs H Q E h => by obtain ⟨x, dx, c, v, p, q, rfl, _⟩ := h; rfl) (fun cdv A outer s0 H vs Q E hr h => ?_)
  obtain ⟨x, dx, cc, v, p, q, rfl, hx, oc, ov, kk⟩ := h
  obtain ⟨r1, r2, r3, fd, r4, r5⟩ := on_cell (P := P) (w := w) (base := base) T (cls_of (f_cls_If T.c)) (no_of (f_no_If_cell T.c)) (no_of (f_no_If_value T.c))
  refine ⟨_, pss_cons (ps_expr (pe_off (pe_gl (T.ref (f_glo_OnCell T.c))) r1 r2 r3 r4 hr r5 (pa_cons (pv 0) (pa_cons (pv 1) (pa_cons (pv 2) pa_nil)))))
    (pss_cons (ps_fld (pv 0) (pv 3) rfl) (pss_one (ps_fld (pv 0) (pv 4) rfl))), ?_⟩
  refine ⟨rfl, _, rfl, _, rfl, _, rfl, x, dx, cc, v, rfl, hx, oc, ov, fun H2 m2 => ?_⟩
  refine ⟨_, rfl, _, rfl, x, _, dx, _, rfl, m2.1, cls_of (f_cls_If T.c), no_of (f_no_If_yes T.c), (by show 2 < 1000; decide), _, rfl, _, rfl, x, _, dx, _, rfl, upd_same, cls_of (f_cls_If T.c), no_of (f_no_If_no T.c), (by show 3 < 1000; decide), ?_⟩
  exact kk _ ⟨upd_same, fun b o hb e => by rw [upd_ne hb, upd_ne hb]; exact m2.2 b o hb e⟩
theorem sc_While_init : FnScope ["self", "cell", "value", "body"] ["self", "cell", "value", "body"] (defScope s_While_init) := ⟨rfl, rfl, rfl, by decide +kernel, rfl, by decide +kernel, by decide +kernel⟩
theorem ok_While (T : TX K mg) : Mak P w K mg base 4 "While" (He.ga K "While") (spWhileI (He.ga K "While")) := by
  refine makD (fn_While_init T.c) (mk_of (f_mk_While T.c)) (T.glo (f_glo_While T.c)) sc_While_init (fun _ _ _ _ _ _ us hl => match us, hl with | [_, _, _, _], _ => rfl) (fun vs H Q E h => by obtain ⟨x, dx, c, v, p, rfl, _⟩ := h; rfl) (fun cdv A outer s0 H vs Q E hr h => ?_)
  obtain ⟨x, dx, cc, v, p, rfl, hx, oc, ov, kk⟩ := h
  obtain ⟨r1, r2, r3, fd, r4, r5⟩ := on_cell (P := P) (w := w) (base := base) T (cls_of (f_cls_While T.c)) (no_of (f_no_While_cell T.c)) (no_of (f_no_While_value T.c))
  refine ⟨_, pss_cons (ps_expr (pe_off (pe_gl (T.ref (f_glo_OnCell T.c))) r1 r2 r3 r4 hr r5 (pa_cons (pv 0) (pa_cons (pv 1) (pa_cons (pv 2) pa_nil)))))
    (pss_one (ps_fld (pv 0) (pv 3) rfl)), ?_⟩
  refine ⟨rfl, _, rfl, _, rfl, _, rfl, x, dx, cc, v, rfl, hx, oc, ov, fun H2 m2 => ?_⟩
  refine ⟨_, rfl, _, rfl, x, _, dx, _, rfl, m2.1, cls_of (f_cls_While T.c), no_of (f_no_While_body T.c), (by show 2 < 1000; decide), ?_⟩
  exact kk _ ⟨upd_same, fun b o hb e => by rw [upd_ne hb]; exact m2.2 b o hb e⟩
theorem sc_Choose_init : FnScope ["self", "one", "other"] ["self", "one", "other"] (defScope s_Choose_init) := ⟨rfl, rfl, rfl, by decide +kernel, rfl, by decide +kernel, by decide +kernel⟩
theorem ok_Choose (T : TX K mg) : Mak P w K mg base 1 "Choose" (He.ga K "Choose") (spChooseI (He.ga K "Choose")) := by
  refine makD (fn_Choose_init T.c) (mk_of (f_mk_Choose T.c)) (T.glo (f_glo_Choose T.c)) sc_Choose_init (fun _ _ _ _ _ _ us hl => match us, hl with | [_, _, _], _ => rfl) (fun vs H Q E h => by obtain ⟨x, dx, p, q, rfl, _⟩ := h; rfl) (fun cdv A outer s0 H vs Q E hr h => ?_)
  obtain ⟨x, dx, p, q, rfl, hx, kk⟩ := h
  refine ⟨_, pss_cons (ps_fld (pv 0) (pv 1) rfl) (pss_one (ps_fld (pv 0) (pv 2) rfl)), ?_⟩
  refine ⟨_, rfl, _, rfl, x, _, dx, _, rfl, hx, cls_of (f_cls_Choose T.c), no_of (f_no_Choose_one T.c), (by show 0 < 1000; decide), _, rfl, _, rfl, x, _, dx, _, rfl, upd_same, cls_of (f_cls_Choose T.c), no_of (f_no_Choose_other T.c), (by show 1 < 1000; decide), ?_⟩
  exact kk _ ⟨upd_same, fun b o hb e => by rw [upd_ne hb, upd_ne hb]; exact e⟩
theorem sc_Loop_init : FnScope ["self", "body"] ["self", "body"] (defScope s_Loop_init) := ⟨rfl, rfl, rfl, by decide +kernel, rfl, by decide +kernel, by decide +kernel⟩
theorem ok_Loop (T : TX K mg) : Mak P w K mg base 1 "Loop" (He.ga K "Loop") (spLoopI (He.ga K "Loop")) := by
  refine makD (fn_Loop_init T.c) (mk_of (f_mk_Loop T.c)) (T.glo (f_glo_Loop T.c)) sc_Loop_init (fun _ _ _ _ _ _ us hl => match us, hl with | [_, _], _ => rfl) (fun vs H Q E h => by obtain ⟨x, dx, p, rfl, _⟩ := h; rfl) (fun cdv A outer s0 H vs Q E hr h => ?_)
  obtain ⟨x, dx, p, rfl, hx, kk⟩ := h
  refine ⟨_, pss_one (ps_fld (pv 0) (pv 1) rfl), ?_⟩
  refine ⟨_, rfl, _, rfl, x, _, dx, _, rfl, hx, cls_of (f_cls_Loop T.c), no_of (f_no_Loop_body T.c), (by show 0 < 1000; decide), ?_⟩
  exact kk _ ⟨upd_same, fun b o hb e => by rw [upd_ne hb]; exact e⟩
/-- Program(statements), the statements a list of those that stand n deep; H0: the heap ahead of the new instance -/
def spProgI (K : PySem.W.Frag) (n : Nat) : Sp := fun vs H Q _ => ∃ x dx l as ss H0, vs = [.ref x, .ref l] ∧ H x = some (.ins (He.ga K "Program") dx []) ∧ Same H0 H ∧ H0 x = none ∧ SqL K H0 l as ∧ Paired (SAt K H0 n) as ss ∧ szs ss ≤ 24 ∧ n + 1 ≤ 6 ∧
  ∀ H2, Same H0 H2 → PAt K H2 (n + 1) (.ref x) ss → Q .non H2
theorem sc_Program_init : FnScope ["self", "statements"] ["self", "statements"] (defScope s_Program_init) := ⟨rfl, rfl, rfl, by decide +kernel, rfl, by decide +kernel, by decide +kernel⟩
theorem ok_Program (T : TX K mg) (n : Nat) : Mak P w K mg base (2 * n + 4) "Program" (He.ga K "Program") (spProgI K n) := by
  refine makD (k := 2 * n + 3) (fn_Program_init T.c) (mk_of (f_mk_Program T.c)) (T.glo (f_glo_Program T.c)) sc_Program_init (fun _ _ _ _ _ _ us hl => match us, hl with | [_, _], _ => rfl) (fun vs H Q E h => by obtain ⟨x, dx, l, as, ss, H0, rfl, _⟩ := h; rfl) (fun cdv A outer s0 H vs Q E hr h => ?_)
  obtain ⟨x, dx, l, as, ss, H0, rfl, hx, h0, hn, hl, hp, h24, h6, kk⟩ := h
  refine ⟨_, pss_cons (ps_fld (pv 0) (pe_ty call_tuple_of bb_tuple (T.free (f_free_tuple T.c)) (pa_cons (pv 1) pa_nil)) rfl)
    (pss_one (ps_expr (pe_c (ok_asked_size T) hr (pa_cons (pe_mt0 (ok_psize T (n + 1)) hr (pv 0)) (pa_cons (pe_mt0 (ok_deep T (n + 1)) hr (pv 0)) pa_nil))))), ?_⟩
  refine ⟨_, rfl, l, as, rfl, .inl ⟨h0.seq hl, fun t ht => ?_⟩⟩
  have nxt : x ≠ t := ne_of_none hx ht
  refine ⟨_, rfl, x, _, dx, [], rfl, by rw [upd_ne nxt]; exact hx, cls_of (f_cls_Program T.c), no_of (f_no_Program_row T.c), (by show 0 < 1000; decide), ?_⟩
  have ex : (upd (upd H t (.tup as)) x (.ins (He.ga K "Program") dx [("row", .ref t)])) x = some (.ins (He.ga K "Program") dx [("row", .ref t)]) := upd_same
  have et : (upd (upd H t (.tup as)) x (.ins (He.ga K "Program") dx [("row", .ref t)])) t = some (.tup as) := by rw [upd_ne nxt.symm]; exact upd_same
  have s1 : Same H0 (upd (upd H t (.tup as)) x (.ins (He.ga K "Program") dx [("row", .ref t)])) := fun b o e => by rw [upd_ne (ne_of_none e hn), upd_ne (ne_of_none (h0 _ _ e) ht)]; exact h0 _ _ e
  have h1 : PAt K (upd (upd H t (.tup as)) x (.ins (He.ga K "Program") dx [("row", .ref t)])) (n + 1) (.ref x) ss := ⟨x, dx, t, as, rfl, ex, et, h24, Rows.fz (Fz.of s1) hp⟩
  refine ⟨_, rfl, x, dx, _, rfl, ex, rfl, _, ss, rfl, h1, fun H2 s2 => ?_⟩
  have h2 := PAt.fz (Fz.of s2) _ _ _ h1
  refine ⟨_, rfl, x, dx, _, rfl, s2 _ _ ex, rfl, _, ss, rfl, h2, fun d H3 d1 d2 s3 => ?_⟩
  exact ⟨_, _, rfl, by omega, by omega, kk H3 ((s1.trans s2).trans s3) (PAt.fz (Fz.of s3) _ _ _ h2)⟩
end
end Mb


set_option Elab.async false
set_option linter.all false
set_option maxRecDepth 100000
set_option maxHeartbeats 4000000
/-! boards -/
namespace Mb
open PySem PySem.Spec PyProof.Rows L2
abbrev Cells := List (Str × List Str)
structure CellOk (p : Str × List Str) : Prop where
  nm : NameOk p.1
  lo : 2 ≤ p.2.length
  hi : p.2.length ≤ 4
  vs : ∀ z ∈ p.2, NameOk z
  nd : p.2.Nodup
structure CellsOk (cs : Cells) : Prop where
  lo : 1 ≤ cs.length
  hi : cs.length ≤ 3
  nd : (cs.map (·.1)).Nodup
  each : ∀ p ∈ cs, CellOk p
def CellAt (H : Hp) (v : V) (p : Str × List Str) : Prop := ∃ t r, v = .ref t ∧ H t = some (.tup [.str p.1, .ref r]) ∧ H r = some (.lst (p.2.map V.str))
def CellsAt (H : Hp) (l : Addr) (cs : Cells) : Prop := ∃ as, H l = some (.lst as) ∧ Paired (CellAt H) as cs
theorem CellAt.same {H H2 : Hp} (s : Same H H2) {v : V} {p : Str × List Str} (h : CellAt H v p) : CellAt H2 v p :=
  let ⟨t, r, e, a, b⟩ := h
  ⟨t, r, e, s _ _ a, s _ _ b⟩
/-- the values of a cell -/
def bdOf (cs : Cells) (c : Str) : Option (List Str) := (cs.find? fun p => decide (p.1 = c)).map (·.2)
def BAt (K : PySem.W.Frag) (H : Hp) (v : V) (bd : Str → Option (List Str)) : Prop := ∃ x dx t d kvs, v = .ref x ∧ H x = some (.ins (He.ga K "Board") dx [("names", .ref t), ("rows", .ref d)]) ∧ H d = some (.dK kvs) ∧
  ∀ c vs, bd c = some vs → vs.length ≤ 4 ∧ ∃ r, valV kvs (.inr c) = some (.ref r) ∧ H r = some (.tup (vs.map V.str))
theorem BAt.fz {K : PySem.W.Frag} {H H2 : Hp} (z : Fz H H2) {v : V} {bd : Str → Option (List Str)} (h : BAt K H v bd) : BAt K H2 v bd := by
  obtain ⟨x, dx, t, d, kvs, e, a, b, c⟩ := h
  exact ⟨x, dx, t, d, kvs, e, z.ins _ _ _ _ a, z.dct _ _ b, fun c1 vs e1 => let ⟨e2, r, e3, e4⟩ := c c1 vs e1; ⟨e2, r, e3, z.tup _ _ e4⟩⟩
def spAskedCells : Sp := fun vs H Q _ => ∃ l cs, vs = [.ref l] ∧ CellsAt H l cs ∧ CellsOk cs ∧ ∀ H2, Same H H2 → Q .non H2
def spBoardI (K : PySem.W.Frag) : Sp := fun vs H Q _ => ∃ x dx l cs H0, vs = [.ref x, .ref l] ∧ H x = some (.ins (He.ga K "Board") dx []) ∧ Same H0 H ∧ H0 x = none ∧ CellsAt H0 l cs ∧ CellsOk cs ∧ ∀ H2, Same H0 H2 → BAt K H2 (.ref x) (bdOf cs) → Q .non H2
def spValues (K : PySem.W.Frag) : Sp := fun vs H Q _ => ∃ v c bd us, vs = [v, .str c] ∧ BAt K H v bd ∧ bd c = some us ∧ ∀ l, H l = none → Q (.ref l) (upd H l (.lst (us.map V.str)))
def spAskedB (K : PySem.W.Frag) : Sp := fun vs H Q _ => ∃ v c z bd us, vs = [v, .str c, .str z] ∧ BAt K H v bd ∧ bd c = some us ∧ z ∈ us ∧ ∀ H2, Same H H2 → Q .non H2
def rest (z : Str) (us : List Str) : List Str := us.filter fun u => !decide (u = z)
def spOthers (K : PySem.W.Frag) : Sp := fun vs H Q _ => ∃ v c z bd us, vs = [v, .str c, .str z] ∧ BAt K H v bd ∧ bd c = some us ∧ ∀ l H2, Same H H2 → H2 l = some (.lst ((rest z us).map V.str)) → Q (.ref l) H2
section
variable {P : Program} {w : World} {K : PySem.W.Frag} {mg : Str → Option Value} {base : Heap}
theorem sc_asked_cells : FnScope ["cells", "name", "values"] ["cells"] (defScope s_asked_cells) := ⟨rfl, rfl, rfl, by decide +kernel, rfl, by decide +kernel, by decide +kernel⟩
theorem ok_asked_cells (T : TX K mg) : Cal P w K mg base 3 "asked_cells" spAskedCells := by
  refine calD (fn_asked_cells T.c) (T.glo (f_glo_asked_cells T.c)) sc_asked_cells (bn1 fun _ _ _ _ _ _ _ => rfl) (fun vs H Q E h => by obtain ⟨l, cs, rfl, _⟩ := h; rfl) (fun cdv A outer s0 H vs Q E hr h => ?_)
  obtain ⟨l, cs, rfl, ⟨as, hl, hp⟩, hok, kk⟩ := h
  refine ⟨_, pss_cons (ps_if (pt_not (pt_chain op_le op_le pe_int (pe_b call_len_seq bb_len (T.free (f_free_len T.c)) (pa_cons (pv 0) pa_nil)) (pe_gl (T.int (f_int_MOST_CELLS T.c))))) (pss_one ps_never) pss_nil)
    (pss_cons (ps_for PassesOwn.never rfl (pi_list (pv 0)) (pg_tup rfl (pgs_cons (pg_name (i := 1) sc_asked_cells.nd rfl (Or.inl rfl)) (pgs_cons (pg_name (i := 2) sc_asked_cells.nd rfl (Or.inl rfl)) pgs_nil)))
      (pss_cons (ps_expr (pe_c (ok_asked_names T) hr (pa_cons (pe_lst (pa_cons (pv 1) pa_nil)) pa_nil)))
      (pss_cons (ps_if (pt_not (pt_chain op_le op_le (pe_gl (T.int (f_int_LEAST_VALUES T.c))) (pe_b call_len_seq bb_len (T.free (f_free_len T.c)) (pa_cons (pv 2) pa_nil)) (pe_gl (T.int (f_int_MOST_VALUES T.c))))) (pss_one ps_never) pss_nil)
      (pss_cons (ps_expr (pe_c (ok_asked_names T) hr (pa_cons (pv 2) pa_nil)))
      (pss_one (ps_expr (pe_c (ok_asked_once T) hr (pa_cons (pv 2) pa_nil))))))))
    (pss_one (ps_expr (pe_c (ok_asked_once T) hr (pa_cons (pe_lc (own := [("name", 1), ("values", 2)]) (g := gTup K 2 (gCons (gName 1) (gCons (gName 2) gNil))) (tt := tYes) rfl sc_asked_cells.nd (pi_list (pv 0)) (blkOk_by (N := ["cells", "name", "values"]) (sc := defScope s_asked_cells) (by decide +kernel))
      (fun _ _ _ _ _ => pg_tup rfl (pgs_cons (pg_name (i := 1) sc_asked_cells.nd rfl (Or.inl rfl)) (pgs_cons (pg_name (i := 2) sc_asked_cells.nd rfl (Or.inl rfl)) pgs_nil))) (fun _ _ _ _ _ => pts_nil) (fun _ _ _ _ _ => pv 1)) pa_nil))))), ?_⟩
  have hlen := hp.length
  have l1 := hok.lo
  have l2 := hok.hi
  have d1 : decide ((1 : Int) ≤ (as.length : Int)) = true := decide_eq_true (by omega)
  have d2 : decide ((as.length : Int) ≤ (3 : Int)) = true := decide_eq_true (by omega)
  refine ⟨_, rfl, l, as, rfl, .inl (SqL.of hl), _, _, rfl, rfl, _, rfl, iteB d1 ⟨_, _, rfl, rfl, _, rfl, iteN (by rw [d2]; rfl) ?_⟩⟩
  refine ⟨_, rfl, l, rfl, ⟨_, SqL.of hl⟩, for_it (walk_list (xs := as)) (fun i σ H2 => (∃ v1 v2 : Option V, σ = [some (.ref l), v1, v2]) ∧ Same H H2) ⟨⟨none, none, rfl⟩, Same.refl H⟩ (fun i σ H2 _ q => SqL.of (q.2 _ _ hl)) ?_ ?_⟩
  · rintro i x1 σ H1 H2 hi ⟨⟨v1, v2, rfl⟩, q1⟩ ⟨rfl, hx1⟩
    obtain ⟨p, hs1, hs2⟩ := pair_at hp hx1
    obtain ⟨t, r, rfl, ht, hr1⟩ := hs2.same q1
    have ok := hok.each p (List.mem_of_getElem? hs1)
    refine ⟨t, _, rfl, SqT.of ht, rfl, _, _, rfl, _, _, rfl, rfl, ?_⟩
    refine ⟨_, rfl, (by show 1 ≤ sizeLine; decide), fun l0 hl0 => ⟨l0, [p.1], rfl, SqL.of upd_same, fun z hz => ?_, fun H3 s3 => ?_⟩⟩
    · have e : z = p.1 := by simpa using hz
      rw [e]; exact ok.nm
    · have s4 : Same H2 H3 := (smU (Same.refl _) hl0).trans s3
      have o1 := ok.lo
      have o2 := ok.hi
      have d3 : decide ((2 : Int) ≤ (((p.2.map V.str).length : Nat) : Int)) = true := decide_eq_true (by rw [List.length_map]; omega)
      have d4 : decide ((((p.2.map V.str).length : Nat) : Int) ≤ (4 : Int)) = true := decide_eq_true (by rw [List.length_map]; omega)
      refine ⟨_, rfl, r, _, rfl, .inl (SqL.of (s4 _ _ hr1)), _, _, rfl, rfl, _, rfl, iteB d3 ⟨_, _, rfl, rfl, _, rfl, iteN (by rw [d4]; rfl) ?_⟩⟩
      refine ⟨_, rfl, r, p.2, rfl, SqL.of (s4 _ _ hr1), ok.vs, fun H4 s5 => ?_⟩
      have s6 := s4.trans s5
      refine ⟨_, rfl, r, p.2, rfl, SqL.of (s6 _ _ hr1), ok.nd, by omega, fun H5 s7 => ?_⟩
      exact ⟨⟨_, _, rfl⟩, (q1.trans s6).trans s7⟩
  · rintro σ H1 ⟨⟨v1, v2, rfl⟩, q1⟩
    have hn : as.length ≤ sizeLine := le_sl (m := 2000) (by omega) (by decide)
    refine ⟨_, rfl, l, rfl, ⟨_, SqL.of (q1 _ _ hl)⟩, fun D hD => ?_⟩
    refine lc_p (walk_list (xs := as)) (fun i acc H2 => Same H1 H2 ∧ acc = (cs.take i).map fun p => V.str p.1) ⟨smU (Same.refl _) hD, rfl⟩ (fun i acc H2 _ _ q => SqL.of (q.1 _ _ (q1 _ _ hl))) (fun _ _ => rfl) ?_ ?_
    · rintro i x1 acc H2 H3 hi e1 e2 ⟨r1, r2⟩ ⟨rfl, hx1⟩
      obtain ⟨p, hs1, hs2⟩ := pair_at hp hx1
      obtain ⟨t, r, rfl, ht, hr1⟩ := hs2.same (q1.trans r1)
      refine ⟨t, _, _, rfl, SqT.of ht, _, rfl, acc_end hi hn e1 e2 ⟨smU r1 hD, ?_⟩⟩
      rw [r2, take_map _ hs1]
    · rintro acc H2 e1 e2 ⟨r1, r2⟩
      refine ⟨D, cs.map (·.1), rfl, SqL.of ?_, hok.nd, by rw [List.length_map]; omega, fun H3 s3 => kk H3 ((q1.trans r1).trans s3)⟩
      rw [e2, r2, List.take_of_length_le (by omega), List.map_map] <;> rfl
end
end Mb


set_option Elab.async false
set_option linter.all false
set_option maxRecDepth 100000
set_option maxHeartbeats 4000000
/-! boards: made and asked -/
namespace Mb
open PySem PySem.Spec PyProof.Rows L2
theorem bd_mem {cs : Cells} (hn : (cs.map (·.1)).Nodup) {p : Str × List Str} (h : p ∈ cs) : bdOf cs p.1 = some p.2 := by
  unfold bdOf
  induction cs with
  | nil => cases h
  | cons a r ih =>
    rw [List.map_cons] at hn
    obtain ⟨h1, h2⟩ := List.nodup_cons.mp hn
    rw [List.find?_cons]
    by_cases e : a.1 = p.1
    · rw [decide_eq_true e]
      rcases List.mem_cons.mp h with z | z
      · rw [z] <;> rfl
      · exact absurd (by rw [e]; exact List.mem_map_of_mem z) h1
    · rw [decide_eq_false e]
      rcases List.mem_cons.mp h with z | z
      · exact absurd (by rw [z]) e
      · exact ih h2 z
theorem mem_bd {cs : Cells} {c : Str} {vs : List Str} (h : bdOf cs c = some vs) : (c, vs) ∈ cs := by
  unfold bdOf at h
  cases e : cs.find? (fun p => decide (p.1 = c)) with
  | none => rw [e] at h; cases h
  | some p =>
    rw [e] at h
    have e1 : p.2 = vs := Option.some.inj h
    have e2 : p.1 = c := of_decide_eq_true (List.find?_some (p := fun p : Str × List Str => decide (p.1 = c)) e)
    have := List.mem_of_find?_eq_some e
    rw [← e1, ← e2]
    exact this
theorem fst_at {cs : Cells} {i j : Nat} {p q : Str × List Str} (hn : (cs.map (·.1)).Nodup) (h : cs[i]? = some p) (h2 : cs[j]? = some q) (e : p.1 = q.1) : i = j := by
  refine nd_ix hn (x := p.1) ?_ ?_
  · rw [List.getElem?_map, h] <;> rfl
  · rw [List.getElem?_map, h2, e] <;> rfl
section
variable {P : Program} {w : World} {K : PySem.W.Frag} {mg : Str → Option Value} {base : Heap}
theorem sc_Board_init : FnScope ["self", "cells", "name", "values"] ["self", "cells"] (defScope s_Board_init) := ⟨rfl, rfl, rfl, by decide +kernel, rfl, by decide +kernel, by decide +kernel⟩
theorem ok_Board (T : TX K mg) : Mak P w K mg base 4 "Board" (He.ga K "Board") (spBoardI K) := by
  refine makD (fn_Board_init T.c) (mk_of (f_mk_Board T.c)) (T.glo (f_glo_Board T.c)) sc_Board_init (fun _ _ _ _ _ _ us hl => match us, hl with | [_, _], _ => rfl) (fun vs H Q E h => by obtain ⟨x, dx, l, cs, H0, rfl, _⟩ := h; rfl) (fun cdv A outer s0 H vs Q E hr h => ?_)
  obtain ⟨x, dx, l, cs, H0, rfl, hx, hs0, hn0, hC, hok, kk⟩ := h
  have hu := hu_of hr
  refine ⟨_, pss_cons (ps_expr (pe_c (ok_asked_cells T) hr (pa_cons (pv 1) pa_nil)))
    (pss_cons (ps_fld (pv 0) (pe_ty call_tuple_of bb_tuple (T.free (f_free_tuple T.c)) (pa_cons (pe_lc (own := [("name", 2), ("values", 3)]) (g := gTup K 2 (gCons (gName 2) (gCons (gName 3) gNil))) (tt := tYes) rfl sc_Board_init.nd (pi_list (pv 1)) (blkOk_by (N := ["self", "cells", "name", "values"]) (sc := defScope s_Board_init) (by decide +kernel))
        (fun _ _ _ _ _ => pg_tup rfl (pgs_cons (pg_name (i := 2) sc_Board_init.nd rfl (Or.inl rfl)) (pgs_cons (pg_name (i := 3) sc_Board_init.nd rfl (Or.inl rfl)) pgs_nil))) (fun _ _ _ _ _ => pts_nil) (fun _ _ _ _ _ => pv 2)) pa_nil)) rfl)
    (pss_cons (ps_fld (pv 0) pe_dnewK rfl)
    (pss_one (ps_for PassesOwn.never rfl (pi_list (pv 1)) (pg_tup rfl (pgs_cons (pg_name (i := 2) sc_Board_init.nd rfl (Or.inl rfl)) (pgs_cons (pg_name (i := 3) sc_Board_init.nd rfl (Or.inl rfl)) pgs_nil)))
      (pss_one (ps_dput hu (pe_fld (pv 0) rfl) (pv 2) (pe_ty call_tuple_of bb_tuple (T.free (f_free_tuple T.c)) (pa_cons (pv 3) pa_nil)) rfl)))))), ?_⟩
  have cB := cls_of (f_cls_Board T.c)
  have l2 := hok.hi
  obtain ⟨as, hl0, hp0⟩ := hC
  have hlen := hp0.length
  have hn : as.length ≤ sizeLine := le_sl (m := 2000) (by omega) (by decide)
  refine ⟨_, rfl, l, cs, rfl, ⟨as, hs0 _ _ hl0, hp0.mono fun _ _ z => z.same hs0⟩, hok, fun H1 s1 => ?_⟩
  have s01 := hs0.trans s1
  refine ⟨_, rfl, l, rfl, ⟨_, SqL.of (s01 _ _ hl0)⟩, fun D hD => ?_⟩
  refine lc_p (walk_list (xs := as)) (fun i acc H2 => Same H1 H2 ∧ acc = (cs.take i).map fun p => V.str p.1) ⟨smU (Same.refl _) hD, rfl⟩ (fun i acc H2 _ _ q => SqL.of (q.1 _ _ (s01 _ _ hl0))) (fun _ _ => rfl) ?_ ?_
  · rintro i x1 acc H2 H3 hi e1 e2 ⟨r1, r2⟩ ⟨rfl, hx1⟩
    obtain ⟨p, hs1, hs2⟩ := pair_at hp0 hx1
    obtain ⟨t, r, rfl, ht, hr1⟩ := hs2.same (s01.trans r1)
    refine ⟨t, _, _, rfl, SqT.of ht, _, rfl, acc_end hi hn e1 e2 ⟨smU r1 hD, ?_⟩⟩
    rw [r2, take_map _ hs1]
  rintro acc H2 e1 e2 ⟨r1, r2⟩
  have s02 := s01.trans r1
  refine ⟨D, acc, rfl, .inl ⟨SqL.of e2, fun t ht => ?_⟩⟩
  have hx2 : H2 x = some (.ins (He.ga K "Board") dx []) := r1 _ _ (s1 _ _ hx)
  have nxt : x ≠ t := ne_of_none hx2 ht
  refine ⟨_, rfl, x, _, dx, _, rfl, by rw [upd_ne nxt]; exact hx2, cB, no_of (f_no_Board_names T.c), (by show 0 < 1000; decide), ?_⟩
  intro d hd
  have hd2 : H2 d = none := by
    cases e : H2 d with
    | none => rfl
    | some o =>
      have : (upd (upd H2 t (.tup acc)) x (.ins (He.ga K "Board") dx (putF "names" (.ref t) []))) d ≠ none := by
        by_cases z : d = x
        · rw [z, upd_same]; simp
        · rw [upd_ne z]
          by_cases z2 : d = t
          · rw [z2, upd_same]; simp
          · rw [upd_ne z2, e]; simp
      exact absurd hd this
  have nxd : x ≠ d := by
    intro z
    rw [← z, upd_same] at hd
    cases hd
  have ntd : t ≠ d := by
    intro z
    rw [← z, upd_ne nxt.symm, upd_same] at hd
    cases hd
  refine ⟨_, rfl, x, _, dx, _, rfl, by rw [upd_ne nxd]; exact upd_same, cB, no_of (f_no_Board_rows T.c), (by show 1 < 1000; decide), ?_⟩
  have sB : Same H0 (upd (upd (upd (upd H2 t (.tup acc)) x (.ins (He.ga K "Board") dx (putF "names" (.ref t) []))) d (.dK [])) x (.ins (He.ga K "Board") dx [("names", .ref t), ("rows", .ref d)])) :=
    smU (smU (smU (smU s02 (s02.free ht)) hn0) (s02.free hd2)) hn0
  have eD : (upd (upd (upd (upd H2 t (.tup acc)) x (.ins (He.ga K "Board") dx (putF "names" (.ref t) []))) d (.dK [])) x (.ins (He.ga K "Board") dx [("names", .ref t), ("rows", .ref d)])) d = some (.dK []) := by
    rw [upd_ne nxd.symm]
    exact upd_same
  have hn00 : H0 d = none := s02.free hd2
  refine ⟨_, rfl, l, rfl, ⟨_, SqL.of (sB _ _ hl0)⟩, for_it (walk_list (xs := as)) (fun i σ H5 => (∃ v1 v2 : Option V, σ = [some (.ref x), some (.ref l), v1, v2]) ∧ Same H0 H5 ∧ H5 x = some (.ins (He.ga K "Board") dx [("names", .ref t), ("rows", .ref d)]) ∧
    ∃ kvs : List (Key × V), H5 d = some (.dK kvs) ∧ kvs.length ≤ i ∧ ∀ j p, j < i → cs[j]? = some p → ∃ r, valV kvs (.inr p.1) = some (.ref r) ∧ H5 r = some (.tup (p.2.map V.str)))
    ⟨⟨none, none, rfl⟩, sB, upd_same, [], eD, Nat.le_refl _, fun j p h => absurd h (Nat.not_lt_zero _)⟩ (fun i σ H5 _ q => SqL.of (q.2.1 _ _ hl0)) ?_ ?_⟩
  · rintro i x1 σ H5 H6 hi ⟨⟨v1, v2, rfl⟩, q1, q2, kvs, q3, q4, q5⟩ ⟨rfl, hx1⟩
    obtain ⟨p, hs1, hs2⟩ := pair_at hp0 hx1
    obtain ⟨u, r, rfl, hu1, hr1⟩ := hs2.same q1
    refine ⟨u, _, rfl, SqT.of hu1, rfl, _, _, rfl, _, _, rfl, rfl, ?_⟩
    refine ⟨_, rfl, r, _, rfl, .inl ⟨SqL.of hr1, fun z hz => ?_⟩⟩
    have hsl : (1000 : Nat) < sizeLine := by decide
    have f6 : ∀ b o, H6 b = some o → (upd H6 z (.tup (p.2.map V.str))) b = some o := fun b o e => by rw [upd_ne (ne_of_none e hz)]; exact e
    refine ⟨_, rfl, x, _, dx, _, _, rfl, f6 _ _ q2, cB, no_of (f_no_Board_rows T.c), rfl, _, rfl, d, _, rfl, DPut.k (k := .inr p.1) (f6 _ _ q3) (by omega), ?_⟩
    have nxd2 : x ≠ d := ne_of q2 q3 (by intro z; cases z)
    refine ⟨⟨_, _, rfl⟩, smU (smU q1 (q1.free hz)) hn00, by rw [upd_ne nxd2]; exact f6 _ _ q2, _, upd_same, ?_, fun j p2 hj hp2 => ?_⟩
    · unfold putK
      split
      · rw [List.length_map]; omega
      · rw [List.length_append]; exact Nat.succ_le_succ q4
    · rw [valV_put]
      by_cases e : j = i
      · subst e
        rw [hs1] at hp2
        cases hp2
        rw [if_pos rfl]
        exact ⟨z, rfl, by rw [upd_ne (ne_of (H := upd H6 z (.tup (p.2.map V.str))) upd_same (f6 _ _ q3) (by intro z; cases z))]; exact upd_same⟩
      · have ne : ¬ (Sum.inr p2.1 : Key) = .inr p.1 := fun z1 => e (fst_at hok.nd hp2 hs1 (Sum.inr.inj z1))
        rw [if_neg ne]
        obtain ⟨r2, g1, g2⟩ := q5 j p2 (by omega) hp2
        exact ⟨r2, g1, by rw [upd_ne (ne_of (f6 _ _ g2) (f6 _ _ q3) (by intro z; cases z))]; exact f6 _ _ g2⟩
  · rintro σ H5 ⟨⟨v1, v2, rfl⟩, q1, q2, kvs, q3, q4, q5⟩
    refine kk H5 q1 ⟨x, dx, t, d, kvs, rfl, q2, q3, fun c vs hb => ?_⟩
    have hm := mem_bd hb
    obtain ⟨j, hj, ej⟩ := List.mem_iff_getElem.mp hm
    obtain ⟨r, g1, g2⟩ := q5 j (c, vs) (by omega) (by rw [List.getElem?_eq_getElem hj, ej])
    exact ⟨(hok.each _ hm).hi, r, g1, g2⟩
theorem sc_Board_values_of : FnScope ["self", "cell"] ["self", "cell"] (defScope s_Board_values_of) := ⟨rfl, rfl, rfl, by decide +kernel, rfl, by decide +kernel, by decide +kernel⟩
theorem ok_values (T : TX K mg) : Met P w K mg base 1 (He.ga K "Board") "values_of" (spValues K) := by
  refine metD (fn_Board_values_of T.c) (cls_of (f_cls_Board T.c)) (meth_of (f_m_Board_values_of T.c)) sc_Board_values_of (fun _ _ _ _ _ _ us hl => match us, hl with | [_, _], _ => rfl) (fun vs H Q E h => by obtain ⟨v, c, bd, us, rfl, _⟩ := h; rfl) (fun cdv A outer s0 H vs Q E hr h => ?_)
  obtain ⟨v, c, bd, us, rfl, ⟨x, dx, t, d, kvs, rfl, hx, hd, hb⟩, hc, kk⟩ := h
  obtain ⟨_, r, h1, h2⟩ := hb c us hc
  have hu := hu_of hr
  refine ⟨_, pss_cons (ps_if (pt_cmp (pc_dnotin hu (pv 1) (pe_fld (pv 0) rfl))) (pss_one ps_never) pss_nil)
    (pss_one (ps_ret (pe_ty call_list_of bb_list (T.free (f_free_list T.c)) (pa_cons (pe_dget hu (pe_fld (pv 0) rfl) (pv 1) (fun _ _ => rfl)) pa_nil)))), ?_⟩
  have g1 : DGet H d (.str c) (some (.ref r)) := by
    have z := DGet.k (k := .inr c) hd
    rw [h1] at z
    exact z
  refine ⟨_, rfl, _, rfl, x, _, dx, _, _, rfl, hx, cls_of (f_cls_Board T.c), no_of (f_no_Board_rows T.c), rfl, d, _, rfl, g1, _, rfl, iteN rfl ?_⟩
  exact ⟨_, rfl, x, _, dx, _, _, rfl, hx, cls_of (f_cls_Board T.c), no_of (f_no_Board_rows T.c), rfl, _, rfl, d, _, rfl, g1, r, _, rfl, .inr (SqT.of h2), kk⟩
theorem flat_strs (us : List Str) : (us.map V.str).all flatV = true := by
  rw [List.all_map]
  exact List.all_eq_true.mpr fun _ _ => rfl
theorem in_strs {z : Str} {us : List Str} (h : z ∈ us) : inV (.str z) (us.map V.str) = true := by
  unfold inV
  rw [List.any_map]
  exact List.any_eq_true.mpr ⟨z, h, by show eqV (.str z) (.str z) = true; simp [eqV]⟩
theorem sc_Board_asked : FnScope ["self", "cell", "value"] ["self", "cell", "value"] (defScope s_Board_asked) := ⟨rfl, rfl, rfl, by decide +kernel, rfl, by decide +kernel, by decide +kernel⟩
theorem ok_askedB (T : TX K mg) : Met P w K mg base 2 (He.ga K "Board") "asked" (spAskedB K) := by
  refine metD (fn_Board_asked T.c) (cls_of (f_cls_Board T.c)) (meth_of (f_m_Board_asked T.c)) sc_Board_asked (fun _ _ _ _ _ _ us hl => match us, hl with | [_, _, _], _ => rfl) (fun vs H Q E h => by obtain ⟨v, c, z, bd, us, rfl, _⟩ := h; rfl) (fun cdv A outer s0 H vs Q E hr h => ?_)
  obtain ⟨v, c, z, bd, us, rfl, hB, hc, hz, kk⟩ := h
  obtain ⟨x, dx, t, d, kvs, rfl, hx, _⟩ := id hB
  refine ⟨_, pss_one (ps_if (pt_cmpR op_notIn_seq (pv 2) (pe_mt (ok_values T) hr (pv 0) (pa_cons (pv 1) pa_nil)) (by rfl)) (pss_one ps_never) pss_nil), ?_⟩
  refine ⟨_, rfl, _, rfl, x, dx, _, rfl, hx, rfl, _, rfl, _, c, bd, us, rfl, hB, hc, fun l hl => ?_⟩
  refine ⟨l, _, rfl, .inl (SqL.of upd_same), rfl, flat_strs us, _, rfl, iteN (by rw [in_strs hz]; rfl) ?_⟩
  exact kk _ (smU (Same.refl H) hl)
theorem sc_Board_others : FnScope ["self", "cell", "value", "one"] ["self", "cell", "value"] (defScope s_Board_others) := ⟨rfl, rfl, rfl, by decide +kernel, rfl, by decide +kernel, by decide +kernel⟩
theorem ok_others (T : TX K mg) : Met P w K mg base 2 (He.ga K "Board") "others" (spOthers K) := by
  refine metD (fn_Board_others T.c) (cls_of (f_cls_Board T.c)) (meth_of (f_m_Board_others T.c)) sc_Board_others (fun _ _ _ _ _ _ us hl => match us, hl with | [_, _, _], _ => rfl) (fun vs H Q E h => by obtain ⟨v, c, z, bd, us, rfl, _⟩ := h; rfl) (fun cdv A outer s0 H vs Q E hr h => ?_)
  obtain ⟨v, c, z, bd, us, rfl, hB, hc, kk⟩ := h
  obtain ⟨x, dx, t, d, kvs, rfl, hx, hd, hb⟩ := id hB
  have h4 := (hb c us hc).1
  refine ⟨_, pss_one (ps_ret (pe_lc (own := [("one", 3)]) (g := gName 3) rfl sc_Board_others.nd (pi_list (pe_mt (ok_values T) hr (pv 0) (pa_cons (pv 1) pa_nil))) (blkOk_by (N := ["self", "cell", "value", "one"]) (sc := defScope s_Board_others) (by decide +kernel))
    (fun _ _ _ _ _ => pg_name (i := 3) sc_Board_others.nd rfl (Or.inl rfl)) (fun _ _ _ _ _ => pts_one (pt_cmpR op_ne (pv 3) (pv 2) (nomark _))) (fun _ _ _ _ _ => pv 3))), ?_⟩
  refine ⟨_, rfl, x, dx, _, rfl, hx, rfl, _, rfl, _, c, bd, us, rfl, hB, hc, fun l hl => ⟨l, rfl, ⟨_, SqL.of upd_same⟩, fun D hD => ?_⟩⟩
  have s1 : Same H (upd H l (.lst (us.map V.str))) := smU (Same.refl H) hl
  refine lc_it (walk_list (xs := us.map V.str)) (fun i H2 => Same (upd H l (.lst (us.map V.str))) H2 ∧ H2 D = some (.lst ((rest z (us.take i)).map V.str))) ⟨smU (Same.refl _) hD, upd_same⟩ (fun i H2 _ q => SqL.of (q.1 _ _ upd_same)) ?_ ?_
  · rintro i x1 H1 H2 hi ⟨q1, q2⟩ ⟨rfl, hx1⟩
    obtain ⟨u, hu1, rfl⟩ := map_at hx1
    obtain ⟨hi2, eu⟩ := List.getElem?_eq_some_iff.mp hu1
    have e1 : rest z (us.take (i + 1)) = rest z (us.take i) ++ (if u = z then [] else [u]) := by
      unfold rest
      rw [List.take_succ_eq_append_getElem hi2, List.filter_append, eu]
      by_cases e : u = z
      · rw [if_pos e, List.filter_cons_of_neg (by rw [decide_eq_true e]; decide)] <;> rfl
      · rw [if_neg e, List.filter_cons_of_pos (by rw [decide_eq_false e]; decide)] <;> rfl
    refine ⟨rfl, _, rfl, _, rfl, rfl, _, rfl, ?_⟩
    by_cases e : u = z
    · refine iteN (by rw [e]; simp) ⟨q1, ?_⟩
      rw [e1, if_pos e, List.append_nil]
      exact q2
    · refine iteB (by rw [decide_eq_false (show ¬ V.str u = V.str z from fun q => e (V.str.inj q))]; rfl) ⟨_, rfl, _, q2, ?_, smU q1 hD, ?_⟩
      · have l3 : (rest z (us.take i)).length ≤ (us.take i).length := List.length_filter_le _ _
        rw [List.length_take] at l3
        rw [List.length_map]
        exact Nat.lt_of_le_of_lt (show (rest z (us.take i)).length ≤ 4 by omega) (by decide)
      · rw [upd_same, e1, if_neg e, List.map_append] <;> rfl
  · rintro H1 ⟨q1, q2⟩
    rw [List.take_of_length_le (by rw [List.length_map]; exact Nat.le_refl _)] at q2
    exact kk D H1 (s1.trans q1) q2
end
end Mb


set_option Elab.async false
set_option linter.all false
set_option maxRecDepth 100000
set_option maxHeartbeats 4000000
/-! enumerate(a tuple) -/
namespace Mb
open PySem PySem.Spec PyProof.Rows L2
open AutoSeq1 (wpAny_loadPart')
section
variable {prog : Program} {w : World} {A : Around} {E : Value → Shared → Prop} {s : Shared}
/-- enumerate.__new__ over a tuple: the tuple's iterator, the enumerate object behind it -/
abbrev enH1 (h : Heap) (l : Addr) : Heap := h.push { cls := .type "tuple_iterator", data := .fields #[.ref l, .int 0 0] }
abbrev enH2 (h : Heap) (l : Addr) : Heap := (enH1 h l).push { cls := .type "enumerate", data := .fields #[.none, .bool false, .ref h.objs.size, rawInt 0, .none, .none] }
theorem en_new (l : Addr) (xs : Array Value) : Meets (Builtin.«enumerate.__new__» ⟨[.type "enumerate", .ref l], []⟩) (fun _ R s => s.heap.IsTuple l xs ∧ R (.ok (.ret (.ref (enH1 s.heap l).objs.size))) { s with heap := enH2 s.heap l }) :=
  .of_wp fun prog w A R s h => by
    obtain ⟨hp, g, d, tk, os⟩ := s
    obtain ⟨hl, h⟩ := h
    have e1 := sub_enumerate
    have e2 : Heap.IsTuple (Shared.heap ⟨hp, g, d, tk, os⟩) l xs := hl
    obtain ⟨⟨c0, d0, t0, s0⟩, ho, hc, n0, hd⟩ := id hl
    wp_walk using wpAny_loadPart' ho
    refine wpAny_stack_any fun st => wpAny_pure ?_
    split
    · rename_i c _ _ _ _ _
      cases (c == Value.type "enumerate") <;> (wp_walk using wpAny_loadPart' ho, wpAny_pyIter_tuple e2; exact ⟨_, rfl, h⟩)
    · wp_walk using wpAny_loadPart' ho, wpAny_pyIter_tuple e2
      exact ⟨_, rfl, h⟩
theorem en_call {l : Addr} {xs : Array Value} {Q : Value → Shared → Prop} (hl : s.heap.IsTuple l xs)
    (h : ∀ h2, IsEnum h2 (s.heap.objs.size + 1) s.heap.objs.size 0 .none → h2.IsTupleIter s.heap.objs.size l 0 → (∀ b o, s.heap.get? b = some o → h2.get? b = some o) → Q (.ref (s.heap.objs.size + 1)) { s with heap := h2 }) :
    wpAny (model prog w) A (call (.type "enumerate") [.ref l]) Q E s := by
  have z : (enH1 s.heap l).objs.size = s.heap.objs.size + 1 := Heap.size_push ..
  have g2 : (enH2 s.heap l).get? (enH1 s.heap l).objs.size = some _ := Heap.get?_push_size _ rfl
  have g1 : (enH2 s.heap l).get? s.heap.objs.size = some _ := Heap.get?_push_of_some _ (Heap.get?_push_size _ rfl)
  refine callType_new F.called_enumerate (by decide) (F.typeCall_enumerate_1 _) (F.newCall_enumerate_1 _) (fun obj => F.args_object_init_2 obj _) F.entry_enumerate_new (en_new l xs) ⟨hl, ?_⟩
  show _ ∧ _
  rw [z] at g2
  rw [z]
  exact ⟨⟨_, g2, rfl⟩, h _ g2 ⟨_, g1, rfl, rfl⟩ fun b o x => Heap.get?_push_of_some _ (Heap.get?_push_of_some _ x)⟩
theorem en_item {e it l : Addr} {i : Nat} {xs : Array Value} {x old : Value} {Q : Value → Shared → Prop} (he : IsEnum s.heap e it i old) (hit : s.heap.IsTupleIter it l i) (hl : s.heap.IsTuple l xs) (hx : xs[i]? = some x) (hne : e ≠ it)
    (hQ : ∀ h2, IsEnumOut h2 e it ((i : Int) + 1) x s.heap.objs.size → h2.IsTupleIter it l (i + 1) → h2.get? s.heap.objs.size = some { cls := .type "tuple", data := .seq #[.int i s.toks, x] } →
      (∀ b o, b ≠ e → b ≠ it → s.heap.get? b = some o → h2.get? b = some o) → Q (.ref s.heap.objs.size) { s with heap := h2, toks := s.toks + 1 }) :
    wpAny (model prog w) A (Builtin.«enumerate.__next__» ⟨[.ref e], []⟩) (fun fin s2 => ∃ v, fin = .done (.ret v) ∧ Q v s2) E s := by
  obtain ⟨hp, g, d, tk, os⟩ := s
  show wpAny _ _ (field (.ref e) 2 >>= _) _ _ _
  refine wpAny_bind (wpAny_field he rfl (x := .ref it) rfl (wpAny_bind (RZ.nextOf_tuple_item hit hl hx fun h1 hit1 s1 => ?_)))
  have k1 : Heap.SameBut it hp h1 := s1
  have he1 : IsEnum h1 e it i old := (k1.2 e hne).trans he
  show wpAny _ _ (field (.ref e) 3 >>= _) _ _ ⟨h1, g, d, tk, os⟩
  refine wpAny_bind (wpAny_field he1 rfl (x := rawInt i) rfl ?_)
  show wpAny _ _ (field (.ref e) 4 >>= _) _ _ ⟨h1, g, d, tk, os⟩
  refine wpAny_bind (wpAny_field he1 rfl (x := .none) rfl ?_)
  show wpAny _ _ (mkInt i >>= _) _ _ ⟨h1, g, d, tk, os⟩
  refine wpAny_bind (wpAny_mkInt ?_)
  show wpAny _ _ (setField (.ref e) 3 (rawInt ((i : Int) + 1)) >>= _) _ _ ⟨h1, g, d, tk + 1, os⟩
  refine wpAny_bind (wpAny_setField_rec he1 (by simp) fun h2 he2' s2 => ?_)
  have k2 : Heap.SameBut e h1 h2 := s2
  have he2 : IsEnum h2 e it ((i : Int) + 1) old := he2'
  show wpAny _ _ (setField (.ref e) 4 .none >>= _) _ _ ⟨h2, g, d, tk + 1, os⟩
  refine wpAny_bind (wpAny_setField_rec he2 (by simp) fun h3 he3' s3 => ?_)
  have k3 : Heap.SameBut e h2 h3 := s3
  have he3 : IsEnum h3 e it ((i : Int) + 1) old := he3'
  have hsz : h3.objs.size = hp.objs.size := by rw [k3.1, k2.1, k1.1]
  have hel : e < hp.objs.size := Heap.lt_size he
  show wpAny _ _ (newTuple [.int i tk, x] >>= _) _ _ ⟨h3, g, d, tk + 1, os⟩
  refine wpAny_bind (wpAny_newTuple ?_)
  generalize eh : h3.push { cls := .type "tuple", data := .seq #[.int i tk, x] } = h4
  have he4 : IsEnum h4 e it ((i : Int) + 1) old := by rw [← eh]; exact Heap.get?_push_of_some _ he3
  have ht4 : h4.get? hp.objs.size = some { cls := .type "tuple", data := .seq #[.int i tk, x] } := by rw [← eh, ← hsz]; exact Heap.get?_push_size _ rfl
  have kp4 : ∀ b o, b ≠ e → b ≠ it → hp.get? b = some o → h4.get? b = some o := fun b o n1 n2 q => by
    rw [← eh]
    exact Heap.get?_push_of_some _ (k3.extBut b o n1 (k2.extBut b o n1 (k1.extBut b o n2 q)))
  have hit4 : h4.IsTupleIter it l (i + 1) := by
    obtain ⟨o, ho, r⟩ := (hit1.extBut k2.extBut (Ne.symm hne)).extBut k3.extBut (Ne.symm hne)
    exact ⟨o, by rw [← eh]; exact Heap.get?_push_of_some _ ho, r⟩
  show wpAny _ _ (Builtin.SmallTypes.ownedTupleIsFree (.ref e) >>= _) _ _ ⟨h4, g, d, tk + 1, os⟩
  rw [hsz]
  refine wpAny_bind ?_
  unfold Builtin.SmallTypes.ownedTupleIsFree
  refine wpAny_bind (wpAny_field he4 rfl (x := .none) rfl (wpAny_pure ?_))
  simp only [if_true]
  refine wpAny_bind (wpAny_rule (wpAny_bind (wpAny_field he4 rfl (x := old) rfl ?_)))
  refine wpAny_bind (wpAny_setField_rec he4 (by simp) fun h5 he5' s5 => ?_)
  have k5 : Heap.SameBut e h4 h5 := s5
  have he5 : IsEnum h5 e it ((i : Int) + 1) x := he5'
  show wpAny _ _ (Builtin.SmallTypes.ownedTupleHandOut (.ref e) (.ref hp.objs.size) >>= _) _ _ ⟨h5, g, d, tk + 1, os⟩
  refine wpAny_bind ?_
  unfold Builtin.SmallTypes.ownedTupleHandOut
  refine wpAny_bind (wpAny_setField_rec he5 (by simp) fun h6 he6' s6 => ?_)
  have k6 : Heap.SameBut e h5 h6 := s6
  have he6 : IsEnumOut h6 e it ((i : Int) + 1) x hp.objs.size := he6'
  refine wpAny_setField_rec he6 (by simp) fun h7 he7' s7 => ?_
  have k7 : Heap.SameBut e h6 h7 := s7
  have up : ∀ b o, b ≠ e → h4.get? b = some o → h7.get? b = some o := fun b o n q => k7.extBut b o n (k6.extBut b o n (k5.extBut b o n q))
  refine wpAny_bind (wpAny_letGo (wpAny_pure ⟨_, rfl, hQ h7 he7' ?_ (up _ _ (Nat.ne_of_gt hel) ht4) fun b o n1 n2 q => up b o n1 (kp4 b o n1 n2 q)⟩))
  obtain ⟨o, ho, r⟩ := hit4
  exact ⟨o, up _ _ (Ne.symm hne) ho, r⟩
theorem en_next {e it l : Addr} {i : Nat} {xs : Array Value} {x old : Value} {Q : Option Value → Shared → Prop} (he : IsEnum s.heap e it i old) (hit : s.heap.IsTupleIter it l i) (hl : s.heap.IsTuple l xs) (hx : xs[i]? = some x) (hne : e ≠ it)
    (hQ : ∀ h2, IsEnumOut h2 e it ((i : Int) + 1) x s.heap.objs.size → h2.IsTupleIter it l (i + 1) → h2.get? s.heap.objs.size = some { cls := .type "tuple", data := .seq #[.int i s.toks, x] } →
      (∀ b o, b ≠ e → b ≠ it → s.heap.get? b = some o → h2.get? b = some o) → Q (some (.ref s.heap.objs.size)) { s with heap := h2, toks := s.toks + 1 }) :
    wpAny (model prog w) A (pyNext (.ref e)) Q E s := by
  have hT : s.TypeIs (.ref e) "enumerate" := ⟨_, he, rfl⟩
  unfold pyNext
  refine wpAny_bind (wpAny_attempt (wpAny_callSpecial?_slot (name := Str.ofString "__next__") hT F.slot_enumerate_next ?_))
  exact wpAny_call_entry F.slot_enumerate_next hT F.entry_enumerate_next (en_item he hit hl hx hne fun h2 a b c d => wpAny_pure (hQ h2 a b c d)) (F.args_enumerate_next_1 _)
theorem en_end {e it l : Addr} {i : Nat} {xs : Array Value} {old : Value} {Q : Option Value → Shared → Prop} (hh : A.handled = none) (he : IsEnum s.heap e it i old) (hit : s.heap.IsTupleIter it l i) (hl : s.heap.IsTuple l xs) (hx : xs[i]? = none)
    (hQ : ∀ h2, Heap.ExtBut it s.heap h2 → Q none { s with heap := h2 }) : wpAny (model prog w) A (pyNext (.ref e)) Q E s := by
  have hT : s.TypeIs (.ref e) "enumerate" := ⟨_, he, rfl⟩
  unfold pyNext
  refine wpAny_bind (wpAny_attempt (wpAny_callSpecial?_slot (name := Str.ofString "__next__") hT F.slot_enumerate_next ?_))
  refine wpAny_call_entry F.slot_enumerate_next hT F.entry_enumerate_next ?_ (F.args_enumerate_next_1 _)
  show wpAny _ _ (field (.ref e) 2 >>= _) _ _ _
  refine wpAny_bind (wpAny_field he rfl (x := .ref it) rfl (wpAny_bind (RZ.nextOf_tuple_end hh hit hl hx fun h2 x k ⟨o, ho, hc⟩ => ?_)))
  exact wpAny_bind (wpAny_isInstance (T := "StopIteration") (b := true) ⟨o, ho, hc⟩ isSubtype_stop (wpAny_pure (hQ _ k)))
end
/-- the tuple at a, each item in a new pair behind its number -/
def IteT (K : PySem.W.Frag) (a : Addr) : It :=
  ⟨fun i H => ∃ (xs : List V) (x : V), SqT K H a xs ∧ xs[i]? = some x, fun i H v H2 => ∃ t x, v = .ref t ∧ H t = none ∧ H2 = upd H t (.tup [.int (i : Nat), x]) ∧ ∀ xs, SqT K H a xs → xs[i]? = some x, fun i H => ∃ xs : List V, SqT K H a xs ∧ xs.length ≤ i⟩
theorem two_mem {b e it : Addr} (h : b ∈ [e, it]) : b = e ∨ b = it := by simpa using h
theorem turnT {P : Program} {w : World} {K : PySem.W.Frag} {elts : List Expr} {kk : Nat} {tpos : Pos} (a e it : Addr) :
    Turn P w K (.Tuple elts kk tpos) (IteT K a) [e, it] e (fun i h => (∃ old, IsEnum h e it ((i : Nat) : Int) old) ∧ h.IsTupleIter it a i ∧ e ≠ it) where
  mem := List.mem_cons_self
  obj := by
    intro i h st b hb
    obtain ⟨⟨old, he⟩, ⟨o, ho, _, hd⟩, _⟩ := st
    rcases two_mem hb with z | z
    · rw [z]
      exact ⟨_, he, fun v q => nomatch q⟩
    · rw [z]
      exact ⟨o, ho, fun v q => by rw [hd] at q; cases q⟩
  keep := by
    intro i h h2 st k
    obtain ⟨⟨old, he⟩, ⟨o, ho, r⟩, hne⟩ := st
    exact ⟨⟨old, k e List.mem_cons_self _ he⟩, ⟨o, k it (List.mem_cons_of_mem _ List.mem_cons_self) _ ho, r⟩, hne⟩
  item := by
    intro X hP hw hK hc i pins s σ H E I hf st hg
    subst hP hw hK
    obtain ⟨⟨old, he⟩, hit, hne⟩ := st
    obtain ⟨xs, x, hq, hx⟩ := hg
    obtain ⟨its, rv, p, hz⟩ := I.tuple hq
    obtain ⟨u, hu, ru⟩ := rv.get hx
    have hel : e < s.heap.objs.size := Heap.lt_size he
    have hil : it < s.heap.objs.size := let ⟨_, q, _⟩ := hit; Heap.lt_size q
    refine en_next he hit p (x := u) (by simpa using hu) hne fun h2 ho hit2 hT hk => ?_
    refine ⟨_, rfl, wpAny_letOwnedTupleGo_enum (s := { s with heap := h2, toks := s.toks + 1 }) ho fun h3 he3 sb => ?_⟩
    have hT2 : h3.get? s.heap.objs.size = some { cls := .type "tuple", data := .seq #[.int i s.toks, u] } := (sb.2 _ (Nat.ne_of_gt hel)).trans hT
    have new : ObjOk X.prog X.w (upd H s.heap.objs.size (.tup [.int (i : Nat), x])) h3 s.heap.objs.size (.tup [.int (i : Nat), x]) :=
      ⟨(by show 2 ≤ sizeLine; decide), [.int i s.toks, u], .cons ⟨_, rfl⟩ (.cons ru .nil), ⟨_, hT2, rfl, _, rfl⟩⟩
    have J : Inv X pins σ (upd H s.heap.objs.size (.tup [.int (i : Nat), x])) { s with heap := h3, toks := s.toks + 1 } :=
      I.turnedNew (ch := [e, it]) (fun b ob hb q => (sb.2 b (fun z => hb (by rw [z]; exact List.mem_cons_self))).trans (hk b ob (fun z => hb (by rw [z]; exact List.mem_cons_self)) (fun z => hb (by rw [z]; exact List.mem_cons_of_mem _ List.mem_cons_self)) q)) hf (Nat.le_refl _) new
    obtain ⟨o2, ho2, r2⟩ := hit2
    refine ⟨.ref s.heap.objs.size, _, J, rfl, ⟨_, x, rfl, I.hok.fresh (Nat.le_refl _), rfl, fun ys hy => by rw [I.tuple_inj hy hq]; exact hx⟩, ⟨⟨u, ?_⟩, ⟨o2, (sb.2 it (Ne.symm hne)).trans ho2, r2⟩, hne⟩, fun b hb => ?_⟩
    · rw [show ((i + 1 : Nat) : Int) = (i : Int) + 1 by omega]
      exact he3
    · have lt : b < s.heap.objs.size := by
        rcases two_mem hb with z | z
        · rw [z]; exact hel
        · rw [z]; exact hil
      rw [upd_ne (Nat.ne_of_lt lt)]
      exact (hf b hb).1
  done := by
    intro X hP hw hK hc i pins s σ H E I hf st hg
    subst hP hw hK
    obtain ⟨⟨old, he⟩, hit, hne⟩ := st
    obtain ⟨xs, hq, hx⟩ := hg
    obtain ⟨its, rv, p, hz⟩ := I.tuple hq
    obtain ⟨f0, f1, f2, f3, f4, f5⟩ := hf it (List.mem_cons_of_mem _ List.mem_cons_self)
    have hl := rv.length
    exact en_end (I.ok.hd hc) he hit p (by simp; omega) fun h2 eb => ⟨rfl, I.turned (t' := s.toks) (fun b o hb q => eb b o hb q) f0 f1 f3 f4 f5⟩
  self := by
    intro A i s Q E st h
    obtain ⟨⟨_, he⟩, _⟩ := st
    exact wpAny_pyIter_enum he h
def iEnT (K : PySem.W.Frag) (ta : TA) : TI := fun σ H R => ta σ H fun vs H1 => ∃ a xs, vs = [.ref a] ∧ SqT K H1 a xs ∧ R (IteT K a) H1
theorem pi_enT {X : Cx} {e : Expr} {ta : TA} {p pos tpos : Pos} {elts : List Expr} {kk : Nat} (hm : X.mg "enumerate" = none) (ha : PA X [e] ta) (hg : Gl X "enumerate" := by rfl) (hs : starEach [e] X.env = [(false, eval e X.env)] := by rfl) :
    PI X (.Tuple elts kk tpos) (.Call (.Name "enumerate" p) [e] [] pos) (iEnT X.K ta) := by
  refine ⟨fun pins s σ H R I h => ?_⟩
  refine Call_ (ld_blt I hg hm boot_enumerate (PyProof.Rows.callWith_type1 (thn (ha.run pos pins s σ H _ I h) fun us s1 ⟨vs, H1, I1, r1, a, xs, ex, hq, q⟩ => ?_) hs rfl))
  subst ex
  cases r1 with
  | cons r rr =>
    cases rr
    cases r
    obtain ⟨its, rv, p2, hz⟩ := I1.tuple hq
    refine en_call p2 fun h2 he hit hk => wpAny_pyIter_enum he ?_
    have J : Inv X pins σ H1 { s1 with heap := h2 } := I1.kept (t' := s1.toks) hk
    refine ⟨s1.heap.objs.size + 1, [s1.heap.objs.size + 1, s1.heap.objs.size], _, _, H1, rfl, J, turnT a (s1.heap.objs.size + 1) s1.heap.objs.size, ⟨⟨.none, he⟩, hit, Nat.succ_ne_self _⟩, fun b hb => ?_, q⟩
    have hle : s1.heap.objs.size ≤ b := by
      rcases two_mem hb with z | z
      · rw [z]; exact Nat.le_add_right _ _
      · rw [z]; exact Nat.le_refl _
    exact I1.fpOk hle (I1.hok.fresh hle)
theorem walk_enT {K : PySem.W.Frag} {a : Addr} {xs : List V} : Walk (IteT K a) xs.length (fun H => SqT K H a xs) (YPair (fun i => some (.int (i : Nat))) (fun i => xs[i]?)) := by
  refine ⟨fun i _ hi q => ⟨xs, xs[i], q, by simp [hi]⟩, fun _ q => ⟨xs, q, Nat.le_refl _⟩, fun i H v H2 _ q y => ?_⟩
  obtain ⟨t, x, h1, h2, h3, h4⟩ := y
  exact ⟨t, .int (i : Nat), x, h1, h2, h3, rfl, h4 xs q⟩
end Mb


set_option Elab.async false
set_option linter.all false
set_option maxRecDepth 100000
set_option maxHeartbeats 4000000
/-! isinstance of a statement -/
namespace Mb
open PySem PySem.Spec PyProof.Rows L2
section
variable {K : PySem.W.Frag} {mg : Str → Option Value}
def Kd.tag : Kd → Nat
  | .write _ _ => 0
  | .wait _ _ => 1
  | .mark _ => 2
  | .skip => 3
  | .stop => 4
  | .iff _ _ => 5
  | .whil _ _ => 6
  | .choose => 7
  | .loop => 8
theorem is_Write (T : TX K mg) (k : Kd) : PySem.W.kitOne K (.ref (He.ga K k.cn)) (.ref (He.ga K "Write")) = some (k.tag == 0) := by
  cases k with
  | write _ _ => exact kit_of (f_is_Write_Write T.c)
  | wait _ _ => exact kit_of (f_is_Wait_Write T.c)
  | mark _ => exact kit_of (f_is_Mark_Write T.c)
  | skip => exact kit_of (f_is_Skip_Write T.c)
  | stop => exact kit_of (f_is_Stop_Write T.c)
  | iff _ _ => exact kit_of (f_is_If_Write T.c)
  | whil _ _ => exact kit_of (f_is_While_Write T.c)
  | choose => exact kit_of (f_is_Choose_Write T.c)
  | loop => exact kit_of (f_is_Loop_Write T.c)
theorem is_Wait (T : TX K mg) (k : Kd) : PySem.W.kitOne K (.ref (He.ga K k.cn)) (.ref (He.ga K "Wait")) = some (k.tag == 1) := by
  cases k with
  | write _ _ => exact kit_of (f_is_Write_Wait T.c)
  | wait _ _ => exact kit_of (f_is_Wait_Wait T.c)
  | mark _ => exact kit_of (f_is_Mark_Wait T.c)
  | skip => exact kit_of (f_is_Skip_Wait T.c)
  | stop => exact kit_of (f_is_Stop_Wait T.c)
  | iff _ _ => exact kit_of (f_is_If_Wait T.c)
  | whil _ _ => exact kit_of (f_is_While_Wait T.c)
  | choose => exact kit_of (f_is_Choose_Wait T.c)
  | loop => exact kit_of (f_is_Loop_Wait T.c)
theorem is_Mark (T : TX K mg) (k : Kd) : PySem.W.kitOne K (.ref (He.ga K k.cn)) (.ref (He.ga K "Mark")) = some (k.tag == 2) := by
  cases k with
  | write _ _ => exact kit_of (f_is_Write_Mark T.c)
  | wait _ _ => exact kit_of (f_is_Wait_Mark T.c)
  | mark _ => exact kit_of (f_is_Mark_Mark T.c)
  | skip => exact kit_of (f_is_Skip_Mark T.c)
  | stop => exact kit_of (f_is_Stop_Mark T.c)
  | iff _ _ => exact kit_of (f_is_If_Mark T.c)
  | whil _ _ => exact kit_of (f_is_While_Mark T.c)
  | choose => exact kit_of (f_is_Choose_Mark T.c)
  | loop => exact kit_of (f_is_Loop_Mark T.c)
theorem is_Skip (T : TX K mg) (k : Kd) : PySem.W.kitOne K (.ref (He.ga K k.cn)) (.ref (He.ga K "Skip")) = some (k.tag == 3) := by
  cases k with
  | write _ _ => exact kit_of (f_is_Write_Skip T.c)
  | wait _ _ => exact kit_of (f_is_Wait_Skip T.c)
  | mark _ => exact kit_of (f_is_Mark_Skip T.c)
  | skip => exact kit_of (f_is_Skip_Skip T.c)
  | stop => exact kit_of (f_is_Stop_Skip T.c)
  | iff _ _ => exact kit_of (f_is_If_Skip T.c)
  | whil _ _ => exact kit_of (f_is_While_Skip T.c)
  | choose => exact kit_of (f_is_Choose_Skip T.c)
  | loop => exact kit_of (f_is_Loop_Skip T.c)
theorem is_Stop (T : TX K mg) (k : Kd) : PySem.W.kitOne K (.ref (He.ga K k.cn)) (.ref (He.ga K "Stop")) = some (k.tag == 4) := by
  cases k with
  | write _ _ => exact kit_of (f_is_Write_Stop T.c)
  | wait _ _ => exact kit_of (f_is_Wait_Stop T.c)
  | mark _ => exact kit_of (f_is_Mark_Stop T.c)
  | skip => exact kit_of (f_is_Skip_Stop T.c)
  | stop => exact kit_of (f_is_Stop_Stop T.c)
  | iff _ _ => exact kit_of (f_is_If_Stop T.c)
  | whil _ _ => exact kit_of (f_is_While_Stop T.c)
  | choose => exact kit_of (f_is_Choose_Stop T.c)
  | loop => exact kit_of (f_is_Loop_Stop T.c)
theorem is_If (T : TX K mg) (k : Kd) : PySem.W.kitOne K (.ref (He.ga K k.cn)) (.ref (He.ga K "If")) = some (k.tag == 5) := by
  cases k with
  | write _ _ => exact kit_of (f_is_Write_If T.c)
  | wait _ _ => exact kit_of (f_is_Wait_If T.c)
  | mark _ => exact kit_of (f_is_Mark_If T.c)
  | skip => exact kit_of (f_is_Skip_If T.c)
  | stop => exact kit_of (f_is_Stop_If T.c)
  | iff _ _ => exact kit_of (f_is_If_If T.c)
  | whil _ _ => exact kit_of (f_is_While_If T.c)
  | choose => exact kit_of (f_is_Choose_If T.c)
  | loop => exact kit_of (f_is_Loop_If T.c)
theorem is_While (T : TX K mg) (k : Kd) : PySem.W.kitOne K (.ref (He.ga K k.cn)) (.ref (He.ga K "While")) = some (k.tag == 6) := by
  cases k with
  | write _ _ => exact kit_of (f_is_Write_While T.c)
  | wait _ _ => exact kit_of (f_is_Wait_While T.c)
  | mark _ => exact kit_of (f_is_Mark_While T.c)
  | skip => exact kit_of (f_is_Skip_While T.c)
  | stop => exact kit_of (f_is_Stop_While T.c)
  | iff _ _ => exact kit_of (f_is_If_While T.c)
  | whil _ _ => exact kit_of (f_is_While_While T.c)
  | choose => exact kit_of (f_is_Choose_While T.c)
  | loop => exact kit_of (f_is_Loop_While T.c)
theorem is_Choose (T : TX K mg) (k : Kd) : PySem.W.kitOne K (.ref (He.ga K k.cn)) (.ref (He.ga K "Choose")) = some (k.tag == 7) := by
  cases k with
  | write _ _ => exact kit_of (f_is_Write_Choose T.c)
  | wait _ _ => exact kit_of (f_is_Wait_Choose T.c)
  | mark _ => exact kit_of (f_is_Mark_Choose T.c)
  | skip => exact kit_of (f_is_Skip_Choose T.c)
  | stop => exact kit_of (f_is_Stop_Choose T.c)
  | iff _ _ => exact kit_of (f_is_If_Choose T.c)
  | whil _ _ => exact kit_of (f_is_While_Choose T.c)
  | choose => exact kit_of (f_is_Choose_Choose T.c)
  | loop => exact kit_of (f_is_Loop_Choose T.c)
theorem is_Loop (T : TX K mg) (k : Kd) : PySem.W.kitOne K (.ref (He.ga K k.cn)) (.ref (He.ga K "Loop")) = some (k.tag == 8) := by
  cases k with
  | write _ _ => exact kit_of (f_is_Write_Loop T.c)
  | wait _ _ => exact kit_of (f_is_Wait_Loop T.c)
  | mark _ => exact kit_of (f_is_Mark_Loop T.c)
  | skip => exact kit_of (f_is_Skip_Loop T.c)
  | stop => exact kit_of (f_is_Stop_Loop T.c)
  | iff _ _ => exact kit_of (f_is_If_Loop T.c)
  | whil _ _ => exact kit_of (f_is_While_Loop T.c)
  | choose => exact kit_of (f_is_Choose_Loop T.c)
  | loop => exact kit_of (f_is_Loop_Loop T.c)
theorem ty_kd (T : TX K mg) (k : Kd) {H : Hp} {x dx : Addr} {fs : List (Str × V)} (h : H x = some (.ins (He.ga K k.cn) dx fs)) : TyX K H (.ref x) (.ref (He.ga K k.cn)) := by
  cases k with
  | write _ _ => exact ty_of T.c (f_ty_Write T.c) (cls_of (f_cls_Write T.c)) h
  | wait _ _ => exact ty_of T.c (f_ty_Wait T.c) (cls_of (f_cls_Wait T.c)) h
  | mark _ => exact ty_of T.c (f_ty_Mark T.c) (cls_of (f_cls_Mark T.c)) h
  | skip => exact ty_of T.c (f_ty_Skip T.c) (cls_of (f_cls_Skip T.c)) h
  | stop => exact ty_of T.c (f_ty_Stop T.c) (cls_of (f_cls_Stop T.c)) h
  | iff _ _ => exact ty_of T.c (f_ty_If T.c) (cls_of (f_cls_If T.c)) h
  | whil _ _ => exact ty_of T.c (f_ty_While T.c) (cls_of (f_cls_While T.c)) h
  | choose => exact ty_of T.c (f_ty_Choose T.c) (cls_of (f_cls_Choose T.c)) h
  | loop => exact ty_of T.c (f_ty_Loop T.c) (cls_of (f_cls_Loop T.c)) h
end
section
variable {K : PySem.W.Frag} {σ : L2.St} {H : Hp} {i : Nat} {x dx : Addr} {fs : List (Str × V)} {k : Kd} {b : Bool} {Q : Bool → Hp → Prop} {mg : Str → Option Value} {te : TE}
/-- isinstance(x, D), D one class of the text's -/
theorem rd_isi (T : TX K mg) {D : Str} (hx : H x = some (.ins (He.ga K k.cn) dx fs)) (e : PySem.W.kitOne K (.ref (He.ga K k.cn)) (.ref (He.ga K D)) = some b) (q : Q b H) :
    rIsi K [.ref x, .ref (He.ga K D)] H (fun y H1 => ∃ c, y = .bl c ∧ Q c H1) :=
  ⟨_, _, _, _, b, rfl, .own _, ty_kd T k hx, e, b, rfl, q⟩
/-- isinstance(x, (D, D2)), the pair just laid at p -/
theorem rd_isi2 (T : TX K mg) {D D2 : Str} {p : Addr} {b2 : Bool} (hx : H x = some (.ins (He.ga K k.cn) dx fs)) (hp : H p = some (.tup [.ref (He.ga K D), .ref (He.ga K D2)])) (e : PySem.W.kitOne K (.ref (He.ga K k.cn)) (.ref (He.ga K D)) = some b)
    (e2 : PySem.W.kitOne K (.ref (He.ga K k.cn)) (.ref (He.ga K D2)) = some b2) (q : Q (b || b2) H) :
    rIsiT K [.ref x, .ref p] H (fun y H1 => ∃ c, y = .bl c ∧ Q c H1) := by
  refine ⟨_, p, _, _, [.ref (He.ga K D), .ref (He.ga K D2)], b || b2, rfl, hp, .cons (.own _) (.cons (.own _) .nil), ty_kd T k hx, kitAny_cons e (fun _ => kitAny_cons (r := b || b2) e2 (fun h1 => ?_) fun h2 => by rw [h2]; cases b <;> rfl) (fun h1 => by rw [h1]; rfl), _, rfl, q⟩
  cases b with
  | true => rename_i z; cases z
  | false => rw [h1]; rfl
theorem rd_isi4 (T : TX K mg) {D D2 D3 D4 : Str} {p : Addr} {b2 b3 b4 : Bool} (hx : H x = some (.ins (He.ga K k.cn) dx fs)) (hp : H p = some (.tup [.ref (He.ga K D), .ref (He.ga K D2), .ref (He.ga K D3), .ref (He.ga K D4)])) (e : PySem.W.kitOne K (.ref (He.ga K k.cn)) (.ref (He.ga K D)) = some b)
    (e2 : PySem.W.kitOne K (.ref (He.ga K k.cn)) (.ref (He.ga K D2)) = some b2) (e3 : PySem.W.kitOne K (.ref (He.ga K k.cn)) (.ref (He.ga K D3)) = some b3) (e4 : PySem.W.kitOne K (.ref (He.ga K k.cn)) (.ref (He.ga K D4)) = some b4) (q : Q (b || (b2 || (b3 || b4))) H) :
    rIsiT K [.ref x, .ref p] H (fun y H1 => ∃ c, y = .bl c ∧ Q c H1) := by
  have a4 : PySem.W.kitAny K (.ref (He.ga K k.cn)) [.ref (He.ga K D4)] = some b4 := kitAny_cons e4 (fun h1 => by rw [h1]; rfl) fun h2 => h2
  have a3 : PySem.W.kitAny K (.ref (He.ga K k.cn)) [.ref (He.ga K D3), .ref (He.ga K D4)] = some (b3 || b4) := kitAny_cons e3 (fun h1 => by rw [h1]; exact a4) fun h2 => by rw [h2]; rfl
  have a2 : PySem.W.kitAny K (.ref (He.ga K k.cn)) [.ref (He.ga K D2), .ref (He.ga K D3), .ref (He.ga K D4)] = some (b2 || (b3 || b4)) := kitAny_cons e2 (fun h1 => by rw [h1]; exact a3) fun h2 => by rw [h2]; rfl
  have a1 : PySem.W.kitAny K (.ref (He.ga K k.cn)) [.ref (He.ga K D), .ref (He.ga K D2), .ref (He.ga K D3), .ref (He.ga K D4)] = some (b || (b2 || (b3 || b4))) := kitAny_cons e (fun h1 => by rw [h1]; exact a2) fun h2 => by rw [h2]; rfl
  exact ⟨_, p, _, _, [.ref (He.ga K D), .ref (He.ga K D2), .ref (He.ga K D3), .ref (He.ga K D4)], _, rfl, hp, .cons (.own _) (.cons (.own _) (.cons (.own _) (.cons (.own _) .nil))), ty_kd T k hx, a1, _, rfl, q⟩
/-- if isinstance(x, D): t; else u; then r -/
theorem rd_if {D : Str} {t u r : TS} {Dn : Ends} (hσ : σ[i]? = some (some (.ref x))) (hx : H x = some (.ins (He.ga K k.cn) dx fs)) (T : TX K mg) (e : PySem.W.kitOne K (.ref (He.ga K k.cn)) (.ref (He.ga K D)) = some b)
    (q : if b = true then t { Dn with nx := r Dn } σ H else u { Dn with nx := r Dn } σ H) : tSeq (tIfS (tB (tCB (rIsi K) (tCons (tVar i) (tCons (tC (.ref (He.ga K D))) tNil)))) t u) r Dn σ H :=
  ⟨_, hσ, _, _, _, _, b, rfl, .own _, ty_kd T k hx, e, b, rfl, q⟩
/-- if isinstance(x, (D, D2)): .. -/
theorem rd_if2 {D D2 : Str} {b2 : Bool} {t u r : TS} {Dn : Ends} (hσ : σ[i]? = some (some (.ref x))) (hx : H x = some (.ins (He.ga K k.cn) dx fs)) (T : TX K mg) (e : PySem.W.kitOne K (.ref (He.ga K k.cn)) (.ref (He.ga K D)) = some b)
    (e2 : PySem.W.kitOne K (.ref (He.ga K k.cn)) (.ref (He.ga K D2)) = some b2)
    (q : ∀ p, H p = none → if (b || b2) = true then t { Dn with nx := r Dn } σ (upd H p (.tup [.ref (He.ga K D), .ref (He.ga K D2)])) else u { Dn with nx := r Dn } σ (upd H p (.tup [.ref (He.ga K D), .ref (He.ga K D2)]))) :
    tSeq (tIfS (tB (tCB (rIsiT K) (tCons (tVar i) (tCons (tTup (tCons (tC (.ref (He.ga K D))) (tCons (tC (.ref (He.ga K D2))) tNil))) tNil)))) t u) r Dn σ H := by
  refine ⟨_, hσ, (by show 2 ≤ sizeLine; decide), fun p hp => ?_⟩
  exact rd_isi2 (Q := fun b H1 => if b = true then t { Dn with nx := r Dn } σ H1 else u { Dn with nx := r Dn } σ H1) T (by rw [upd_ne (ne_of_none hx hp)]; exact hx) upd_same e e2 (q p hp)
theorem rd_if2c {D D2 : Str} {b2 : Bool} {t u : TS} {Dn : Ends} (hσ : σ[i]? = some (some (.ref x))) (hx : H x = some (.ins (He.ga K k.cn) dx fs)) (T : TX K mg) (e : PySem.W.kitOne K (.ref (He.ga K k.cn)) (.ref (He.ga K D)) = some b)
    (e2 : PySem.W.kitOne K (.ref (He.ga K k.cn)) (.ref (He.ga K D2)) = some b2)
    (q : ∀ p, H p = none → if (b || b2) = true then t Dn σ (upd H p (.tup [.ref (He.ga K D), .ref (He.ga K D2)])) else u Dn σ (upd H p (.tup [.ref (He.ga K D), .ref (He.ga K D2)]))) :
    tIfS (tB (tCB (rIsiT K) (tCons (tVar i) (tCons (tTup (tCons (tC (.ref (He.ga K D))) (tCons (tC (.ref (He.ga K D2))) tNil))) tNil)))) t u Dn σ H := by
  refine ⟨_, hσ, (by show 2 ≤ sizeLine; decide), fun p hp => ?_⟩
  exact rd_isi2 (Q := fun b H1 => if b = true then t Dn σ H1 else u Dn σ H1) T (by rw [upd_ne (ne_of_none hx hp)]; exact hx) upd_same e e2 (q p hp)
theorem rd_if4c {D D2 D3 D4 : Str} {b2 b3 b4 : Bool} {t u : TS} {Dn : Ends} (hσ : σ[i]? = some (some (.ref x))) (hx : H x = some (.ins (He.ga K k.cn) dx fs)) (T : TX K mg) (e : PySem.W.kitOne K (.ref (He.ga K k.cn)) (.ref (He.ga K D)) = some b)
    (e2 : PySem.W.kitOne K (.ref (He.ga K k.cn)) (.ref (He.ga K D2)) = some b2) (e3 : PySem.W.kitOne K (.ref (He.ga K k.cn)) (.ref (He.ga K D3)) = some b3) (e4 : PySem.W.kitOne K (.ref (He.ga K k.cn)) (.ref (He.ga K D4)) = some b4)
    (q : ∀ H2, Same H H2 → if (b || (b2 || (b3 || b4))) = true then t Dn σ H2 else u Dn σ H2) :
    tIfS (tB (tCB (rIsiT K) (tCons (tVar i) (tCons (tTup (tCons (tC (.ref (He.ga K D))) (tCons (tC (.ref (He.ga K D2))) (tCons (tC (.ref (He.ga K D3))) (tCons (tC (.ref (He.ga K D4))) tNil))))) tNil)))) t u Dn σ H := by
  refine ⟨_, hσ, (by show 4 ≤ sizeLine; decide), fun p hp => ?_⟩
  exact rd_isi4 (Q := fun b H1 => if b = true then t Dn σ H1 else u Dn σ H1) T (by rw [upd_ne (ne_of_none hx hp)]; exact hx) upd_same e e2 e3 e4 (q _ (smU (Same.refl H) hp))
end
end Mb


set_option Elab.async false
set_option linter.all false
set_option maxRecDepth 100000
set_option maxHeartbeats 4000000
/-! the steps of one statement -/
namespace Mb
open PySem PySem.Spec PyProof.Rows L2
inductive Act where
  | look (c v : Str) | put (c v : Str) | go
def Act.dat : Act → List V
  | .look c v => [.str "look", .str c, .str v]
  | .put c v => [.str "put", .str c, .str v]
  | .go => [.str "go"]
abbrev Bd := Str → Option (List Str)
def oth (bd : Bd) (c v : Str) : List Str := rest v ((bd c).getD [])
/-- the steps of a statement whose parts lead to g1, g2, and which goes on to g -/
def stepsK {α : Type} (bd : Bd) (k : Kd) (g1 g2 g : α) : List (Act × α) := match k with
  | .write c v => [(.put c v, g)]
  | .wait c v => [(.look c v, g)]
  | .mark _ => [(.go, g)]
  | .skip => [(.go, g)]
  | .stop => []
  | .iff c v => (.look c v, g1) :: (oth bd c v).map fun u => (.look c u, g2)
  | .whil c v => (.look c v, g1) :: (oth bd c v).map fun u => (.look c u, g)
  | .choose => [(.go, g1), (.go, g2)]
  | .loop => [(.go, g1)]
/-- the board has its cell and value -/
def KG (bd : Bd) (k : Kd) : Prop := match k with
  | .write c v => ∃ us, bd c = some us ∧ v ∈ us
  | .wait c v => ∃ us, bd c = some us ∧ v ∈ us
  | .iff c v => ∃ us, bd c = some us ∧ v ∈ us
  | .whil c v => ∃ us, bd c = some us ∧ v ∈ us
  | _ => True
def ActAt (K : PySem.W.Frag) (H : Hp) (v : V) (a : Act) : Prop := ∃ t, v = .ref t ∧ (H t = some (.tup a.dat) ∨ (a = .go ∧ t = He.ga K "GO"))
/-- a step as a value: the act, where it leads (as R tells) -/
def StepR {α : Type} (K : PySem.W.Frag) (H : Hp) (R : V → α → Prop) (v : V) (s : Act × α) : Prop := ∃ t av gv, v = .ref t ∧ H t = some (.tup [av, gv]) ∧ ActAt K H av s.1 ∧ R gv s.2
theorem ActAt.fz {K : PySem.W.Frag} {H H2 : Hp} (z : Fz H H2) {v : V} {a : Act} (h : ActAt K H v a) : ActAt K H2 v a := by
  obtain ⟨t, e, h⟩ := h
  exact ⟨t, e, h.elim (fun q => .inl (z.tup _ _ q)) .inr⟩
theorem StepR.fz {α : Type} {K : PySem.W.Frag} {H H2 : Hp} {R R2 : V → α → Prop} (z : Fz H H2) (i : ∀ v g, R v g → R2 v g) {v : V} {s : Act × α} (h : StepR K H R v s) : StepR K H2 R2 v s := by
  obtain ⟨t, av, gv, e, a, b, c⟩ := h
  exact ⟨t, av, gv, e, z.tup _ _ a, b.fz z, i _ _ c⟩
/-- looks(board, statement, then, other): the list at l holds the steps to p and q, kept as R tells -/
def spLooksR (K : PySem.W.Frag) : Sp := fun vs H Q _ => ∃ bv x C dx fs p q c v bd us, vs = [bv, .ref x, p, q] ∧ H x = some (.ins C dx fs) ∧ Cls K C ∧ NoAttr K C "cell" ∧ NoAttr K C "value" ∧ fs.lookup ("cell" : Str) = some (.str c) ∧ fs.lookup ("value" : Str) = some (.str v) ∧
  BAt K H bv bd ∧ bd c = some us ∧ ∀ l xs H2, H l = none → Same H H2 → H2 l = some (.lst xs) → Paired (StepR K H2 fun a b => a = b) xs ((.look c v, p) :: (rest v us).map fun u => (.look c u, q)) → Q (.ref l) H2
section
variable {P : Program} {w : World} {K : PySem.W.Frag} {mg : Str → Option Value} {base : Heap}
theorem rest_len {v : Str} {us : List Str} : (rest v us).length ≤ us.length := List.length_filter_le _ _
theorem map_take {α β : Type} {f : α → β} {l : List α} {i : Nat} {x : α} (h : l[i]? = some x) : (l.take (i + 1)).map f = (l.take i).map f ++ [f x] := (take_map f h).symm
theorem sc_looks_rooms : FnScope ["board", "statement", "then", "other", "found", "value"] ["board", "statement", "then", "other"] (defScope s_looks_rooms) := ⟨rfl, rfl, rfl, by decide +kernel, rfl, by decide +kernel, by decide +kernel⟩
theorem ok_looks_rooms (T : TX K mg) : Cal P w K mg base 3 "looks_rooms" (spLooksR K) := by
  refine calD (fn_looks_rooms T.c) (T.glo (f_glo_looks_rooms T.c)) sc_looks_rooms (fun _ _ _ _ _ _ us hl => match us, hl with | [_, _, _, _], _ => rfl) (fun vs H Q E h => by obtain ⟨bv, x, C, dx, fs, p, q, c, v, bd, us, rfl, _⟩ := h; rfl) (fun cdv A outer s0 H vs Q E hr h => ?_)
  obtain ⟨bv, x, C, dx, fs, p, q, c, v, bd, us, rfl, hx, hC, n1, n2, e1, e2, hB, hc, kk⟩ := h
  obtain ⟨b, db, t, d, kvs, rfl, hb, hd, hbb⟩ := id hB
  have h4 := (hbb c us hc).1
  refine ⟨_, pss_cons (ps_set (i := 4) sc_looks_rooms.nd rfl (Or.inl rfl) (pe_lst (pa_cons (pe_tup (pa_cons (pe_tup (pa_cons pe_str (pa_cons (pe_fld (pv 1) rfl) (pa_cons (pe_fld (pv 1) rfl) pa_nil)))) (pa_cons (pv 2) pa_nil))) pa_nil)))
    (pss_cons (ps_for PassesOwn.never rfl (pi_list (pe_mt (ok_others T) hr (pv 0) (pa_cons (pe_fld (pv 1) rfl) (pa_cons (pe_fld (pv 1) rfl) pa_nil)))) (pg_name (i := 5) sc_looks_rooms.nd rfl (Or.inl rfl))
      (pss_one (ps_expr (pe_bm PySem.F.plainAttrs_list PySem.F.slot_list_append PySem.F.type_list_append mt_append (pv 4) (pa_cons (pe_tup (pa_cons (pe_tup (pa_cons pe_str (pa_cons (pe_fld (pv 1) rfl) (pa_cons (pv 5) pa_nil)))) (pa_cons (pv 3) pa_nil))) pa_nil)))))
    (pss_one (ps_ret (pv 4)))), ?_⟩
  refine ⟨_, rfl, x, C, dx, _, _, rfl, hx, hC, n1, e1, _, rfl, x, C, dx, _, _, rfl, hx, hC, n2, e2, (by show 3 ≤ sizeLine; decide), fun t1 ht1 => ?_⟩
  refine ⟨_, rfl, (by show 2 ≤ sizeLine; decide), fun t2 ht2 => ⟨(by show 1 ≤ sizeLine; decide), fun f hf => ?_⟩⟩
  have s1 : Same H (upd H t1 (.tup [V.str "look", .str c, .str v])) := smU (Same.refl H) ht1
  have s2 := smN (o := .tup [V.ref t1, p]) s1 ht2
  have s3 := smN (o := .lst [V.ref t2]) s2 hf
  have g1 : (upd (upd (upd H t1 (.tup [V.str "look", .str c, .str v])) t2 (.tup [V.ref t1, p])) f (.lst [V.ref t2])) t1 = some (.tup [V.str "look", .str c, .str v]) := by
    rw [upd_ne (ne_of_none (H := upd (upd H t1 (.tup [V.str "look", .str c, .str v])) t2 (.tup [V.ref t1, p])) (o := .tup [V.str "look", .str c, .str v]) (by rw [upd_ne (ne_of_none upd_same ht2)]; exact upd_same) hf), upd_ne (ne_of_none upd_same ht2)]
    exact upd_same
  have g2 : (upd (upd (upd H t1 (.tup [V.str "look", .str c, .str v])) t2 (.tup [V.ref t1, p])) f (.lst [V.ref t2])) t2 = some (.tup [V.ref t1, p]) := by
    rw [upd_ne (ne_of_none upd_same hf)]
    exact upd_same
  refine ⟨_, rfl, b, db, _, rfl, s3 _ _ hb, rfl, _, rfl, x, C, dx, _, _, rfl, s3 _ _ hx, hC, n1, e1, _, rfl, x, C, dx, _, _, rfl, s3 _ _ hx, hC, n2, e2, _, c, v, bd, us, rfl, hB.fz (Fz.of s3), hc, fun lo Ho so eo => ⟨lo, rfl, ⟨_, SqL.of eo⟩, ?_⟩⟩
  have s4 := s3.trans so
  have n0 : H f = none := s2.free hf
  refine for_it (walk_list (xs := (rest v us).map V.str)) (fun i σ H2 => (∃ v5 : Option V, σ = [some (.ref b), some (.ref x), some p, some q, some (.ref f), v5]) ∧ Same H H2 ∧ H2 lo = some (.lst ((rest v us).map V.str)) ∧
    ∃ acc, H2 f = some (.lst acc) ∧ acc.length = i + 1 ∧ Paired (StepR K H2 fun a b => a = b) acc ((.look c v, p) :: ((rest v us).take i).map fun u => (.look c u, q)))
    ⟨⟨none, rfl⟩, s4, eo, [V.ref t2], so _ _ upd_same, rfl, .cons ⟨t2, _, _, rfl, so _ _ g2, ⟨t1, rfl, .inl (so _ _ g1)⟩, rfl⟩ .nil⟩ (fun i σ H2 _ q => SqL.of q.2.2.1) ?_ ?_
  · rintro i y σ H1 H2 hi ⟨⟨v5, rfl⟩, q1, q2, acc, q3, q4, q5⟩ ⟨rfl, hy⟩
    obtain ⟨u, hu, rfl⟩ := map_at hy
    rw [List.length_map] at hi
    have hl := rest_len (v := v) (us := us)
    refine ⟨_, rfl, .inl ⟨rfl, _, SqL.of q3⟩, _, rfl, x, C, dx, _, _, rfl, q1 _ _ hx, hC, n1, e1, _, rfl, (by show 3 ≤ sizeLine; decide), fun u1 hu1 => ⟨_, rfl, (by show 2 ≤ sizeLine; decide), fun u2 hu2 => ?_⟩⟩
    have r1 : Same H2 (upd H2 u1 (.tup [V.str "look", .str c, .str u])) := smU (Same.refl _) hu1
    have r2 := smN (o := .tup [V.ref u1, q]) r1 hu2
    have k1 : (upd (upd H2 u1 (.tup [V.str "look", .str c, .str u])) u2 (.tup [V.ref u1, q])) u1 = some (.tup [V.str "look", .str c, .str u]) := by
      rw [upd_ne (ne_of_none upd_same hu2)]
      exact upd_same
    have k3 := r2 _ _ q3
    have hsl : (1000 : Nat) < sizeLine := by decide
    have zf : Fz H2 (upd (upd (upd H2 u1 (.tup [V.str "look", .str c, .str u])) u2 (.tup [V.ref u1, q])) f (.lst (acc ++ [V.ref u2]))) := (Fz.of r2).trans (Fz.lst k3)
    have zl : Fz (upd (upd H2 u1 (.tup [V.str "look", .str c, .str u])) u2 (.tup [V.ref u1, q])) (upd (upd (upd H2 u1 (.tup [V.str "look", .str c, .str u])) u2 (.tup [V.ref u1, q])) f (.lst (acc ++ [V.ref u2]))) := Fz.lst k3
    have nlf : lo ≠ f := ne_of q2 q3 fun z => by
      have z2 : (rest v us).map V.str = acc := HO.lst.inj z
      cases q5 with
      | cons h _ =>
        obtain ⟨t9, _, _, e9, _⟩ := h
        subst e9
        cases hr9 : rest v us with
        | nil => rw [hr9] at z2; cases z2
        | cons a r => rw [hr9] at z2; cases z2
    refine ⟨f, acc, _, rfl, rfl, k3, by omega, ⟨_, rfl⟩, smU (q1.trans r2) n0, by rw [upd_ne nlf]; exact r2 _ _ q2, _, upd_same, by rw [List.length_append, q4]; rfl, ?_⟩
    rw [map_take hu]
    exact (q5.mono fun a b h => h.fz zf fun _ _ e => e).snoc ⟨u2, _, _, rfl, zl.tup _ _ upd_same, ⟨u1, rfl, .inl (zl.tup _ _ k1)⟩, rfl⟩
  · rintro σ H1 ⟨⟨v5, rfl⟩, q1, q2, acc, q3, q4, q5⟩
    rw [List.take_of_length_le (by rw [List.length_map]; exact Nat.le_refl _)] at q5
    exact ⟨_, rfl, kk f acc H1 n0 q1 q3 q5⟩
/-- Machine.steps_of(statement, begins, goal) -/
def spStepsOf (K : PySem.W.Frag) : Sp := fun vs H Q _ => ∃ (m dm : Addr) (fm : List (Str × V)) (bv : V) (x dx : Addr) (k : Kd) (p q : V) (b : Addr) (g1 g2 g : Nat) (bd : Bd), vs = [.ref m, .ref x, .ref b, .int g] ∧ H m = some (.ins (He.ga K "Machine") dm fm) ∧ fm.lookup ("plan" : Str) = some bv ∧ fm.lookup ("steps_of" : Str) = none ∧
  BAt K H bv bd ∧ H x = some (.ins (He.ga K k.cn) dx (k.fl p q)) ∧ KG bd k ∧ H b = some (.lst (k.prt (.int g1) (.int g2))) ∧
  ∀ l xs H2, H l = none → Same H H2 → H2 l = some (.lst xs) → Paired (StepR K H2 fun v (n : Nat) => v = .int n) xs (stepsK bd k g1 g2 g) → Q (.ref l) H2
theorem oth_of {bd : Bd} {c v : Str} {us : List Str} (h : bd c = some us) : oth bd c v = rest v us := by unfold oth; rw [h] <;> rfl
theorem sc_Machine_steps_of : FnScope ["self", "statement", "begins", "goal", "begin"] ["self", "statement", "begins", "goal"] (defScope s_Machine_steps_of) := ⟨rfl, rfl, rfl, by decide +kernel, rfl, by decide +kernel, by decide +kernel⟩
theorem go_at (T : TX K mg) (H : Hp) : ActAt K H (.ref (He.ga K "GO")) .go := ⟨_, rfl, .inr ⟨rfl, rfl⟩⟩
theorem ix_at {xs : List V} {v : V} {n : Nat} (h : xs[n]? = some v) : atI xs (n : Int) = some v := atI_nat h
theorem pair_steps {α : Type} {K : PySem.W.Frag} {H : Hp} {xs : List V} {f : V → α} {g : α → V} (hf : ∀ a, f (g a) = a) : ∀ {st : List (Act × α)}, Paired (StepR K H fun a b => a = b) xs (st.map fun s => (s.1, g s.2)) → Paired (StepR K H fun v n => v = g n) xs st
  | [], h => by cases h; exact .nil
  | s :: r, h => by
    cases h with
    | cons a t => exact .cons a (pair_steps hf t)
theorem ok_steps_of (T : TX K mg) : Met P w K mg base 4 (He.ga K "Machine") "steps_of" (spStepsOf K) := by
  refine metD (fn_Machine_steps_of T.c) (cls_of (f_cls_Machine T.c)) (meth_of (f_m_Machine_steps_of T.c)) sc_Machine_steps_of (fun _ _ _ _ _ _ us hl => match us, hl with | [_, _, _, _], _ => rfl) (fun vs H Q E h => by obtain ⟨m, dm, fm, bv, x, dx, k, p, q, b, g1, g2, g, bd, rfl, _⟩ := h; rfl) (fun cdv A outer s0 H vs Q E hr h => ?_)
  obtain ⟨m, dm, fm, bv, x, dx, k, p, q, b, g1, g2, g, bd, rfl, hm, hpl, _, hB, hx, hk, hb, kk⟩ := h
  have c := T.c
  refine ⟨_, pss_cons (ps_if (pt_val (pe_b call_isi bb_isi (T.free (f_free_isinstance c)) (pa_cons (pv 1) (pa_cons (pe_gl (T.ref (f_glo_Write c))) pa_nil)))) (pss_one (ps_ret (pe_lst (pa_cons (pe_tup (pa_cons (pe_tup (pa_cons pe_str (pa_cons (pe_fld (pv 1) rfl) (pa_cons (pe_fld (pv 1) rfl) pa_nil)))) (pa_cons (pv 3) pa_nil))) pa_nil)))) pss_nil)
    (pss_cons (ps_if (pt_val (pe_b call_isi bb_isi (T.free (f_free_isinstance c)) (pa_cons (pv 1) (pa_cons (pe_gl (T.ref (f_glo_Wait c))) pa_nil)))) (pss_one (ps_ret (pe_lst (pa_cons (pe_tup (pa_cons (pe_tup (pa_cons pe_str (pa_cons (pe_fld (pv 1) rfl) (pa_cons (pe_fld (pv 1) rfl) pa_nil)))) (pa_cons (pv 3) pa_nil))) pa_nil)))) pss_nil)
    (pss_cons (ps_if (pt_val (pe_b call_isiT bb_isi (T.free (f_free_isinstance c)) (pa_cons (pv 1) (pa_cons (pe_tup (pa_cons (pe_gl (T.ref (f_glo_Mark c))) (pa_cons (pe_gl (T.ref (f_glo_Skip c))) pa_nil))) pa_nil)))) (pss_one (ps_ret (pe_lst (pa_cons (pe_tup (pa_cons (pe_gl (T.ref (f_glo_GO c))) (pa_cons (pv 3) pa_nil))) pa_nil)))) pss_nil)
    (pss_cons (ps_if (pt_val (pe_b call_isi bb_isi (T.free (f_free_isinstance c)) (pa_cons (pv 1) (pa_cons (pe_gl (T.ref (f_glo_Stop c))) pa_nil)))) (pss_one (ps_ret (pe_lst pa_nil))) pss_nil)
    (pss_cons (ps_if (pt_val (pe_b call_isi bb_isi (T.free (f_free_isinstance c)) (pa_cons (pv 1) (pa_cons (pe_gl (T.ref (f_glo_If c))) pa_nil))))
      (pss_one (ps_ret (pe_c (ok_looks_rooms T) hr (pa_cons (pe_fld (pv 0) rfl) (pa_cons (pv 1) (pa_cons (pe_ix ix_list (pv 2) pe_int (fun _ _ => rfl)) (pa_cons (pe_ix ix_list (pv 2) pe_int (fun _ _ => rfl)) pa_nil))))))) pss_nil)
    (pss_cons (ps_if (pt_val (pe_b call_isi bb_isi (T.free (f_free_isinstance c)) (pa_cons (pv 1) (pa_cons (pe_gl (T.ref (f_glo_While c))) pa_nil))))
      (pss_one (ps_ret (pe_c (ok_looks_rooms T) hr (pa_cons (pe_fld (pv 0) rfl) (pa_cons (pv 1) (pa_cons (pe_ix ix_list (pv 2) pe_int (fun _ _ => rfl)) (pa_cons (pv 3) pa_nil))))))) pss_nil)
    (pss_one (ps_ret (pe_lc (own := [("begin", 4)]) (g := gName 4) (tt := tYes) rfl sc_Machine_steps_of.nd (pi_list (pv 2)) (blkOk_by (N := ["self", "statement", "begins", "goal", "begin"]) (sc := defScope s_Machine_steps_of) (by decide +kernel))
      (fun _ _ _ _ _ => pg_name (i := 4) sc_Machine_steps_of.nd rfl (Or.inl rfl)) (fun _ _ _ _ _ => pts_nil) (fun _ _ _ _ _ => pe_tup (pa_cons (pe_gl (T.ref (f_glo_GO c))) (pa_cons (pv 4) pa_nil))))))))))), ?_⟩
  have g3 : (1 : Nat) ≤ sizeLine := by decide
  have mk1 : ∀ {a : Act} {t1 t2 l : Addr} {H1 : Hp}, Same H H1 → (H1 t1 = none) → (upd H1 t1 (.tup a.dat)) t2 = none → (upd (upd H1 t1 (.tup a.dat)) t2 (.tup [.ref t1, .int g])) l = none → stepsK bd k g1 g2 g = [(a, g)] → Q (.ref l) (upd (upd (upd H1 t1 (.tup a.dat)) t2 (.tup [.ref t1, .int g])) l (.lst [.ref t2])) := by
    intro a t1 t2 l H1 s1 h1 h2 h3 e
    refine kk l _ _ ((smN (smN s1 h1) h2).free h3) (smN (smN (smN s1 h1) h2) h3) upd_same ?_
    rw [e]
    refine .cons ⟨t2, _, _, rfl, by rw [upd_ne (ne_of_none upd_same h3)]; exact upd_same, ⟨t1, rfl, .inl ?_⟩, rfl⟩ .nil
    have z : (upd (upd H1 t1 (.tup a.dat)) t2 (.tup [.ref t1, .int g])) t1 = some (.tup a.dat) := by rw [upd_ne (ne_of_none upd_same h2)]; exact upd_same
    rw [upd_ne (ne_of_none z h3)]
    exact z
  cases k with
  | write cc v =>
    refine rd_if rfl hx T (is_Write T _) (iteB rfl ?_)
    refine ⟨_, rfl, x, _, dx, _, _, rfl, hx, cls_of (f_cls_Write c), no_of (f_no_Write_cell c), rfl, _, rfl, x, _, dx, _, _, rfl, hx, cls_of (f_cls_Write c), no_of (f_no_Write_value c), rfl, (by show 3 ≤ sizeLine; decide), fun t1 ht1 => ⟨_, rfl, (by show 2 ≤ sizeLine; decide), fun t2 ht2 => ⟨g3, fun l hl => ?_⟩⟩⟩
    exact mk1 (a := .put cc v) (Same.refl H) ht1 ht2 hl rfl
  | wait cc v =>
    refine rd_if rfl hx T (is_Write T _) (iteN rfl (rd_if rfl hx T (is_Wait T _) (iteB rfl ?_)))
    refine ⟨_, rfl, x, _, dx, _, _, rfl, hx, cls_of (f_cls_Wait c), no_of (f_no_Wait_cell c), rfl, _, rfl, x, _, dx, _, _, rfl, hx, cls_of (f_cls_Wait c), no_of (f_no_Wait_value c), rfl, (by show 3 ≤ sizeLine; decide), fun t1 ht1 => ⟨_, rfl, (by show 2 ≤ sizeLine; decide), fun t2 ht2 => ⟨g3, fun l hl => ?_⟩⟩⟩
    exact mk1 (a := .look cc v) (Same.refl H) ht1 ht2 hl rfl
  | mark n =>
    refine rd_if rfl hx T (is_Write T _) (iteN rfl (rd_if rfl hx T (is_Wait T _) (iteN rfl (rd_if2 rfl hx T (is_Mark T _) (is_Skip T _) fun p0 hp0 => iteB rfl ?_))))
    refine ⟨_, rfl, (by show 2 ≤ sizeLine; decide), fun t2 ht2 => ⟨g3, fun l hl => ?_⟩⟩
    exact kk l _ _ ((smN (smU (Same.refl H) hp0) ht2).free hl) (smN (smN (smU (Same.refl H) hp0) ht2) hl) upd_same (.cons ⟨t2, _, _, rfl, by rw [upd_ne (ne_of_none upd_same hl)]; exact upd_same, go_at T _, rfl⟩ .nil)
  | skip =>
    refine rd_if rfl hx T (is_Write T _) (iteN rfl (rd_if rfl hx T (is_Wait T _) (iteN rfl (rd_if2 rfl hx T (is_Mark T _) (is_Skip T _) fun p0 hp0 => iteB rfl ?_))))
    refine ⟨_, rfl, (by show 2 ≤ sizeLine; decide), fun t2 ht2 => ⟨g3, fun l hl => ?_⟩⟩
    exact kk l _ _ ((smN (smU (Same.refl H) hp0) ht2).free hl) (smN (smN (smU (Same.refl H) hp0) ht2) hl) upd_same (.cons ⟨t2, _, _, rfl, by rw [upd_ne (ne_of_none upd_same hl)]; exact upd_same, go_at T _, rfl⟩ .nil)
  | stop =>
    refine rd_if rfl hx T (is_Write T _) (iteN rfl (rd_if rfl hx T (is_Wait T _) (iteN rfl (rd_if2 rfl hx T (is_Mark T _) (is_Skip T _) fun p0 hp0 => iteN rfl ?_))))
    refine rd_if rfl (by rw [upd_ne (ne_of_none hx hp0)]; exact hx) T (is_Stop T _) (iteB rfl ⟨(by show 0 ≤ sizeLine; decide), fun l hl => ?_⟩)
    exact kk l _ _ ((smU (Same.refl H) hp0).free hl) (smN (smU (Same.refl H) hp0) hl) upd_same .nil
  | iff cc v =>
    obtain ⟨us, hus, _⟩ := hk
    refine rd_if rfl hx T (is_Write T _) (iteN rfl (rd_if rfl hx T (is_Wait T _) (iteN rfl (rd_if2 rfl hx T (is_Mark T _) (is_Skip T _) fun p0 hp0 => iteN rfl ?_))))
    have s0 : Same H (upd H p0 (.tup [.ref (He.ga K "Mark"), .ref (He.ga K "Skip")])) := smU (Same.refl H) hp0
    refine rd_if rfl (s0 _ _ hx) T (is_Stop T _) (iteN rfl (rd_if rfl (s0 _ _ hx) T (is_If T _) (iteB rfl ?_)))
    refine ⟨_, rfl, m, _, dm, _, _, rfl, s0 _ _ hm, cls_of (f_cls_Machine c), no_of (f_no_Machine_plan c), hpl, _, rfl, _, rfl, b, _, _, _, rfl, rfl, SqL.of (s0 _ _ hb), ix_at (n := 0) rfl, _, rfl, b, _, _, _, rfl, rfl, SqL.of (s0 _ _ hb), ix_at (n := 1) rfl, ?_⟩
    refine ⟨bv, x, _, dx, _, .int g1, .int g2, cc, v, bd, us, rfl, s0 _ _ hx, cls_of (f_cls_If c), no_of (f_no_If_cell c), no_of (f_no_If_value c), rfl, rfl, hB.fz (Fz.of s0), hus, fun l xs H2 nl s2 e2 st => kk l xs H2 (s0.free nl) (s0.trans s2) e2 ?_⟩
    refine pair_steps (g := fun n : Nat => V.int n) (f := fun v => match v with | .int n => n.toNat | _ => 0) (fun n => by simp) ?_
    show Paired _ xs (((.look cc v, g1) :: (oth bd cc v).map fun u => (Act.look cc u, g2)).map fun s => (s.1, V.int s.2))
    rw [oth_of hus, List.map_cons, List.map_map]
    exact st
  | whil cc v =>
    obtain ⟨us, hus, _⟩ := hk
    refine rd_if rfl hx T (is_Write T _) (iteN rfl (rd_if rfl hx T (is_Wait T _) (iteN rfl (rd_if2 rfl hx T (is_Mark T _) (is_Skip T _) fun p0 hp0 => iteN rfl ?_))))
    have s0 : Same H (upd H p0 (.tup [.ref (He.ga K "Mark"), .ref (He.ga K "Skip")])) := smU (Same.refl H) hp0
    refine rd_if rfl (s0 _ _ hx) T (is_Stop T _) (iteN rfl (rd_if rfl (s0 _ _ hx) T (is_If T _) (iteN rfl (rd_if rfl (s0 _ _ hx) T (is_While T _) (iteB rfl ?_)))))
    refine ⟨_, rfl, m, _, dm, _, _, rfl, s0 _ _ hm, cls_of (f_cls_Machine c), no_of (f_no_Machine_plan c), hpl, _, rfl, _, rfl, b, _, _, _, rfl, rfl, SqL.of (s0 _ _ hb), ix_at (n := 0) rfl, _, rfl, ?_⟩
    refine ⟨bv, x, _, dx, _, .int g1, .int g, cc, v, bd, us, rfl, s0 _ _ hx, cls_of (f_cls_While c), no_of (f_no_While_cell c), no_of (f_no_While_value c), rfl, rfl, hB.fz (Fz.of s0), hus, fun l xs H2 nl s2 e2 st => kk l xs H2 (s0.free nl) (s0.trans s2) e2 ?_⟩
    refine pair_steps (g := fun n : Nat => V.int n) (f := fun v => match v with | .int n => n.toNat | _ => 0) (fun n => by simp) ?_
    show Paired _ xs (((.look cc v, g1) :: (oth bd cc v).map fun u => (Act.look cc u, g)).map fun s => (s.1, V.int s.2))
    rw [oth_of hus, List.map_cons, List.map_map]
    exact st
  | choose =>
    refine rd_if rfl hx T (is_Write T _) (iteN rfl (rd_if rfl hx T (is_Wait T _) (iteN rfl (rd_if2 rfl hx T (is_Mark T _) (is_Skip T _) fun p0 hp0 => iteN rfl ?_))))
    have s0 : Same H (upd H p0 (.tup [.ref (He.ga K "Mark"), .ref (He.ga K "Skip")])) := smU (Same.refl H) hp0
    refine rd_if rfl (s0 _ _ hx) T (is_Stop T _) (iteN rfl (rd_if rfl (s0 _ _ hx) T (is_If T _) (iteN rfl (rd_if rfl (s0 _ _ hx) T (is_While T _) (iteN rfl ?_)))))
    refine ⟨_, rfl, b, rfl, ⟨_, SqL.of (s0 _ _ hb)⟩, fun D hD => ?_⟩
    refine lc_n (walk_list (xs := [.int g1, .int g2])) (fun i acc H2 => Same H H2 ∧ Paired (StepR K H2 fun v (n : Nat) => v = .int n) acc ([((Act.go, g1) : Act × Nat), (.go, g2)].take i)) ⟨smU s0 (s0.free hD), .nil⟩ (fun i acc H2 _ _ q => SqL.of (q.1 _ _ hb)) (fun _ => rfl) ?_ ?_
    · rintro i y acc H1 H2 hi e1 e2 ⟨q1, q2⟩ ⟨rfl, hy⟩
      refine ⟨_, rfl, (by show 2 ≤ sizeLine; decide), fun t ht => ?_⟩
      have k1 : (upd H2 t (.tup [.ref (He.ga K "GO"), y])) D = some (.lst acc) := by rw [upd_ne (ne_of_none e2 ht)]; exact e2
      refine acc_end hi (by show 2 ≤ sizeLine; decide) e1 k1 ⟨smU (smU q1 (q1.free ht)) (s0.free hD), ?_⟩
      have zf : Fz H2 (upd (upd H2 t (.tup [.ref (He.ga K "GO"), y])) D (.lst (acc ++ [.ref t]))) := (Fz.new ht).trans (Fz.lst k1)
      have zl : Fz (upd H2 t (.tup [.ref (He.ga K "GO"), y])) (upd (upd H2 t (.tup [.ref (He.ga K "GO"), y])) D (.lst (acc ++ [.ref t]))) := Fz.lst k1
      have q3 := q2.mono fun a b h => StepR.fz (R2 := fun v (n : Nat) => v = V.int n) zf (fun _ _ e => e) h
      match i, hy with
      | 0, hy =>
        cases hy
        exact q3.snoc ⟨t, _, _, rfl, zl.tup _ _ upd_same, go_at T _, rfl⟩
      | 1, hy =>
        cases hy
        exact q3.snoc ⟨t, _, _, rfl, zl.tup _ _ upd_same, go_at T _, rfl⟩
    · rintro acc H2 e1 e2 ⟨q1, q2⟩
      exact kk D acc H2 (s0.free hD) q1 e2 q2
  | loop =>
    refine rd_if rfl hx T (is_Write T _) (iteN rfl (rd_if rfl hx T (is_Wait T _) (iteN rfl (rd_if2 rfl hx T (is_Mark T _) (is_Skip T _) fun p0 hp0 => iteN rfl ?_))))
    have s0 : Same H (upd H p0 (.tup [.ref (He.ga K "Mark"), .ref (He.ga K "Skip")])) := smU (Same.refl H) hp0
    refine rd_if rfl (s0 _ _ hx) T (is_Stop T _) (iteN rfl (rd_if rfl (s0 _ _ hx) T (is_If T _) (iteN rfl (rd_if rfl (s0 _ _ hx) T (is_While T _) (iteN rfl ?_)))))
    refine ⟨_, rfl, b, rfl, ⟨_, SqL.of (s0 _ _ hb)⟩, fun D hD => ?_⟩
    refine lc_n (walk_list (xs := [.int g1])) (fun i acc H2 => Same H H2 ∧ Paired (StepR K H2 fun v (n : Nat) => v = .int n) acc ([((Act.go, g1) : Act × Nat)].take i)) ⟨smU s0 (s0.free hD), .nil⟩ (fun i acc H2 _ _ q => SqL.of (q.1 _ _ hb)) (fun _ => rfl) ?_ ?_
    · rintro i y acc H1 H2 hi e1 e2 ⟨q1, q2⟩ ⟨rfl, hy⟩
      refine ⟨_, rfl, (by show 2 ≤ sizeLine; decide), fun t ht => ?_⟩
      have k1 : (upd H2 t (.tup [.ref (He.ga K "GO"), y])) D = some (.lst acc) := by rw [upd_ne (ne_of_none e2 ht)]; exact e2
      refine acc_end hi (by show 1 ≤ sizeLine; decide) e1 k1 ⟨smU (smU q1 (q1.free ht)) (s0.free hD), ?_⟩
      have zf : Fz H2 (upd (upd H2 t (.tup [.ref (He.ga K "GO"), y])) D (.lst (acc ++ [.ref t]))) := (Fz.new ht).trans (Fz.lst k1)
      have zl : Fz (upd H2 t (.tup [.ref (He.ga K "GO"), y])) (upd (upd H2 t (.tup [.ref (He.ga K "GO"), y])) D (.lst (acc ++ [.ref t]))) := Fz.lst k1
      have q3 := q2.mono fun a b h => StepR.fz (R2 := fun v (n : Nat) => v = V.int n) zf (fun _ _ e => e) h
      match i, hy with
      | 0, hy =>
        cases hy
        exact q3.snoc ⟨t, _, _, rfl, zl.tup _ _ upd_same, go_at T _, rfl⟩
    · rintro acc H2 e1 e2 ⟨q1, q2⟩
      exact kk D acc H2 (s0.free hD) q1 e2 q2
end
end Mb


set_option Elab.async false
set_option linter.all false
set_option maxRecDepth 100000
set_option maxHeartbeats 4000000
/-! rooms numbered -/
namespace Mb
open PySem PySem.Spec PyProof.Rows L2
mutual
def Stm.pl : Stm → List Stm
  | .mk k a b => .mk k a b :: (pls a ++ pls b)
def pls : List Stm → List Stm
  | [] => []
  | s :: r => s.pl ++ pls r
end
theorem pls_nil : pls [] = [] := by simp [pls]
theorem pls_cons (s : Stm) (r : List Stm) : pls (s :: r) = s.pl ++ pls r := by simp [pls]
theorem pl_eq (s : Stm) : s.pl = s :: (pls s.pa ++ pls s.pb) := by
  cases s
  simp [Stm.pl, Stm.pa, Stm.pb]
theorem pls_app (p q : List Stm) : pls (p ++ q) = pls p ++ pls q := by
  induction p with
  | nil => simp [pls_nil]
  | cons s r ih => rw [List.cons_append, pls_cons, pls_cons, ih, List.append_assoc]
theorem pls_take {ss : List Stm} {i : Nat} {s : Stm} (h : ss[i]? = some s) : pls (ss.take (i + 1)) = pls (ss.take i) ++ s.pl := by
  obtain ⟨hi, e⟩ := List.getElem?_eq_some_iff.mp h
  rw [List.take_succ_eq_append_getElem hi, pls_app, e, pls_cons, pls_nil, List.append_nil]
mutual
theorem pl_len : ∀ s : Stm, s.pl.length = s.sz
  | .mk k a b => by
    have h1 := pls_len a
    have h2 := pls_len b
    have h3 : (Stm.mk k a b).sz = 1 + (szs a + szs b) := Stm.sz_eq _
    simp only [Stm.pl, List.length_cons, List.length_append]
    omega
theorem pls_len : ∀ ss : List Stm, (pls ss).length = szs ss
  | [] => by rw [pls_nil, szs_nil]; rfl
  | s :: r => by
    have h1 := pl_len s
    have h2 := pls_len r
    rw [pls_cons, szs_cons, List.length_append]
    omega
end
/-- the rooms of a row of programs -/
def plp (ps : List (List Stm)) : List Stm := ps.flatMap pls
theorem parts_pl {P : V → List Stm → Prop} {s : Stm} {p q : V} (h : PartsOk P s.kd p q s.pa s.pb) : s.pl = s :: plp s.parts := by
  rw [pl_eq]
  cases s with
  | mk k a b =>
    cases k with
    | iff c v => simp [Stm.parts, Stm.kd, Stm.pa, Stm.pb, plp]
    | choose => simp [Stm.parts, Stm.kd, Stm.pa, Stm.pb, plp]
    | whil c v =>
      have e : b = [] := h.2.2.2 (show 1 < 2 by decide)
      subst e
      simp [Stm.parts, Stm.kd, Stm.pa, Stm.pb, plp, pls_nil]
    | loop =>
      have e : b = [] := h.2.2.2 (show 1 < 2 by decide)
      subst e
      simp [Stm.parts, Stm.kd, Stm.pa, Stm.pb, plp, pls_nil]
    | _ =>
      have e : a = [] := h.2.1 rfl
      have e2 : b = [] := h.2.2.2 (show 0 < 2 by decide)
      subst e e2
      simp [Stm.parts, Stm.kd, Stm.pa, Stm.pb, plp, pls_nil]
theorem plp_take {ps : List (List Stm)} {i : Nat} {p : List Stm} (h : ps[i]? = some p) : plp (ps.take (i + 1)) = plp (ps.take i) ++ pls p := by
  obtain ⟨hi, e⟩ := List.getElem?_eq_some_iff.mp h
  unfold plp
  rw [List.take_succ_eq_append_getElem hi, List.flatMap_append, e]
  simp
/-- all but the object at ex is as it was -/
def Kx (ex : Addr) (H H2 : Hp) : Prop := ∀ b o, b ≠ ex → H b = some o → H2 b = some o
theorem Kx.refl (ex : Addr) (H : Hp) : Kx ex H H := fun _ _ _ e => e
theorem Kx.trans {ex : Addr} {H H1 H2 : Hp} (a : Kx ex H H1) (b : Kx ex H1 H2) : Kx ex H H2 := fun c o n e => b c o n (a c o n e)
theorem Kx.of {ex : Addr} {H H1 : Hp} (s : Same H H1) : Kx ex H H1 := fun b o _ e => s b o e
theorem Kx.wr {ex : Addr} {H H1 : Hp} {o : HO} (k : Kx ex H H1) : Kx ex H (upd H1 ex o) := fun b u n e => by
  rw [upd_ne n]
  exact k b u n e
theorem Kx.fz {ex : Addr} {H H2 : Hp} {xs : List V} (k : Kx ex H H2) (h : H ex = some (.lst xs)) : Fz H H2 :=
  ⟨fun b _ _ _ e => k b _ (ne_of e h (by intro z; cases z)) e, fun b _ e => k b _ (ne_of e h (by intro z; cases z)) e, fun b _ e => k b _ (ne_of e h (by intro z; cases z)) e⟩
def spBegin (K : PySem.W.Frag) (n : Nat) : Sp := fun vs H Q _ => ∃ (m v : V) (ss : List Stm) (f b : Int), vs = [m, v, .int f, .int b] ∧ PAt K H n v ss ∧ Q (.int (if ss.isEmpty then b else f)) H
/-- number_row: the rooms of the program behind those that stand in places -/
def spNumber (K : PySem.W.Frag) (n : Nat) : Sp := fun vs H Q _ => ∃ (m dm : Addr) (fm : List (Str × V)) (v : V) (ss : List Stm) (pl : Addr) (ps : List V) (H0 : Hp), vs = [.ref m, v] ∧ Fz H0 H ∧ H m = some (.ins (He.ga K "Machine") dm fm) ∧ fm.lookup ("places" : Str) = some (.ref pl) ∧ fm.lookup ("number_row" : Str) = none ∧
  H pl = some (.lst ps) ∧ ps.length + szs ss ≤ 1000 ∧ PAt K H0 n v ss ∧ ∀ qs H2, Kx pl H H2 → H2 pl = some (.lst (ps ++ qs)) → Paired (SAt K H0 n) qs (pls ss) → Q .non H2
section
variable {P : Program} {w : World} {K : PySem.W.Frag} {mg : Str → Option Value} {base : Heap}
theorem sc_Machine_begin_of : FnScope ["self", "program", "first", "behind"] ["self", "program", "first", "behind"] (defScope s_Machine_begin_of) := ⟨rfl, rfl, rfl, by decide +kernel, rfl, by decide +kernel, by decide +kernel⟩
theorem ok_begin (T : TX K mg) (n : Nat) : Met P w K mg base 1 (He.ga K "Machine") "begin_of" (spBegin K n) := by
  refine metD (fn_Machine_begin_of T.c) (cls_of (f_cls_Machine T.c)) (meth_of (f_m_Machine_begin_of T.c)) sc_Machine_begin_of (fun _ _ _ _ _ _ us hl => match us, hl with | [_, _, _, _], _ => rfl) (fun vs H Q E h => by obtain ⟨m, v, ss, f, b, rfl, _⟩ := h; rfl) (fun cdv A outer s0 H vs Q E hr h => ?_)
  obtain ⟨m, v, ss, f, b, rfl, hp, kk⟩ := h
  refine ⟨_, pss_cons (ps_if (pt_cmpR op_eq (pe_b call_len_seq bb_len (T.free (f_free_len T.c)) (pa_cons (pe_fld (pv 1) rfl) pa_nil)) pe_int (nomark _)) (pss_one (ps_ret (pv 3))) pss_nil) (pss_one (ps_ret (pv 2))), ?_⟩
  cases n with
  | zero => exact hp.elim
  | succ n =>
    obtain ⟨x, dx, t, as, rfl, hx, ht, h24, hpa⟩ := hp
    have hl := hpa.length
    refine ⟨_, rfl, x, _, dx, _, _, rfl, hx, cls_of (f_cls_Program T.c), no_of (f_no_Program_row T.c), rfl, t, as, rfl, .inr (SqT.of ht), rfl, _, rfl, ?_⟩
    cases ss with
    | nil =>
      have e : as.length = 0 := hl
      refine iteB (by rw [e]; decide) ⟨_, rfl, kk⟩
    | cons s r =>
      have e : as.length = r.length + 1 := hl
      refine iteN (decide_eq_false fun z => ?_) ⟨_, rfl, kk⟩
      have := V.int.inj z
      omega
theorem sc_Machine_number_row : FnScope ["self", "program", "statement", "part"] ["self", "program"] (defScope s_Machine_number_row) := ⟨rfl, rfl, rfl, by decide +kernel, rfl, by decide +kernel, by decide +kernel⟩
theorem plp_len {ps : List (List Stm)} : (plp ps).length = (ps.map szs).sum := by
  unfold plp
  rw [List.length_flatMap]
  congr 1
  exact List.map_congr_left fun a _ => pls_len a
theorem st_number (T : TX K mg) {n : Nat} (hN : Met P w K mg base (n + 1) (He.ga K "Machine") "number_row" (spNumber K n)) : Met P w K mg base (n + 2) (He.ga K "Machine") "number_row" (spNumber K (n + 1)) := by
  refine metD (fn_Machine_number_row T.c) (cls_of (f_cls_Machine T.c)) (meth_of (f_m_Machine_number_row T.c)) sc_Machine_number_row (fun _ _ _ _ _ _ us hl => match us, hl with | [_, _], _ => rfl) (fun vs H Q E h => by obtain ⟨m, dm, fm, v, ss, pl, ps, H0, rfl, _⟩ := h; rfl) (fun cdv A outer s0 H vs Q E hr h => ?_)
  obtain ⟨m, dm, fm, v, ss, pl, ps, H0, rfl, z0, hm, hpl, hno, hps, hlen, ⟨x, dx, t, as, rfl, hx, ht, h24, hp⟩, kk⟩ := h
  replace hx := z0.ins _ _ _ _ hx
  replace ht := z0.tup _ _ ht
  refine ⟨_, pss_one (ps_for PassesOwn.never rfl (pi_tup (pe_fld (pv 1) rfl)) (pg_name (i := 2) sc_Machine_number_row.nd rfl (Or.inl rfl))
    (pss_cons (ps_expr (pe_bm PySem.F.plainAttrs_list PySem.F.slot_list_append PySem.F.type_list_append mt_append (pe_fld (pv 0) rfl) (pa_cons (pv 2) pa_nil)))
    (pss_ex fun k : Kd => pss_one (ps_for PassesOwn.never rfl (pi_list (pe_mt0 (ok_parts T k) hr (pv 2))) (pg_name (i := 3) sc_Machine_number_row.nd rfl (Or.inl rfl)) (pss_one (ps_expr (pe_mt hN hr (pv 0) (pa_cons (pv 3) pa_nil)))))))), ?_⟩
  have hsl : (2000 : Nat) < sizeLine := by decide
  have cM := cls_of (f_cls_Machine T.c)
  refine ⟨_, rfl, x, _, dx, _, _, rfl, hx, cls_of (f_cls_Program T.c), no_of (f_no_Program_row T.c), rfl, t, rfl, ⟨_, SqT.of ht⟩, for_it (walk_tup (xs := as)) (fun i σ H2 => (∃ v2 v3 : Option V, σ = [some (.ref m), some (.ref x), v2, v3]) ∧ Kx pl H H2 ∧
    ∃ qs, H2 pl = some (.lst (ps ++ qs)) ∧ Paired (SAt K H0 (n + 1)) qs (pls (ss.take i))) ⟨⟨none, none, rfl⟩, Kx.refl pl H, [], by rw [List.append_nil]; exact hps, by rw [List.take_zero, pls_nil]; exact .nil⟩ (fun i σ H2 _ q => SqT.of ((q.2.1.fz hps).tup _ _ ht)) ?_ ?_⟩
  · rintro i y σ H1 H2 hi ⟨⟨v2, v3, rfl⟩, q1, qs, q2, q3⟩ ⟨rfl, hy⟩
    obtain ⟨s, hs1, hs2⟩ := pair_at hp hy
    have z1 := q1.fz hps
    obtain ⟨y1, dy, p, q, rfl, hy1, hpa⟩ := id hs2
    replace hy1 := z1.ins _ _ _ _ (z0.ins _ _ _ _ hy1)
    have lq := q3.length
    rw [pls_len] at lq
    have lt := szs_take ss (i + 1)
    have ltt : szs (ss.take (i + 1)) = szs (ss.take i) + s.sz := by
      have := pls_take hs1
      have l1 := congrArg List.length this
      rw [List.length_append, pls_len, pls_len, pl_len] at l1
      exact l1
    have ssz := parts_sz hpa
    refine ⟨_, rfl, m, _, dm, _, _, rfl, z1.ins _ _ _ _ hm, cM, no_of (f_no_Machine_places T.c), hpl, .inl ⟨rfl, _, SqL.of q2⟩, _, rfl, pl, _, _, rfl, rfl, q2, by rw [List.length_append]; omega, ?_⟩
    have z2 : Fz H2 (upd H2 pl (.lst (ps ++ qs ++ [.ref y1]))) := Fz.lst q2
    refine ⟨s.kd, _, rfl, y1, dy, _, rfl, z2.ins _ _ _ _ hy1, fl_parts _ _ _, y1, dy, p, q, rfl, z2.ins _ _ _ _ hy1, fun l hl => ⟨l, rfl, ⟨_, SqL.of upd_same⟩, ?_⟩⟩
    have hlpl : l ≠ pl := fun e => by rw [e, upd_same] at hl; cases hl
    have z3 : Fz H2 (upd (upd H2 pl (.lst (ps ++ qs ++ [.ref y1]))) l (.lst (s.kd.prt p q))) := z2.trans (Fz.new hl)
    have hpp := prt_at hpa
    refine for_it (walk_list (xs := s.kd.prt p q)) (fun j σ H3 => (∃ v3 : Option V, σ = [some (.ref m), some (.ref x), some (.ref y1), v3]) ∧ Kx pl (upd (upd H2 pl (.lst (ps ++ qs ++ [.ref y1]))) l (.lst (s.kd.prt p q))) H3 ∧
      ∃ rs, H3 pl = some (.lst (ps ++ qs ++ [.ref y1] ++ rs)) ∧ Paired (SAt K H0 (n + 1)) rs (plp (s.parts.take j)))
      ⟨⟨v3, rfl⟩, Kx.refl _ _, [], by rw [upd_ne hlpl.symm, upd_same, List.append_nil], .nil⟩ (fun j σ H3 _ q => SqL.of (q.2.1 _ _ hlpl upd_same)) ?_ ?_
    · rintro j y2 σ H3 H4 hj ⟨⟨v3, rfl⟩, r1, rs, r2, r3⟩ ⟨rfl, hy2⟩
      obtain ⟨pp, ht1, ht2⟩ := pair_at hpp hy2
      have z4 : Fz H2 H4 := z3.trans (r1.fz (by rw [upd_ne hlpl.symm]; exact upd_same))
      have lr := r3.length
      rw [plp_len] at lr
      have lsum : ((s.parts.take j).map szs).sum + szs pp ≤ (s.parts.map szs).sum := by
        have e1 := congrArg List.length (plp_take ht1)
        rw [List.length_append, plp_len, plp_len, pls_len] at e1
        have e2 : ((s.parts.take (j + 1)).map szs).sum ≤ (s.parts.map szs).sum := by
          have e3 := List.take_append_drop (j + 1) s.parts
          have e4 := congrArg (fun l => (List.map szs l).sum) e3
          simp only [List.map_append, List.sum_append] at e4
          omega
        omega
      refine ⟨_, rfl, m, dm, _, rfl, (z1.trans z4).ins _ _ _ _ hm, hno, _, rfl, m, dm, fm, _, pp, pl, _, H0, rfl, z0.trans (z1.trans z4), (z1.trans z4).ins _ _ _ _ hm, hpl, hno, r2, by rw [List.length_append, List.length_append, List.length_append]; show _ + 1 + _ + _ ≤ 1000; omega, ht2, fun us H5 k5 e5 p5 => ?_⟩
      refine ⟨⟨_, rfl⟩, r1.trans k5, rs ++ us, by rw [e5, List.append_assoc], ?_⟩
      rw [plp_take ht1]
      exact pair_app r3 (p5.mono fun _ _ h => SAt.up h)
    · rintro σ H3 ⟨⟨v3, rfl⟩, r1, rs, r2, r3⟩
      have hall : s.parts.take (s.kd.prt p q).length = s.parts := List.take_of_length_le (by rw [hpp.length]; exact Nat.le_refl _)
      rw [hall] at r3
      have z4 : Fz H2 H3 := z3.trans (r1.fz (by rw [upd_ne hlpl.symm]; exact upd_same))
      refine ⟨⟨_, _, rfl⟩, (q1.trans ((Kx.refl pl H2).wr)).trans ((Kx.of (smU (Same.refl _) hl)).trans r1), qs ++ ([.ref y1] ++ rs), by rw [r2]; simp only [List.append_assoc], ?_⟩
      rw [pls_take hs1, parts_pl hpa]
      exact pair_app q3 (.cons (SAt.up hs2) r3)
  · rintro σ H1 ⟨⟨v2, v3, rfl⟩, q1, qs, q2, q3⟩
    rw [List.take_of_length_le (by rw [← hp.length]; exact Nat.le_refl _)] at q3
    exact kk qs H1 q1 q2 q3
theorem ok_number (T : TX K mg) : ∀ n : Nat, Met P w K mg base (n + 1) (He.ga K "Machine") "number_row" (spNumber K n)
  | 0 => by
    refine metD (fn_Machine_number_row T.c) (cls_of (f_cls_Machine T.c)) (meth_of (f_m_Machine_number_row T.c)) sc_Machine_number_row (fun _ _ _ _ _ _ us hl => match us, hl with | [_, _], _ => rfl) (fun vs H Q E h => by obtain ⟨m, dm, fm, v, ss, pl, ps, H0, rfl, _⟩ := h; rfl) (fun cdv A outer s0 H vs Q E hr h => ?_)
    obtain ⟨m, dm, fm, v, ss, pl, ps, H0, _, _, _, _, _, _, _, h1, _⟩ := h
    exact h1.elim
  | n + 1 => st_number T (ok_number T n)
end
end Mb


set_option Elab.async false
set_option linter.all false
set_option maxRecDepth 100000
set_option maxHeartbeats 4000000
/-! the steps of a row laid: the plain side -/
namespace Mb
open PySem PySem.Spec PyProof.Rows L2
def Kd.lp (k : Kd) : Bool := match k with
  | .whil _ _ => true | .loop => true | _ => false
/-- the room at which a row begins -/
def bgn (ss : List Stm) (f b : Nat) : Nat := if ss.isEmpty then b else f
/-- the room behind the parts of a statement -/
def bck (k : Kd) (i g : Nat) : Nat := if k.lp then i else g
mutual
def Stm.ex (bd : Bd) : Stm → Nat → Nat → List (List (Act × Nat))
  | .mk k a b, i, g => stepsK bd k (bgn a (i + 1) (bck k i g)) (bgn b (i + 1 + szs a) (bck k i g)) g :: (exs bd a (i + 1) (bck k i g) ++ exs bd b (i + 1 + szs a) (bck k i g))
def exs (bd : Bd) : List Stm → Nat → Nat → List (List (Act × Nat))
  | [], _, _ => []
  | s :: r, i, b => s.ex bd i (bgn r (i + s.sz) b) ++ exs bd r (i + s.sz) b
end
theorem exs_nil (bd : Bd) (i b : Nat) : exs bd [] i b = [] := by simp [exs]
theorem exs_cons (bd : Bd) (s : Stm) (r : List Stm) (i b : Nat) : exs bd (s :: r) i b = s.ex bd i (bgn r (i + s.sz) b) ++ exs bd r (i + s.sz) b := by simp [exs]
theorem ex_eq (bd : Bd) (s : Stm) (i g : Nat) : s.ex bd i g = stepsK bd s.kd (bgn s.pa (i + 1) (bck s.kd i g)) (bgn s.pb (i + 1 + szs s.pa) (bck s.kd i g)) g :: (exs bd s.pa (i + 1) (bck s.kd i g) ++ exs bd s.pb (i + 1 + szs s.pa) (bck s.kd i g)) := by
  cases s
  simp [Stm.ex, Stm.kd, Stm.pa, Stm.pb]
mutual
theorem ex_len (bd : Bd) : ∀ (s : Stm) (i g : Nat), (s.ex bd i g).length = s.sz
  | .mk k a b, i, g => by
    have h1 := exs_len bd a (i + 1) (bck k i g)
    have h2 := exs_len bd b (i + 1 + szs a) (bck k i g)
    have h3 : (Stm.mk k a b).sz = 1 + (szs a + szs b) := Stm.sz_eq _
    simp only [Stm.ex, List.length_cons, List.length_append]
    omega
theorem exs_len (bd : Bd) : ∀ (ss : List Stm) (i b : Nat), (exs bd ss i b).length = szs ss
  | [], i, b => by rw [exs_nil, szs_nil]; rfl
  | s :: r, i, b => by
    have h1 := ex_len bd s i (bgn r (i + s.sz) b)
    have h2 := exs_len bd r (i + s.sz) b
    rw [exs_cons, szs_cons, List.length_append]
    omega
end
theorem exs_seg (bd : Bd) : ∀ (ss : List Stm) (f b i : Nat) (s : Stm), ss[i]? = some s →
    (exs bd ss f b).take (szs (ss.take (i + 1))) = (exs bd ss f b).take (szs (ss.take i)) ++ s.ex bd (f + szs (ss.take i)) (bgn (ss.drop (i + 1)) (f + szs (ss.take (i + 1))) b)
  | [], _, _, _, _, h => by simp at h
  | a :: r, f, b, 0, s, h => by
    have e : a = s := by simpa using h
    subst e
    rw [exs_cons]
    simp only [List.take_succ_cons, List.take_zero, szs_cons, szs_nil, Nat.add_zero, List.take_zero, List.nil_append, List.drop_succ_cons, List.drop_zero]
    rw [List.take_append_of_le_length (by rw [ex_len]; exact Nat.le_refl _), List.take_of_length_le (by rw [ex_len]; exact Nat.le_refl _)]
  | a :: r, f, b, i + 1, s, h => by
    have ih := exs_seg bd r (f + a.sz) b i s (by simpa using h)
    rw [exs_cons]
    simp only [List.take_succ_cons, szs_cons, List.drop_succ_cons]
    have e1 : ∀ n, (a.ex bd f (bgn r (f + a.sz) b) ++ exs bd r (f + a.sz) b).take (a.sz + n) = a.ex bd f (bgn r (f + a.sz) b) ++ (exs bd r (f + a.sz) b).take n := fun n => by
      have := List.take_length_add_append (l₁ := a.ex bd f (bgn r (f + a.sz) b)) (l₂ := exs bd r (f + a.sz) b) n
      rw [ex_len] at this
      exact this
    rw [e1, e1, ih, List.append_assoc, Nat.add_assoc, Nat.add_assoc]
/-- the rooms of the programs within a statement -/
def exP (bd : Bd) : List (List Stm) → Nat → Nat → List (List (Act × Nat))
  | [], _, _ => []
  | p :: r, f, b => exs bd p f b ++ exP bd r (f + szs p) b
theorem exP_take (bd : Bd) : ∀ (ps : List (List Stm)) (f b j : Nat) (p : List Stm), ps[j]? = some p → exP bd (ps.take (j + 1)) f b = exP bd (ps.take j) f b ++ exs bd p (f + ((ps.take j).map szs).sum) b
  | [], _, _, _, _, h => by simp at h
  | a :: r, f, b, 0, p, h => by
    have e : a = p := by simpa using h
    subst e
    simp [exP]
  | a :: r, f, b, j + 1, p, h => by
    have ih := exP_take bd r (f + szs a) b j p (by simpa using h)
    simp only [List.take_succ_cons, exP, ih, List.map_cons, List.sum_cons, List.append_assoc, Nat.add_assoc]
theorem exP_len (bd : Bd) : ∀ (ps : List (List Stm)) (f b : Nat), (exP bd ps f b).length = (ps.map szs).sum
  | [], _, _ => rfl
  | a :: r, f, b => by
    rw [exP, List.length_append, exs_len, exP_len bd r, List.map_cons, List.sum_cons]
theorem ex_parts {P : V → List Stm → Prop} {s : Stm} {p q : V} (h : PartsOk P s.kd p q s.pa s.pb) (bd : Bd) (i g : Nat) :
    s.ex bd i g = stepsK bd s.kd (bgn s.pa (i + 1) (bck s.kd i g)) (bgn s.pb (i + 1 + szs s.pa) (bck s.kd i g)) g :: exP bd s.parts (i + 1) (bck s.kd i g) := by
  rw [ex_eq]
  cases s with
  | mk k a b =>
    cases k with
    | iff c v => simp [Stm.parts, Stm.kd, Stm.pa, Stm.pb, exP]
    | choose => simp [Stm.parts, Stm.kd, Stm.pa, Stm.pb, exP]
    | whil c v =>
      have e : b = [] := h.2.2.2 (show 1 < 2 by decide)
      subst e
      simp [Stm.parts, Stm.kd, Stm.pa, Stm.pb, exP, exs_nil]
    | loop =>
      have e : b = [] := h.2.2.2 (show 1 < 2 by decide)
      subst e
      simp [Stm.parts, Stm.kd, Stm.pa, Stm.pb, exP, exs_nil]
    | _ =>
      have e : a = [] := h.2.1 rfl
      have e2 : b = [] := h.2.2.2 (show 0 < 2 by decide)
      subst e e2
      simp [Stm.parts, Stm.kd, Stm.pa, Stm.pb, exP, exs_nil]
/-- where the j-th part begins -/
theorem prt_bgn {s : Stm} {j : Nat} {pp : List Stm} (h : s.parts[j]? = some pp) (i b : Nat) :
    (s.kd.prt (.int (bgn s.pa (i + 1) b : Nat)) (.int (bgn s.pb (i + 1 + szs s.pa) b : Nat)))[j]? = some (.int ((bgn pp (i + 1 + ((s.parts.take j).map szs).sum) b : Nat) : Int)) := by
  cases s with
  | mk k a c =>
    cases k <;> simp only [Stm.parts, Stm.kd, Stm.pa, Stm.pb] at h <;> (first | (match j, h with | 0, h => (cases h; simp [Kd.prt, Stm.kd, Stm.parts, Stm.pa, Stm.pb]) | 1, h => (cases h; simp [Kd.prt, Stm.kd, Stm.parts, Stm.pa, Stm.pb])) | (match j, h with | 0, h => (cases h; simp [Kd.prt, Stm.kd, Stm.parts, Stm.pa, Stm.pb])) | (simp at h))
theorem prt_parts (s : Stm) (p q : V) : (s.kd.prt p q).length = s.parts.length := by
  cases s with
  | mk k a b => cases k <;> rfl
/-! ### where the exits stand -/
def StepsAt (K : PySem.W.Frag) (ex : Addr) (H : Hp) (v : V) (st : List (Act × Nat)) : Prop := ∃ l xs, v = .ref l ∧ l ≠ ex ∧ H l = some (.lst xs) ∧ Paired (StepR K H fun v (n : Nat) => v = .int n) xs st
def ExAt (K : PySem.W.Frag) (ex : Addr) (H : Hp) (es : List V) (f : Nat) (sts : List (List (Act × Nat))) : Prop := ∀ j st, sts[j]? = some st → ∃ v, es[f + j]? = some v ∧ StepsAt K ex H v st
theorem StepsAt.kx {K : PySem.W.Frag} {ex : Addr} {H H2 : Hp} {es : List V} (k : Kx ex H H2) (he : H ex = some (.lst es)) {v : V} {st : List (Act × Nat)} (h : StepsAt K ex H v st) : StepsAt K ex H2 v st := by
  obtain ⟨l, xs, e, n, a, b⟩ := h
  exact ⟨l, xs, e, n, k _ _ n a, b.mono fun _ _ z => z.fz (k.fz he) fun _ _ q => q⟩
theorem ExAt.kx {K : PySem.W.Frag} {ex : Addr} {H H2 : Hp} {es es2 es0 : List V} {f : Nat} {sts : List (List (Act × Nat))} (k : Kx ex H H2) (he : H ex = some (.lst es0)) (h : ExAt K ex H es f sts) (e : ∀ j, j < sts.length → es2[f + j]? = es[f + j]?) : ExAt K ex H2 es2 f sts := by
  intro j st hj
  obtain ⟨v, a, b⟩ := h j st hj
  have hl := (List.getElem?_eq_some_iff.mp hj).1
  exact ⟨v, by rw [e j hl]; exact a, b.kx k he⟩
theorem ExAt.app {K : PySem.W.Frag} {ex : Addr} {H : Hp} {es : List V} {f : Nat} {A B : List (List (Act × Nat))} (h1 : ExAt K ex H es f A) (h2 : ExAt K ex H es (f + A.length) B) : ExAt K ex H es f (A ++ B) := by
  intro j st hj
  by_cases h : j < A.length
  · exact h1 j st (by rw [List.getElem?_append_left h] at hj; exact hj)
  · rw [List.getElem?_append_right (by omega)] at hj
    obtain ⟨v, a, b⟩ := h2 _ st hj
    exact ⟨v, by rw [show f + j = f + A.length + (j - A.length) by omega]; exact a, b⟩
theorem ExAt.nil {K : PySem.W.Frag} {ex : Addr} {H : Hp} {es : List V} {f : Nat} : ExAt K ex H es f [] := fun j st h => by simp at h
/-- the machine while its exits are laid -/
def MchAt (K : PySem.W.Frag) (H : Hp) (m : Addr) (bd : Bd) (ex : Addr) : Prop := ∃ dm bv tv pl, H m = some (.ins (He.ga K "Machine") dm [("plan", bv), ("text", tv), ("places", .ref pl), ("exits", .ref ex)]) ∧ BAt K H bv bd
theorem MchAt.fz {K : PySem.W.Frag} {H H2 : Hp} {m : Addr} {bd : Bd} {ex : Addr} (z : Fz H H2) (h : MchAt K H m bd ex) : MchAt K H2 m bd ex := by
  obtain ⟨dm, bv, tv, pl, a, b⟩ := h
  exact ⟨dm, bv, tv, pl, z.ins _ _ _ _ a, b.fz z⟩
def spLayRow (K : PySem.W.Frag) (n : Nat) : Sp := fun vs H Q _ => ∃ (m : Addr) (v : V) (ss : List Stm) (f b : Nat) (bd : Bd) (ex : Addr) (es : List V), vs = [.ref m, v, .int f, .int b] ∧ MchAt K H m bd ex ∧ H ex = some (.lst es) ∧ PAt K H n v ss ∧ (∀ s ∈ pls ss, KG bd s.kd) ∧ f + szs ss ≤ es.length ∧
  ∀ H2 es2, Kx ex H H2 → H2 ex = some (.lst es2) → es2.length = es.length → (∀ i, (i < f ∨ f + szs ss ≤ i) → es2[i]? = es[i]?) → ExAt K ex H2 es2 f (exs bd ss f b) → Q .non H2
def spLay (K : PySem.W.Frag) (n : Nat) : Sp := fun vs H Q _ => ∃ (m : Addr) (v : V) (s : Stm) (f g : Nat) (bd : Bd) (ex : Addr) (es : List V), vs = [.ref m, v, .int f, .int g] ∧ MchAt K H m bd ex ∧ H ex = some (.lst es) ∧ SAt K H n v s ∧ (∀ t ∈ s.pl, KG bd t.kd) ∧ f + s.sz ≤ es.length ∧
  ∀ H2 es2, Kx ex H H2 → H2 ex = some (.lst es2) → es2.length = es.length → (∀ i, (i < f ∨ f + s.sz ≤ i) → es2[i]? = es[i]?) → ExAt K ex H2 es2 f (s.ex bd f g) → Q .non H2
/-! ### an if whose ways join -/
section
variable {X : Cx} {st : Stmt} {rest : List Stmt} {t u : TS}
def tCut (t u : TS) : TS := fun D σ H => ∃ M : L2.St → Hp → Prop, t { D with nx := M } σ H ∧ ∀ σ2 H2, M σ2 H2 → u D σ2 H2
theorem pss_cut (h1 : PS X st t) (h2 : PSs X rest u) : PSs X (st :: rest) (tCut t u) := by
  refine ⟨fun pins s σ H D I ⟨M, a, b⟩ => ?_⟩
  refine wpAny_execs_cons (thn (h1.run pins s σ H { D with nx := M } I a) fun f s1 q => ?_)
  cases f with
  | next =>
    obtain ⟨σ2, H2, I2, q⟩ := q
    exact h2.run pins s1 σ2 H2 D I2 (b σ2 H2 q)
  | ret v => exact q
  | brk => exact q
  | cont => exact q
end
end Mb


set_option Elab.async false
set_option linter.all false
set_option maxRecDepth 100000
set_option maxHeartbeats 4000000
/-! the steps of a row laid -/
namespace Mb
open PySem PySem.Spec PyProof.Rows L2
section
variable {P : Program} {w : World} {K : PySem.W.Frag} {mg : Str → Option Value} {base : Heap}
theorem sc_Machine_lay : FnScope ["self", "statement", "at", "goal", "begins", "inner", "back", "part"] ["self", "statement", "at", "goal"] (defScope s_Machine_lay) := ⟨rfl, rfl, rfl, by decide +kernel, rfl, by decide +kernel, by decide +kernel⟩
theorem lp_tag (k : Kd) : ((k.tag == 6) || (k.tag == 8)) = k.lp := by cases k <;> rfl
theorem part_sum {s : Stm} {j : Nat} {pp : List Stm} (h : s.parts[j]? = some pp) : ((s.parts.take j).map szs).sum + szs pp ≤ (s.parts.map szs).sum ∧ ((s.parts.take (j + 1)).map szs).sum = ((s.parts.take j).map szs).sum + szs pp := by
  obtain ⟨hj, e⟩ := List.getElem?_eq_some_iff.mp h
  have e1 : ((s.parts.take (j + 1)).map szs).sum = ((s.parts.take j).map szs).sum + szs pp := by
    rw [List.take_succ_eq_append_getElem hj, List.map_append, List.sum_append, e]
    simp
  have e3 := List.take_append_drop (j + 1) s.parts
  have e4 := congrArg (fun l => (List.map szs l).sum) e3
  simp only [List.map_append, List.sum_append] at e4
  omega
theorem plp_mem {s : Stm} {pp : List Stm} {j : Nat} (h : s.parts[j]? = some pp) {t : Stm} (ht : t ∈ pls pp) : t ∈ plp s.parts := by
  unfold plp
  exact List.mem_flatMap.mpr ⟨pp, List.mem_of_getElem? h, ht⟩
theorem st_lay (T : TX K mg) {n : Nat} (hL : Met P w K mg base (2 * n + 4) (He.ga K "Machine") "lay_row" (spLayRow K n)) : Met P w K mg base (2 * n + 5) (He.ga K "Machine") "lay" (spLay K n) := by
  refine metD (k := 2 * n + 4) (fn_Machine_lay T.c) (cls_of (f_cls_Machine T.c)) (meth_of (f_m_Machine_lay T.c)) sc_Machine_lay (fun _ _ _ _ _ _ us hl => match us, hl with | [_, _, _, _], _ => rfl) (fun vs H Q E h => by obtain ⟨m, v, s, f, g, bd, ex, es, rfl, _⟩ := h; rfl) (fun cdv A outer s0 H vs Q E hr h => ?_)
  obtain ⟨m, v, s, f, g, bd, ex, es, rfl, hM, hex, ⟨x, dx, p, q, rfl, hx, hp⟩, hkg, hlen, kk⟩ := h
  have c := T.c
  refine ⟨_, pss_cons (ps_set (i := 4) sc_Machine_lay.nd rfl (Or.inl rfl) (pe_lst pa_nil))
    (pss_cons (ps_set (i := 5) sc_Machine_lay.nd rfl (Or.inl rfl) (pe_op op_add (pv 2) pe_int))
    (pss_cons (ps_set (i := 6) sc_Machine_lay.nd rfl (Or.inl rfl) (pv 3))
    (pss_cut (ps_if (pt_val (pe_b call_isiT bb_isi (T.free (f_free_isinstance c)) (pa_cons (pv 1) (pa_cons (pe_tup (pa_cons (pe_gl (T.ref (f_glo_While c))) (pa_cons (pe_gl (T.ref (f_glo_Loop c))) pa_nil))) pa_nil)))) (pss_one (ps_set (i := 6) sc_Machine_lay.nd rfl (Or.inl rfl) (pv 2))) pss_nil)
    (pss_cons (ps_for PassesOwn.never rfl (pi_list (pe_mt0 (ok_parts T s.kd) hr (pv 1))) (pg_name (i := 7) sc_Machine_lay.nd rfl (Or.inl rfl))
      (pss_cons (ps_expr (pe_bm PySem.F.plainAttrs_list PySem.F.slot_list_append PySem.F.type_list_append mt_append (pv 4) (pa_cons (pe_mt (ok_begin T n) hr (pv 0) (pa_cons (pv 7) (pa_cons (pv 5) (pa_cons (pv 6) pa_nil)))) pa_nil)))
      (pss_cons (ps_expr (pe_mt hL hr (pv 0) (pa_cons (pv 7) (pa_cons (pv 5) (pa_cons (pv 6) pa_nil)))))
      (pss_one (ps_set (i := 5) sc_Machine_lay.nd rfl (Or.inl rfl) (pe_op op_add (pv 5) (pe_mt0 (ok_psize T n) hr (pv 7))))))))
    (pss_one (ps_asg (pe_mt (ok_steps_of T) hr (pv 0) (pa_cons (pv 1) (pa_cons (pv 4) (pa_cons (pv 3) pa_nil)))) (pg_sub (pe_fld (pv 0) rfl) (pv 2) set_list))))))), ?_⟩
  have hsl : (2000 : Nat) < sizeLine := by decide
  have cM := cls_of (f_cls_Machine c)
  refine ⟨(by show 0 ≤ sizeLine; decide), fun lb hlb => ?_⟩
  refine ⟨_, rfl, _, _, rfl, rfl, _, rfl, ?_⟩
  have s1 : Same H (upd H lb (.lst [])) := smU (Same.refl H) hlb
  have nlb : lb ≠ ex := (ne_of_none hex hlb).symm
  refine ⟨fun σ H2 => σ = [some (.ref m), some (.ref x), some (.int f), some (.int g), some (.ref lb), some (.int (f + 1 : Nat)), some (.int (bck s.kd f g : Nat)), none] ∧ Same H H2 ∧ H2 lb = some (.lst []), ?_, ?_⟩
  · refine rd_if2c (k := s.kd) rfl (s1 _ _ hx) T (is_While T s.kd) (is_Loop T s.kd) fun p0 hp0 => ?_
    have s2 := smN (o := .tup [.ref (He.ga K "While"), .ref (He.ga K "Loop")]) s1 hp0
    have e2 : (upd (upd H lb (.lst [])) p0 (.tup [.ref (He.ga K "While"), .ref (He.ga K "Loop")])) lb = some (.lst []) := by rw [upd_ne (ne_of_none upd_same hp0)]; exact upd_same
    cases e : s.kd.lp with
    | true =>
      refine iteB (by rw [lp_tag]; exact e) ⟨_, rfl, ?_, s2, e2⟩
      unfold bck
      rw [e]
      rfl
    | false =>
      refine iteN (by rw [lp_tag]; exact e) ⟨?_, s2, e2⟩
      unfold bck
      rw [e]
      rfl
  · rintro σ H2 ⟨rfl, s2, e2⟩
    generalize hbk : bck s.kd f g = bk
    have hpp := prt_at hp
    have hx2 := s2 _ _ hx
    have ssz := parts_sz hp
    refine ⟨_, rfl, x, dx, _, rfl, hx2, fl_parts _ _ _, x, dx, p, q, rfl, hx2, fun l hl => ⟨l, rfl, ⟨_, SqL.of upd_same⟩, ?_⟩⟩
    have s3 := smN (o := .lst (s.kd.prt p q)) s2 hl
    have nlx : l ≠ ex := (ne_of_none (s2 _ _ hex) hl).symm
    have nll : lb ≠ l := ne_of_none e2 hl
    have hl0 : H l = none := s2.free hl
    refine for_it (walk_list (xs := s.kd.prt p q)) (fun j σ H3 => (∃ v7 : Option V, σ = [some (.ref m), some (.ref x), some (.int f), some (.int g), some (.ref lb), some (.int (f + 1 + ((s.parts.take j).map szs).sum : Nat)), some (.int (bk : Nat)), v7]) ∧
      (∀ b o, b ≠ ex → H b = some o → H3 b = some o) ∧ H3 l = some (.lst (s.kd.prt p q)) ∧ H3 lb = some (.lst ((s.kd.prt (.int (bgn s.pa (f + 1) bk : Nat)) (.int (bgn s.pb (f + 1 + szs s.pa) bk : Nat))).take j)) ∧
      ∃ es2, H3 ex = some (.lst es2) ∧ es2.length = es.length ∧ (∀ i, (i < f + 1 ∨ f + 1 + ((s.parts.take j).map szs).sum ≤ i) → es2[i]? = es[i]?) ∧ ExAt K ex H3 es2 (f + 1) (exP bd (s.parts.take j) (f + 1) bk))
      ⟨⟨none, by rw [List.take_zero]; rfl⟩, fun b o _ e => s3 _ _ e, upd_same, by rw [upd_ne nll]; exact e2, es, s3 _ _ hex, rfl, fun i _ => rfl, ExAt.nil⟩ (fun j σ H3 _ q => SqL.of q.2.2.1) ?_ ?_
    · rintro j y σ H3 H4 hj ⟨⟨v7, rfl⟩, q1, q2, q3, es2, q4, q5, q6, q7⟩ ⟨rfl, hy⟩
      obtain ⟨pp, ht1, ht2⟩ := pair_at hpp hy
      have z4 : Fz H H4 := (show Kx ex H H4 from q1).fz hex
      have ht3 := PAt.fz z4 _ _ _ ht2
      obtain ⟨psum, psum1⟩ := part_sum ht1
      obtain ⟨dm, bv, tv, pl, hm, hB⟩ := hM.fz z4
      have hpb := prt_bgn ht1 f bk
      refine ⟨_, rfl, .inl ⟨rfl, _, SqL.of q3⟩, _, rfl, m, dm, _, rfl, hm, rfl, _, rfl, _, rfl, _, rfl, _, _, pp, _, _, rfl, ht3, ?_⟩
      have hlen2 : (s.kd.prt (V.int (bgn s.pa (f + 1) bk : Nat)) (.int (bgn s.pb (f + 1 + szs s.pa) bk : Nat))).length ≤ 2 := prt_len _ _ _
      refine ⟨lb, _, _, rfl, rfl, q3, by rw [List.length_take]; omega, ?_⟩
      have ebg : (if pp.isEmpty then ((bk : Nat) : Int) else ((f + 1 + ((s.parts.take j).map szs).sum : Nat) : Int)) = ((bgn pp (f + 1 + ((s.parts.take j).map szs).sum) bk : Nat) : Int) := by
        unfold bgn
        split <;> rfl
      rw [ebg]
      have etk : (s.kd.prt (V.int (bgn s.pa (f + 1) bk : Nat)) (.int (bgn s.pb (f + 1 + szs s.pa) bk : Nat))).take (j + 1) = (s.kd.prt (V.int (bgn s.pa (f + 1) bk : Nat)) (.int (bgn s.pb (f + 1 + szs s.pa) bk : Nat))).take j ++ [.int ((bgn pp (f + 1 + ((s.parts.take j).map szs).sum) bk : Nat) : Int)] := by
        obtain ⟨hj2, ej⟩ := List.getElem?_eq_some_iff.mp hpb
        rw [List.take_succ_eq_append_getElem hj2, ej]
      rw [← etk]
      have zl : Fz H4 (upd H4 lb (.lst ((s.kd.prt (V.int (bgn s.pa (f + 1) bk : Nat)) (.int (bgn s.pb (f + 1 + szs s.pa) bk : Nat))).take (j + 1)))) := Fz.lst q3
      refine ⟨_, rfl, m, dm, _, rfl, zl.ins _ _ _ _ hm, rfl, _, rfl, _, rfl, _, rfl, m, y, pp, _, _, bd, ex, es2, rfl, ⟨dm, bv, tv, pl, zl.ins _ _ _ _ hm, hB.fz zl⟩, by rw [upd_ne nlb.symm]; exact q4, PAt.fz zl _ _ _ ht3, fun t ht => hkg t (by rw [parts_pl hp]; exact List.mem_cons_of_mem _ (plp_mem ht1 ht)), by omega, fun H5 es5 k5 e5 l5 o5 x5 => ?_⟩
      have kx5 : Kx ex H H5 := fun b o n e => k5 _ _ n (by
        have hbl : b ≠ lb := fun z => by rw [z] at e; rw [hlb] at e; cases e
        rw [upd_ne hbl]
        exact q1 b o n e)
      have z5 : Fz H H5 := kx5.fz hex
      have ht5 := PAt.fz z5 _ _ _ ht2
      obtain ⟨y1, dy, ty, rfl, hy1⟩ := ht5.ref
      refine ⟨_, rfl, _, rfl, y1, dy, _, rfl, hy1, rfl, _, pp, rfl, ht5, fun H6 s6 => ⟨_, _, rfl, rfl, ?_⟩⟩
      refine ⟨⟨some (.ref y1), ?_⟩, fun b o n e => s6 _ _ (kx5 b o n e), s6 _ _ (k5 _ _ nlx (by rw [upd_ne nll.symm]; exact q2)), s6 _ _ (k5 _ _ nlb upd_same), es5, s6 _ _ e5, by omega, fun i hi => ?_, ?_⟩
      · rw [psum1]
        show [some (V.ref m), some (.ref x), some (.int f), some (.int g), some (.ref lb), some (.int (((f + 1 + ((s.parts.take j).map szs).sum : Nat) : Int) + ((szs pp : Nat) : Int))), some (.int (bk : Nat)), some (.ref y1)] = _
        rw [show (((f + 1 + ((s.parts.take j).map szs).sum : Nat) : Int) + ((szs pp : Nat) : Int)) = ((f + 1 + (((s.parts.take j).map szs).sum + szs pp) : Nat) : Int) by omega]
      · rw [o5 i (by omega)]
        exact q6 i (by omega)
      · rw [exP_take bd _ _ _ _ _ ht1]
        have k6 : Kx ex H5 H6 := Kx.of s6
        have q7b : ExAt K ex H5 es5 (f + 1) (exP bd (s.parts.take j) (f + 1) bk) := by
          intro a st ha
          obtain ⟨v1, a1, l1, xs1, b1, b2, b3, b4⟩ := q7 a st ha
          have hal := (List.getElem?_eq_some_iff.mp ha).1
          rw [exP_len] at hal
          have n1 : l1 ≠ lb := fun z => by
            rw [z, q3] at b3
            have b5 : (s.kd.prt (V.int (bgn s.pa (f + 1) bk : Nat)) (.int (bgn s.pb (f + 1 + szs s.pa) bk : Nat))).take j = xs1 := HO.lst.inj (Option.some.inj b3)
            have hj1 : 0 < j := by
              rcases Nat.eq_zero_or_pos j with z0 | z0
              · rw [z0, List.take_zero] at ha
                simp [exP] at ha
              · exact z0
            have hpl : 0 < s.parts.length := Nat.lt_of_le_of_lt (Nat.zero_le _) (List.getElem?_eq_some_iff.mp ht1).1
            have b6 := prt_bgn (List.getElem?_eq_getElem hpl) f bk
            have b7 : xs1[0]? = some (.int ((bgn s.parts[0] (f + 1 + ((s.parts.take 0).map szs).sum) bk : Nat) : Int)) := by
              rw [← b5, List.getElem?_take_of_lt hj1]
              exact b6
            obtain ⟨_, _, tt, _, _, b8, _⟩ := pair_at b4 b7
            cases b8
          have zz : Fz H4 H5 := zl.trans (k5.fz (by rw [upd_ne nlb.symm]; exact q4))
          exact ⟨v1, by rw [o5 _ (by omega)]; exact a1, l1, xs1, b1, b2, k5 _ _ b2 (by rw [upd_ne n1]; exact b3), b4.mono fun _ _ z => z.fz zz fun _ _ q => q⟩
        refine ExAt.app (q7b.kx k6 e5 fun _ _ => rfl) ?_
        rw [exP_len]
        exact x5.kx k6 e5 fun _ _ => rfl
    · rintro σ H3 ⟨⟨v7, rfl⟩, q1, q2, q3, es2, q4, q5, q6, q7⟩
      have z3 : Fz H H3 := (show Kx ex H H3 from q1).fz hex
      have hall : s.parts.take (s.kd.prt p q).length = s.parts := List.take_of_length_le (by rw [hpp.length]; exact Nat.le_refl _)
      rw [hall] at q6 q7
      have hall2 : (s.kd.prt (V.int (bgn s.pa (f + 1) bk : Nat)) (.int (bgn s.pb (f + 1 + szs s.pa) bk : Nat))).take (s.kd.prt p q).length = s.kd.prt (V.int (bgn s.pa (f + 1) bk : Nat)) (.int (bgn s.pb (f + 1 + szs s.pa) bk : Nat)) :=
        List.take_of_length_le (by rw [prt_parts, prt_parts]; exact Nat.le_refl _)
      rw [hall2] at q3
      obtain ⟨dm, bv, tv, pl, hm, hB⟩ := hM.fz z3
      have hkg1 : KG bd s.kd := hkg s (by rw [pl_eq]; exact List.mem_cons_self)
      refine ⟨_, rfl, m, dm, _, rfl, hm, rfl, _, rfl, _, rfl, _, rfl, m, dm, _, bv, x, dx, s.kd, p, q, lb, bgn s.pa (f + 1) bk, bgn s.pb (f + 1 + szs s.pa) bk, g, bd, rfl, hm, rfl, rfl, hB, z3.ins _ _ _ _ hx, hkg1, q3, fun l9 xs H6 nl9 s6 e6 st6 => ?_⟩
      have nlex : l9 ≠ ex := fun z => by rw [z, q4] at nl9; cases nl9
      have q46 := s6 _ _ q4
      have hfl : f < es2.length := by omega
      refine ⟨_, rfl, m, _, dm, _, _, rfl, s6 _ _ hm, cM, no_of (f_no_Machine_exits c), rfl, _, rfl, ex, es2, _, f, rfl, rfl, q46, ?_, ?_⟩
      · unfold ixN
        rw [if_pos (by omega), if_pos (by omega)] <;> rfl
      · have z6 : Fz H6 (upd H6 ex (.lst (es2.set f (.ref l9)))) := Fz.lst q46
        refine kk _ (es2.set f (.ref l9)) ((show Kx ex H H3 from q1).trans (Kx.of s6)).wr upd_same (by rw [List.length_set]; exact q5) (fun i hi => ?_) ?_
        · rw [List.getElem?_set_ne (by omega)]
          exact q6 i (by omega)
        · rw [ex_parts hp, hbk]
          have a1 : ExAt K ex (upd H6 ex (.lst (es2.set f (.ref l9)))) (es2.set f (.ref l9)) f [stepsK bd s.kd (bgn s.pa (f + 1) bk) (bgn s.pb (f + 1 + szs s.pa) bk) g] := by
            intro j st hj
            match j, hj with
            | 0, hj =>
              cases hj
              exact ⟨.ref l9, by rw [Nat.add_zero, List.getElem?_set_self hfl], l9, xs, rfl, nlex, by rw [upd_ne nlex]; exact e6, st6.mono fun _ _ z => z.fz z6 fun _ _ q => q⟩
          refine ExAt.app (A := [stepsK bd s.kd (bgn s.pa (f + 1) bk) (bgn s.pb (f + 1 + szs s.pa) bk) g]) a1 ?_
          exact q7.kx ((Kx.of s6).wr) q4 fun j hj => by
            show (es2.set f (.ref l9))[f + 1 + j]? = es2[f + 1 + j]?
            rw [List.getElem?_set_ne (by omega)]
end
end Mb


set_option Elab.async false
set_option linter.all false
set_option maxRecDepth 100000
set_option maxHeartbeats 4000000
/-! a row laid -/
namespace Mb
open PySem PySem.Spec PyProof.Rows L2
section
variable {P : Program} {w : World} {K : PySem.W.Frag} {mg : Str → Option Value} {base : Heap}
theorem sc_Machine_lay_row : FnScope ["self", "program", "first", "behind", "at", "k", "statement", "after", "goal"] ["self", "program", "first", "behind"] (defScope s_Machine_lay_row) := ⟨rfl, rfl, rfl, by decide +kernel, rfl, by decide +kernel, by decide +kernel⟩
theorem szs_tk {ss : List Stm} {i : Nat} {s : Stm} (h : ss[i]? = some s) : szs (ss.take (i + 1)) = szs (ss.take i) + s.sz := by
  have l1 := congrArg List.length (pls_take h)
  rw [List.length_append, pls_len, pls_len, pl_len] at l1
  exact l1
theorem drop_emp {α : Type} {l : List α} {i : Nat} : (l.drop i).isEmpty = decide (l.length ≤ i) := by
  cases h : (l.drop i).isEmpty with
  | true =>
    have := List.isEmpty_iff.mp h
    have := congrArg List.length this
    rw [List.length_drop] at this
    exact (decide_eq_true (by simpa using Nat.sub_eq_zero_iff_le.mp this)).symm
  | false =>
    refine (decide_eq_false fun q => ?_).symm
    rw [List.drop_of_length_le q] at h
    cases h
theorem st_lay_row (T : TX K mg) {n : Nat} (hL : Met P w K mg base (2 * n + 5) (He.ga K "Machine") "lay" (spLay K n)) : Met P w K mg base (2 * (n + 1) + 4) (He.ga K "Machine") "lay_row" (spLayRow K (n + 1)) := by
  refine metD (k := 2 * n + 5) (fn_Machine_lay_row T.c) (cls_of (f_cls_Machine T.c)) (meth_of (f_m_Machine_lay_row T.c)) sc_Machine_lay_row (fun _ _ _ _ _ _ us hl => match us, hl with | [_, _, _, _], _ => rfl) (fun vs H Q E h => by obtain ⟨m, v, s, f, g, bd, ex, es, rfl, _⟩ := h; rfl) (fun cdv A outer s0 H vs Q E hr h => ?_)
  obtain ⟨m, v, ss, f, b, bd, ex, es, rfl, hM, hex, ⟨x, dx, t, as, rfl, hx, ht, h24, hp⟩, hkg, hlen, kk⟩ := h
  have c := T.c
  have nd := sc_Machine_lay_row.nd
  refine ⟨_, pss_cons (ps_set (i := 4) nd rfl (Or.inl rfl) (pv 2))
    (pss_one (ps_for PassesOwn.never rfl (pi_enT (T.free (f_free_enumerate c)) (pa_cons (pe_fld (pv 1) rfl) pa_nil)) (pg_tup rfl (pgs_cons (pg_name (i := 5) nd rfl (Or.inl rfl)) (pgs_cons (pg_name (i := 6) nd rfl (Or.inl rfl)) pgs_nil)))
      (pss_ex fun k : Kd => pss_cons (ps_set (i := 7) nd rfl (Or.inl rfl) (pe_op op_add (pv 4) (pe_mt0 (ok_ssize T n k) hr (pv 6))))
        (pss_cons (ps_set (i := 8) nd rfl (Or.inl rfl) (pv 7))
        (pss_cut (ps_if (pt_cmpR op_eq (pe_op op_add (pv 5) pe_int) (pe_b call_len_seq bb_len (T.free (f_free_len c)) (pa_cons (pe_fld (pv 1) rfl) pa_nil)) (nomark _)) (pss_one (ps_set (i := 8) nd rfl (Or.inl rfl) (pv 3))) pss_nil)
        (pss_cons (ps_expr (pe_mt hL hr (pv 0) (pa_cons (pv 6) (pa_cons (pv 4) (pa_cons (pv 8) pa_nil)))))
        (pss_one (ps_set (i := 4) nd rfl (Or.inl rfl) (pv 7))))))))), ?_⟩
  have cP := cls_of (f_cls_Program c)
  have nR := no_of (f_no_Program_row c)
  have hl := hp.length
  refine ⟨_, rfl, _, rfl, x, _, dx, _, _, rfl, hx, cP, nR, rfl, t, as, rfl, SqT.of ht, for_it (walk_enT (xs := as)) (fun i σ H2 => (∃ v5 v6 v7 v8 : Option V, σ = [some (.ref m), some (.ref x), some (.int f), some (.int b), some (.int (f + szs (ss.take i) : Nat)), v5, v6, v7, v8]) ∧ Kx ex H H2 ∧
    ∃ es2, H2 ex = some (.lst es2) ∧ es2.length = es.length ∧ (∀ i2, (i2 < f ∨ f + szs (ss.take i) ≤ i2) → es2[i2]? = es[i2]?) ∧ ExAt K ex H2 es2 f ((exs bd ss f b).take (szs (ss.take i))))
    ⟨⟨none, none, none, none, by rw [List.take_zero, szs_nil]; rfl⟩, Kx.refl ex H, es, hex, rfl, fun _ _ => rfl, by rw [List.take_zero, szs_nil, List.take_zero]; exact ExAt.nil⟩ (fun i σ H2 _ q => SqT.of ((q.2.1.fz hex).tup _ _ ht)) ?_ ?_⟩
  · rintro i y σ H1 H2 hi ⟨⟨v5, v6, v7, v8, rfl⟩, q1, es2, q2, q3, q4, q5⟩ ⟨tp, a1, a2, rfl, htp, rfl, e1, e2⟩
    cases e1
    obtain ⟨s, hs1, hs2⟩ := pair_at hp e2
    have kx1 : Kx ex H (upd H1 tp (.tup [.int (i : Nat), a2])) := q1.trans (Kx.of (smU (Same.refl _) htp))
    have z1 := kx1.fz hex
    have hs3 := SAt.fz z1 hs2
    obtain ⟨y1, dy, p, q, rfl, hy1, hpa⟩ := id hs3
    have hsz := szs_tk hs1
    have hszl := szs_take ss (i + 1)
    have q2' : (upd H1 tp (.tup [.int (i : Nat), .ref y1])) ex = some (.lst es2) := by rw [upd_ne (ne_of_none q2 htp)]; exact q2
    refine ⟨tp, _, rfl, SqT.of upd_same, rfl, _, _, rfl, _, _, rfl, rfl, ?_⟩
    refine ⟨s.kd, _, rfl, _, rfl, y1, dy, _, rfl, hy1, fl_size _ _ _, _, s, rfl, hs3, fun H3 s3 => ⟨_, _, rfl, rfl, ?_⟩⟩
    have kx3 : Kx ex H H3 := kx1.trans (Kx.of s3)
    have z3 := kx3.fz hex
    refine ⟨_, rfl, ?_⟩
    refine ⟨fun σ H4 => H4 = H3 ∧ σ = [some (.ref m), some (.ref x), some (.int f), some (.int b), some (.int (f + szs (ss.take i) : Nat)), some (.int (i : Nat)), some (.ref y1), some (.int (f + szs (ss.take (i + 1)) : Nat)), some (.int (bgn (ss.drop (i + 1)) (f + szs (ss.take (i + 1))) b : Nat))], ?_, ?_⟩
    · refine ⟨_, rfl, _, _, rfl, rfl, _, rfl, x, _, dx, _, _, rfl, z3.ins _ _ _ _ hx, cP, nR, rfl, t, as, rfl, .inr (SqT.of (z3.tup _ _ ht)), rfl, _, rfl, ?_⟩
      have e7 : ((f + szs (ss.take i) : Nat) : Int) + ((s.sz : Nat) : Int) = ((f + szs (ss.take (i + 1)) : Nat) : Int) := by omega
      by_cases hlast : ss.length ≤ i + 1
      · refine iteB (decide_eq_true (by show V.int (((i : Nat) : Int) + 1) = V.int ((as.length : Nat) : Int); rw [show ((i : Nat) : Int) + 1 = ((as.length : Nat) : Int) by omega])) ⟨_, rfl, rfl, ?_⟩
        rw [← e7]
        unfold bgn
        rw [drop_emp, decide_eq_true hlast, if_pos rfl]
        rfl
      · refine iteN (decide_eq_false fun z => hlast ?_) ⟨rfl, ?_⟩
        · have := V.int.inj z
          omega
        · rw [← e7]
          unfold bgn
          rw [drop_emp, decide_eq_false hlast, if_neg Bool.false_ne_true, ← e7]
          rfl
    · rintro σ H4 ⟨rfl, rfl⟩
      obtain ⟨dm, bv, tv, pl, hm, hB⟩ := hM.fz z3
      have q23 := s3 _ _ q2'
      refine ⟨_, rfl, m, dm, _, rfl, hm, rfl, _, rfl, _, rfl, _, rfl, m, _, s, f + szs (ss.take i), bgn (ss.drop (i + 1)) (f + szs (ss.take (i + 1))) b, bd, ex, es2, rfl, ⟨dm, bv, tv, pl, hm, hB⟩, q23, SAt.fz (Fz.of s3) hs3, fun t ht => hkg t ?_, by omega, fun H5 es5 k5 e5 l5 o5 x5 => ?_⟩
      · have := pls_app (ss.take (i + 1)) (ss.drop (i + 1))
        rw [List.take_append_drop] at this
        rw [this, pls_take hs1]
        exact List.mem_append_left _ (List.mem_append_right _ ht)
      · refine ⟨_, rfl, ⟨_, _, _, _, rfl⟩, kx3.trans k5, es5, e5, by omega, fun i2 hi2 => ?_, ?_⟩
        · rw [o5 i2 (by omega)]
          exact q4 i2 (by omega)
        · rw [exs_seg bd ss f b i s hs1]
          have ltk : ((exs bd ss f b).take (szs (ss.take i))).length = szs (ss.take i) := by
            rw [List.length_take, exs_len]
            omega
          refine ExAt.app ?_ (by rw [ltk]; exact x5)
          exact (q5.kx ((Kx.of (smU (Same.refl _) htp)).trans (Kx.of s3)) q2 fun _ _ => rfl).kx k5 q23 fun j hj => o5 _ (by omega)
  · rintro σ H1 ⟨⟨v5, v6, v7, v8, rfl⟩, q1, es2, q2, q3, q4, q5⟩
    have hall : ss.take as.length = ss := List.take_of_length_le (by omega)
    rw [hall] at q4 q5
    rw [List.take_of_length_le (by rw [exs_len]; exact Nat.le_refl _)] at q5
    exact kk H1 es2 q1 q2 q3 q4 q5
theorem ok_lay_row (T : TX K mg) : ∀ n : Nat, Met P w K mg base (2 * n + 4) (He.ga K "Machine") "lay_row" (spLayRow K n)
  | 0 => by
    refine metD (k := 3) (fn_Machine_lay_row T.c) (cls_of (f_cls_Machine T.c)) (meth_of (f_m_Machine_lay_row T.c)) sc_Machine_lay_row (fun _ _ _ _ _ _ us hl => match us, hl with | [_, _, _, _], _ => rfl) (fun vs H Q E h => by obtain ⟨m, v, s, f, g, bd, ex, es, rfl, _⟩ := h; rfl) (fun cdv A outer s0 H vs Q E hr h => ?_)
    obtain ⟨m, v, ss, f, b, bd, ex, es, _, _, _, h1, _⟩ := h
    exact h1.elim
  | n + 1 => st_lay_row T (st_lay T (ok_lay_row T n))
end
end Mb


set_option Elab.async false
set_option linter.all false
set_option maxRecDepth 100000
set_option maxHeartbeats 4000000
/-! machines made and asked -/
namespace Mb
open PySem PySem.Spec PyProof.Rows L2
/-- the steps by rooms, the end behind them -/
def exM (bd : Bd) (ss : List Stm) : List (List (Act × Nat)) := exs bd ss 0 (szs ss) ++ [[]]
theorem exM_len (bd : Bd) (ss : List Stm) : (exM bd ss).length = szs ss + 1 := by unfold exM; rw [List.length_append, exs_len]; rfl
def MAt (K : PySem.W.Frag) (H : Hp) (n : Nat) (v : V) (bd : Bd) (ss : List Stm) : Prop := ∃ x dx bv tv pl ex as es, v = .ref x ∧ H x = some (.ins (He.ga K "Machine") dx [("plan", bv), ("text", tv), ("places", .ref pl), ("exits", .ref ex)]) ∧
  H pl = some (.lst as) ∧ Paired (SAt K H n) as (pls ss) ∧ szs ss ≤ 24 ∧ H ex = some (.lst es) ∧ es.length = szs ss + 1 ∧ ExAt K ex H es 0 (exM bd ss)
theorem MAt.same {K : PySem.W.Frag} {H H2 : Hp} {n : Nat} {v : V} {bd : Bd} {ss : List Stm} (s : Same H H2) (h : MAt K H n v bd ss) : MAt K H2 n v bd ss := by
  obtain ⟨x, dx, bv, tv, pl, ex, as, es, e, a, b, c, d, f, g, i⟩ := h
  exact ⟨x, dx, bv, tv, pl, ex, as, es, e, s _ _ a, s _ _ b, Rows.fz (Fz.of s) c, d, s _ _ f, g, i.kx (Kx.of s) f fun _ _ => rfl⟩
def Kd.cel (k : Kd) : Bool := (k.tag == 0) || ((k.tag == 1) || ((k.tag == 5) || (k.tag == 6)))
def spMachI (K : PySem.W.Frag) (n : Nat) : Sp := fun vs H Q _ => ∃ (x dx : Addr) (bv pv : V) (ss : List Stm) (bd : Bd) (H0 : Hp), vs = [.ref x, bv, pv] ∧ H x = some (.ins (He.ga K "Machine") dx []) ∧ Same H0 H ∧ H0 x = none ∧ BAt K H0 bv bd ∧ PAt K H0 n pv ss ∧ (∀ s ∈ pls ss, KG bd s.kd) ∧
  ∀ H2, Same H0 H2 → MAt K H2 n (.ref x) bd ss → Q .non H2
def spAskedM (K : PySem.W.Frag) (n : Nat) : Sp := fun vs H Q _ => ∃ (v : V) (r : Nat) (bd : Bd) (ss : List Stm), vs = [v, .int r] ∧ MAt K H n v bd ss ∧ r ≤ szs ss ∧ Q .non H
def spSteps (K : PySem.W.Frag) (n : Nat) : Sp := fun vs H Q _ => ∃ (v : V) (r : Nat) (bd : Bd) (ss : List Stm) (st : List (Act × Nat)), vs = [v, .int r] ∧ MAt K H n v bd ss ∧ (exM bd ss)[r]? = some st ∧ ∀ l xs H2, Same H H2 → H2 l = some (.lst xs) → Paired (StepR K H2 fun v (n : Nat) => v = .int n) xs st → Q (.ref l) H2
def markV (o : Option Stm) : V := match o with
  | some (.mk (.mark n) _ _) => .str n
  | _ => .non
def spMarkOf (K : PySem.W.Frag) (n : Nat) : Sp := fun vs H Q _ => ∃ (v : V) (r : Nat) (bd : Bd) (ss : List Stm), vs = [v, .int r] ∧ MAt K H n v bd ss ∧ r ≤ szs ss ∧ Q (markV (pls ss)[r]?) H
section
variable {P : Program} {w : World} {K : PySem.W.Frag} {mg : Str → Option Value} {base : Heap}
theorem kd_cell (T : TX K mg) (k : Kd) (h : k.cel = true) : Cls K (He.ga K k.cn) ∧ NoAttr K (He.ga K k.cn) "cell" ∧ NoAttr K (He.ga K k.cn) "value" ∧ ∃ c v, (∀ p q, (k.fl p q).lookup ("cell" : Str) = some (.str c)) ∧ (∀ p q, (k.fl p q).lookup ("value" : Str) = some (.str v)) ∧ ∀ bd, KG bd k → ∃ us, bd c = some us ∧ v ∈ us := by
  have c := T.c
  cases k with
  | write a b => exact ⟨cls_of (f_cls_Write c), no_of (f_no_Write_cell c), no_of (f_no_Write_value c), a, b, fun _ _ => rfl, fun _ _ => rfl, fun _ h => h⟩
  | wait a b => exact ⟨cls_of (f_cls_Wait c), no_of (f_no_Wait_cell c), no_of (f_no_Wait_value c), a, b, fun _ _ => rfl, fun _ _ => rfl, fun _ h => h⟩
  | iff a b => exact ⟨cls_of (f_cls_If c), no_of (f_no_If_cell c), no_of (f_no_If_value c), a, b, fun _ _ => rfl, fun _ _ => rfl, fun _ h => h⟩
  | whil a b => exact ⟨cls_of (f_cls_While c), no_of (f_no_While_cell c), no_of (f_no_While_value c), a, b, fun _ _ => rfl, fun _ _ => rfl, fun _ h => h⟩
  | _ => cases h
theorem sc_Machine_init : FnScope ["self", "board", "program", "statement"] ["self", "board", "program"] (defScope s_Machine_init) := ⟨rfl, rfl, rfl, by decide +kernel, rfl, by decide +kernel, by decide +kernel⟩
theorem ok_Machine (T : TX K mg) (n : Nat) : Mak P w K mg base (2 * n + 5) "Machine" (He.ga K "Machine") (spMachI K n) := by
  refine makD (k := 2 * n + 4) (fn_Machine_init T.c) (mk_of (f_mk_Machine T.c)) (T.glo (f_glo_Machine T.c)) sc_Machine_init (fun _ _ _ _ _ _ us hl => match us, hl with | [_, _, _], _ => rfl) (fun vs H Q E h => by obtain ⟨x, dx, bv, pv, ss, bd, H0, rfl, _⟩ := h; rfl) (fun cdv A outer s0 H vs Q E hr h => ?_)
  obtain ⟨x, dx, bv, tv, ss, bd, H0, rfl, hx, hs0, hn0, hB, hP, hkg, kk⟩ := h
  have c := T.c
  have nd := sc_Machine_init.nd
  refine ⟨_, pss_cons (ps_fld (pv 0) (pv 1) rfl) (pss_cons (ps_fld (pv 0) (pv 2) rfl) (pss_cons (ps_fld (pv 0) (pe_lst pa_nil) rfl)
    (pss_cons (ps_expr (pe_mt (ok_number T n) hr (pv 0) (pa_cons (pv 2) pa_nil)))
    (pss_cons (ps_for PassesOwn.never rfl (pi_list (pe_fld (pv 0) rfl)) (pg_name (i := 3) nd rfl (Or.inl rfl))
      (pss_one (ps_if (pt_val (pe_b call_isiT bb_isi (T.free (f_free_isinstance c)) (pa_cons (pv 3) (pa_cons (pe_tup (pa_cons (pe_gl (T.ref (f_glo_Write c))) (pa_cons (pe_gl (T.ref (f_glo_Wait c))) (pa_cons (pe_gl (T.ref (f_glo_If c))) (pa_cons (pe_gl (T.ref (f_glo_While c))) pa_nil))))) pa_nil))))
        (pss_one (ps_expr (pe_mt (ok_askedB T) hr (pv 1) (pa_cons (pe_fld (pv 3) rfl) (pa_cons (pe_fld (pv 3) rfl) pa_nil))))) pss_nil)))
    (pss_cons (ps_fld (pv 0) (pe_lc (own := [("statement", 3)]) (g := gName 3) (tt := tYes) rfl nd (pi_list (pe_fld (pv 0) rfl)) (blkOk_by (N := ["self", "board", "program", "statement"]) (sc := defScope s_Machine_init) (by decide +kernel))
        (fun _ _ _ _ _ => pg_name (i := 3) nd rfl (Or.inl rfl)) (fun _ _ _ _ _ => pts_nil) (fun _ _ _ _ _ => pe_lst pa_nil)) rfl)
    (pss_cons (ps_expr (pe_bm PySem.F.plainAttrs_list PySem.F.slot_list_append PySem.F.type_list_append mt_append (pe_fld (pv 0) rfl) (pa_cons (pe_lst pa_nil) pa_nil)))
    (pss_one (ps_expr (pe_mt (ok_lay_row T n) hr (pv 0) (pa_cons (pv 2) (pa_cons pe_int (pa_cons (pe_b call_len_seq bb_len (T.free (f_free_len c)) (pa_cons (pe_fld (pv 0) rfl) pa_nil)) pa_nil)))))))))))), ?_⟩
  have hsl : (2000 : Nat) < sizeLine := by decide
  have cM := cls_of (f_cls_Machine c)
  have h24 := hP.few
  -- plan, text, places
  refine ⟨_, rfl, _, rfl, x, _, dx, _, rfl, hx, cM, no_of (f_no_Machine_plan c), (by show 0 < 1000; decide), ?_⟩
  refine ⟨_, rfl, _, rfl, x, _, dx, _, rfl, upd_same, cM, no_of (f_no_Machine_text c), (by show 1 < 1000; decide), ?_⟩
  refine ⟨(by show 0 ≤ sizeLine; decide), fun pl hpl => ?_⟩
  have nxp : x ≠ pl := ne_of_none upd_same hpl
  have sA : Same H0 (upd (upd H x (.ins (He.ga K "Machine") dx [("plan", bv)])) x (.ins (He.ga K "Machine") dx [("plan", bv), ("text", tv)])) := smU (smU hs0 hn0) hn0
  have npl : H0 pl = none := sA.free hpl
  refine ⟨_, rfl, x, _, dx, _, rfl, by rw [upd_ne nxp]; exact upd_same, cM, no_of (f_no_Machine_places c), (by show 2 < 1000; decide), ?_⟩
  have sB : Same H0 (upd (upd (upd (upd H x (.ins (He.ga K "Machine") dx [("plan", bv)])) x (.ins (He.ga K "Machine") dx [("plan", bv), ("text", tv)])) pl (.lst [])) x (.ins (He.ga K "Machine") dx [("plan", bv), ("text", tv), ("places", .ref pl)])) := smU (smU sA npl) hn0
  have eB : (upd (upd (upd (upd H x (.ins (He.ga K "Machine") dx [("plan", bv)])) x (.ins (He.ga K "Machine") dx [("plan", bv), ("text", tv)])) pl (.lst [])) x (.ins (He.ga K "Machine") dx [("plan", bv), ("text", tv), ("places", .ref pl)])) pl = some (.lst []) := by rw [upd_ne nxp.symm]; exact upd_same
  -- number_row
  refine ⟨_, rfl, x, dx, _, rfl, upd_same, rfl, _, rfl, x, dx, _, tv, ss, pl, [], H0, rfl, Fz.of sB, upd_same, rfl, rfl, eB, by show 0 + szs ss ≤ 1000; omega, hP, fun as H1 k1 e1 p1 => ?_⟩
  have sC : Same H0 H1 := fun b o e => k1 _ _ (fun z => by rw [z] at e; rw [npl] at e; cases e) (sB b o e)
  have x1 : H1 x = some (.ins (He.ga K "Machine") dx [("plan", bv), ("text", tv), ("places", .ref pl)]) := k1 _ _ nxp upd_same
  have e1 : H1 pl = some (.lst as) := e1
  have la := p1.length
  rw [pls_len] at la
  -- each statement asked
  refine ⟨_, rfl, x, _, dx, _, _, rfl, x1, cM, no_of (f_no_Machine_places c), rfl, pl, rfl, ⟨_, SqL.of e1⟩, for_it (walk_list (xs := as)) (fun i σ H2 => (∃ v3 : Option V, σ = [some (.ref x), some bv, some tv, v3]) ∧ Same H1 H2) ⟨⟨none, rfl⟩, Same.refl H1⟩ (fun i σ H2 _ q => SqL.of (q.2 _ _ e1)) ?_ ?_⟩
  · rintro i y σ H2 H3 hi ⟨⟨v3, rfl⟩, q1⟩ ⟨rfl, hy⟩
    obtain ⟨s, hs1, hs2⟩ := pair_at p1 hy
    obtain ⟨y1, dy, p, q, rfl, hy1, hpa⟩ := SAt.fz (Fz.of (sC.trans q1)) hs2
    refine rd_if4c (k := s.kd) rfl hy1 T (is_Write T _) (is_Wait T _) (is_If T _) (is_While T _) fun H4 s4 => ?_
    cases hc : s.kd.cel with
    | false => exact iteN hc ⟨⟨_, rfl⟩, q1.trans s4⟩
    | true =>
      obtain ⟨c1, c2, c3, cc, vv, c4, c5, c6⟩ := kd_cell T s.kd hc
      obtain ⟨us, hu1, hu2⟩ := c6 bd (hkg s (List.mem_of_getElem? hs1))
      have hB4 := hB.fz (Fz.of ((sC.trans q1).trans s4))
      obtain ⟨b, db, tb, d, kvs, rfl, hb, _⟩ := id hB4
      refine iteB hc ⟨_, rfl, b, db, _, rfl, hb, rfl, _, rfl, y1, _, dy, _, _, rfl, s4 _ _ hy1, c1, c2, c4 _ _, _, rfl, y1, _, dy, _, _, rfl, s4 _ _ hy1, c1, c3, c5 _ _, _, cc, vv, bd, us, rfl, hB4, hu1, hu2, fun H5 s5 => ?_⟩
      exact ⟨⟨_, rfl⟩, (q1.trans s4).trans s5⟩
  · rintro σ H2 ⟨⟨v3, rfl⟩, q1⟩
    have x2 := q1 _ _ x1
    have e2 := q1 _ _ e1
    -- exits
    refine ⟨_, rfl, x, _, dx, _, _, rfl, x2, cM, no_of (f_no_Machine_places c), rfl, pl, rfl, ⟨_, SqL.of e2⟩, fun D hD => ?_⟩
    have hn : as.length ≤ sizeLine := le_sl (m := 2000) (by omega) (by decide)
    refine lc_n (walk_list (xs := as)) (fun i acc H3 => Same H2 H3) (smU (Same.refl _) hD) (fun i acc H3 _ _ q => SqL.of (q _ _ e2)) (fun _ => rfl) ?_ ?_
    · rintro i y acc H3 H4 hi f1 f2 q2 ⟨rfl, hy⟩
      refine ⟨(by show 0 ≤ sizeLine; decide), fun l hl => ?_⟩
      exact acc_end hi hn f1 (by rw [upd_ne (ne_of_none f2 hl)]; exact f2) (smU (smN q2 hl) hD)
    · rintro acc H3 f1 f2 q2
      have x3 := q2 _ _ x2
      have nxD : x ≠ D := ne_of_none x2 hD
      have sD : Same H0 H3 := (sC.trans q1).trans q2
      have nD0 : H0 D = none := (sC.trans q1).free hD
      refine ⟨_, rfl, x, _, dx, _, rfl, x3, cM, no_of (f_no_Machine_exits c), (by show 3 < 1000; decide), ?_⟩
      have x4 : (upd H3 x (.ins (He.ga K "Machine") dx [("plan", bv), ("text", tv), ("places", .ref pl), ("exits", .ref D)])) x = some (.ins (He.ga K "Machine") dx [("plan", bv), ("text", tv), ("places", .ref pl), ("exits", .ref D)]) := upd_same
      have f4 : (upd H3 x (.ins (He.ga K "Machine") dx [("plan", bv), ("text", tv), ("places", .ref pl), ("exits", .ref D)])) D = some (.lst acc) := by rw [upd_ne nxD.symm]; exact f2
      have e4 : (upd H3 x (.ins (He.ga K "Machine") dx [("plan", bv), ("text", tv), ("places", .ref pl), ("exits", .ref D)])) pl = some (.lst as) := by rw [upd_ne nxp.symm]; exact q2 _ _ e2
      have sE : Same H0 (upd H3 x (.ins (He.ga K "Machine") dx [("plan", bv), ("text", tv), ("places", .ref pl), ("exits", .ref D)])) := smU sD hn0
      refine ⟨_, rfl, x, _, dx, _, _, rfl, x4, cM, no_of (f_no_Machine_exits c), rfl, .inl ⟨rfl, _, SqL.of f4⟩, (by show 0 ≤ sizeLine; decide), fun l9 hl9 => ?_⟩
      have n9D : l9 ≠ D := (ne_of_none f4 hl9).symm
      have f5 : (upd (upd H3 x (.ins (He.ga K "Machine") dx [("plan", bv), ("text", tv), ("places", .ref pl), ("exits", .ref D)])) l9 (.lst [])) D = some (.lst acc) := by rw [upd_ne n9D.symm]; exact f4
      refine ⟨D, acc, _, rfl, rfl, f5, by omega, ?_⟩
      have npD : pl ≠ D := fun z => by rw [z] at e2; rw [hD] at e2; cases e2
      have sF : Same H0 (upd (upd (upd H3 x (.ins (He.ga K "Machine") dx [("plan", bv), ("text", tv), ("places", .ref pl), ("exits", .ref D)])) l9 (.lst [])) D (.lst (acc ++ [.ref l9]))) := by exact smU (smU sE (sE.free hl9)) nD0
      have x6 : (upd (upd (upd H3 x (.ins (He.ga K "Machine") dx [("plan", bv), ("text", tv), ("places", .ref pl), ("exits", .ref D)])) l9 (.lst [])) D (.lst (acc ++ [.ref l9]))) x = some (.ins (He.ga K "Machine") dx [("plan", bv), ("text", tv), ("places", .ref pl), ("exits", .ref D)]) := by rw [upd_ne nxD, upd_ne (ne_of_none x4 hl9)]; exact x4
      have e6 : (upd (upd (upd H3 x (.ins (He.ga K "Machine") dx [("plan", bv), ("text", tv), ("places", .ref pl), ("exits", .ref D)])) l9 (.lst [])) D (.lst (acc ++ [.ref l9]))) pl = some (.lst as) := by rw [upd_ne npD, upd_ne (ne_of_none e4 hl9)]; exact e4
      have f6 : (upd (upd (upd H3 x (.ins (He.ga K "Machine") dx [("plan", bv), ("text", tv), ("places", .ref pl), ("exits", .ref D)])) l9 (.lst [])) D (.lst (acc ++ [.ref l9]))) D = some (.lst (acc ++ [.ref l9])) := upd_same
      have g6 : (upd (upd (upd H3 x (.ins (He.ga K "Machine") dx [("plan", bv), ("text", tv), ("places", .ref pl), ("exits", .ref D)])) l9 (.lst [])) D (.lst (acc ++ [.ref l9]))) l9 = some (.lst []) := by rw [upd_ne n9D]; exact upd_same
      -- lay_row
      have hlen : (acc ++ [V.ref l9]).length = szs ss + 1 := by rw [List.length_append]; show acc.length + 1 = _; omega
      refine ⟨_, rfl, x, dx, _, rfl, x6, rfl, _, rfl, _, rfl, x, _, dx, _, _, rfl, x6, cM, no_of (f_no_Machine_places c), rfl, pl, as, rfl, .inl (SqL.of e6), x, tv, ss, 0, szs ss, bd, D, _, ?_, ⟨dx, bv, tv, pl, x6, hB.fz (Fz.of sF)⟩, f6, PAt.fz (Fz.of sF) _ _ _ hP, hkg, by omega, fun H7 es7 k7 f7 l7 o7 x7 => ?_⟩
      · show [V.ref x, tv, .int 0, .int (as.length : Nat)] = [V.ref x, tv, .int ((0 : Nat) : Int), .int (szs ss : Nat)]
        rw [la] <;> rfl
      · have sG : Same H0 H7 := fun b o e => k7 _ _ (fun z => by rw [z] at e; rw [nD0] at e; cases e) (sF b o e)
        refine kk H7 sG ⟨x, dx, bv, tv, pl, D, as, es7, rfl, k7 _ _ nxD x6, k7 _ _ npD e6, Rows.fz (Fz.of sG) p1, h24, f7, by omega, ?_⟩
        unfold exM
        refine ExAt.app x7 fun j st hj => ?_
        match j, hj with
        | 0, hj =>
          cases hj
          refine ⟨.ref l9, ?_, l9, [], rfl, n9D, k7 _ _ n9D g6, .nil⟩
          rw [exs_len, o7 _ (by omega), Nat.zero_add, Nat.add_zero, List.getElem?_append_right (by omega)]
          rw [show szs ss - acc.length = 0 by omega] <;> rfl
end
end Mb


set_option Elab.async false
set_option linter.all false
set_option maxRecDepth 100000
set_option maxHeartbeats 4000000
/-! machines asked -/
namespace Mb
open PySem PySem.Spec PyProof.Rows L2
section
variable {P : Program} {w : World} {K : PySem.W.Frag} {mg : Str → Option Value} {base : Heap}
theorem sc_Machine_asked : FnScope ["self", "room"] ["self", "room"] (defScope s_Machine_asked) := ⟨rfl, rfl, rfl, by decide +kernel, rfl, by decide +kernel, by decide +kernel⟩
theorem ok_askedM (T : TX K mg) (n : Nat) : Met P w K mg base 1 (He.ga K "Machine") "asked" (spAskedM K n) := by
  refine metD (fn_Machine_asked T.c) (cls_of (f_cls_Machine T.c)) (meth_of (f_m_Machine_asked T.c)) sc_Machine_asked (fun _ _ _ _ _ _ us hl => match us, hl with | [_, _], _ => rfl) (fun vs H Q E h => by obtain ⟨v, r, bd, ss, rfl, _⟩ := h; rfl) (fun cdv A outer s0 H vs Q E hr h => ?_)
  obtain ⟨v, r, bd, ss, rfl, hM, hr, kk⟩ := h
  have c := T.c
  refine ⟨_, pss_one (ps_if (pt_not (pt_chain op_le op_lt pe_int (pv 1) (pe_b call_len_seq bb_len (T.free (f_free_len c)) (pa_cons (pe_fld (pv 0) rfl) pa_nil)))) (pss_one ps_never) pss_nil), ?_⟩
  obtain ⟨x, dx, bv, tv, pl, ex, as, es, rfl, hx, hpl, hp, h24, hex, hes, hE⟩ := hM
  have d1 : decide ((0 : Int) ≤ (r : Int)) = true := decide_eq_true (by omega)
  have d2 : decide ((r : Int) < ((es.length : Nat) : Int)) = true := decide_eq_true (by omega)
  refine ⟨_, rfl, _, _, rfl, rfl, _, rfl, iteB d1 ⟨_, rfl, x, _, dx, _, _, rfl, hx, cls_of (f_cls_Machine c), no_of (f_no_Machine_exits c), rfl, ex, es, rfl, .inl (SqL.of hex), _, _, rfl, rfl, _, rfl, iteN (by rw [d2]; rfl) kk⟩⟩
theorem sc_Machine_steps : FnScope ["self", "room"] ["self", "room"] (defScope s_Machine_steps) := ⟨rfl, rfl, rfl, by decide +kernel, rfl, by decide +kernel, by decide +kernel⟩
theorem ok_steps (T : TX K mg) (n : Nat) : Met P w K mg base 2 (He.ga K "Machine") "steps" (spSteps K n) := by
  refine metD (fn_Machine_steps T.c) (cls_of (f_cls_Machine T.c)) (meth_of (f_m_Machine_steps T.c)) sc_Machine_steps (fun _ _ _ _ _ _ us hl => match us, hl with | [_, _], _ => rfl) (fun vs H Q E h => by obtain ⟨v, r, bd, ss, st, rfl, _⟩ := h; rfl) (fun cdv A outer s0 H vs Q E hr h => ?_)
  obtain ⟨v, r, bd, ss, st, rfl, hM, hst, kk⟩ := h
  have c := T.c
  refine ⟨_, pss_cons (ps_expr (pe_mt (ok_askedM T n) hr (pv 0) (pa_cons (pv 1) pa_nil))) (pss_one (ps_ret (pe_ty call_list_of bb_list (T.free (f_free_list c)) (pa_cons (pe_ix ix_list (pe_fld (pv 0) rfl) (pv 1) (fun _ _ => rfl)) pa_nil)))), ?_⟩
  have hr := (List.getElem?_eq_some_iff.mp hst).1
  rw [exM_len] at hr
  have hM' := hM
  obtain ⟨x, dx, bv, tv, pl, ex, as, es, rfl, hx, hpl, hp, h24, hex, hes, hE⟩ := hM
  obtain ⟨v, hv, l, xs, rfl, hne, hl, hst2⟩ := hE r st hst
  rw [Nat.zero_add] at hv
  refine ⟨_, rfl, x, dx, _, rfl, hx, rfl, _, rfl, _, r, bd, ss, rfl, hM', by omega, ?_⟩
  refine ⟨_, rfl, x, _, dx, _, _, rfl, hx, cls_of (f_cls_Machine c), no_of (f_no_Machine_exits c), rfl, _, rfl, ex, es, _, _, rfl, rfl, SqL.of hex, atI_nat hv, l, xs, rfl, .inl (SqL.of hl), fun q hq => ?_⟩
  exact kk q xs _ (smU (Same.refl H) hq) upd_same (hst2.mono fun _ _ h => h.fz (Fz.new hq) fun _ _ e => e)
theorem sc_Machine_mark_of : FnScope ["self", "room"] ["self", "room"] (defScope s_Machine_mark_of) := ⟨rfl, rfl, rfl, by decide +kernel, rfl, by decide +kernel, by decide +kernel⟩
theorem ok_mark_of (T : TX K mg) (n : Nat) : Met P w K mg base 2 (He.ga K "Machine") "mark_of" (spMarkOf K n) := by
  refine metD (fn_Machine_mark_of T.c) (cls_of (f_cls_Machine T.c)) (meth_of (f_m_Machine_mark_of T.c)) sc_Machine_mark_of (fun _ _ _ _ _ _ us hl => match us, hl with | [_, _], _ => rfl) (fun vs H Q E h => by obtain ⟨v, r, bd, ss, rfl, _⟩ := h; rfl) (fun cdv A outer s0 H vs Q E hr h => ?_)
  obtain ⟨v, r, bd, ss, rfl, hM, hrl, kk⟩ := h
  have c := T.c
  refine ⟨_, pss_cons (ps_expr (pe_mt (ok_askedM T n) hr (pv 0) (pa_cons (pv 1) pa_nil)))
    (pss_cons (ps_if (PW.pt (pw_and (pt_cmpR op_lt (pv 1) (pe_b call_len_seq bb_len (T.free (f_free_len c)) (pa_cons (pe_fld (pv 0) rfl) pa_nil)) (nomark _)) (pw_and1 (pt_val (pe_b call_isi bb_isi (T.free (f_free_isinstance c)) (pa_cons (pe_ix ix_list (pe_fld (pv 0) rfl) (pv 1) (fun _ _ => rfl)) (pa_cons (pe_gl (T.ref (f_glo_Mark c))) pa_nil))))))) (pss_one (ps_ret (pe_fld (pe_ix ix_list (pe_fld (pv 0) rfl) (pv 1) (fun _ _ => rfl)) rfl))) pss_nil)
    (pss_one (ps_ret pe_non))), ?_⟩
  have hM' := hM
  obtain ⟨x, dx, bv, tv, pl, ex, as, es, rfl, hx, hpl, hp, h24, hex, hes, hE⟩ := hM
  have la := hp.length
  rw [pls_len] at la
  have cM := cls_of (f_cls_Machine c)
  have nP := no_of (f_no_Machine_places c)
  refine ⟨_, rfl, x, dx, _, rfl, hx, rfl, _, rfl, _, r, bd, ss, rfl, hM', hrl, ?_⟩
  refine ⟨_, rfl, _, rfl, x, _, dx, _, _, rfl, hx, cM, nP, rfl, pl, as, rfl, .inl (SqL.of hpl), _, _, rfl, rfl, _, rfl, ?_⟩
  by_cases hlt : r < as.length
  · refine iteB (decide_eq_true (by omega)) ?_
    obtain ⟨s, hs1, hs2⟩ := pair_at hp (List.getElem?_eq_getElem hlt)
    obtain ⟨y1, dy, p, q, hy, hy1, hpa⟩ := hs2
    have hat : as[r]? = some (.ref y1) := by rw [List.getElem?_eq_getElem hlt, hy]
    refine ⟨_, rfl, x, _, dx, _, _, rfl, hx, cM, nP, rfl, _, rfl, pl, as, _, _, rfl, rfl, SqL.of hpl, atI_nat hat, ?_⟩
    refine ⟨_, _, _, _, (s.kd.tag == 2), rfl, .own _, ty_kd T s.kd hy1, is_Mark T s.kd, _, rfl, ?_⟩
    rw [hs1] at kk
    cases s with
    | mk k a b =>
      cases k with
      | mark nm => exact iteB rfl ⟨_, rfl, x, _, dx, _, _, rfl, hx, cM, nP, rfl, _, rfl, pl, as, _, _, rfl, rfl, SqL.of hpl, atI_nat hat, y1, _, dy, _, _, rfl, hy1, cls_of (f_cls_Mark c), no_of (f_no_Mark_name c), rfl, kk⟩
      | _ => exact iteN rfl kk
  · refine iteN (decide_eq_false (by omega)) ?_
    rw [List.getElem?_eq_none (by rw [pls_len]; omega)] at kk
    exact kk
end
end Mb


set_option Elab.async false
set_option linter.all false
set_option maxRecDepth 100000
set_option maxHeartbeats 4000000
/-! what is left: the looks -/
namespace Mb
open PySem PySem.Spec PyProof.Rows L2
/-- a list of statements, at another address than f -/
def RowN (K : PySem.W.Frag) (H : Hp) (n : Nat) (f : Addr → Prop) (v : V) (ss : List Stm) : Prop := ∃ l as, v = .ref l ∧ f l ∧ H l = some (.lst as) ∧ Paired (SAt K H n) as ss
abbrev RowR (K : PySem.W.Frag) (H : Hp) (n : Nat) (v : V) (ss : List Stm) : Prop := RowN K H n (fun _ => True) v ss
theorem RowN.same {K : PySem.W.Frag} {H H2 : Hp} {n : Nat} {f : Addr → Prop} (s : Same H H2) {v : V} {ss : List Stm} (h : RowN K H n f v ss) : RowN K H2 n f v ss := by
  obtain ⟨l, as, e, a, b, c⟩ := h
  exact ⟨l, as, e, a, s _ _ b, Rows.fz (Fz.of s) c⟩
theorem RowN.kx {K : PySem.W.Frag} {H H2 : Hp} {n : Nat} {f : Addr} {xs : List V} (k : Kx f H H2) (hf : H f = some (.lst xs)) {v : V} {ss : List Stm} (h : RowN K H n (· ≠ f) v ss) : RowN K H2 n (· ≠ f) v ss := by
  obtain ⟨l, as, e, a, b, c⟩ := h
  exact ⟨l, as, e, a, k _ _ a b, Rows.fz (k.fz hf) c⟩
theorem RowN.any {K : PySem.W.Frag} {H : Hp} {n : Nat} {f : Addr → Prop} {v : V} {ss : List Stm} (h : RowN K H n f v ss) : RowR K H n v ss := by
  obtain ⟨l, as, e, a, b, c⟩ := h
  exact ⟨l, as, e, trivial, b, c⟩
theorem PAt.row {K : PySem.W.Frag} {H : Hp} {n : Nat} {v : V} {ss : List Stm} (h : PAt K H n v ss) : ∃ x dx t as, v = .ref x ∧ H x = some (.ins (He.ga K "Program") dx [("row", .ref t)]) ∧ H t = some (.tup as) ∧ szs ss ≤ 24 ∧ Paired (SAt K H n) as ss := by
  cases n with
  | zero => exact h.elim
  | succ n =>
    obtain ⟨x, dx, t, as, e, a, b, c, d⟩ := h
    exact ⟨x, dx, t, as, e, a, b, c, d.mono fun _ _ z => SAt.up z⟩
/-- the steps of a row's text -/
def leftM (bd : Bd) : List Stm → List (Act × List Stm)
  | [] => []
  | .mk k a b :: r => stepsK bd k (a ++ if k.lp then .mk k a b :: r else r) (b ++ if k.lp then .mk k a b :: r else r) r
theorem leftM_nil (bd : Bd) : leftM bd [] = [] := rfl
theorem leftM_cons (bd : Bd) (k : Kd) (a b r : List Stm) : leftM bd (.mk k a b :: r) = stepsK bd k (a ++ if k.lp then .mk k a b :: r else r) (b ++ if k.lp then .mk k a b :: r else r) r := rfl
def spLooksL (K : PySem.W.Frag) (n : Nat) : Sp := fun vs H Q _ => ∃ bv x C dx fs p q c v bd us ss1 ss2, vs = [bv, .ref x, p, q] ∧ H x = some (.ins C dx fs) ∧ Cls K C ∧ NoAttr K C "cell" ∧ NoAttr K C "value" ∧ fs.lookup ("cell" : Str) = some (.str c) ∧ fs.lookup ("value" : Str) = some (.str v) ∧
  BAt K H bv bd ∧ bd c = some us ∧ RowR K H n p ss1 ∧ RowR K H n q ss2 ∧ ∀ l xs H2, Same H H2 → H2 l = some (.lst xs) → Paired (StepR K H2 (RowR K H2 n)) xs ((.look c v, ss1) :: (rest v us).map fun u => (.look c u, ss2)) → Q (.ref l) H2
section
variable {P : Program} {w : World} {K : PySem.W.Frag} {mg : Str → Option Value} {base : Heap}
theorem sc_looks_lefts : FnScope ["board", "statement", "then", "other", "found", "value"] ["board", "statement", "then", "other"] (defScope s_looks_lefts) := ⟨rfl, rfl, rfl, by decide +kernel, rfl, by decide +kernel, by decide +kernel⟩
theorem ok_looks_lefts (T : TX K mg) (n : Nat) : Cal P w K mg base 3 "looks_lefts" (spLooksL K n) := by
  refine calD (fn_looks_lefts T.c) (T.glo (f_glo_looks_lefts T.c)) sc_looks_lefts (fun _ _ _ _ _ _ us hl => match us, hl with | [_, _, _, _], _ => rfl) (fun vs H Q E h => by obtain ⟨bv, x, C, dx, fs, p, q, c, v, bd, us, ss1, ss2, rfl, _⟩ := h; rfl) (fun cdv A outer s0 H vs Q E hr h => ?_)
  obtain ⟨bv, x, C, dx, fs, p, q, c, v, bd, us, ss1, ss2, rfl, hx, hC, n1, n2, e1, e2, hB, hc, hp, hq, kk⟩ := h
  obtain ⟨b, db, t, d, kvs, rfl, hb, hd, hbb⟩ := id hB
  have h4 := (hbb c us hc).1
  have nd := sc_looks_lefts.nd
  refine ⟨_, pss_cons (ps_set (i := 4) nd rfl (Or.inl rfl) (pe_lst (pa_cons (pe_tup (pa_cons (pe_tup (pa_cons pe_str (pa_cons (pe_fld (pv 1) rfl) (pa_cons (pe_fld (pv 1) rfl) pa_nil)))) (pa_cons (pe_ty call_list_of bb_list (T.free (f_free_list T.c)) (pa_cons (pv 2) pa_nil)) pa_nil))) pa_nil)))
    (pss_cons (ps_for PassesOwn.never rfl (pi_list (pe_mt (ok_others T) hr (pv 0) (pa_cons (pe_fld (pv 1) rfl) (pa_cons (pe_fld (pv 1) rfl) pa_nil)))) (pg_name (i := 5) nd rfl (Or.inl rfl))
      (pss_one (ps_expr (pe_bm PySem.F.plainAttrs_list PySem.F.slot_list_append PySem.F.type_list_append mt_append (pv 4) (pa_cons (pe_tup (pa_cons (pe_tup (pa_cons pe_str (pa_cons (pe_fld (pv 1) rfl) (pa_cons (pv 5) pa_nil)))) (pa_cons (pe_ty call_list_of bb_list (T.free (f_free_list T.c)) (pa_cons (pv 3) pa_nil)) pa_nil))) pa_nil)))))
    (pss_one (ps_ret (pv 4)))), ?_⟩
  obtain ⟨lp, ps, rfl, _, hlp, hps⟩ := id hp
  obtain ⟨lq, qs, rfl, _, hlq, hqs⟩ := id hq
  refine ⟨_, rfl, x, C, dx, _, _, rfl, hx, hC, n1, e1, _, rfl, x, C, dx, _, _, rfl, hx, hC, n2, e2, (by show 3 ≤ sizeLine; decide), fun t1 ht1 => ?_⟩
  have s1 : Same H (upd H t1 (.tup [V.str "look", .str c, .str v])) := smU (Same.refl H) ht1
  refine ⟨_, rfl, lp, ps, rfl, .inl (SqL.of (s1 _ _ hlp)), fun l1 hl1 => ⟨(by show 2 ≤ sizeLine; decide), fun t2 ht2 => ⟨(by show 1 ≤ sizeLine; decide), fun f hf => ?_⟩⟩⟩
  have s2 := smN (o := .lst ps) s1 hl1
  have s3 := smN (o := .tup [V.ref t1, .ref l1]) s2 ht2
  have s4 := smN (o := .lst [V.ref t2]) s3 hf
  have g1 := upd_same (H := H) (a := t1) (o := .tup [V.str "look", .str c, .str v])
  have g1' := smN (o := .lst [V.ref t2]) (smN (o := .tup [V.ref t1, .ref l1]) (smU (o := .lst ps) (Same.refl _) hl1) ht2) hf _ _ g1
  have g2 := upd_same (H := upd H t1 (.tup [V.str "look", .str c, .str v])) (a := l1) (o := .lst ps)
  have g2' := smN (o := .lst [V.ref t2]) (smU (o := .tup [V.ref t1, .ref l1]) (Same.refl _) ht2) hf _ _ g2
  have g3 := upd_same (H := upd (upd H t1 (.tup [V.str "look", .str c, .str v])) l1 (.lst ps)) (a := t2) (o := .tup [V.ref t1, .ref l1])
  have g3' := smU (o := .lst [V.ref t2]) (Same.refl _) hf _ _ g3
  have nl1 : l1 ≠ f := ne_of_none (smU (o := .tup [V.ref t1, .ref l1]) (Same.refl _) ht2 _ _ g2) hf
  refine ⟨_, rfl, b, db, _, rfl, s4 _ _ hb, rfl, _, rfl, x, C, dx, _, _, rfl, s4 _ _ hx, hC, n1, e1, _, rfl, x, C, dx, _, _, rfl, s4 _ _ hx, hC, n2, e2, _, c, v, bd, us, rfl, hB.fz (Fz.of s4), hc, fun lo Ho so eo => ⟨lo, rfl, ⟨_, SqL.of eo⟩, ?_⟩⟩
  have s5 := s4.trans so
  have n0 : H f = none := s3.free hf
  refine for_it (walk_list (xs := (rest v us).map V.str)) (fun i σ H2 => (∃ v5 : Option V, σ = [some (.ref b), some (.ref x), some (.ref lp), some (.ref lq), some (.ref f), v5]) ∧ Same H H2 ∧ H2 lo = some (.lst ((rest v us).map V.str)) ∧
    ∃ acc, H2 f = some (.lst acc) ∧ acc.length = i + 1 ∧ Paired (StepR K H2 (RowN K H2 n (· ≠ f))) acc ((.look c v, ss1) :: ((rest v us).take i).map fun u => (.look c u, ss2)))
    ⟨⟨none, rfl⟩, s5, eo, [V.ref t2], so _ _ upd_same, rfl, .cons ⟨t2, _, _, rfl, so _ _ g3', ⟨t1, rfl, .inl (so _ _ g1')⟩, l1, ps, rfl, nl1, so _ _ g2', Rows.fz (Fz.of s5) hps⟩ .nil⟩ (fun i σ H2 _ q => SqL.of q.2.2.1) ?_ ?_
  · rintro i y σ H1 H2 hi ⟨⟨v5, rfl⟩, q1, q2, acc, q3, q4, q5⟩ ⟨rfl, hy⟩
    obtain ⟨u, hu, rfl⟩ := map_at hy
    rw [List.length_map] at hi
    have hl := rest_len (v := v) (us := us)
    refine ⟨_, rfl, .inl ⟨rfl, _, SqL.of q3⟩, _, rfl, x, C, dx, _, _, rfl, q1 _ _ hx, hC, n1, e1, _, rfl, (by show 3 ≤ sizeLine; decide), fun u1 hu1 => ?_⟩
    have r1 : Same H2 (upd H2 u1 (.tup [V.str "look", .str c, .str u])) := smU (Same.refl _) hu1
    refine ⟨_, rfl, lq, qs, rfl, .inl (SqL.of (r1 _ _ (q1 _ _ hlq))), fun l2 hl2 => ⟨(by show 2 ≤ sizeLine; decide), fun u2 hu2 => ?_⟩⟩
    have r2 := smN (o := .lst qs) r1 hl2
    have r3 := smN (o := .tup [V.ref u1, .ref l2]) r2 hu2
    have k1 := smN (o := .tup [V.ref u1, .ref l2]) (smU (o := .lst qs) (Same.refl _) hl2) hu2 _ _ (upd_same (H := H2) (a := u1) (o := .tup [V.str "look", .str c, .str u]))
    have k2 := smU (o := .tup [V.ref u1, .ref l2]) (Same.refl _) hu2 _ _ (upd_same (H := upd H2 u1 (.tup [V.str "look", .str c, .str u])) (a := l2) (o := .lst qs))
    have k3 := r3 _ _ q3
    have nl2 : l2 ≠ f := (ne_of_none (r1 _ _ q3) hl2).symm
    have hsl : (1000 : Nat) < sizeLine := by decide
    have kw : Kx f H2 (upd (upd (upd (upd H2 u1 (.tup [V.str "look", .str c, .str u])) l2 (.lst qs)) u2 (.tup [V.ref u1, .ref l2])) f (.lst (acc ++ [V.ref u2]))) := (Kx.of r3).wr
    have zf := kw.fz q3
    have zl : Fz (upd (upd (upd H2 u1 (.tup [V.str "look", .str c, .str u])) l2 (.lst qs)) u2 (.tup [V.ref u1, .ref l2])) (upd (upd (upd (upd H2 u1 (.tup [V.str "look", .str c, .str u])) l2 (.lst qs)) u2 (.tup [V.ref u1, .ref l2])) f (.lst (acc ++ [V.ref u2]))) := Fz.lst k3
    have nlf : lo ≠ f := ne_of q2 q3 fun z => by
      have z2 : (rest v us).map V.str = acc := HO.lst.inj z
      cases q5 with
      | cons h _ =>
        obtain ⟨t9, _, _, e9, _⟩ := h
        subst e9
        cases hr9 : rest v us with
        | nil => rw [hr9] at z2; cases z2
        | cons a r => rw [hr9] at z2; cases z2
    refine ⟨f, acc, _, rfl, rfl, k3, by omega, ⟨_, rfl⟩, smU (q1.trans r3) n0, by rw [upd_ne nlf]; exact r3 _ _ q2, _, upd_same, by rw [List.length_append, q4]; rfl, ?_⟩
    rw [map_take hu]
    refine (q5.mono fun a b h => h.fz zf fun _ _ e => e.kx kw q3).snoc ⟨u2, _, _, rfl, zl.tup _ _ upd_same, ⟨u1, rfl, .inl (zl.tup _ _ k1)⟩, l2, qs, rfl, nl2, by rw [upd_ne nl2]; exact k2, Rows.fz ((Fz.of q1).trans zf) hqs⟩
  · rintro σ H1 ⟨⟨v5, rfl⟩, q1, q2, acc, q3, q4, q5⟩
    rw [List.take_of_length_le (by rw [List.length_map]; exact Nat.le_refl _)] at q5
    exact ⟨_, rfl, kk f acc H1 q1 q3 (q5.mono fun a b h => h.fz (Fz.refl _) fun _ _ e => e.any)⟩
end
end Mb


set_option Elab.async false
set_option linter.all false
set_option maxRecDepth 100000
set_option maxHeartbeats 4000000
/-! what is left -/
namespace Mb
open PySem PySem.Spec PyProof.Rows L2
theorem cut_one (v : V) (as : List V) : cutV (v :: as) (some 1) none = as := by
  unfold cutV
  have h1 : HT.sIx (v :: as).length 0 (some 1) = 1 := by
    have := HT.sIx_nat (v :: as).length 0 1
    rw [List.length_cons] at this
    rw [List.length_cons]
    exact this.trans (by omega)
  rw [h1, HT.sIx_none, List.drop_succ_cons, List.drop_zero]
  exact List.take_of_length_le (by rw [List.length_cons]; omega)
def spLoc (K : PySem.W.Frag) (n : Nat) : Sp := fun vs H Q _ => ∃ (bv : V) (x l : Addr) (as : List V) (s : Stm) (r : List Stm) (bd : Bd), vs = [bv, .ref x, .ref l] ∧ BAt K H bv bd ∧ H l = some (.lst (.ref x :: as)) ∧ SAt K H n (.ref x) s ∧ Paired (SAt K H n) as r ∧ s.kd.cel = true ∧ KG bd s.kd ∧ r.length ≤ 1000 ∧
  ∀ l2 xs H2, Same H H2 → H2 l2 = some (.lst xs) → Paired (StepR K H2 (RowR K H2 n)) xs (leftM bd (s :: r)) → Q (.ref l2) H2
def spLeft (K : PySem.W.Frag) (n : Nat) : Sp := fun vs H Q _ => ∃ (bv v : V) (r : List Stm) (bd : Bd), vs = [bv, v] ∧ BAt K H bv bd ∧ RowR K H n v r ∧ (∀ s ∈ r, KG bd s.kd) ∧ r.length ≤ 1000 ∧
  ∀ l2 xs H2, Same H H2 → H2 l2 = some (.lst xs) → Paired (StepR K H2 (RowR K H2 n)) xs (leftM bd r) → Q (.ref l2) H2
section
variable {P : Program} {w : World} {K : PySem.W.Frag} {mg : Str → Option Value} {base : Heap}
theorem sc_left_of_cell : FnScope ["board", "statement", "row", "rest"] ["board", "statement", "row"] (defScope s_left_of_cell) := ⟨rfl, rfl, rfl, by decide +kernel, rfl, by decide +kernel, by decide +kernel⟩
theorem rowl {ss : List Stm} (h : szs ss ≤ 24) : ss.length ≤ 24 := Nat.le_trans (len_szs ss) h
theorem ok_left_of_cell (T : TX K mg) (n : Nat) : Cal P w K mg base 4 "left_of_cell" (spLoc K n) := by
  refine calD (fn_left_of_cell T.c) (T.glo (f_glo_left_of_cell T.c)) sc_left_of_cell (fun _ _ _ _ _ _ us hl => match us, hl with | [_, _, _], _ => rfl) (fun vs H Q E h => by obtain ⟨bv, x, l, as, s, r, bd, rfl, _⟩ := h; rfl) (fun cdv A outer s0 H vs Q E hr h => ?_)
  obtain ⟨bv, x, l, as, s, r, bd, rfl, hB, hl, hs, has, hcel, hkg, hlen, kk⟩ := h
  have c := T.c
  have nd := sc_left_of_cell.nd
  obtain ⟨b, db, tb, d, kvs, rfl, hb, hd, hbb⟩ := id hB
  obtain ⟨x', dx, p, q, e, hx, hpa⟩ := id hs
  cases e
  obtain ⟨cC, cc1, cc2, cc, vv, c4, c5, c6⟩ := kd_cell T s.kd hcel
  obtain ⟨us, hu1, hu2⟩ := c6 bd hkg
  refine ⟨_, pss_cons (ps_expr (pe_mt (ok_askedB T) hr (pv 0) (pa_cons (pe_fld (pv 1) rfl) (pa_cons (pe_fld (pv 1) rfl) pa_nil))))
    (pss_cons (ps_set (i := 3) nd rfl (Or.inl rfl) (pe_ty call_list_of bb_list (T.free (f_free_list c)) (pa_cons (pe_slice sl_list (pv 2) (po_some pe_int) po_none) pa_nil)))
    (pss_cons (ps_if (pt_val (pe_b call_isi bb_isi (T.free (f_free_isinstance c)) (pa_cons (pv 1) (pa_cons (pe_gl (T.ref (f_glo_Write c))) pa_nil)))) (pss_one (ps_ret (pe_lst (pa_cons (pe_tup (pa_cons (pe_tup (pa_cons pe_str (pa_cons (pe_fld (pv 1) rfl) (pa_cons (pe_fld (pv 1) rfl) pa_nil)))) (pa_cons (pv 3) pa_nil))) pa_nil)))) pss_nil)
    (pss_cons (ps_if (pt_val (pe_b call_isi bb_isi (T.free (f_free_isinstance c)) (pa_cons (pv 1) (pa_cons (pe_gl (T.ref (f_glo_Wait c))) pa_nil)))) (pss_one (ps_ret (pe_lst (pa_cons (pe_tup (pa_cons (pe_tup (pa_cons pe_str (pa_cons (pe_fld (pv 1) rfl) (pa_cons (pe_fld (pv 1) rfl) pa_nil)))) (pa_cons (pv 3) pa_nil))) pa_nil)))) pss_nil)
    (pss_cons (ps_if (pt_val (pe_b call_isi bb_isi (T.free (f_free_isinstance c)) (pa_cons (pv 1) (pa_cons (pe_gl (T.ref (f_glo_If c))) pa_nil))))
      (pss_one (ps_ret (pe_c (ok_looks_lefts T n) hr (pa_cons (pv 0) (pa_cons (pv 1) (pa_cons (pe_op op_cat (pe_ty call_list_of bb_list (T.free (f_free_list c)) (pa_cons (pe_fld (pe_fld (pv 1) rfl) rfl) pa_nil)) (pv 3)) (pa_cons (pe_op op_cat (pe_ty call_list_of bb_list (T.free (f_free_list c)) (pa_cons (pe_fld (pe_fld (pv 1) rfl) rfl) pa_nil)) (pv 3)) pa_nil))))))) pss_nil)
    (pss_one (ps_ret (pe_c (ok_looks_lefts T n) hr (pa_cons (pv 0) (pa_cons (pv 1) (pa_cons (pe_op op_cat (pe_ty call_list_of bb_list (T.free (f_free_list c)) (pa_cons (pe_fld (pe_fld (pv 1) rfl) rfl) pa_nil)) (pe_ty call_list_of bb_list (T.free (f_free_list c)) (pa_cons (pv 2) pa_nil))) (pa_cons (pv 3) pa_nil))))))))))), ?_⟩
  have cP := cls_of (f_cls_Program c)
  have nR := no_of (f_no_Program_row c)
  refine ⟨_, rfl, b, db, _, rfl, hb, rfl, _, rfl, x, _, dx, _, _, rfl, hx, cC, cc1, c4 _ _, _, rfl, x, _, dx, _, _, rfl, hx, cC, cc2, c5 _ _, _, cc, vv, bd, us, rfl, hB, hu1, hu2, fun H1 s1 => ?_⟩
  refine ⟨_, rfl, _, rfl, l, _, rfl, SqL.of (s1 _ _ hl), fun l1 hl1 => ?_⟩
  rw [cut_one]
  refine ⟨l1, as, rfl, .inl (SqL.of upd_same), fun l2 hl2 => ?_⟩
  have s3 : Same H (upd (upd H1 l1 (.lst as)) l2 (.lst as)) := smN (smN s1 hl1) hl2
  generalize hH3 : upd (upd H1 l1 (.lst as)) l2 (.lst as) = H3 at s3
  have e3 : H3 l2 = some (.lst as) := by rw [← hH3]; exact upd_same
  have has3 := Rows.fz (Fz.of s3) has
  have hl3 := s3 _ _ hl
  have hx3 := s3 _ _ hx
  have hsl : (3000 : Nat) < sizeLine := by decide
  have la := has.length
  have mk1 : ∀ {a : Act} {t1 t2 g : Addr}, H3 t1 = none → (upd H3 t1 (.tup a.dat)) t2 = none → (upd (upd H3 t1 (.tup a.dat)) t2 (.tup [.ref t1, .ref l2])) g = none → leftM bd (s :: r) = [(a, r)] → Q (.ref g) (upd (upd (upd H3 t1 (.tup a.dat)) t2 (.tup [.ref t1, .ref l2])) g (.lst [.ref t2])) := by
    intro a t1 t2 g h1 h2 h3 e
    have z2 := smN (smN (smU (o := .tup a.dat) (Same.refl H3) h1) h2 (o := .tup [.ref t1, .ref l2])) h3 (o := .lst [.ref t2])
    refine kk g _ _ (s3.trans z2) upd_same ?_
    rw [e]
    have z : (upd H3 t1 (.tup a.dat)) t1 = some (.tup a.dat) := upd_same
    exact .cons ⟨t2, _, _, rfl, smU (Same.refl _) h3 _ _ upd_same, ⟨t1, rfl, .inl (smN (smU (Same.refl _) h2) h3 _ _ z)⟩, l2, as, rfl, trivial, z2 _ _ e3, Rows.fz (Fz.of z2) has3⟩ .nil
  cases s with
  | mk k a b2 =>
    cases k with
    | write cw vw =>
      refine rd_if rfl hx3 T (is_Write T _) (iteB rfl ?_)
      refine ⟨_, rfl, x, _, dx, _, _, rfl, hx3, cls_of (f_cls_Write c), no_of (f_no_Write_cell c), rfl, _, rfl, x, _, dx, _, _, rfl, hx3, cls_of (f_cls_Write c), no_of (f_no_Write_value c), rfl, (by show 3 ≤ sizeLine; decide), fun t1 ht1 => ⟨_, rfl, (by show 2 ≤ sizeLine; decide), fun t2 ht2 => ⟨(by show 1 ≤ sizeLine; decide), fun g hg => ?_⟩⟩⟩
      exact mk1 (a := .put cw vw) ht1 ht2 hg rfl
    | wait cw vw =>
      refine rd_if rfl hx3 T (is_Write T _) (iteN rfl (rd_if rfl hx3 T (is_Wait T _) (iteB rfl ?_)))
      refine ⟨_, rfl, x, _, dx, _, _, rfl, hx3, cls_of (f_cls_Wait c), no_of (f_no_Wait_cell c), rfl, _, rfl, x, _, dx, _, _, rfl, hx3, cls_of (f_cls_Wait c), no_of (f_no_Wait_value c), rfl, (by show 3 ≤ sizeLine; decide), fun t1 ht1 => ⟨_, rfl, (by show 2 ≤ sizeLine; decide), fun t2 ht2 => ⟨(by show 1 ≤ sizeLine; decide), fun g hg => ?_⟩⟩⟩
      exact mk1 (a := .look cw vw) ht1 ht2 hg rfl
    | iff cw vw =>
      refine rd_if rfl hx3 T (is_Write T _) (iteN rfl (rd_if rfl hx3 T (is_Wait T _) (iteN rfl (rd_if rfl hx3 T (is_If T _) (iteB rfl ?_)))))
      obtain ⟨y1, dy1, ty1, a1, rfl, hy1, ht1, h241, hr1⟩ := PAt.row (hpa.1 (show 1 ≤ 2 by decide))
      obtain ⟨y2, dy2, ty2, a2, rfl, hy2, ht2, h242, hr2⟩ := PAt.row (hpa.2.2.1 (show 2 ≤ 2 by decide))
      have l1 := hr1.length
      have l2' := hr2.length
      have l3 := rowl h241
      have l4 := rowl h242
      have e1 : a1.length = a.length := l1
      have e2 : a2.length = b2.length := l2'
      have f1 : a.length ≤ 24 := l3
      have f2 : b2.length ≤ 24 := l4
      refine ⟨_, rfl, _, rfl, _, rfl, x, _, dx, _, _, rfl, hx3, cls_of (f_cls_If c), no_of (f_no_If_yes c), rfl, y1, _, dy1, _, _, rfl, s3 _ _ hy1, cP, nR, rfl, ty1, a1, rfl, .inr (SqT.of (s3 _ _ ht1)), fun u1 hu1 => ?_⟩
      have w1 := smU (o := .lst a1) (Same.refl H3) hu1
      refine ⟨_, rfl, u1, l2, a1, as, rfl, rfl, upd_same, w1 _ _ e3, by omega, fun v1 hv1 => ?_⟩
      have w2 := smN (o := .lst (a1 ++ as)) w1 hv1
      have hx4 := w2 _ _ hx3
      refine ⟨_, rfl, x, _, dx, _, _, rfl, w2 _ _ hx3, cls_of (f_cls_If c), no_of (f_no_If_no c), rfl, y2, _, dy2, _, _, rfl, w2 _ _ (s3 _ _ hy2), cP, nR, rfl, ty2, a2, rfl, .inr (SqT.of (w2 _ _ (s3 _ _ ht2))), fun u2 hu2 => ?_⟩
      have w3 := smN (o := .lst a2) w2 hu2
      refine ⟨_, rfl, u2, l2, a2, as, rfl, rfl, upd_same, w3 _ _ e3, by omega, fun v2 hv2 => ?_⟩
      have w4 := smN (o := .lst (a2 ++ as)) w3 hv2
      have w5 := s3.trans w4
      obtain ⟨us3, hus3, _⟩ := hkg
      have v1at := smN (o := .lst (a2 ++ as)) (smU (o := .lst a2) (Same.refl _) hu2) hv2 _ _ (upd_same (H := upd H3 u1 (.lst a1)) (a := v1) (o := .lst (a1 ++ as)))
      refine ⟨_, x, _, dx, _, _, _, cw, vw, bd, us3, a ++ r, b2 ++ r, rfl, w4 _ _ hx3, cls_of (f_cls_If c), no_of (f_no_If_cell c), no_of (f_no_If_value c), rfl, rfl, hB.fz (Fz.of w5), hus3, ⟨v1, _, rfl, trivial, v1at, Rows.fz (Fz.of w5) (pair_app hr1 has)⟩, ⟨v2, _, rfl, trivial, upd_same, Rows.fz (Fz.of w5) (pair_app hr2 has)⟩, fun lz xs H9 s9 e9 p9 => kk lz xs H9 (w5.trans s9) e9 ?_⟩
      rw [leftM_cons]
      show Paired _ xs ((.look cw vw, a ++ r) :: (oth bd cw vw).map fun u => (Act.look cw u, b2 ++ r))
      rw [oth_of hus3]
      exact p9
    | whil cw vw =>
      refine rd_if rfl hx3 T (is_Write T _) (iteN rfl (rd_if rfl hx3 T (is_Wait T _) (iteN rfl (rd_if rfl hx3 T (is_If T _) (iteN rfl ?_)))))
      obtain ⟨y1, dy1, ty1, a1, rfl, hy1, ht1, h241, hr1⟩ := PAt.row (hpa.1 (show 1 ≤ 1 by decide))
      have l1 := hr1.length
      have l3 := rowl h241
      have e1 : a1.length = a.length := l1
      have f1 : a.length ≤ 24 := l3
      refine ⟨_, rfl, _, rfl, _, rfl, x, _, dx, _, _, rfl, hx3, cls_of (f_cls_While c), no_of (f_no_While_body c), rfl, y1, _, dy1, _, _, rfl, s3 _ _ hy1, cP, nR, rfl, ty1, a1, rfl, .inr (SqT.of (s3 _ _ ht1)), fun u1 hu1 => ?_⟩
      have w1 := smU (o := .lst a1) (Same.refl H3) hu1
      refine ⟨_, rfl, l, _, rfl, .inl (SqL.of (w1 _ _ hl3)), fun u2 hu2 => ?_⟩
      have w2 := smN (o := .lst (.ref x :: as)) w1 hu2
      have u1at := smU (o := .lst (.ref x :: as)) (Same.refl _) hu2 _ _ (upd_same (H := H3) (a := u1) (o := .lst a1))
      refine ⟨u1, u2, a1, _, rfl, rfl, u1at, upd_same, by rw [List.length_cons]; omega, fun v1 hv1 => ?_⟩
      have w4 := smN (o := .lst (a1 ++ (.ref x :: as))) w2 hv1
      have w5 := s3.trans w4
      obtain ⟨us3, hus3, _⟩ := hkg
      refine ⟨_, rfl, _, x, _, dx, _, _, _, cw, vw, bd, us3, a ++ (.mk (.whil cw vw) a b2 :: r), r, rfl, w4 _ _ hx3, cls_of (f_cls_While c), no_of (f_no_While_cell c), no_of (f_no_While_value c), rfl, rfl, hB.fz (Fz.of w5), hus3, ⟨v1, _, rfl, trivial, upd_same, Rows.fz (Fz.of w5) (pair_app hr1 (.cons hs has))⟩, ⟨l2, _, rfl, trivial, w4 _ _ e3, Rows.fz (Fz.of w5) has⟩, fun lz xs H9 s9 e9 p9 => kk lz xs H9 (w5.trans s9) e9 ?_⟩
      rw [leftM_cons]
      show Paired _ xs ((.look cw vw, a ++ (.mk (.whil cw vw) a b2 :: r)) :: (oth bd cw vw).map fun u => (Act.look cw u, r))
      rw [oth_of hus3]
      exact p9
    | _ => cases hcel
end
end Mb


set_option Elab.async false
set_option linter.all false
set_option maxRecDepth 100000
set_option maxHeartbeats 4000000
/-! left -/
namespace Mb
open PySem PySem.Spec PyProof.Rows L2
section
variable {P : Program} {w : World} {K : PySem.W.Frag} {mg : Str → Option Value} {base : Heap}
theorem sc_left : FnScope ["board", "row", "statement", "rest"] ["board", "row"] (defScope s_left) := ⟨rfl, rfl, rfl, by decide +kernel, rfl, by decide +kernel, by decide +kernel⟩
theorem ok_left (T : TX K mg) (n : Nat) : Cal P w K mg base 5 "left" (spLeft K n) := by
  refine calD (fn_left T.c) (T.glo (f_glo_left T.c)) sc_left (fun _ _ _ _ _ _ us hl => match us, hl with | [_, _], _ => rfl) (fun vs H Q E h => by obtain ⟨bv, v, r, bd, rfl, _⟩ := h; rfl) (fun cdv A outer s0 H vs Q E hr h => ?_)
  obtain ⟨bv, v, r, bd, rfl, hB, ⟨l, as, rfl, _, hl, has⟩, hkg, hlen, kk⟩ := h
  have c := T.c
  have nd := sc_left.nd
  refine ⟨_, pss_cons (ps_if (PW.pt (pw_or (pt_cmpR op_eq (pe_b call_len_seq bb_len (T.free (f_free_len c)) (pa_cons (pv 1) pa_nil)) pe_int (nomark _)) (pw_or1 (pt_val (pe_b call_isi bb_isi (T.free (f_free_isinstance c)) (pa_cons (pe_ix ix_list (pv 1) pe_int (fun _ _ => rfl)) (pa_cons (pe_gl (T.ref (f_glo_Stop c))) pa_nil))))))) (pss_one (ps_ret (pe_lst pa_nil))) pss_nil)
    (pss_cons (ps_set (i := 2) nd rfl (Or.inl rfl) (pe_ix ix_list (pv 1) pe_int (fun _ _ => rfl)))
    (pss_cons (ps_set (i := 3) nd rfl (Or.inl rfl) (pe_ty call_list_of bb_list (T.free (f_free_list c)) (pa_cons (pe_slice sl_list (pv 1) (po_some pe_int) po_none) pa_nil)))
    (pss_cons (ps_if (pt_val (pe_b call_isiT bb_isi (T.free (f_free_isinstance c)) (pa_cons (pv 2) (pa_cons (pe_tup (pa_cons (pe_gl (T.ref (f_glo_Mark c))) (pa_cons (pe_gl (T.ref (f_glo_Skip c))) pa_nil))) pa_nil)))) (pss_one (ps_ret (pe_lst (pa_cons (pe_tup (pa_cons (pe_tup (pa_cons pe_str pa_nil)) (pa_cons (pv 3) pa_nil))) pa_nil)))) pss_nil)
    (pss_cons (ps_if (pt_val (pe_b call_isi bb_isi (T.free (f_free_isinstance c)) (pa_cons (pv 2) (pa_cons (pe_gl (T.ref (f_glo_Choose c))) pa_nil))))
      (pss_one (ps_ret (pe_lst (pa_cons (pe_tup (pa_cons (pe_tup (pa_cons pe_str pa_nil)) (pa_cons (pe_op op_cat (pe_ty call_list_of bb_list (T.free (f_free_list c)) (pa_cons (pe_fld (pe_fld (pv 2) rfl) rfl) pa_nil)) (pv 3)) pa_nil)))
        (pa_cons (pe_tup (pa_cons (pe_tup (pa_cons pe_str pa_nil)) (pa_cons (pe_op op_cat (pe_ty call_list_of bb_list (T.free (f_free_list c)) (pa_cons (pe_fld (pe_fld (pv 2) rfl) rfl) pa_nil)) (pv 3)) pa_nil))) pa_nil))))) pss_nil)
    (pss_cons (ps_if (pt_val (pe_b call_isi bb_isi (T.free (f_free_isinstance c)) (pa_cons (pv 2) (pa_cons (pe_gl (T.ref (f_glo_Loop c))) pa_nil))))
      (pss_one (ps_ret (pe_lst (pa_cons (pe_tup (pa_cons (pe_tup (pa_cons pe_str pa_nil)) (pa_cons (pe_op op_cat (pe_ty call_list_of bb_list (T.free (f_free_list c)) (pa_cons (pe_fld (pe_fld (pv 2) rfl) rfl) pa_nil)) (pe_ty call_list_of bb_list (T.free (f_free_list c)) (pa_cons (pv 1) pa_nil))) pa_nil))) pa_nil)))) pss_nil)
    (pss_one (ps_ret (pe_c (ok_left_of_cell T n) hr (pa_cons (pv 0) (pa_cons (pv 2) (pa_cons (pv 1) pa_nil))))))))))), ?_⟩
  have cP := cls_of (f_cls_Program c)
  have nR := no_of (f_no_Program_row c)
  have hsl : (3000 : Nat) < sizeLine := by decide
  have la := has.length
  have g1 : (1 : Nat) ≤ sizeLine := by decide
  have g2 : (2 : Nat) ≤ sizeLine := by decide
  have g0 : (0 : Nat) ≤ sizeLine := by decide
  refine ⟨_, rfl, l, as, rfl, .inl (SqL.of hl), rfl, _, rfl, ?_⟩
  cases has with
  | nil =>
    refine iteB rfl ⟨g0, fun g hg => ?_⟩
    exact kk g [] _ (smU (Same.refl H) hg) upd_same .nil
  | @cons v0 s as r hs has =>
    refine iteN (decide_eq_false fun z => ?_) ?_
    · have z2 := V.int.inj z
      rw [List.length_cons] at z2
      omega
    obtain ⟨x, dx, p, q, rfl, hx, hpa⟩ := id hs
    have hi0 : atI (V.ref x :: as) 0 = some (.ref x) := atI_nat (j := 0) rfl
    have hkgs := hkg s (List.mem_cons_self ..)
    refine ⟨_, rfl, l, _, _, _, rfl, rfl, SqL.of hl, hi0, ?_⟩
    refine ⟨_, _, _, _, (s.kd.tag == 4), rfl, .own _, ty_kd T s.kd hx, is_Stop T s.kd, _, rfl, ?_⟩
    cases hst : (s.kd.tag == 4) with
    | true =>
      refine iteB rfl ⟨g0, fun g hg => kk g [] _ (smU (Same.refl H) hg) upd_same ?_⟩
      cases s with
      | mk k a b => cases k <;> first | (cases hst; done) | exact .nil
    | false =>
      refine iteN rfl ⟨_, rfl, l, _, _, _, rfl, rfl, SqL.of hl, hi0, ?_⟩
      refine ⟨_, rfl, _, rfl, l, _, rfl, SqL.of hl, fun l1 hl1 => ?_⟩
      rw [cut_one]
      refine ⟨l1, as, rfl, .inl (SqL.of upd_same), fun l2 hl2 => ?_⟩
      have s3 : Same H (upd (upd H l1 (.lst as)) l2 (.lst as)) := smN (smU (Same.refl H) hl1) hl2
      generalize hH3 : upd (upd H l1 (.lst as)) l2 (.lst as) = H3 at s3
      have e3 : H3 l2 = some (.lst as) := by rw [← hH3]; exact upd_same
      have has3 := Rows.fz (Fz.of s3) has
      have hl3 := s3 _ _ hl
      have hx3 := s3 _ _ hx
      have hlen' : r.length + 1 ≤ 1000 := hlen
      have la' := has.length
      have mk1 : ∀ {H4 : Hp} {t1 t2 g : Addr}, Same H3 H4 → H4 t1 = none → (upd H4 t1 (.tup [V.str "go"])) t2 = none → (upd (upd H4 t1 (.tup [V.str "go"])) t2 (.tup [.ref t1, .ref l2])) g = none → leftM bd (s :: r) = [(.go, r)] → Q (.ref g) (upd (upd (upd H4 t1 (.tup [V.str "go"])) t2 (.tup [.ref t1, .ref l2])) g (.lst [.ref t2])) := by
        intro H4 t1 t2 g s4 h1 h2 h3 e
        have z2 := smN (smN (smU (o := .tup [V.str "go"]) (Same.refl H4) h1) h2 (o := .tup [.ref t1, .ref l2])) h3 (o := .lst [.ref t2])
        refine kk g _ _ (s3.trans (s4.trans z2)) upd_same ?_
        rw [e]
        have z : (upd H4 t1 (.tup [V.str "go"])) t1 = some (.tup [V.str "go"]) := upd_same
        exact .cons ⟨t2, _, _, rfl, smU (Same.refl _) h3 _ _ upd_same, ⟨t1, rfl, .inl (smN (smU (Same.refl _) h2) h3 _ _ z)⟩, l2, as, rfl, trivial, z2 _ _ (s4 _ _ e3), Rows.fz (Fz.of (s4.trans z2)) has3⟩ .nil
      cases s with
      | mk k a b2 =>
        cases k with
        | mark nm =>
          refine rd_if2 rfl hx3 T (is_Mark T _) (is_Skip T _) fun p0 hp0 => iteB rfl ?_
          refine ⟨g1, fun t1 ht1 => ⟨_, rfl, g2, fun t2 ht2 => ⟨g1, fun g hg => mk1 (smU (Same.refl _) hp0) ht1 ht2 hg rfl⟩⟩⟩
        | skip =>
          refine rd_if2 rfl hx3 T (is_Mark T _) (is_Skip T _) fun p0 hp0 => iteB rfl ?_
          refine ⟨g1, fun t1 ht1 => ⟨_, rfl, g2, fun t2 ht2 => ⟨g1, fun g hg => mk1 (smU (Same.refl _) hp0) ht1 ht2 hg rfl⟩⟩⟩
        | stop => cases hst
        | choose =>
          refine rd_if2 rfl hx3 T (is_Mark T _) (is_Skip T _) fun p0 hp0 => iteN rfl ?_
          have s0 := smU (o := .tup [.ref (He.ga K "Mark"), .ref (He.ga K "Skip")]) (Same.refl H3) hp0
          refine rd_if rfl (s0 _ _ hx3) T (is_Choose T _) (iteB rfl ?_)
          obtain ⟨y1, dy1, ty1, a1, rfl, hy1, ht1, h241, hr1⟩ := PAt.row (hpa.1 (show 1 ≤ 2 by decide))
          obtain ⟨y2, dy2, ty2, a2, rfl, hy2, ht2, h242, hr2⟩ := PAt.row (hpa.2.2.1 (show 2 ≤ 2 by decide))
          have e1 : a1.length = a.length := hr1.length
          have e2 : a2.length = b2.length := hr2.length
          have f1 : a.length ≤ 24 := rowl h241
          have f2 : b2.length ≤ 24 := rowl h242
          refine ⟨g1, fun t1 ht1' => ?_⟩
          have w1 := smN (o := .tup [V.str "go"]) s0 ht1'
          refine ⟨_, rfl, x, _, dx, _, _, rfl, w1 _ _ hx3, cls_of (f_cls_Choose c), no_of (f_no_Choose_one c), rfl, y1, _, dy1, _, _, rfl, w1 _ _ (s3 _ _ hy1), cP, nR, rfl, ty1, a1, rfl, .inr (SqT.of (w1 _ _ (s3 _ _ ht1))), fun u1 hu1 => ?_⟩
          have w2 := smN (o := .lst a1) w1 hu1
          refine ⟨_, rfl, u1, l2, a1, as, rfl, rfl, upd_same, w2 _ _ e3, by omega, fun v1 hv1 => ?_⟩
          have w3 := smN (o := .lst (a1 ++ as)) w2 hv1
          refine ⟨g2, fun t2 ht2' => ?_⟩
          have w4 := smN (o := .tup [V.ref t1, .ref v1]) w3 ht2'
          refine ⟨g1, fun t3 ht3' => ?_⟩
          have w5 := smN (o := .tup [V.str "go"]) w4 ht3'
          refine ⟨_, rfl, x, _, dx, _, _, rfl, w5 _ _ hx3, cls_of (f_cls_Choose c), no_of (f_no_Choose_other c), rfl, y2, _, dy2, _, _, rfl, w5 _ _ (s3 _ _ hy2), cP, nR, rfl, ty2, a2, rfl, .inr (SqT.of (w5 _ _ (s3 _ _ ht2))), fun u2 hu2 => ?_⟩
          have w6 := smN (o := .lst a2) w5 hu2
          refine ⟨_, rfl, u2, l2, a2, as, rfl, rfl, upd_same, w6 _ _ e3, by omega, fun v2 hv2 => ?_⟩
          have w7 := smN (o := .lst (a2 ++ as)) w6 hv2
          refine ⟨g2, fun t4 ht4' => ⟨g2, fun g hg => ?_⟩⟩
          have w8 := smN (o := .tup [V.ref t3, .ref v2]) w7 ht4'
          have w9 := smN (o := .lst [V.ref t2, .ref t4]) w8 hg
          have wf := s3.trans w9
          refine kk g _ _ wf upd_same ?_
          have z9 := smU (o := .lst [V.ref t2, .ref t4]) (Same.refl _) hg
          have z8 := (smU (o := .tup [V.ref t3, .ref v2]) (Same.refl _) ht4').trans z9
          have z7 := (smU (o := .lst (a2 ++ as)) (Same.refl _) hv2).trans z8
          have z6 := (smU (o := .lst a2) (Same.refl _) hu2).trans z7
          have z5 := (smU (o := .tup [V.str "go"]) (Same.refl _) ht3').trans z6
          have z4 := (smU (o := .tup [V.ref t1, .ref v1]) (Same.refl _) ht2').trans z5
          have z3 := (smU (o := .lst (a1 ++ as)) (Same.refl _) hv1).trans z4
          have z2 := (smU (o := .lst a1) (Same.refl _) hu1).trans z3
          exact .cons ⟨t2, _, _, rfl, z5 _ _ upd_same, ⟨t1, rfl, .inl (z2 _ _ upd_same)⟩, v1, _, rfl, trivial, z4 _ _ upd_same, Rows.fz (Fz.of wf) (pair_app hr1 has)⟩
            (.cons ⟨t4, _, _, rfl, z9 _ _ upd_same, ⟨t3, rfl, .inl (z6 _ _ upd_same)⟩, v2, _, rfl, trivial, z8 _ _ upd_same, Rows.fz (Fz.of wf) (pair_app hr2 has)⟩ .nil)
        | loop =>
          refine rd_if2 rfl hx3 T (is_Mark T _) (is_Skip T _) fun p0 hp0 => iteN rfl ?_
          have s0 := smU (o := .tup [.ref (He.ga K "Mark"), .ref (He.ga K "Skip")]) (Same.refl H3) hp0
          refine rd_if rfl (s0 _ _ hx3) T (is_Choose T _) (iteN rfl (rd_if rfl (s0 _ _ hx3) T (is_Loop T _) (iteB rfl ?_)))
          obtain ⟨y1, dy1, ty1, a1, rfl, hy1, ht1, h241, hr1⟩ := PAt.row (hpa.1 (show 1 ≤ 1 by decide))
          have e1 : a1.length = a.length := hr1.length
          have f1 : a.length ≤ 24 := rowl h241
          refine ⟨g1, fun t1 ht1' => ?_⟩
          have w1 := smN (o := .tup [V.str "go"]) s0 ht1'
          refine ⟨_, rfl, x, _, dx, _, _, rfl, w1 _ _ hx3, cls_of (f_cls_Loop c), no_of (f_no_Loop_body c), rfl, y1, _, dy1, _, _, rfl, w1 _ _ (s3 _ _ hy1), cP, nR, rfl, ty1, a1, rfl, .inr (SqT.of (w1 _ _ (s3 _ _ ht1))), fun u1 hu1 => ?_⟩
          have w2 := smN (o := .lst a1) w1 hu1
          refine ⟨_, rfl, l, _, rfl, .inl (SqL.of (w2 _ _ hl3)), fun u2 hu2 => ?_⟩
          have w3 := smN (o := .lst (.ref x :: as)) w2 hu2
          refine ⟨u1, u2, a1, _, rfl, rfl, smU (Same.refl _) hu2 _ _ upd_same, upd_same, by rw [List.length_cons]; omega, fun v1 hv1 => ?_⟩
          have w4 := smN (o := .lst (a1 ++ (.ref x :: as))) w3 hv1
          refine ⟨g2, fun t2 ht2' => ⟨g1, fun g hg => ?_⟩⟩
          have w5 := smN (o := .tup [V.ref t1, .ref v1]) w4 ht2'
          have w9 := smN (o := .lst [V.ref t2]) w5 hg
          have wf := s3.trans w9
          refine kk g _ _ wf upd_same ?_
          have z9 := smU (o := .lst [V.ref t2]) (Same.refl _) hg
          have z8 := (smU (o := .tup [V.ref t1, .ref v1]) (Same.refl _) ht2').trans z9
          have z7 := (smU (o := .lst (a1 ++ (.ref x :: as))) (Same.refl _) hv1).trans z8
          have z6 := (smU (o := .lst (.ref x :: as)) (Same.refl _) hu2).trans z7
          have z5 := (smU (o := .lst a1) (Same.refl _) hu1).trans z6
          exact .cons ⟨t2, _, _, rfl, z9 _ _ upd_same, ⟨t1, rfl, .inl (z5 _ _ upd_same)⟩, v1, _, rfl, trivial, z8 _ _ upd_same, Rows.fz (Fz.of wf) (pair_app hr1 (.cons hs has))⟩ .nil
        | _ =>
          refine rd_if2 rfl hx3 T (is_Mark T _) (is_Skip T _) fun p0 hp0 => iteN rfl ?_
          have s0 := smU (o := .tup [.ref (He.ga K "Mark"), .ref (He.ga K "Skip")]) (Same.refl H3) hp0
          refine rd_if rfl (s0 _ _ hx3) T (is_Choose T _) (iteN rfl (rd_if rfl (s0 _ _ hx3) T (is_Loop T _) (iteN rfl ?_)))
          have wf := s3.trans s0
          exact ⟨_, rfl, _, rfl, _, rfl, bv, x, l, as, _, r, bd, rfl, hB.fz (Fz.of wf), wf _ _ hl, SAt.fz (Fz.of wf) hs, Rows.fz (Fz.of wf) has, rfl, hkgs, by omega, fun lz xs H9 s9 e9 p9 => kk lz xs H9 (wf.trans s9) e9 p9⟩
end
end Mb


set_option Elab.async false
set_option linter.all false
set_option maxRecDepth 100000
set_option maxHeartbeats 4000000
/-! rooms and rests: plain -/
namespace Mb
open PySem PySem.Spec PyProof.Rows L2
mutual
def Stm.rs : Stm → List Stm → List (List Stm)
  | .mk k a b, c => (.mk k a b :: c) :: (rss a (if k.lp then .mk k a b :: c else c) ++ rss b (if k.lp then .mk k a b :: c else c))
def rss : List Stm → List Stm → List (List Stm)
  | [], _ => []
  | s :: r, c => s.rs (r ++ c) ++ rss r c
end
theorem rss_nil (c : List Stm) : rss [] c = [] := by simp [rss]
theorem rss_cons (s : Stm) (r c : List Stm) : rss (s :: r) c = s.rs (r ++ c) ++ rss r c := by simp [rss]
theorem rs_eq (k : Kd) (a b c : List Stm) : Stm.rs (.mk k a b) c = (.mk k a b :: c) :: (rss a (if k.lp then .mk k a b :: c else c) ++ rss b (if k.lp then .mk k a b :: c else c)) := by simp [Stm.rs]
mutual
theorem rs_len : ∀ (s : Stm) (c : List Stm), (s.rs c).length = s.sz
  | .mk k a b, c => by
    have h1 := rss_len a (if k.lp then .mk k a b :: c else c)
    have h2 := rss_len b (if k.lp then .mk k a b :: c else c)
    have h3 : (Stm.mk k a b).sz = 1 + (szs a + szs b) := Stm.sz_eq _
    rw [rs_eq, List.length_cons, List.length_append]
    omega
theorem rss_len : ∀ (ss c : List Stm), (rss ss c).length = szs ss
  | [], c => by rw [rss_nil, szs_nil]; rfl
  | s :: r, c => by
    have h1 := rs_len s (r ++ c)
    have h2 := rss_len r c
    rw [rss_cons, szs_cons, List.length_append]
    omega
end
/-- what holds of all rows of a list at their places -/
def Alw {α : Type} (f : Nat) (P : Nat → α → Prop) (l : List α) : Prop := ∀ j x, l[j]? = some x → P (f + j) x
theorem Alw.app {α : Type} {f : Nat} {P : Nat → α → Prop} {l m : List α} (h1 : Alw f P l) (h2 : Alw (f + l.length) P m) : Alw f P (l ++ m) := by
  intro j x hj
  by_cases h : j < l.length
  · exact h1 j x (by rw [List.getElem?_append_left h] at hj; exact hj)
  · rw [List.getElem?_append_right (by omega)] at hj
    have := h2 _ x hj
    rw [show f + l.length + (j - l.length) = f + j by omega] at this
    exact this
theorem Alw.left {α : Type} {f : Nat} {P : Nat → α → Prop} {l m : List α} (h : Alw f P (l ++ m)) : Alw f P l := fun j x hj => h j x (by
  rw [List.getElem?_append_left (List.getElem?_eq_some_iff.mp hj).1]
  exact hj)
theorem Alw.right {α : Type} {f : Nat} {P : Nat → α → Prop} {l m : List α} (h : Alw f P (l ++ m)) : Alw (f + l.length) P m := fun j x hj => by
  have := h (l.length + j) x (by rw [List.getElem?_append_right (by omega), Nat.add_sub_cancel_left]; exact hj)
  rw [← Nat.add_assoc] at this
  exact this
theorem Alw.cons {α : Type} {f : Nat} {P : Nat → α → Prop} {a : α} {l : List α} (h1 : P f a) (h2 : Alw (f + 1) P l) : Alw f P (a :: l) := by
  intro j x hj
  match j, hj with
  | 0, hj => cases hj; exact h1
  | j + 1, hj =>
    have := h2 j x hj
    rw [show f + 1 + j = f + (j + 1) by omega] at this
    exact this
theorem Alw.hd {α : Type} {f : Nat} {P : Nat → α → Prop} {a : α} {l : List α} (h : Alw f P (a :: l)) : P f a := h 0 a rfl
theorem Alw.tl {α : Type} {f : Nat} {P : Nat → α → Prop} {a : α} {l : List α} (h : Alw f P (a :: l)) : Alw (f + 1) P l := fun j x hj => by
  have := h (j + 1) x hj
  rw [show f + (j + 1) = f + 1 + j by omega] at this
  exact this
theorem Alw.nil {α : Type} {f : Nat} {P : Nat → α → Prop} : Alw f P ([] : List α) := fun j x hj => by simp at hj
/-- steps to rooms and steps to rests -/
def StepT (R : Nat → List Stm → Prop) (s : Act × Nat) (t : Act × List Stm) : Prop := s.1 = t.1 ∧ R s.2 t.2
theorem pair_map {α β γ : Type} {F : β → γ → Prop} {f : α → β} {g : α → γ} (h : ∀ a, F (f a) (g a)) : ∀ l : List α, Paired F (l.map f) (l.map g)
  | [] => .nil
  | a :: r => .cons (h a) (pair_map h r)
theorem stepsK_pair (bd : Bd) (R : Nat → List Stm → Prop) (k : Kd) {g1 g2 g : Nat} {x1 x2 x : List Stm} (h1 : R g1 x1) (h2 : R g2 x2) (h : R g x) : Paired (StepT R) (stepsK bd k g1 g2 g) (stepsK bd k x1 x2 x) := by
  cases k with
  | write c v => exact .cons ⟨rfl, h⟩ .nil
  | wait c v => exact .cons ⟨rfl, h⟩ .nil
  | mark n => exact .cons ⟨rfl, h⟩ .nil
  | skip => exact .cons ⟨rfl, h⟩ .nil
  | stop => exact .nil
  | iff c v => exact .cons ⟨rfl, h1⟩ (pair_map (fun a => ⟨rfl, h2⟩) _)
  | whil c v => exact .cons ⟨rfl, h1⟩ (pair_map (fun a => ⟨rfl, h⟩) _)
  | choose => exact .cons ⟨rfl, h1⟩ (.cons ⟨rfl, h2⟩ .nil)
  | loop => exact .cons ⟨rfl, h1⟩ .nil
/-- where a row begins, there its text is what is left -/
theorem bgn_rest {R : Nat → List Stm → Prop} {ss c : List Stm} {f b : Nat} (h : Alw f R (rss ss c)) (hb : R b c) : R (bgn ss f b) (ss ++ c) := by
  cases ss with
  | nil => exact hb
  | cons s r =>
    cases s with
    | mk k p q =>
      rw [rss_cons, rs_eq] at h
      exact h.left.hd
theorem bck_rest {R : Nat → List Stm → Prop} {k : Kd} {a b c : List Stm} {f g : Nat} (h1 : R f (.mk k a b :: c)) (h2 : R g c) : R (bck k f g) (if k.lp then .mk k a b :: c else c) := by
  unfold bck
  cases k.lp with
  | true => exact h1
  | false => exact h2
mutual
theorem tie_s (bd : Bd) (R : Nat → List Stm → Prop) : ∀ (s : Stm) (f g : Nat) (c : List Stm), Alw f R (s.rs c) → R g c → Alw f (fun i st => ∀ row, (s.rs c)[i - f]? = some row → Paired (StepT R) st (leftM bd row)) (s.ex bd f g)
  | .mk k a b, f, g, c, h, hg => by
    rw [rs_eq] at h
    have hB := bck_rest (k := k) (a := a) (b := b) h.hd hg
    have hA1 := h.tl.left
    have hA2 := h.tl.right
    rw [rss_len] at hA2
    have t1 := tie_ss bd R a (f + 1) (bck k f g) _ hA1 hB
    have t2 := tie_ss bd R b (f + 1 + szs a) (bck k f g) _ hA2 hB
    rw [ex_eq, rs_eq]
    refine Alw.cons (fun row hr => ?_) (Alw.app (fun j st hj row hr => ?_) ?_)
    · rw [Nat.sub_self] at hr
      cases hr
      rw [leftM_cons]
      exact stepsK_pair bd R k (bgn_rest hA1 hB) (bgn_rest hA2 hB) hg
    · have hl := (List.getElem?_eq_some_iff.mp hj).1
      rw [exs_len] at hl
      refine t1 j st hj row ?_
      rw [show f + 1 + j - f = j + 1 by omega, List.getElem?_cons_succ, List.getElem?_append_left (by rw [rss_len]; exact hl)] at hr
      rw [Nat.add_sub_cancel_left]
      exact hr
    · intro j st hj row hr
      have hj' : (exs bd b (f + 1 + szs a) (bck k f g))[j]? = some st := hj
      refine t2 j st hj' row ?_
      have he : (Stm.mk k a b).pa = a := rfl
      rw [exs_len, he] at hr
      rw [show f + 1 + szs a + j - f = szs a + j + 1 by omega, List.getElem?_cons_succ, List.getElem?_append_right (by rw [rss_len]; omega), rss_len, Nat.add_sub_cancel_left] at hr
      rw [Nat.add_sub_cancel_left]
      exact hr
theorem tie_ss (bd : Bd) (R : Nat → List Stm → Prop) : ∀ (ss : List Stm) (f b : Nat) (c : List Stm), Alw f R (rss ss c) → R b c → Alw f (fun i st => ∀ row, (rss ss c)[i - f]? = some row → Paired (StepT R) st (leftM bd row)) (exs bd ss f b)
  | [], f, b, c, h, hb => by
    rw [exs_nil]
    exact Alw.nil
  | s :: r, f, b, c, h, hb => by
    rw [rss_cons] at h
    have h1 := h.left
    have h2 := h.right
    rw [rs_len] at h2
    have t1 := tie_s bd R s f (bgn r (f + s.sz) b) (r ++ c) h1 (bgn_rest h2 hb)
    have t2 := tie_ss bd R r (f + s.sz) b c h2 hb
    rw [exs_cons, rss_cons]
    refine Alw.app (fun j st hj row hr => ?_) (fun j st hj row hr => ?_)
    · have hl := (List.getElem?_eq_some_iff.mp hj).1
      rw [ex_len] at hl
      refine t1 j st hj row ?_
      rw [Nat.add_sub_cancel_left] at hr ⊢
      rw [List.getElem?_append_left (by rw [rs_len]; exact hl)] at hr
      exact hr
    · rw [ex_len] at hr
      refine t2 j st hj row ?_
      rw [show f + s.sz + j - f = s.sz + j by omega, List.getElem?_append_right (by rw [rs_len]; omega), rs_len, Nat.add_sub_cancel_left] at hr
      rw [Nat.add_sub_cancel_left]
      exact hr
end
/-- the rests by rooms, nothing at the end -/
def rsM (p : List Stm) : List (List Stm) := rss p [] ++ [[]]
theorem rsM_len (p : List Stm) : (rsM p).length = szs p + 1 := by unfold rsM; rw [List.length_append, rss_len]; rfl
theorem rsM_end (p : List Stm) : (rsM p)[szs p]? = some [] := by
  unfold rsM
  rw [List.getElem?_append_right (by rw [rss_len]; exact Nat.le_refl _), rss_len, Nat.sub_self]
  rfl
theorem rsM_zero (p : List Stm) : (rsM p)[0]? = some p := by
  cases p with
  | nil => unfold rsM; rw [rss_nil]; rfl
  | cons s r =>
    cases s with
    | mk k a b =>
      unfold rsM
      rw [rss_cons, rs_eq, List.append_nil]
      rfl
theorem tie (bd : Bd) (p : List Stm) {i : Nat} {st : List (Act × Nat)} {row : List Stm} (h1 : (exM bd p)[i]? = some st) (h2 : (rsM p)[i]? = some row) : Paired (StepT fun g x => (rsM p)[g]? = some x) st (leftM bd row) := by
  by_cases h : i < szs p
  · unfold exM at h1
    rw [List.getElem?_append_left (by rw [exs_len]; exact h)] at h1
    have hl : (rss p [])[i]? = some row := by
      unfold rsM at h2
      rw [List.getElem?_append_left (by rw [rss_len]; exact h)] at h2
      exact h2
    refine tie_ss bd (fun g x => (rsM p)[g]? = some x) p 0 (szs p) [] (fun j x hj => ?_) (rsM_end p) i st h1 row (by rw [Nat.zero_add, Nat.sub_zero]; exact hl)
    rw [Nat.zero_add]
    show (rsM p)[j]? = some x
    unfold rsM
    rw [List.getElem?_append_left (List.getElem?_eq_some_iff.mp hj).1]
    exact hj
  · have hl := (List.getElem?_eq_some_iff.mp h1).1
    rw [exM_len] at hl
    have e : i = szs p := by omega
    subst e
    rw [rsM_end] at h2
    cases h2
    unfold exM at h1
    rw [List.getElem?_append_right (by rw [exs_len]; exact Nat.le_refl _), exs_len, Nat.sub_self] at h1
    cases h1
    exact .nil
/-! ### a rest's head, and its size -/
theorem mem_pls {t : Stm} : ∀ {ss : List Stm}, t ∈ ss → t ∈ pls ss
  | s :: r, h => by
    rw [pls_cons]
    rcases List.mem_cons.mp h with rfl | h
    · exact List.mem_append_left _ (by rw [pl_eq]; exact List.mem_cons_self ..)
    · exact List.mem_append_right _ (mem_pls h)
mutual
theorem rs_in : ∀ (s : Stm) (c : List Stm), ∀ row ∈ s.rs c, row.length ≤ s.sz + c.length ∧ ∀ t ∈ row, t ∈ s.pl ∨ t ∈ c
  | .mk k a b, c => by
    intro row hr
    rw [rs_eq] at hr
    have hsz : (Stm.mk k a b).sz = 1 + (szs a + szs b) := Stm.sz_eq _
    have hbl : (if k.lp then .mk k a b :: c else c : List Stm).length ≤ c.length + 1 := by
      cases k.lp with
      | true => exact Nat.le_refl _
      | false => exact Nat.le_succ _
    have hbi : ∀ t ∈ (if k.lp then .mk k a b :: c else c : List Stm), t = .mk k a b ∨ t ∈ c := by
      intro t ht
      cases hk : k.lp with
      | true => rw [hk] at ht; exact List.mem_cons.mp ht
      | false => rw [hk] at ht; exact .inr ht
    rcases List.mem_cons.mp hr with rfl | hr
    · refine ⟨by rw [List.length_cons]; omega, fun t ht => ?_⟩
      rcases List.mem_cons.mp ht with rfl | ht
      · exact .inl (by rw [pl_eq]; exact List.mem_cons_self ..)
      · exact .inr ht
    · rcases List.mem_append.mp hr with hr | hr
      · obtain ⟨h1, h2⟩ := rss_in a _ row hr
        refine ⟨by omega, fun t ht => ?_⟩
        rcases h2 t ht with h | h
        · exact .inl (by rw [pl_eq]; exact List.mem_cons_of_mem _ (List.mem_append_left _ h))
        · rcases hbi t h with rfl | h
          · exact .inl (by rw [pl_eq]; exact List.mem_cons_self ..)
          · exact .inr h
      · obtain ⟨h1, h2⟩ := rss_in b _ row hr
        refine ⟨by omega, fun t ht => ?_⟩
        rcases h2 t ht with h | h
        · exact .inl (by rw [pl_eq]; exact List.mem_cons_of_mem _ (List.mem_append_right _ h))
        · rcases hbi t h with rfl | h
          · exact .inl (by rw [pl_eq]; exact List.mem_cons_self ..)
          · exact .inr h
theorem rss_in : ∀ (ss c : List Stm), ∀ row ∈ rss ss c, row.length ≤ szs ss + c.length ∧ ∀ t ∈ row, t ∈ pls ss ∨ t ∈ c
  | [], c => by
    intro row hr
    rw [rss_nil] at hr
    cases hr
  | s :: r, c => by
    intro row hr
    rw [rss_cons] at hr
    rw [szs_cons, pls_cons]
    rcases List.mem_append.mp hr with hr | hr
    · obtain ⟨h1, h2⟩ := rs_in s _ row hr
      have := len_szs r
      rw [List.length_append] at h1
      refine ⟨by omega, fun t ht => ?_⟩
      rcases h2 t ht with h | h
      · exact .inl (List.mem_append_left _ h)
      · rcases List.mem_append.mp h with h | h
        · exact .inl (List.mem_append_right _ (mem_pls h))
        · exact .inr h
    · obtain ⟨h1, h2⟩ := rss_in r _ row hr
      refine ⟨by omega, fun t ht => ?_⟩
      rcases h2 t ht with h | h
      · exact .inl (List.mem_append_right _ h)
      · exact .inr h
end
mutual
theorem rs_hd : ∀ (s : Stm) (c : List Stm), (s.rs c).map List.head? = s.pl.map some
  | .mk k a b, c => by
    have h1 := rss_hd a (if k.lp then .mk k a b :: c else c)
    have h2 := rss_hd b (if k.lp then .mk k a b :: c else c)
    have h3 := pl_eq (.mk k a b)
    rw [rs_eq, List.map_cons, List.map_append, h1, h2, h3, List.map_cons, List.map_append]
    rfl
theorem rss_hd : ∀ (ss c : List Stm), (rss ss c).map List.head? = (pls ss).map some
  | [], c => by rw [rss_nil, pls_nil]; rfl
  | s :: r, c => by
    rw [rss_cons, pls_cons, List.map_append, List.map_append, rs_hd s, rss_hd r]
end
theorem rsM_hd {p : List Stm} {i : Nat} {row : List Stm} (h : (rsM p)[i]? = some row) : row.head? = (pls p)[i]? := by
  by_cases hi : i < szs p
  · unfold rsM at h
    rw [List.getElem?_append_left (by rw [rss_len]; exact hi)] at h
    have := congrArg (fun l => l[i]?) (rss_hd p [])
    simp only [List.getElem?_map, h, Option.map_some] at this
    cases hp : (pls p)[i]? with
    | none => rw [hp] at this; cases this
    | some t => rw [hp] at this; exact Option.some.inj this
  · have hl := (List.getElem?_eq_some_iff.mp h).1
    rw [rsM_len] at hl
    have e : i = szs p := by omega
    subst e
    rw [rsM_end] at h
    cases h
    rw [List.getElem?_eq_none (by rw [pls_len]; exact Nat.le_refl _)]
    rfl
theorem rsM_in {p : List Stm} {i : Nat} {row : List Stm} (h : (rsM p)[i]? = some row) : row.length ≤ szs p ∧ ∀ t ∈ row, t ∈ pls p := by
  have hm := List.mem_of_getElem? h
  unfold rsM at hm
  rcases List.mem_append.mp hm with hm | hm
  · obtain ⟨h1, h2⟩ := rss_in p [] row hm
    refine ⟨by simpa using h1, fun t ht => ?_⟩
    rcases h2 t ht with h | h
    · exact h
    · cases h
  · rw [List.mem_singleton] at hm
    subst hm
    exact ⟨Nat.zero_le _, fun t ht => by cases ht⟩
end Mb


set_option Elab.async false
set_option linter.all false
set_option maxRecDepth 100000
set_option maxHeartbeats 4000000
/-! numbers drawn -/
namespace Mb
open PySem PySem.Spec PyProof.Rows L2
def SdAt (H : Hp) (s : Addr) : Prop := ∃ a b c : Int, H s = some (.lst [.int a, .int b, .int c]) ∧ 0 ≤ a ∧ 0 ≤ b ∧ b < 4294967296
def spState : Sp := fun vs H Q _ => ∃ i : Int, vs = [.int i] ∧ ∀ s H2, Same H H2 → H s = none → SdAt H2 s → Q (.ref s) H2
def spDigit : Sp := fun vs H Q _ => ∃ (s : Addr) (m : Nat), vs = [.ref s, .int m] ∧ SdAt H s ∧ 1 ≤ m ∧ m ≤ 1000 ∧ ∀ (n : Nat) H2, n < m → Kx s H H2 → SdAt H2 s → Q (.int n) H2
theorem SdAt.same {H H2 : Hp} {s : Addr} (z : Same H H2) (h : SdAt H s) : SdAt H2 s := by
  obtain ⟨a, b, c, e, h⟩ := h
  exact ⟨a, b, c, z _ _ e, h⟩
theorem SdAt.kx {H H2 : Hp} {s f : Addr} (z : Kx f H H2) (n : s ≠ f) (h : SdAt H s) : SdAt H2 s := by
  obtain ⟨a, b, c, e, h⟩ := h
  exact ⟨a, b, c, z _ _ n e, h⟩
theorem SdAt.fzs {H H2 : Hp} {s : Addr} (h : SdAt H s) (k : Kx s H H2) : Fz H H2 := by
  obtain ⟨a, b, c, e, h⟩ := h
  exact k.fz e
theorem ixN_n {n j : Nat} (hj : j < n) : ixN n (j : Int) = some j := by
  unfold ixN
  rw [if_pos (by omega), if_pos (by omega), Int.toNat_natCast]
section
variable {P : Program} {w : World} {K : PySem.W.Frag} {mg : Str → Option Value} {base : Heap}
theorem sc_law_state : FnScope ["_law_cell"] ["_law_cell"] (defScope s_law_state) := ⟨rfl, rfl, rfl, by decide +kernel, rfl, by decide +kernel, by decide +kernel⟩
theorem ok_law_state (T : TX K mg) : Cal P w K mg base 1 "_law_state" spState := by
  refine calD (fn_law_state T.c) (T.glo (f_glo__law_state T.c)) sc_law_state (bn1 fun _ _ _ _ _ _ _ => rfl) (fun vs H Q E h => by obtain ⟨i, rfl, _⟩ := h; rfl) (fun cdv A outer s0 H vs Q E hr h => ?_)
  obtain ⟨i, rfl, kk⟩ := h
  have c := T.c
  have nd := sc_law_state.nd
  refine ⟨_, pss_cons (ps_set (i := 0) nd rfl (Or.inl rfl) (pe_b call_abs bb_abs (T.free (f_free_abs c)) (pa_cons (pv 0) pa_nil)))
    (pss_one (ps_ret (pe_lst (pa_cons (pe_op op_mul (pv 0) (pe_ty call_int1 bb_int (T.free (f_free_int c)) (pa_cons (pe_cmpR op_ge (pv 0) (pe_op op_pow pe_int pe_int) (nomark _)) pa_nil)))
      (pa_cons (pe_op op_add (pe_op op_mod (pv 0) pe_int) pe_int) (pa_cons (pe_op op_mod (pv 0) pe_int) pa_nil)))))), ?_⟩
  refine ⟨_, rfl, i, rfl, ?_⟩
  generalize hj : (if i < 0 then -i else i) = j
  have hj0 : 0 ≤ j := by rw [← hj]; split <;> omega
  refine ⟨_, rfl, _, rfl, _, _, rfl, rfl, ⟨by decide, by decide, by decide⟩, _, _, rfl, rfl, .inr ⟨_, rfl, ?_⟩⟩
  generalize decide (10 ^ (18 : Int).toNat ≤ j) = k
  have hk : (-(2 ^ 64) < (if k then (1 : Int) else 0) ∧ (if k then (1 : Int) else 0) < 2 ^ 64) := by cases k <;> decide
  have hk2 : 0 ≤ j * (if k then (1 : Int) else 0) := Int.mul_nonneg hj0 (by cases k <;> decide)
  refine ⟨_, _, rfl, rfl, .inr hk, _, rfl, _, _, rfl, rfl, (by show (0 : Int) < 2147483629; decide), _, _, rfl, rfl, _, rfl, _, _, rfl, rfl, (by show (0 : Int) < 2147483587; decide), (by show 3 ≤ sizeLine; decide), fun l hl => ?_⟩
  have m1 := Int.emod_nonneg j (b := 2147483629) (by decide)
  have m2 := Int.emod_lt_of_pos j (b := 2147483629) (by decide)
  exact kk l _ (smU (Same.refl H) hl) hl ⟨_, _, _, upd_same, hk2, by omega, by omega⟩
theorem sc_law_digit : FnScope ["_law_state_here", "_law_base", "_law_found", "_law_more"] ["_law_state_here", "_law_base"] (defScope s_law_digit) := ⟨rfl, rfl, rfl, by decide +kernel, rfl, by decide +kernel, by decide +kernel⟩
theorem ok_law_digit (T : TX K mg) : Cal P w K mg base 1 "_law_digit" spDigit := by
  refine calD (fn_law_digit T.c) (T.glo (f_glo__law_digit T.c)) sc_law_digit (fun _ _ _ _ _ _ us hl => match us, hl with | [_, _], _ => rfl) (fun vs H Q E h => by obtain ⟨s, m, rfl, _⟩ := h; rfl) (fun cdv A outer s0 H vs Q E hr h => ?_)
  obtain ⟨s, m, rfl, ⟨a, b, c, hs, ha, hb, hb2⟩, hm1, hm2, kk⟩ := h
  have nd := sc_law_digit.nd
  refine ⟨_, pss_cons (ps_if (pt_cmpR op_gt (pe_ix ix_list (pv 0) pe_int (fun _ _ => rfl)) pe_int (nomark _))
      (pss_cons (ps_set (i := 2) nd rfl (Or.inl rfl) (pe_op op_mod (pe_ix ix_list (pv 0) pe_int (fun _ _ => rfl)) (pv 1)))
      (pss_cons (ps_asg (pe_op op_fdiv (pe_ix ix_list (pv 0) pe_int (fun _ _ => rfl)) (pv 1)) (pg_sub (pv 0) pe_int set_list))
      (pss_one (ps_ret (pv 2))))) pss_nil)
    (pss_cons (ps_set (i := 3) nd rfl (Or.inl rfl) (pe_op op_mul (pe_ix ix_list (pv 0) pe_int (fun _ _ => rfl)) (pe_op op_add (pe_op op_fdiv (pe_ix ix_list (pv 0) pe_int (fun _ _ => rfl)) pe_int) pe_int)))
    (pss_cons (ps_asg (pe_op op_add (pe_op op_mod (pe_op op_add (pv 3) (pe_ix ix_list (pv 0) pe_int (fun _ _ => rfl))) pe_int) pe_int) (pg_sub (pv 0) pe_int set_list))
    (pss_one (ps_ret (pe_op op_mod (pe_op op_fdiv (pe_ix ix_list (pv 0) pe_int (fun _ _ => rfl)) pe_int) (pv 1)))))), ?_⟩
  have i0 : atI [V.int a, .int b, .int c] 0 = some (.int a) := atI_nat (j := 0) rfl
  have i1 : atI [V.int a, .int b, .int c] 1 = some (.int b) := atI_nat (j := 1) rfl
  have i2 : atI [V.int a, .int b, .int c] 2 = some (.int c) := atI_nat (j := 2) rfl
  have hm0 : (0 : Int) < m := by omega
  have cd : CDiv a m := ⟨hm0, by omega⟩
  have fin : ∀ (j : Int) H2, Kx s H H2 → SdAt H2 s → Q (.int (j % (m : Int))) H2 := by
    intro j H2 k2 d2
    have m1 := Int.emod_nonneg j (b := (m : Int)) (by omega)
    have m2 := Int.emod_lt_of_pos j hm0
    have := kk (j % (m : Int)).toNat H2 (by omega) k2 d2
    rw [Int.toNat_of_nonneg m1] at this
    exact this
  refine ⟨_, rfl, s, _, _, _, rfl, rfl, SqL.of hs, i0, _, _, rfl, rfl, _, rfl, ?_⟩
  by_cases hpos : 0 < a
  · refine iteB (decide_eq_true hpos) ⟨_, rfl, s, _, _, _, rfl, rfl, SqL.of hs, i0, _, rfl, _, _, rfl, rfl, hm0, ?_⟩
    refine ⟨_, rfl, s, _, _, _, rfl, rfl, SqL.of hs, i0, _, rfl, _, _, rfl, rfl, cd, ?_⟩
    refine ⟨_, rfl, s, _, _, 0, rfl, rfl, hs, ixN_n (n := 3) (j := 0) (by decide), ?_⟩
    refine ⟨_, rfl, fin a _ (Kx.refl s H).wr ⟨_, _, _, upd_same, Int.ediv_nonneg ha (by omega), hb, hb2⟩⟩
  · refine iteN (decide_eq_false hpos) ?_
    have d1 := Int.ediv_nonneg hb (b := 1009) (by decide)
    have d2 := Int.ediv_le_self 1009 hb
    refine ⟨_, rfl, s, _, _, _, rfl, rfl, SqL.of hs, i1, _, rfl, s, _, _, _, rfl, rfl, SqL.of hs, i1, _, _, rfl, rfl, ⟨by decide, by decide⟩, _, _, rfl, rfl, _, _, rfl, rfl, .inl ⟨by omega, by omega⟩, ?_⟩
    refine ⟨_, rfl, _, rfl, s, _, _, _, rfl, rfl, SqL.of hs, i2, _, _, rfl, rfl, _, _, rfl, rfl, (by show (0 : Int) < 2147483629; decide), _, _, rfl, rfl, ?_⟩
    have m1 := Int.emod_nonneg (b * (b / 1009 + 69621) + c) (b := 2147483629) (by decide)
    have m2 := Int.emod_lt_of_pos (b * (b / 1009 + 69621) + c) (b := 2147483629) (by decide)
    refine ⟨_, rfl, s, _, _, 1, rfl, rfl, hs, ixN_n (n := 3) (j := 1) (by decide), ?_⟩
    have j1 : atI [V.int a, .int ((b * (b / 1009 + 69621) + c) % 2147483629 + 7), .int c] 1 = some (.int ((b * (b / 1009 + 69621) + c) % 2147483629 + 7)) := atI_nat (j := 1) rfl
    refine ⟨_, rfl, s, [V.int a, .int ((b * (b / 1009 + 69621) + c) % 2147483629 + 7), .int c], _, _, rfl, rfl, SqL.of upd_same, j1, _, _, rfl, rfl, ⟨by decide, by decide⟩, _, rfl, _, _, rfl, rfl, hm0, fin _ _ (Kx.refl s H).wr ⟨_, _, _, upd_same, ha, by omega, by omega⟩⟩
end
end Mb


set_option Elab.async false
set_option linter.all false
set_option maxRecDepth 100000
set_option maxHeartbeats 4000000
/-! a name drawn -/
namespace Mb
open PySem PySem.Spec PyProof.Rows L2
abbrev zSome : Str := "abcdefghijklmnopqrstuvwxyz0123456789"
/-- a name of at most m signs -/
structure Stem (z : Str) (m : Nat) : Prop where
  ok : NameOk z
  hi : z.length ≤ m
theorem str_len (z y : Str) : (z ++ y).length = z.length + y.length := by
  show (z ++ y).cps.size = z.cps.size + y.cps.size
  rw [PySem.Str.cps_append, Array.size_append]
theorem stem_app {z y : Str} {m n : Nat} (h : Stem z m) (hy : y.length ≤ n) (hc : ∀ c ∈ y.cps.toList, c ∈ zLet.cps.toList ∨ c ∈ zFig.cps.toList) (hm : m + n ≤ 10) : Stem (z ++ y) (m + n) := by
  have h1 := h.ok.lo
  have h2 := h.hi
  have hl := str_len z y
  refine ⟨⟨by omega, by omega, ?_, ?_⟩, by omega⟩
  · obtain ⟨c, e, hc⟩ := h.ok.fst
    refine ⟨c, ?_, hc⟩
    rw [PySem.Str.cps_append, Array.getElem?_append_left h1]
    exact e
  · intro c hc'
    rw [PySem.Str.cps_append, Array.toList_append] at hc'
    rcases List.mem_append.mp hc' with h3 | h3
    · exact h.ok.all c h3
    · exact hc c h3
def nmB (z : Str) : Bool := decide (1 ≤ z.length) && (decide (z.length ≤ 10) && ((match z.cps[0]? with | some c => decide (c ∈ zLet.cps.toList) | none => false) && z.cps.toList.all fun c => decide (c ∈ zLet.cps.toList ∨ c ∈ zFig.cps.toList)))
theorem nmB_ok {z : Str} (h : nmB z = true) : NameOk z := by
  unfold nmB at h
  simp only [Bool.and_eq_true, decide_eq_true_eq] at h
  obtain ⟨h1, h2, h3, h4⟩ := h
  refine ⟨h1, h2, ?_, ?_⟩
  · cases e : z.cps[0]? with
    | none => rw [e] at h3; cases h3
    | some c => rw [e] at h3; exact ⟨c, rfl, by simpa using h3⟩
  · intro c hc
    have := List.all_eq_true.mp h4 c hc
    simpa using this
theorem some_size : zSome.length = 36 := by decide +kernel
theorem some_at {n : Nat} (h : n < 36) : ∃ c, zSome.cps[n]? = some c ∧ (c ∈ zLet.cps.toList ∨ c ∈ zFig.cps.toList) ∧ (n < 26 → nmB ⟨#[c]⟩ = true) := by
  have : ∀ n, n < 36 → (match zSome.cps[n]? with | some c => decide (c ∈ zLet.cps.toList ∨ c ∈ zFig.cps.toList) && (decide (26 ≤ n) || nmB ⟨#[c]⟩) | none => false) = true := by decide +kernel
  have h2 := this n h
  cases e : zSome.cps[n]? with
  | none => rw [e] at h2; cases h2
  | some c =>
    rw [e] at h2
    simp only [Bool.and_eq_true, decide_eq_true_eq, Bool.or_eq_true] at h2
    refine ⟨c, rfl, h2.1, fun h3 => ?_⟩
    rcases h2.2 with h4 | h4
    · omega
    · exact h4
abbrev kws : List Str := ["write", "wait", "else", "or", "lead", "with", "holds", "any", "skip", "mark"]
theorem kw_at {n : Nat} (h : n < 10) : ∃ z, (kws.map V.str)[n]? = some (.str z) ∧ Stem z 5 := by
  have : ∀ n, n < 10 → (match kws[n]? with | some z => nmB z && decide (z.length ≤ 5) | none => false) = true := by decide +kernel
  have h2 := this n h
  cases e : kws[n]? with
  | none => rw [e] at h2; cases h2
  | some z =>
    rw [e] at h2
    rw [Bool.and_eq_true] at h2
    exact ⟨z, by rw [List.getElem?_map, e]; rfl, nmB_ok h2.1, by simpa using h2.2⟩
/-- the name, told apart -/
def cand (z : Str) (n : Nat) : Str := if n = 0 then z else z ++ Str.ofString (toString (n : Int))
theorem fig_ok : ∀ n, n < 9 → (Str.ofString (toString ((n + 1 : Nat) : Int))).cps.toList = [49 + n] := by decide +kernel
theorem fig_len {n : Nat} (h : n < 9) : (Str.ofString (toString ((n + 1 : Nat) : Int))).length = 1 := by
  have := congrArg List.length (fig_ok n h)
  exact this
theorem cand_stem {z : Str} {n : Nat} (h : Stem z 5) (hn : n < 10) : NameOk (cand z n) := by
  unfold cand
  cases n with
  | zero => exact h.ok
  | succ n =>
    rw [if_neg (by omega)]
    refine (stem_app h (Nat.le_of_eq (fig_len (by omega))) (fun c hc => ?_) (by omega)).ok
    rw [fig_ok n (by omega)] at hc
    have e := List.mem_singleton.mp hc
    subst e
    have : ∀ n, n < 9 → 49 + n ∈ zFig.cps.toList := by decide +kernel
    exact .inr (this n (by omega))
theorem str_app_inj {z a b : Str} (h : z ++ a = z ++ b) : a.cps.toList = b.cps.toList := by
  have := congrArg (fun s => s.cps.toList) h
  simp only [PySem.Str.cps_append, Array.toList_append] at this
  exact List.append_cancel_left this
theorem cand_inj {z : Str} {i j : Nat} (hi : i < 10) (hj : j < 10) (h : cand z i = cand z j) : i = j := by
  unfold cand at h
  cases i with
  | zero =>
    cases j with
    | zero => rfl
    | succ j =>
      rw [if_pos rfl, if_neg (by omega)] at h
      have := congrArg Str.length h
      rw [str_len, fig_len (by omega)] at this
      omega
  | succ i =>
    cases j with
    | zero =>
      rw [if_pos rfl, if_neg (by omega)] at h
      have := congrArg Str.length h
      rw [str_len, fig_len (by omega)] at this
      omega
    | succ j =>
      rw [if_neg (by omega), if_neg (by omega)] at h
      have := str_app_inj h
      rw [fig_ok i (by omega), fig_ok j (by omega)] at this
      have := List.cons.inj this
      omega
theorem nodup_le {α : Type} [DecidableEq α] : ∀ (xs ys : List α), xs.Nodup → (∀ x ∈ xs, x ∈ ys) → xs.length ≤ ys.length
  | [], _, _, _ => Nat.zero_le _
  | x :: xs, ys, hn, hs => by
    have h := List.nodup_cons.mp hn
    have hx := hs x (List.mem_cons_self ..)
    have := nodup_le xs (ys.erase x) h.2 fun y hy => (List.mem_erase_of_ne (fun e => by subst e; exact h.1 hy)).mpr (hs y (List.mem_cons_of_mem _ hy))
    rw [List.length_erase_of_mem hx] at this
    have := List.length_pos_of_mem hx
    rw [List.length_cons]
    omega
theorem cand_few {z : Str} {taken : List Str} {n : Nat} (hn : n ≤ 10) (h : ∀ j, j < n → cand z j ∈ taken) : n ≤ taken.length := by
  have := nodup_le ((List.range n).map (cand z)) taken ?_ ?_
  · simpa using this
  · refine List.pairwise_map.mpr (List.Pairwise.imp_of_mem (fun {a b} ha hb hlt e => ?_) List.pairwise_lt_range)
    have h1 := List.mem_range.mp ha
    have h2 := List.mem_range.mp hb
    have := cand_inj (by omega) (by omega) e
    omega
  · intro x hx
    obtain ⟨j, hj, rfl⟩ := List.mem_map.mp hx
    exact h j (List.mem_range.mp hj)
theorem in_strs_iff {z : Str} {us : List Str} : inV (.str z) (us.map V.str) = decide (z ∈ us) := by
  by_cases h : z ∈ us
  · rw [in_strs h, decide_eq_true h]
  · rw [decide_eq_false h]
    unfold inV
    rw [List.any_map]
    refine Bool.eq_false_iff.mpr fun q => h ?_
    obtain ⟨y, hy, e⟩ := List.any_eq_true.mp q
    have : (y == z) = true := e
    rw [beq_iff_eq] at this
    exact this ▸ hy
def spName : Sp := fun vs H Q _ => ∃ (s t : Addr) (us : List Str), vs = [.ref s, .ref t] ∧ SdAt H s ∧ H t = some (.lst (us.map V.str)) ∧ s ≠ t ∧ us.length ≤ 5 ∧ ∀ z H2, Kx s H H2 → SdAt H2 s → NameOk z → z ∉ us → Q (.str z) H2
section
variable {P : Program} {w : World} {K : PySem.W.Frag} {mg : Str → Option Value} {base : Heap}
theorem sc_law_name : FnScope ["_law_s", "_law_taken", "_law_some", "_law_kind", "_law_stem", "_law_k", "_law_found", "_law_n"] ["_law_s", "_law_taken"] (defScope s_law_name) := ⟨rfl, rfl, rfl, by decide +kernel, rfl, by decide +kernel, by decide +kernel⟩
theorem ok_law_name (T : TX K mg) : Cal P w K mg base 2 "_law_name" spName := by
  refine calD (fn_law_name T.c) (T.glo (f_glo__law_name T.c)) sc_law_name (fun _ _ _ _ _ _ us hl => match us, hl with | [_, _], _ => rfl) (fun vs H Q E h => by obtain ⟨s, t, us, rfl, _⟩ := h; rfl) (fun cdv A outer s0 H vs Q E hr h => ?_)
  obtain ⟨s, t, us, rfl, hs, ht, hne, hlen, kk⟩ := h
  have c := T.c
  have nd := sc_law_name.nd
  refine ⟨_, pss_cons (ps_set (i := 2) nd rfl (Or.inl rfl) pe_str)
    (pss_cons (ps_set (i := 3) nd rfl (Or.inl rfl) (pe_c (ok_law_digit T) hr (pa_cons (pv 0) (pa_cons pe_int pa_nil))))
    (pss_cons (ps_set (i := 4) nd rfl (Or.inl rfl) (pe_item_str (pv 2) (pe_c (ok_law_digit T) hr (pa_cons (pv 0) (pa_cons pe_int pa_nil))) (fun _ _ => rfl)))
    (pss_cons (ps_for PassesOwn.never rfl (pi_range1 (by rfl) (T.free (f_free_range c)) (pa_cons (pe_c (ok_law_digit T) hr (pa_cons (pv 0) (pa_cons pe_int pa_nil))) pa_nil)) (pg_name (i := 5) nd rfl (Or.inl rfl))
      (pss_one (ps_set (i := 4) nd rfl (Or.inl rfl) (pe_op op_add_str (pv 4) (pe_item_str (pv 2) (pe_c (ok_law_digit T) hr (pa_cons (pv 0) (pa_cons pe_int pa_nil))) (fun _ _ => rfl))))))
    (pss_cut (ps_if (pt_cmpR op_eq (pv 3) pe_int (nomark _)) (pss_one (ps_set (i := 4) nd rfl (Or.inl rfl) (pe_ix ix_list (pe_lst (pa_cons pe_str (pa_cons pe_str (pa_cons pe_str (pa_cons pe_str (pa_cons pe_str (pa_cons pe_str (pa_cons pe_str (pa_cons pe_str (pa_cons pe_str (pa_cons pe_str pa_nil)))))))))))
        (pe_c (ok_law_digit T) hr (pa_cons (pv 0) (pa_cons pe_int pa_nil))) (fun _ _ => rfl)))) pss_nil)
    (pss_cons (ps_set (i := 6) nd rfl (Or.inl rfl) (pv 4))
    (pss_cons (ps_set (i := 7) nd rfl (Or.inl rfl) pe_int)
    (pss_cons (ps_while PassesOwn.never (pt_cmpR op_in_seq (pv 6) (pv 1) (by rfl))
      (pss_cons (ps_set (i := 7) nd rfl (Or.inl rfl) (pe_op op_add (pv 7) pe_int))
      (pss_one (ps_set (i := 6) nd rfl (Or.inl rfl) (pe_op op_add_str (pv 4) (pe_ty call_str_int bb_str (T.free (f_free_str c)) (pa_cons (pv 7) pa_nil)))))))
    (pss_one (ps_ret (pv 6)))))))))), ?_⟩
  have hsl : (100 : Nat) < sizeLine := by decide
  refine ⟨_, rfl, s, 7, rfl, hs, by decide, by decide, fun n1 H1 hn1 k1 d1 => ?_⟩
  refine ⟨_, rfl, _, rfl, s, 26, rfl, d1, by decide, by decide, fun n2 H2 hn2 k2 d2 => ?_⟩
  obtain ⟨c0, hc0, _, hc0b⟩ := some_at (n := n2) (by omega)
  have hz0 : Stem ⟨#[c0]⟩ 1 := ⟨nmB_ok (hc0b hn2), Nat.le_refl _⟩
  refine ⟨zSome, n2, c0, rfl, rfl, by omega, by omega, by rw [some_size]; omega, by rw [Int.toNat_natCast]; exact hc0, ?_⟩
  refine ⟨_, rfl, s, 4, rfl, d2, by decide, by decide, fun n3 H3 hn3 k3 d3 => ?_⟩
  refine ⟨_, rfl, by omega, by omega, for_it walk_range (fun i σ H4 => (∃ (z : Str) (v5 : Option V), σ = [some (.ref s), some (.ref t), some (.str zSome), some (.int n1), some (.str z), v5, none, none] ∧ Stem z (1 + i)) ∧ Kx s H H4 ∧ SdAt H4 s)
    ⟨⟨_, none, rfl, hz0⟩, (k1.trans k2).trans k3, d3⟩ (fun _ _ _ _ _ => trivial) ?_ ?_⟩
  · rintro i y σ H4 H5 hi ⟨⟨z, v5, rfl, hz⟩, q1, q2⟩ hy
    obtain ⟨rfl, rfl⟩ := hy
    refine ⟨_, rfl, _, rfl, _, rfl, s, 36, rfl, q2, by decide, by decide, fun n5 H6 hn5 k5 d5 => ?_⟩
    obtain ⟨c5, hc5, hc5a, _⟩ := some_at (n := n5) hn5
    refine ⟨zSome, n5, c5, rfl, rfl, by omega, by omega, by rw [some_size]; omega, by rw [Int.toNat_natCast]; exact hc5, ?_⟩
    have h3 : (n3 : Int).toNat ≤ 3 := by omega
    have hz2 : Stem (z ++ ⟨#[c5]⟩) (1 + i + 1) := stem_app hz (Nat.le_refl 1) (fun c hc => by
      have e := List.mem_singleton.mp (show c ∈ [c5] from hc)
      rw [e]
      exact hc5a) (by omega)
    have hzl := hz.hi
    refine ⟨z, ⟨#[c5]⟩, rfl, rfl, by show z.length + 1 ≤ sizeLine; omega, ⟨_, _, rfl, hz2⟩, q1.trans k5, d5⟩
  · rintro σ H4 ⟨⟨z, v5, rfl, hz⟩, q1, q2⟩
    refine ⟨fun σ H5 => (∃ z : Str, σ = [some (.ref s), some (.ref t), some (.str zSome), some (.int n1), some (.str z), v5, none, none] ∧ Stem z 5) ∧ Kx s H H5 ∧ SdAt H5 s, ?_, ?_⟩
    · refine ⟨_, rfl, rfl, _, rfl, ?_⟩
      cases hb : decide (V.int (n1 : Int) = V.int 6) with
      | false => exact iteN rfl ⟨⟨z, rfl, ⟨hz.ok, by have := hz.hi; omega⟩⟩, q1, q2⟩
      | true =>
        refine iteB rfl ⟨by show 10 ≤ sizeLine; omega, fun l hl => ?_⟩
        have d6 : SdAt (upd H4 l (.lst (kws.map V.str))) s := q2.same (smU (Same.refl _) hl)
        refine ⟨_, rfl, s, 10, rfl, d6, by decide, by decide, fun n6 H6 hn6 k6 d7 => ?_⟩
        obtain ⟨z6, hz6, hz6b⟩ := kw_at hn6
        have nls : l ≠ s := by
          obtain ⟨a, b, c, e, _⟩ := q2
          exact (ne_of_none e hl).symm
        exact ⟨l, _, _, _, rfl, rfl, SqL.of (k6 _ _ nls upd_same), atI_nat hz6, ⟨z6, rfl, hz6b⟩, (q1.trans (Kx.of (smU (Same.refl _) hl))).trans k6, d7⟩
    · rintro σ H5 ⟨⟨z, rfl, hz⟩, q1, q2⟩
      have ht5 : H5 t = some (.lst (us.map V.str)) := q1 _ _ hne.symm ht
      refine ⟨_, rfl, ?_⟩
      refine ⟨fun m σ H6 => ∃ n, m + n = 6 ∧ H6 = H5 ∧ σ = [some (.ref s), some (.ref t), some (.str zSome), some (.int n1), some (.str z), v5, some (.str (cand z n)), some (.int n)] ∧ ∀ j, j < n → cand z j ∈ us, ⟨6, 0, rfl, rfl, rfl, fun j hj => absurd hj (Nat.not_lt_zero j)⟩, ?_⟩
      rintro m σ H6 ⟨n, hm, rfl, rfl, hall⟩
      refine ⟨_, rfl, _, rfl, t, _, rfl, .inl (SqL.of ht5), rfl, flat_strs us, _, rfl, ?_⟩
      by_cases hin : cand z n ∈ us
      · have hf := cand_few (z := z) (taken := us) (n := n + 1) (by omega) fun j hj => by
          by_cases e : j = n
          · rw [e]; exact hin
          · exact hall j (by omega)
        refine iteB (by rw [in_strs hin]; rfl) ⟨fun σ' H' => ∃ m', m' < m ∧ _, fun σ' H' h => h, ?_⟩
        have hfl := fig_len (n := n) (by omega)
        have hzl := hz.hi
        refine ⟨_, rfl, _, _, rfl, rfl, _, rfl, _, rfl, (n : Int) + 1, rfl, ?_, z, _, rfl, rfl, ?_, m - 1, by omega, n + 1, by omega, rfl, ?_, ?_⟩
        · have : ∀ n : Nat, n < 6 → ((n : Int) + 1).natAbs.log2 < 1920 := by decide +kernel
          exact this n (by omega)
        · show z.length + (Str.ofString (toString ((n : Int) + 1))).length ≤ sizeLine
          rw [show (n : Int) + 1 = ((n + 1 : Nat) : Int) by omega, hfl]
          omega
        · have e : cand z (n + 1) = z ++ Str.ofString (toString ((n + 1 : Nat) : Int)) := by
            unfold cand
            rw [if_neg (by omega)]
          rw [e]
          rfl
        · intro j hj
          by_cases e : j = n
          · rw [e]; exact hin
          · exact hall j (by omega)
      · refine iteN (by show inV (.str (cand z n)) (us.map V.str) = false; rw [in_strs_iff, decide_eq_false hin]) ?_
        have hf := cand_few (z := z) (taken := us) (n := n) (by omega) hall
        exact ⟨_, rfl, kk _ _ q1 q2 (cand_stem hz (by omega)) hin⟩
end
end Mb


set_option Elab.async false
set_option linter.all false
set_option maxRecDepth 100000
set_option maxHeartbeats 4000000
/-! names and cells drawn -/
namespace Mb
open PySem PySem.Spec PyProof.Rows L2
theorem take_snoc {α : Type} {l : List α} {i : Nat} {x : α} (h : l[i]? = some x) : l.take (i + 1) = l.take i ++ [x] := by
  obtain ⟨hi, e⟩ := List.getElem?_eq_some_iff.mp h
  rw [List.take_succ_eq_append_getElem hi, e]
theorem Kx.up {s : Addr} {H H2 : Hp} {l : Addr} {o : HO} (k : Kx s H H2) (n : H l = none) : Kx s H (upd H2 l o) := fun b u hb e => by
  rw [upd_ne (ne_of_none e n)]
  exact k b u hb e
theorem SdAt.ne {H : Hp} {s l : Addr} (h : SdAt H s) (n : H l = none) : l ≠ s := by
  obtain ⟨a, b, c, e, _⟩ := h
  exact (ne_of_none e n).symm
theorem SdAt.up {H : Hp} {s l : Addr} {o : HO} (h : SdAt H s) (n : l ≠ s) : SdAt (upd H l o) s := by
  obtain ⟨a, b, c, e, h⟩ := h
  exact ⟨a, b, c, by rw [upd_ne n.symm]; exact e, h⟩
def spNames : Sp := fun vs H Q _ => ∃ (s : Addr) (m : Nat), vs = [.ref s, .int m] ∧ SdAt H s ∧ m ≤ 5 ∧ ∀ l (us : List Str) H2, H l = none → Kx s H H2 → SdAt H2 s → H2 l = some (.lst (us.map V.str)) → us.length = m → us.Nodup → (∀ z ∈ us, NameOk z) → Q (.ref l) H2
/-- a cell, at addresses of f -/
def CellN (H : Hp) (f : Addr → Prop) (v : V) (p : Str × List Str) : Prop := ∃ t r, v = .ref t ∧ f t ∧ f r ∧ H t = some (.tup [.str p.1, .ref r]) ∧ H r = some (.lst (p.2.map V.str))
def Kf (f : Addr → Prop) (H H2 : Hp) : Prop := ∀ b o, f b → H b = some o → H2 b = some o
theorem CellN.kf {H H2 : Hp} {f : Addr → Prop} (k : Kf f H H2) {v : V} {p : Str × List Str} (h : CellN H f v p) : CellN H2 f v p := by
  obtain ⟨t, r, e, ft, fr, a, b⟩ := h
  exact ⟨t, r, e, ft, fr, k _ _ ft a, k _ _ fr b⟩
def spCells : Sp := fun vs H Q _ => ∃ (s : Addr), vs = [.ref s, .int 2, .int 3] ∧ SdAt H s ∧ ∀ l (cs : Cells) H2, H l = none → Kx s H H2 → SdAt H2 s → CellsAt H2 l cs → CellsOk cs → Q (.ref l) H2
section
variable {P : Program} {w : World} {K : PySem.W.Frag} {mg : Str → Option Value} {base : Heap}
theorem sc_law_names : FnScope ["_law_s", "_law_many", "_law_found", "_law_k"] ["_law_s", "_law_many"] (defScope s_law_names) := ⟨rfl, rfl, rfl, by decide +kernel, rfl, by decide +kernel, by decide +kernel⟩
theorem ok_law_names (T : TX K mg) : Cal P w K mg base 3 "_law_names" spNames := by
  refine calD (fn_law_names T.c) (T.glo (f_glo__law_names T.c)) sc_law_names (fun _ _ _ _ _ _ us hl => match us, hl with | [_, _], _ => rfl) (fun vs H Q E h => by obtain ⟨s, m, rfl, _⟩ := h; rfl) (fun cdv A outer s0 H vs Q E hr h => ?_)
  obtain ⟨s, m, rfl, hs, hm, kk⟩ := h
  have c := T.c
  have nd := sc_law_names.nd
  refine ⟨_, pss_cons (ps_set (i := 2) nd rfl (Or.inl rfl) (pe_lst pa_nil))
    (pss_cons (ps_for PassesOwn.never rfl (pi_range1 (by rfl) (T.free (f_free_range c)) (pa_cons (pv 1) pa_nil)) (pg_name (i := 3) nd rfl (Or.inl rfl))
      (pss_one (ps_expr (pe_bm PySem.F.plainAttrs_list PySem.F.slot_list_append PySem.F.type_list_append mt_append (pv 2) (pa_cons (pe_c (ok_law_name T) hr (pa_cons (pv 0) (pa_cons (pv 2) pa_nil))) pa_nil)))))
    (pss_one (ps_ret (pv 2)))), ?_⟩
  have hsl : (100 : Nat) < sizeLine := by decide
  refine ⟨by show 0 ≤ sizeLine; omega, fun l hl => ?_⟩
  have nls := hs.ne hl
  refine ⟨_, rfl, _, rfl, by omega, by omega, for_it walk_range (fun i σ H2 => (∃ v3 : Option V, σ = [some (.ref s), some (.int m), some (.ref l), v3]) ∧ Kx s H H2 ∧ SdAt H2 s ∧ ∃ us, H2 l = some (.lst (us.map V.str)) ∧ us.length = i ∧ us.Nodup ∧ ∀ z ∈ us, NameOk z)
    ⟨⟨none, rfl⟩, (Kx.refl s H).up hl, hs.up nls, [], upd_same, rfl, List.nodup_nil, fun z hz => by cases hz⟩ (fun _ _ _ _ _ => trivial) ?_ ?_⟩
  · rintro i y σ H2 H3 hi ⟨⟨v3, rfl⟩, q1, q2, us, q3, q4, q5, q6⟩ hy
    obtain ⟨rfl, rfl⟩ := hy
    have hi' : i < m := by
      have : ((m : Int)).toNat = m := Int.toNat_natCast m
      omega
    refine ⟨_, rfl, .inl ⟨rfl, _, SqL.of q3⟩, _, rfl, _, rfl, s, l, us, rfl, q2, q3, nls.symm, by omega, fun z H4 k4 d4 hz hzn => ?_⟩
    have e4 := k4 _ _ nls q3
    refine ⟨l, _, _, rfl, rfl, e4, by rw [List.length_map]; omega, ⟨_, rfl⟩, (q1.trans k4).up hl, d4.up nls, us ++ [z], by rw [List.map_append]; exact upd_same, by rw [List.length_append, q4]; rfl, ?_, ?_⟩
    · refine List.nodup_append.mpr ⟨q5, List.pairwise_singleton .., fun a ha b hb e => ?_⟩
      have := List.mem_singleton.mp hb
      subst this
      subst e
      exact hzn ha
    · intro x hx
      rcases List.mem_append.mp hx with h | h
      · exact q6 x h
      · rw [List.mem_singleton.mp h]
        exact hz
  · rintro σ H2 ⟨⟨v3, rfl⟩, q1, q2, us, q3, q4, q5, q6⟩
    exact ⟨_, rfl, kk l us H2 hl q1 q2 q3 (by rw [q4]; exact Int.toNat_natCast m) q5 q6⟩
theorem sc_law_cells : FnScope ["_law_s", "_law_most", "_law_values", "_law_found", "_law_name_here"] ["_law_s", "_law_most", "_law_values"] (defScope s_law_cells) := ⟨rfl, rfl, rfl, by decide +kernel, rfl, by decide +kernel, by decide +kernel⟩
theorem ok_law_cells (T : TX K mg) : Cal P w K mg base 4 "_law_cells" spCells := by
  refine calD (fn_law_cells T.c) (T.glo (f_glo__law_cells T.c)) sc_law_cells (fun _ _ _ _ _ _ us hl => match us, hl with | [_, _, _], _ => rfl) (fun vs H Q E h => by obtain ⟨s, rfl, _⟩ := h; rfl) (fun cdv A outer s0 H vs Q E hr h => ?_)
  obtain ⟨s, rfl, hs, kk⟩ := h
  have c := T.c
  have nd := sc_law_cells.nd
  refine ⟨_, pss_cons (ps_set (i := 3) nd rfl (Or.inl rfl) (pe_lst pa_nil))
    (pss_cons (ps_for PassesOwn.never rfl (pi_list (pe_c (ok_law_names T) hr (pa_cons (pv 0) (pa_cons (pe_op op_add pe_int (pe_c (ok_law_digit T) hr (pa_cons (pv 0) (pa_cons (pv 1) pa_nil)))) pa_nil)))) (pg_name (i := 4) nd rfl (Or.inl rfl))
      (pss_one (ps_expr (pe_bm PySem.F.plainAttrs_list PySem.F.slot_list_append PySem.F.type_list_append mt_append (pv 3) (pa_cons (pe_tup (pa_cons (pv 4) (pa_cons (pe_c (ok_law_names T) hr (pa_cons (pv 0) (pa_cons (pe_op op_add pe_int (pe_c (ok_law_digit T) hr (pa_cons (pv 0) (pa_cons (pv 2) pa_nil)))) pa_nil))) pa_nil))) pa_nil)))))
    (pss_one (ps_ret (pv 3)))), ?_⟩
  have hsl : (100 : Nat) < sizeLine := by decide
  refine ⟨by show 0 ≤ sizeLine; omega, fun l hl => ?_⟩
  have nls := hs.ne hl
  refine ⟨_, rfl, _, rfl, _, rfl, s, 2, rfl, hs.up nls, by decide, by decide, fun n1 H1 hn1 k1 d1 => ⟨_, _, rfl, rfl, s, 1 + n1, rfl, d1, by omega, fun ln ns H2 hln k2 d2 e2 hlen hnd hok => ⟨ln, rfl, ⟨_, SqL.of e2⟩, ?_⟩⟩⟩
  have k12 := k1.trans k2
  have e2l : H2 l = some (.lst []) := k12 _ _ nls upd_same
  have e1l : H1 l = some (.lst []) := k1 _ _ nls upd_same
  have nln : ln ≠ l := (ne_of_none e1l hln).symm
  have nlns : ln ≠ s := d1.ne hln
  have kH : Kx s H H2 := ((Kx.refl s H).up hl).trans k12
  refine for_it (walk_list (xs := ns.map V.str)) (fun i σ H3 => (∃ v4 : Option V, σ = [some (.ref s), some (.int 2), some (.int 3), some (.ref l), v4]) ∧ Kx s H H3 ∧ SdAt H3 s ∧ H3 ln = some (.lst (ns.map V.str)) ∧
    ∃ acc cs, H3 l = some (.lst acc) ∧ acc.length = i ∧ Paired (CellN H3 fun b => b ≠ s ∧ b ≠ l) acc cs ∧ cs.map (·.1) = ns.take i ∧ ∀ p ∈ cs, CellOk p)
    ⟨⟨none, rfl⟩, kH, d2, e2, [], [], e2l, rfl, .nil, rfl, fun p hp => by cases hp⟩ (fun i σ H3 _ q => SqL.of q.2.2.2.1) ?_ ?_
  · rintro i y σ H3 H4 hi ⟨⟨v4, rfl⟩, q1, q2, q3, acc, cs, q4, q5, q6, q7, q8⟩ ⟨rfl, hy⟩
    obtain ⟨nm, hnm, rfl⟩ := map_at hy
    rw [List.length_map] at hi
    refine ⟨_, rfl, .inl ⟨rfl, _, SqL.of q4⟩, _, rfl, _, rfl, _, rfl, _, rfl, s, 3, rfl, q2, by decide, by decide, fun n5 H5 hn5 k5 d5 => ⟨_, _, rfl, rfl, s, 2 + n5, rfl, d5, by omega, fun lv us H6 hlv k6 d6 e6 hulen hund huok => ⟨by show 2 ≤ sizeLine; omega, fun tp htp => ?_⟩⟩⟩
    have k56 := k5.trans k6
    have e6l := k56 _ _ nls q4
    have nlvl : lv ≠ l := (ne_of_none (k5 _ _ nls q4) hlv).symm
    have nlvs : lv ≠ s := d5.ne hlv
    have ntl : tp ≠ l := (ne_of_none e6l htp).symm
    have nts : tp ≠ s := d6.ne htp
    have ntv : lv ≠ tp := ne_of_none e6 htp
    have e7l : (upd H6 tp (.tup [.str nm, .ref lv])) l = some (.lst acc) := by rw [upd_ne ntl.symm]; exact e6l
    have kf : Kf (fun b => b ≠ s ∧ b ≠ l) H4 (upd (upd H6 tp (.tup [.str nm, .ref lv])) l (.lst (acc ++ [.ref tp]))) := fun b o hb e => by
      have e6b := k56 _ _ hb.1 e
      rw [upd_ne hb.2, upd_ne (ne_of_none e6b htp)]
      exact e6b
    have ntpH : H tp = none := by
      cases hh : H tp with
      | none => rfl
      | some o => rw [(q1.trans k56) _ _ nts hh] at htp; cases htp
    refine ⟨l, acc, _, rfl, rfl, e7l, by omega, ⟨_, rfl⟩, ((q1.trans k56).up ntpH).up hl, (d6.up nts).up nls, kf _ _ ⟨nlns, nln⟩ q3, acc ++ [.ref tp], cs ++ [(nm, us)], upd_same, by rw [List.length_append, q5]; rfl, ?_, ?_, ?_⟩
    · refine (q6.mono fun _ _ h => h.kf kf).snoc ⟨tp, lv, rfl, ⟨nts, ntl⟩, ⟨nlvs, nlvl⟩, by rw [upd_ne ntl]; exact upd_same, by rw [upd_ne nlvl, upd_ne ntv]; exact e6⟩
    · rw [List.map_append, q7, take_snoc hnm]
      rfl
    · intro p hp
      rcases List.mem_append.mp hp with h | h
      · exact q8 p h
      · rw [List.mem_singleton.mp h]
        exact ⟨hok nm (List.mem_of_getElem? hnm), by show 2 ≤ us.length; omega, by show us.length ≤ 4; omega, huok, hund⟩
  · rintro σ H3 ⟨⟨v4, rfl⟩, q1, q2, q3, acc, cs, q4, q5, q6, q7, q8⟩
    rw [List.take_of_length_le (by rw [List.length_map]; exact Nat.le_refl _)] at q7
    have hcl := congrArg List.length q7
    rw [List.length_map] at hcl
    exact ⟨_, rfl, kk l cs H3 hl q1 q2 ⟨acc, q4, q6.mono fun _ _ h => by obtain ⟨t, r, e, _, _, a, b⟩ := h; exact ⟨t, r, e, a, b⟩⟩ ⟨by omega, by omega, by rw [q7]; exact hnd, q8⟩⟩
end
end Mb


set_option Elab.async false
set_option linter.all false
set_option maxRecDepth 100000
set_option maxHeartbeats 4000000
/-! statements drawn: what stands where -/
namespace Mb
open PySem PySem.Spec PyProof.Rows L2
def Kd.word : Kd → Str
  | .write _ _ => "write" | .wait _ _ => "wait" | .mark _ => "mark" | .skip => "skip" | .stop => "stop" | .iff _ _ => "if" | .whil _ _ => "while" | .choose => "choose" | .loop => "loop"
def Kd.r1 : Kd → V
  | .write c _ => .str c | .wait c _ => .str c | .mark n => .str n | .iff c _ => .str c | .whil c _ => .str c | _ => .non
def Kd.r2 : Kd → V
  | .write _ v => .str v | .wait _ v => .str v | .iff _ v => .str v | .whil _ v => .str v | _ => .non
/-- a statement as a tuple, at addresses of f -/
def RawS (H : Hp) (f : Addr → Prop) (R : V → List Stm → Prop) (v : V) (s : Stm) : Prop := ∃ t pt ps, v = .ref t ∧ f t ∧ f pt ∧ H t = some (.tup [.str s.kd.word, s.kd.r1, s.kd.r2, .ref pt]) ∧ H pt = some (.tup ps) ∧ Paired R ps s.parts ∧ (s.kd.np = 0 → s.pa = []) ∧ (s.kd.np < 2 → s.pb = [])
def RawR (H : Hp) (f : Addr → Prop) : Nat → V → List Stm → Prop
  | 0 => fun _ _ => False
  | n + 1 => fun v ss => ∃ l as, v = .ref l ∧ f l ∧ H l = some (.lst as) ∧ Paired (RawS H f (RawR H f n)) as ss
theorem RawS.imp {H H2 : Hp} {f f2 : Addr → Prop} {R R2 : V → List Stm → Prop} (k : Kf f H H2) (g : ∀ b, f b → f2 b) (i : ∀ v ss, R v ss → R2 v ss) {v : V} {s : Stm} (h : RawS H f R v s) : RawS H2 f2 R2 v s := by
  obtain ⟨t, pt, ps, e, ft, fp, a, b, c, d⟩ := h
  exact ⟨t, pt, ps, e, g _ ft, g _ fp, k _ _ ft a, k _ _ fp b, c.mono fun _ _ h => i _ _ h, d⟩
theorem RawR.imp {H H2 : Hp} {f f2 : Addr → Prop} (k : Kf f H H2) (g : ∀ b, f b → f2 b) : ∀ (n : Nat) (v : V) (ss : List Stm), RawR H f n v ss → RawR H2 f2 n v ss
  | 0, _, _, h => h
  | n + 1, v, ss, ⟨l, as, e, fl, a, b⟩ => ⟨l, as, e, g _ fl, k _ _ fl a, b.mono fun _ _ h => h.imp k g (RawR.imp k g n)⟩
theorem Kf.refl (f : Addr → Prop) (H : Hp) : Kf f H H := fun _ _ _ e => e
theorem Kf.trans {f : Addr → Prop} {H H1 H2 : Hp} (a : Kf f H H1) (b : Kf f H1 H2) : Kf f H H2 := fun c o n e => b c o n (a c o n e)
theorem Kf.weak {f g : Addr → Prop} {H H2 : Hp} (k : Kf f H H2) (i : ∀ b, g b → f b) : Kf g H H2 := fun b o n e => k b o (i b n) e
abbrev Nsm (s m : Addr) : Addr → Prop := fun b => b ≠ s ∧ b ≠ m
theorem Kf.of {f : Addr → Prop} {H H2 : Hp} (s : Same H H2) : Kf f H H2 := fun b o _ e => s b o e
theorem Kf.kx {s m : Addr} {H H2 : Hp} (k : Kx s H H2) : Kf (Nsm s m) H H2 := fun b o n e => k b o n.1 e
theorem Kf.up {f : Addr → Prop} {H H2 : Hp} {l : Addr} {o : HO} (k : Kf f H H2) (n : H l = none) : Kf f H (upd H2 l o) := fun b u hb e => by
  rw [upd_ne (ne_of_none e n)]
  exact k b u hb e
theorem Kf.wr {f : Addr → Prop} {H H2 : Hp} {l : Addr} {o : HO} (k : Kf f H H2) (n : ¬ f l) : Kf f H (upd H2 l o) := fun b u hb e => by
  rw [upd_ne (fun z => n (by rw [← z]; exact hb))]
  exact k b u hb e
/-- the dict of what a program is drawn from -/
def mkv (lc lm : Addr) (n : Nat) : List (Key × V) := [(.inr "cells", .ref lc), (.inr "marks", .ref lm), (.inr "left", .int n)]
theorem mkv_cells (lc lm : Addr) (n : Nat) : valV (mkv lc lm n) (.inr "cells") = some (.ref lc) := valV_pos rfl
theorem mkv_marks (lc lm : Addr) (n : Nat) : valV (mkv lc lm n) (.inr "marks") = some (.ref lm) := (valV_neg (fun z => absurd (Sum.inr.inj z) (by decide +kernel))).trans (valV_pos rfl)
theorem mkv_left (lc lm : Addr) (n : Nat) : valV (mkv lc lm n) (.inr "left") = some (.int n) := (valV_neg (fun z => absurd (Sum.inr.inj z) (by decide +kernel))).trans ((valV_neg (fun z => absurd (Sum.inr.inj z) (by decide +kernel))).trans (valV_pos rfl))
theorem mkv_put (lc lm : Addr) (n n2 : Nat) : putK (mkv lc lm n) (.inr "left") (.int n2) = mkv lc lm n2 := by
  have h1 : ¬ (Sum.inr "cells" : Key) = .inr "left" := fun z => absurd (Sum.inr.inj z) (by decide +kernel)
  have h2 : ¬ (Sum.inr "marks" : Key) = .inr "left" := fun z => absurd (Sum.inr.inj z) (by decide +kernel)
  simp [putK, mkv, h1, h2]
/-- what the statements are drawn from -/
structure Ge (H : Hp) (s m : Addr) (q : Addr × Addr) (cs : Cells) (ms : List Str) (n : Nat) : Prop where
  sd : SdAt H s
  hm : ∃ as, H m = some (.dK (mkv q.1 q.2 n)) ∧ q.1 ≠ s ∧ q.2 ≠ s ∧ H q.1 = some (.lst as) ∧ Paired (CellN H (Nsm s m)) as cs ∧ H q.2 = some (.lst (ms.map V.str))
  ok : CellsOk cs
  m2 : ms.length = 2
  mo : ∀ z ∈ ms, NameOk z
theorem Ge.sm {H : Hp} {s m : Addr} {q : Addr × Addr} {cs : Cells} {ms : List Str} {n : Nat} (g : Ge H s m q cs ms n) : m ≠ s := by
  obtain ⟨as, e, _⟩ := g.hm
  obtain ⟨a, b, c, e2, _⟩ := g.sd
  exact ne_of e e2 (by intro z; cases z)
theorem Ge.kx {H H2 : Hp} {s m : Addr} {q : Addr × Addr} {cs : Cells} {ms : List Str} {n : Nat} (g : Ge H s m q cs ms n) (k : Kx s H H2) (d : SdAt H2 s) : Ge H2 s m q cs ms n := by
  obtain ⟨as, e, n1, n2, e1, p, e2⟩ := g.hm
  exact ⟨d, ⟨as, k _ _ g.sm e, n1, n2, k _ _ n1 e1, p.mono fun _ _ h => h.kf (Kf.kx k), k _ _ n2 e2⟩, g.ok, g.m2, g.mo⟩
theorem Ge.same {H H2 : Hp} {s m : Addr} {q : Addr × Addr} {cs : Cells} {ms : List Str} {n : Nat} (g : Ge H s m q cs ms n) (k : Same H H2) : Ge H2 s m q cs ms n := g.kx (Kx.of k) (g.sd.same k)
theorem Ge.fs {H : Hp} {s m : Addr} {q : Addr × Addr} {cs : Cells} {ms : List Str} {n : Nat} (g : Ge H s m q cs ms n) {b : Addr} (h : H b = none) : Nsm s m b := by
  obtain ⟨as, e, _⟩ := g.hm
  exact ⟨g.sd.ne h, (ne_of_none e h).symm⟩
/-- later, on the same lists -/
theorem Ge.on {H H2 : Hp} {s m : Addr} {q : Addr × Addr} {cs : Cells} {ms : List Str} {n n2 : Nat} (g : Ge H s m q cs ms n) (k : Kf (Nsm s m) H H2) (d : SdAt H2 s) (hm : H2 m = some (.dK (mkv q.1 q.2 n2))) : Ge H2 s m q cs ms n2 := by
  obtain ⟨as, e, n1, n2', e1, p, e2⟩ := g.hm
  exact ⟨d, ⟨as, hm, n1, n2', k _ _ ⟨n1, ne_of e1 e (by intro z; cases z)⟩ e1, p.mono fun _ _ h => h.kf k, k _ _ ⟨n2', ne_of e2 e (by intro z; cases z)⟩ e2⟩, g.ok, g.m2, g.mo⟩
theorem Ge.at_m {H : Hp} {s m : Addr} {q : Addr × Addr} {cs : Cells} {ms : List Str} {n : Nat} (g : Ge H s m q cs ms n) : H m = some (.dK (mkv q.1 q.2 n)) := by
  obtain ⟨as, e, _⟩ := g.hm
  exact e
/-- a kind drawn from these -/
def GK (cs : Cells) (ms : List Str) (k : Kd) : Prop := match k with
  | .write c v => ∃ us, (c, us) ∈ cs ∧ v ∈ us
  | .wait c v => ∃ us, (c, us) ∈ cs ∧ v ∈ us
  | .iff c v => ∃ us, (c, us) ∈ cs ∧ v ∈ us
  | .whil c v => ∃ us, (c, us) ∈ cs ∧ v ∈ us
  | .mark n => n ∈ ms
  | _ => True
def spSimple : Sp := fun vs H Q _ => ∃ (s m : Addr) (q : Addr × Addr) (cs : Cells) (ms : List Str) (n k : Nat) (c v : Str) (us : List Str), vs = [.ref s, .ref m, .int k, .str c, .str v] ∧ Ge H s m q cs ms n ∧ (c, us) ∈ cs ∧ v ∈ us ∧
  ∀ w kd H2, kd.np = 0 → GK cs ms kd → Kx s H H2 → SdAt H2 s → (∀ R, RawS H2 (fun b => H b = none) R w (.mk kd [] [])) → Q w H2
section
variable {P : Program} {w : World} {K : PySem.W.Frag} {mg : Str → Option Value} {base : Heap}
theorem kx_none {s : Addr} {H H2 : Hp} {b : Addr} (k : Kx s H H2) (d : SdAt H s) (h : H2 b = none) (hs : SdAt H2 s) : H b = none := by
  cases e : H b with
  | none => rfl
  | some o =>
    by_cases hb : b = s
    · subst hb
      obtain ⟨_, _, _, e2, _⟩ := hs
      rw [e2] at h
      cases h
    · rw [k _ _ hb e] at h
      cases h
theorem sc_law_simple : FnScope ["_law_s", "_law_m", "_law_kind", "_law_cell", "_law_value"] ["_law_s", "_law_m", "_law_kind", "_law_cell", "_law_value"] (defScope s_law_simple) := ⟨rfl, rfl, rfl, by decide +kernel, rfl, by decide +kernel, by decide +kernel⟩
theorem ok_law_simple (T : TX K mg) : Cal P w K mg base 2 "_law_simple" spSimple := by
  refine calD (fn_law_simple T.c) (T.glo (f_glo__law_simple T.c)) sc_law_simple (fun _ _ _ _ _ _ us hl => match us, hl with | [_, _, _, _, _], _ => rfl) (fun vs H Q E h => by obtain ⟨s, m, q, cs, ms, n, k, c, v, us, rfl, _⟩ := h; rfl) (fun cdv A outer s0 H vs Q E hr h => ?_)
  obtain ⟨s, m, q, cs, ms, n, k, c, v, us, rfl, g, hc, hv, kk⟩ := h
  have T1 := T.c
  have hu := hu_of hr
  refine ⟨_, pss_cons (ps_if (pt_cmpR op_lt (pv 2) pe_int (nomark _)) (pss_one (ps_ret (pe_tup (pa_cons pe_str (pa_cons (pv 3) (pa_cons (pv 4) (pa_cons (pe_tup pa_nil) pa_nil))))))) pss_nil)
    (pss_cons (ps_if (pt_cmpR op_lt (pv 2) pe_int (nomark _)) (pss_one (ps_ret (pe_tup (pa_cons pe_str (pa_cons (pv 3) (pa_cons (pv 4) (pa_cons (pe_tup pa_nil) pa_nil))))))) pss_nil)
    (pss_cons (ps_if (pt_cmpR op_lt (pv 2) pe_int (nomark _)) (pss_one (ps_ret (pe_tup (pa_cons pe_str (pa_cons (pe_ix ix_list (pe_dget hu (pv 1) pe_str (fun _ _ => rfl)) (pe_c (ok_law_digit T) hr (pa_cons (pv 0) (pa_cons (pe_b call_len_seq bb_len (T.free (f_free_len T1)) (pa_cons (pe_dget hu (pv 1) pe_str (fun _ _ => rfl)) pa_nil)) pa_nil))) (fun _ _ => rfl)) (pa_cons pe_non (pa_cons (pe_tup pa_nil) pa_nil))))))) pss_nil)
    (pss_one (ps_ret (pe_tup (pa_cons (pe_ix ix_list (pe_lst (pa_cons pe_str (pa_cons pe_str pa_nil))) (pe_ty call_int1 bb_int (T.free (f_free_int T1)) (pa_cons (pe_cmpR op_eq (pv 2) pe_int (nomark _)) pa_nil)) (fun _ _ => rfl)) (pa_cons pe_non (pa_cons pe_non (pa_cons (pe_tup pa_nil) pa_nil))))))))), ?_⟩
  have fin : ∀ (kd : Kd) (H1 : Hp) (pt t : Addr), kd.np = 0 → GK cs ms kd → Kx s H H1 → SdAt H1 s → H1 pt = none → (upd H1 pt (.tup [])) t = none → Q (.ref t) (upd (upd H1 pt (.tup [])) t (.tup [.str kd.word, kd.r1, kd.r2, .ref pt])) := by
    intro kd H1 pt t hnp hg hk hd h1 h2
    have s1 : Same H1 (upd (upd H1 pt (.tup [])) t (.tup [.str kd.word, kd.r1, kd.r2, .ref pt])) := smN (smU (Same.refl H1) h1) h2
    have h2' := (smU (o := .tup []) (Same.refl H1) h1).free h2
    refine kk _ kd _ hnp hg (hk.trans (Kx.of s1)) (hd.same s1) fun R => ⟨t, pt, [], rfl, kx_none hk g.sd h2' hd, kx_none hk g.sd h1 hd, upd_same, ?_, ?_, fun _ => rfl, fun _ => rfl⟩
    · exact smU (Same.refl _) h2 _ _ upd_same
    · cases kd <;> first | exact .nil | cases hnp
  have g4 : (4 : Nat) ≤ sizeLine := by decide
  have g0 : (0 : Nat) ≤ sizeLine := by decide
  have g2 : (2 : Nat) ≤ sizeLine := by decide
  refine ⟨_, rfl, _, _, rfl, rfl, _, rfl, ?_⟩
  by_cases h1 : (k : Int) < 4
  · refine iteB (decide_eq_true h1) ⟨_, rfl, _, rfl, g0, fun pt hpt => ⟨g4, fun t ht => ?_⟩⟩
    exact fin (.write c v) H pt t rfl ⟨us, hc, hv⟩ (Kx.refl s H) g.sd hpt ht
  refine iteN (decide_eq_false h1) ⟨_, rfl, _, _, rfl, rfl, _, rfl, ?_⟩
  by_cases h2 : (k : Int) < 7
  · refine iteB (decide_eq_true h2) ⟨_, rfl, _, rfl, g0, fun pt hpt => ⟨g4, fun t ht => ?_⟩⟩
    exact fin (.wait c v) H pt t rfl ⟨us, hc, hv⟩ (Kx.refl s H) g.sd hpt ht
  refine iteN (decide_eq_false h2) ⟨_, rfl, _, _, rfl, rfl, _, rfl, ?_⟩
  by_cases h3 : (k : Int) < 10
  · obtain ⟨as, e, n1, n2, e1, p, e2⟩ := g.hm
    have dg := DGet.k (k := .inr "marks") e
    rw [mkv_marks] at dg
    refine iteB (decide_eq_true h3) ⟨_, rfl, _, _, rfl, dg, _, rfl, _, rfl, _, _, rfl, dg, q.2, _, rfl, .inl (SqL.of e2), s, 2, ?_, g.sd, by decide, by decide, fun n5 H5 hn5 k5 d5 => ?_⟩
    · show [V.ref s, V.int ((ms.map V.str).length : Nat)] = _
      rw [List.length_map, g.m2] <;> rfl
    · have hl : n5 < ms.length := by rw [g.m2]; exact hn5
      have hat : (ms.map V.str)[n5]? = some (.str ms[n5]) := by rw [List.getElem?_map, List.getElem?_eq_getElem hl]; rfl
      refine ⟨q.2, _, _, _, rfl, rfl, SqL.of (k5 _ _ n2 e2), atI_nat hat, g0, fun pt hpt => ⟨g4, fun t ht => ?_⟩⟩
      exact fin (.mark ms[n5]) H5 pt t rfl (List.getElem_mem hl) k5 d5 hpt ht
  refine iteN (decide_eq_false h3) ⟨g2, fun l hl => ⟨_, rfl, rfl, .inr ⟨_, rfl, ?_⟩⟩⟩
  have s1 : Same H (upd H l (.lst [V.str "skip", .str "stop"])) := smU (Same.refl H) hl
  cases hb : decide (V.int (k : Int) = V.int 11) with
  | false =>
    refine ⟨l, _, _, _, rfl, rfl, SqL.of upd_same, atI_nat (j := 0) rfl, g0, fun pt hpt => ⟨g4, fun t ht => ?_⟩⟩
    exact fin .skip _ pt t rfl trivial (Kx.of s1) (g.sd.same s1) hpt ht
  | true =>
    refine ⟨l, _, _, _, rfl, rfl, SqL.of upd_same, atI_nat (j := 1) rfl, g0, fun pt hpt => ⟨g4, fun t ht => ?_⟩⟩
    exact fin .stop _ pt t rfl trivial (Kx.of s1) (g.sd.same s1) hpt ht
end
end Mb


set_option Elab.async false
set_option linter.all false
set_option maxRecDepth 100000
set_option maxHeartbeats 4000000
/-! a statement drawn -/
namespace Mb
open PySem PySem.Spec PyProof.Rows L2
def Fr (H : Hp) : Addr → Prop := fun b => H b = none
def AllG (cs : Cells) (ms : List Str) (ss : List Stm) : Prop := ∀ t ∈ ss, GK cs ms t.kd
def spStat (d : Nat) : Sp := fun vs H Q _ => ∃ (s m : Addr) (q : Addr × Addr) (cs : Cells) (ms : List Str) (n : Nat), vs = [.ref s, .ref m, .int d] ∧ Ge H s m q cs ms n ∧ 1 ≤ n ∧ n ≤ 8 ∧
  ∀ w (stm : Stm) n2 H2, Kf (Nsm s m) H H2 → Ge H2 s m q cs ms n2 → n2 + stm.sz = n → AllG cs ms stm.pl → RawS H2 (Fr H) (RawR H2 (Fr H) d) w stm → Q w H2
def spRow : Nat → Sp
  | 0 => fun _ _ _ _ => False
  | d + 1 => fun vs H Q _ => ∃ (s m : Addr) (q : Addr × Addr) (cs : Cells) (ms : List Str) (n : Nat), vs = [.ref s, .ref m, .int d] ∧ Ge H s m q cs ms n ∧ n ≤ 8 ∧
    ∀ w (ss : List Stm) n2 H2, Kf (Nsm s m) H H2 → Ge H2 s m q cs ms n2 → n2 + szs ss = n → AllG cs ms (pls ss) → RawR H2 (Fr H) (d + 1) w ss → Q w H2
theorem Ge.fr {H H2 : Hp} {s m : Addr} {q : Addr × Addr} {cs : Cells} {ms : List Str} {n2 : Nat} (k : Kf (Nsm s m) H H2) (g2 : Ge H2 s m q cs ms n2) {b : Addr} (h : Fr H2 b) : Fr H b := by
  have hn := g2.fs h
  unfold Fr at *
  cases e : H b with
  | none => rfl
  | some o =>
    rw [k _ _ hn e] at h
    cases h
theorem Ge.kf {H H2 : Hp} {s m : Addr} {q : Addr × Addr} {cs : Cells} {ms : List Str} {n : Nat} (g : Ge H s m q cs ms n) {b : Addr} (h : Fr H b) : Nsm s m b := g.fs h
section
variable {P : Program} {w : World} {K : PySem.W.Frag} {mg : Str → Option Value} {base : Heap}
theorem sc_law_statement : FnScope ["_law_s", "_law_m", "_law_deep", "_law_kind", "_law_cell", "_law_values", "_law_value"] ["_law_s", "_law_m", "_law_deep"] (defScope s_law_statement) := ⟨rfl, rfl, rfl, by decide +kernel, rfl, by decide +kernel, by decide +kernel⟩
theorem st_stat (T : TX K mg) {d : Nat} (hR : Cal P w K mg base (2 * d + 2) "_law_row" (spRow d)) : Cal P w K mg base (2 * d + 3) "_law_statement" (spStat d) := by
  refine calD (fn_law_statement T.c) (T.glo (f_glo__law_statement T.c)) sc_law_statement (fun _ _ _ _ _ _ us hl => match us, hl with | [_, _, _], _ => rfl) (fun vs H Q E h => by obtain ⟨s, m, q, cs, ms, n, rfl, _⟩ := h; rfl) (fun cdv A outer s0 H vs Q E hr h => ?_)
  obtain ⟨s, m, q, cs, ms, n, rfl, g, hn1, hn8, kk⟩ := h
  have c := T.c
  have nd := sc_law_statement.nd
  have hu := hu_of hr
  refine ⟨_, pss_cons (ps_dput hu (pv 1) pe_str (pe_op op_sub (pe_dget hu (pv 1) pe_str (fun _ _ => rfl)) pe_int) rfl)
    (pss_cons (ps_set (i := 3) nd rfl (Or.inl rfl) (pe_c (ok_law_digit T) hr (pa_cons (pv 0) (pa_cons pe_int pa_nil))))
    (pss_cons (ps_asg (pe_ix ix_list (pe_dget hu (pv 1) pe_str (fun _ _ => rfl)) (pe_c (ok_law_digit T) hr (pa_cons (pv 0) (pa_cons (pe_b call_len_seq bb_len (T.free (f_free_len c)) (pa_cons (pe_dget hu (pv 1) pe_str (fun _ _ => rfl)) pa_nil)) pa_nil))) (fun _ _ => rfl)) (pg_tup rfl (pgs_cons (pg_name (i := 4) nd rfl (Or.inl rfl)) (pgs_cons (pg_name (i := 5) nd rfl (Or.inl rfl)) pgs_nil))))
    (pss_cons (ps_set (i := 6) nd rfl (Or.inl rfl) (pe_ix ix_list (pv 5) (pe_c (ok_law_digit T) hr (pa_cons (pv 0) (pa_cons (pe_b call_len_seq bb_len (T.free (f_free_len c)) (pa_cons (pv 5) pa_nil)) pa_nil))) (fun _ _ => rfl)))
    (pss_cons (ps_if (PW.pt (pw_or (pt_cmpR op_lt (pv 3) pe_int (nomark _)) (pw_or1 (pt_cmpR op_eq (pv 2) pe_int (nomark _))))) (pss_one (ps_ret (pe_c (ok_law_simple T) hr (pa_cons (pv 0) (pa_cons (pv 1) (pa_cons (pe_op op_mod (pv 3) pe_int) (pa_cons (pv 4) (pa_cons (pv 6) pa_nil)))))))) pss_nil)
    (pss_cons (ps_if (pt_cmpR op_lt (pv 3) pe_int (nomark _)) (pss_one (ps_ret (pe_tup (pa_cons pe_str (pa_cons (pv 4) (pa_cons (pv 6) (pa_cons (pe_tup (pa_cons (pe_c hR hr (pa_cons (pv 0) (pa_cons (pv 1) (pa_cons (pe_op op_sub (pv 2) pe_int) pa_nil)))) (pa_cons (pe_c hR hr (pa_cons (pv 0) (pa_cons (pv 1) (pa_cons (pe_op op_sub (pv 2) pe_int) pa_nil)))) pa_nil))) pa_nil))))))) pss_nil)
    (pss_cons (ps_if (pt_cmpR op_eq (pv 3) pe_int (nomark _)) (pss_one (ps_ret (pe_tup (pa_cons pe_str (pa_cons (pv 4) (pa_cons (pv 6) (pa_cons (pe_tup (pa_cons (pe_c hR hr (pa_cons (pv 0) (pa_cons (pv 1) (pa_cons (pe_op op_sub (pv 2) pe_int) pa_nil)))) pa_nil)) pa_nil))))))) pss_nil)
    (pss_cons (ps_if (pt_cmpR op_eq (pv 3) pe_int (nomark _)) (pss_one (ps_ret (pe_tup (pa_cons pe_str (pa_cons pe_non (pa_cons pe_non (pa_cons (pe_tup (pa_cons (pe_c hR hr (pa_cons (pv 0) (pa_cons (pv 1) (pa_cons (pe_op op_sub (pv 2) pe_int) pa_nil)))) (pa_cons (pe_c hR hr (pa_cons (pv 0) (pa_cons (pv 1) (pa_cons (pe_op op_sub (pv 2) pe_int) pa_nil)))) pa_nil))) pa_nil))))))) pss_nil)
    (pss_one (ps_ret (pe_tup (pa_cons pe_str (pa_cons pe_non (pa_cons pe_non (pa_cons (pe_tup (pa_cons (pe_c hR hr (pa_cons (pv 0) (pa_cons (pv 1) (pa_cons (pe_op op_sub (pv 2) pe_int) pa_nil)))) pa_nil)) pa_nil)))))))))))))), ?_⟩
  have hsl : (1000 : Nat) < sizeLine := by decide
  obtain ⟨as, e, n1, n2, e1, p, e2⟩ := id g.hm
  have dg := DGet.k (k := .inr "left") e
  rw [mkv_left] at dg
  -- left less one
  obtain ⟨n', rfl⟩ : ∃ n', n = n' + 1 := ⟨n - 1, by omega⟩
  have dp : DPut H m (.str "left") (.int (((n' + 1 : Nat) : Int) - 1)) (upd H m (.dK (mkv q.1 q.2 n'))) := by
    have z := DPut.k (k := .inr "left") (v := V.int (n' : Nat)) e (by show 3 < sizeLine; omega)
    rw [mkv_put] at z
    rw [show ((n' + 1 : Nat) : Int) - 1 = (n' : Int) by omega]
    exact z
  refine ⟨_, rfl, m, _, rfl, dg, _, _, rfl, rfl, _, rfl, m, _, rfl, dp, ?_⟩
  have hm1 : (upd H m (.dK (mkv q.1 q.2 n'))) m = some (.dK (mkv q.1 q.2 n')) := upd_same
  have k1 : Kf (Nsm s m) H (upd H m (.dK (mkv q.1 q.2 n'))) := (Kf.refl _ H).wr fun z => z.2 rfl
  have g1 : Ge (upd H m (.dK (mkv q.1 q.2 n'))) s m q cs ms n' := by
    refine ⟨g.sd.up g.sm, ⟨as, hm1, n1, n2, ?_, p.mono fun _ _ h => h.kf k1, ?_⟩, g.ok, g.m2, g.mo⟩
    · rw [upd_ne (ne_of e1 e (by intro z; cases z))]; exact e1
    · rw [upd_ne (ne_of e2 e (by intro z; cases z))]; exact e2
  generalize upd H m (.dK (mkv q.1 q.2 n')) = H1 at g1 k1
  -- the kind
  refine ⟨_, rfl, s, 18, rfl, g1.sd, by decide, by decide, fun kn H2 hkn k2 d2 => ?_⟩
  have g2 := g1.kx k2 d2
  have k12 := k1.trans (Kf.kx (m := m) k2)
  clear dp hm1 dg e1 e2 p e
  obtain ⟨as, e, n1, n2, e1, p, e2⟩ := id g2.hm
  have dg := DGet.k (k := .inr "cells") e
  rw [mkv_cells] at dg
  have hpl := p.length
  have c1 := g.ok.lo
  have c2 := g.ok.hi
  -- the cell
  refine ⟨_, rfl, _, _, rfl, dg, _, rfl, _, rfl, _, _, rfl, dg, q.1, as, rfl, .inl (SqL.of e1), s, as.length, rfl, d2, by omega, by omega, fun n3 H3 hn3 k3 d3 => ?_⟩
  have g3 := g2.kx k3 d3
  have k123 := k12.trans (Kf.kx (m := m) k3)
  obtain ⟨cp, hcp1, hcp2⟩ := pair_at p (List.getElem?_eq_getElem hn3)
  obtain ⟨tc, rc, hv1, ft, frc, htc, hrc⟩ := hcp2.kf (Kf.kx (m := m) k3)
  have hat : as[n3]? = some (.ref tc) := by rw [List.getElem?_eq_getElem hn3, hv1]
  refine ⟨q.1, _, _, _, rfl, rfl, SqL.of (k3 _ _ n1 e1), atI_nat hat, ?_⟩
  refine ⟨tc, _, rfl, SqT.of htc, rfl, _, _, rfl, _, _, rfl, rfl, ?_⟩
  have hmem : cp ∈ cs := List.mem_of_getElem? hcp1
  have hok := g.ok.each cp hmem
  have v1 := hok.lo
  have v2 := hok.hi
  have hvl : (cp.2.map V.str).length = cp.2.length := List.length_map ..
  -- the value
  refine ⟨_, rfl, _, rfl, _, rfl, rc, _, rfl, .inl (SqL.of hrc), s, (cp.2.map V.str).length, rfl, d3, by omega, by omega, fun n4 H4 hn4 k4 d4 => ?_⟩
  have g4 := g3.kx k4 d4
  have k4a := k123.trans (Kf.kx (m := m) k4)
  obtain ⟨vv, hvv⟩ : ∃ vv, cp.2[n4]? = some vv := ⟨_, List.getElem?_eq_getElem (by omega)⟩
  have hat4 : (cp.2.map V.str)[n4]? = some (.str vv) := by rw [List.getElem?_map, hvv]; rfl
  have hvm : vv ∈ cp.2 := List.mem_of_getElem? hvv
  refine ⟨rc, _, _, _, rfl, rfl, SqL.of (k4 _ _ frc.1 hrc), atI_nat hat4, ?_⟩
  have hcv : ∃ us, (cp.1, us) ∈ cs ∧ vv ∈ us := ⟨cp.2, hmem, hvm⟩
  -- what is made of it
  have fin : ∀ (kd : Kd) (a b : List Stm) (ps : List V) (Hc : Hp) (nc : Nat), Kf (Nsm s m) H Hc → Ge Hc s m q cs ms nc → nc + (Stm.mk kd a b).sz = n' + 1 → GK cs ms kd → AllG cs ms (pls a) → AllG cs ms (pls b) → Paired (RawR Hc (Fr H) d) ps (Stm.mk kd a b).parts →
      (kd.np = 0 → a = []) → (kd.np < 2 → b = []) → ∀ pt t, Hc pt = none → (upd Hc pt (.tup ps)) t = none → Q (.ref t) (upd (upd Hc pt (.tup ps)) t (.tup [.str kd.word, kd.r1, kd.r2, .ref pt])) := by
    intro kd a b ps Hc nc kc gc hsz hg1 hg2 hg3 hps h1 h2 pt t hpt ht
    have s1 : Same Hc (upd (upd Hc pt (.tup ps)) t (.tup [.str kd.word, kd.r1, kd.r2, .ref pt])) := smN (smU (Same.refl Hc) hpt) ht
    have hpt2 := (smU (o := .tup ps) (Same.refl Hc) hpt).free ht
    refine kk _ (.mk kd a b) nc _ (kc.trans (Kf.of s1)) (gc.same s1) hsz (fun z hz => ?_) ⟨t, pt, ps, rfl, Ge.fr kc gc hpt2, Ge.fr kc gc hpt, upd_same, smU (Same.refl _) ht _ _ upd_same, hps.mono fun _ _ h => RawR.imp (Kf.of s1) (fun _ q => q) d _ _ h, h1, h2⟩
    rw [pl_eq] at hz
    rcases List.mem_cons.mp hz with rfl | hz
    · exact hg1
    · rcases List.mem_append.mp hz with hz | hz
      · exact hg2 z hz
      · exact hg3 z hz
  have simple : ∀ z : Int, tRet (tCall spSimple [] E0 (tCons (tVar 0) (tCons (tVar 1) (tCons (tOp (rI (fun _ j => 0 < j) fun i j => .int (i % j)) (tVar 3) (tC (.int 12))) (tCons (tVar 4) (tCons (tVar 6) tNil)))))) { nx := fun x H2 => Q V.non H2, rt := Q } [some (.ref s), some (.ref m), some (.int (d : Nat)), some (.int kn), some (.str cp.1), some (.ref rc), some (.str vv)] H4 := by
    intro z
    have m1 := Int.emod_nonneg (kn : Int) (b := 12) (by decide)
    have m2 := Int.emod_lt_of_pos (kn : Int) (b := 12) (by decide)
    refine ⟨_, rfl, _, rfl, _, rfl, _, _, rfl, rfl, (by show (0 : Int) < 12; decide), _, rfl, _, rfl, s, m, q, cs, ms, n', kn % 12, cp.1, vv, cp.2, ?_, g4, hmem, hvm, fun w kd H5 hnp hg k5 d5 hw => ?_⟩
    · rfl
    · refine kk w (.mk kd [] []) n' H5 (k4a.trans (Kf.kx k5)) (g4.kx k5 d5) ?_ (fun z hz => ?_) ?_
      · rw [Stm.sz_eq]
        show n' + (1 + (szs [] + szs [])) = _
        rw [szs_nil]
      · rw [pl_eq] at hz
        rcases List.mem_cons.mp hz with rfl | hz
        · exact hg
        · simp [Stm.pa, Stm.pb, pls_nil] at hz
      · exact (hw _).imp (Kf.refl _ _) (fun b hb => Ge.fr k4a g4 hb) fun _ _ h => h
  refine ⟨_, rfl, _, _, rfl, rfl, _, rfl, ?_⟩
  by_cases hk : (kn : Int) < 12
  · exact iteB (decide_eq_true hk) (simple 0)
  refine iteN (decide_eq_false hk) ⟨_, rfl, rfl, _, rfl, ?_⟩
  cases d with
  | zero => exact iteB rfl (simple 0)
  | succ e =>
    have ed : ((e + 1 : Nat) : Int) - 1 = (e : Int) := by omega
    have evs : [V.ref s, .ref m, .int (((e + 1 : Nat) : Int) - 1)] = [V.ref s, .ref m, .int (e : Int)] := by rw [ed]
    have hd0 : decide (V.int ((e + 1 : Nat) : Int) = V.int 0) = false := decide_eq_false fun z => by
      have := V.int.inj z
      omega
    have z4 : (4 : Nat) ≤ sizeLine := by omega
    have z2 : (2 : Nat) ≤ sizeLine := by omega
    have z1 : (1 : Nat) ≤ sizeLine := by omega
    have frH : ∀ {Ha nx}, Kf (Nsm s m) H Ha → Ge Ha s m q cs ms nx → ∀ b, Fr Ha b → Fr H b := fun k g b h => Ge.fr k g h
    refine iteN hd0 ⟨_, rfl, _, _, rfl, rfl, _, rfl, ?_⟩
    by_cases h14 : (kn : Int) < 14
    · refine iteB (decide_eq_true h14) ⟨_, rfl, _, rfl, _, rfl, _, rfl, _, rfl, _, _, rfl, rfl, s, m, q, cs, ms, n', evs, g4, by omega, fun w1 ss1 n5 H5 k5 g5 e5 a5 r5 => ⟨_, rfl, _, rfl, _, rfl, _, _, rfl, rfl, s, m, q, cs, ms, n5, evs, g5, by omega, fun w2 ss2 n6 H6 k6 g6 e6 a6 r6 => ⟨z2, fun pt hpt => ⟨z4, fun t ht => ?_⟩⟩⟩⟩
      exact fin (.iff cp.1 vv) ss1 ss2 [w1, w2] H6 n6 ((k4a.trans k5).trans k6) g6 (by rw [Stm.sz_eq]; show n6 + (1 + (szs ss1 + szs ss2)) = _; omega) hcv a5 a6
        (.cons (RawR.imp (k6.weak fun b hb => g4.fs hb) (frH k4a g4) _ _ _ r5) (.cons (RawR.imp (Kf.refl _ _) (frH (k4a.trans k5) g5) _ _ _ r6) .nil)) (fun z => by cases z) (fun z => absurd z (by show ¬ 2 < 2; decide)) pt t hpt ht
    refine iteN (decide_eq_false h14) ⟨_, rfl, rfl, _, rfl, ?_⟩
    cases h15 : decide (V.int (kn : Int) = V.int 14) with
    | true =>
      refine iteB rfl ⟨_, rfl, _, rfl, _, rfl, _, rfl, _, rfl, _, _, rfl, rfl, s, m, q, cs, ms, n', evs, g4, by omega, fun w1 ss1 n5 H5 k5 g5 e5 a5 r5 => ⟨z1, fun pt hpt => ⟨z4, fun t ht => ?_⟩⟩⟩
      exact fin (.whil cp.1 vv) ss1 [] [w1] H5 n5 (k4a.trans k5) g5 (by rw [Stm.sz_eq]; show n5 + (1 + (szs ss1 + szs [])) = _; rw [szs_nil]; omega) hcv a5 (fun z hz => by rw [pls_nil] at hz; cases hz)
        (.cons (RawR.imp (Kf.refl _ _) (frH k4a g4) _ _ _ r5) .nil) (fun z => by cases z) (fun z => rfl) pt t hpt ht
    | false =>
      refine iteN rfl ⟨_, rfl, rfl, _, rfl, ?_⟩
      cases h16 : decide (V.int (kn : Int) = V.int 15) with
      | true =>
        refine iteB rfl ⟨_, rfl, _, rfl, _, rfl, _, _, rfl, rfl, s, m, q, cs, ms, n', evs, g4, by omega, fun w1 ss1 n5 H5 k5 g5 e5 a5 r5 => ⟨_, rfl, _, rfl, _, rfl, _, _, rfl, rfl, s, m, q, cs, ms, n5, evs, g5, by omega, fun w2 ss2 n6 H6 k6 g6 e6 a6 r6 => ⟨z2, fun pt hpt => ⟨z4, fun t ht => ?_⟩⟩⟩⟩
        exact fin .choose ss1 ss2 [w1, w2] H6 n6 ((k4a.trans k5).trans k6) g6 (by rw [Stm.sz_eq]; show n6 + (1 + (szs ss1 + szs ss2)) = _; omega) trivial a5 a6
          (.cons (RawR.imp (k6.weak fun b hb => g4.fs hb) (frH k4a g4) _ _ _ r5) (.cons (RawR.imp (Kf.refl _ _) (frH (k4a.trans k5) g5) _ _ _ r6) .nil)) (fun z => by cases z) (fun z => absurd z (by show ¬ 2 < 2; decide)) pt t hpt ht
      | false =>
        refine iteN rfl ⟨_, rfl, _, rfl, _, rfl, _, _, rfl, rfl, s, m, q, cs, ms, n', evs, g4, by omega, fun w1 ss1 n5 H5 k5 g5 e5 a5 r5 => ⟨z1, fun pt hpt => ⟨z4, fun t ht => ?_⟩⟩⟩
        exact fin .loop ss1 [] [w1] H5 n5 (k4a.trans k5) g5 (by rw [Stm.sz_eq]; show n5 + (1 + (szs ss1 + szs [])) = _; rw [szs_nil]; omega) trivial a5 (fun z hz => by rw [pls_nil] at hz; cases hz)
          (.cons (RawR.imp (Kf.refl _ _) (frH k4a g4) _ _ _ r5) .nil) (fun z => by cases z) (fun z => rfl) pt t hpt ht
end
end Mb


set_option Elab.async false
set_option linter.all false
set_option maxRecDepth 100000
set_option maxHeartbeats 4000000
/-! rows and programs drawn -/
namespace Mb
open PySem PySem.Spec PyProof.Rows L2
/-- a row being drawn: the list l, new since H -/
structure Rw1 (H H3 : Hp) (s m : Addr) (q : Addr × Addr) (cs : Cells) (ms : List Str) (n d : Nat) (l : Addr) (acc : List V) (ss : List Stm) (n2 : Nat) : Prop where
  k : Kf (Nsm s m) H H3
  g : Ge H3 s m q cs ms n2
  at_ : H3 l = some (.lst acc)
  p : Paired (RawS H3 (fun b => Fr H b ∧ b ≠ l) (RawR H3 (fun b => Fr H b ∧ b ≠ l) d)) acc ss
  sz : n2 + szs ss = n
  all : AllG cs ms (pls ss)
theorem Rw1.put {H H3 H4 : Hp} {s m : Addr} {q : Addr × Addr} {cs : Cells} {ms : List Str} {n d : Nat} {l : Addr} {acc : List V} {ss : List Stm} {n2 n3 : Nat} {w : V} {stm : Stm} {g0 : Nat} (g : Ge H s m q cs ms g0) (hl : H l = none) (r : Rw1 H H3 s m q cs ms n d l acc ss n2)
    (k4 : Kf (Nsm s m) H3 H4) (g4 : Ge H4 s m q cs ms n3) (e4 : n3 + stm.sz = n2) (a4 : AllG cs ms stm.pl) (w4 : RawS H4 (Fr H3) (RawR H4 (Fr H3) d) w stm) : Rw1 H (upd H4 l (.lst (acc ++ [w]))) s m q cs ms n d l (acc ++ [w]) (ss ++ [stm]) n3 := by
  have hn := g.fs hl
  have k5 : Kf (Nsm s m) H (upd H4 l (.lst (acc ++ [w]))) := (r.k.trans k4).up hl
  have kf : Kf (fun b => Fr H b ∧ b ≠ l) H3 (upd H4 l (.lst (acc ++ [w]))) := (k4.weak fun b hb => g.fs hb.1).wr fun z => z.2 rfl
  have kf4 : Kf (fun b => Fr H b ∧ b ≠ l) H4 (upd H4 l (.lst (acc ++ [w]))) := (Kf.refl _ _).wr fun z => z.2 rfl
  have ff : ∀ b, Fr H3 b → Fr H b ∧ b ≠ l := fun b hb => ⟨Ge.fr r.k r.g hb, (ne_of_none r.at_ hb).symm⟩
  refine ⟨k5, g.on k5 (g4.sd.up hn.1) (by rw [upd_ne hn.2.symm]; exact g4.at_m), upd_same, ?_, ?_, ?_⟩
  · refine (r.p.mono fun _ _ h => h.imp kf (fun _ z => z) (RawR.imp kf (fun _ z => z) d)).snoc ?_
    have w5 : RawS H4 (fun b => Fr H b ∧ b ≠ l) (RawR H4 (fun b => Fr H b ∧ b ≠ l) d) w stm := w4.imp (Kf.refl _ _) ff (RawR.imp (Kf.refl _ _) ff d)
    exact w5.imp kf4 (fun _ z => z) (RawR.imp kf4 (fun _ z => z) d)
  · have := r.sz
    rw [szs_app, szs_cons, szs_nil]
    omega
  · intro t ht
    rw [pls_app, pls_cons, pls_nil, List.append_nil] at ht
    rcases List.mem_append.mp ht with h | h
    · exact r.all t h
    · exact a4 t h
theorem Rw1.start {H : Hp} {s m : Addr} {q : Addr × Addr} {cs : Cells} {ms : List Str} {n d : Nat} {l : Addr} (g : Ge H s m q cs ms n) (hl : H l = none) : Rw1 H (upd H l (.lst [])) s m q cs ms n d l [] [] n := by
  have hn := g.fs hl
  have k5 : Kf (Nsm s m) H (upd H l (.lst [])) := (Kf.refl _ H).up hl
  exact ⟨k5, g.on k5 (g.sd.up hn.1) (by rw [upd_ne hn.2.symm]; exact g.at_m), upd_same, .nil, by rw [szs_nil]; rfl, fun t ht => by rw [pls_nil] at ht; cases ht⟩
/-- a number drawn meanwhile -/
theorem Rw1.kx {H H3 H4 : Hp} {s m : Addr} {q : Addr × Addr} {cs : Cells} {ms : List Str} {n d : Nat} {l : Addr} {acc : List V} {ss : List Stm} {n2 g0 : Nat} (g : Ge H s m q cs ms g0) (hl : H l = none) (r : Rw1 H H3 s m q cs ms n d l acc ss n2) (k : Kx s H3 H4) (hd : SdAt H4 s) : Rw1 H H4 s m q cs ms n d l acc ss n2 := by
  have kf : Kf (fun b => Fr H b ∧ b ≠ l) H3 H4 := (Kf.kx (m := m) k).weak fun b hb => g.fs hb.1
  exact ⟨r.k.trans (Kf.kx k), r.g.kx k hd, k _ _ (g.fs hl).1 r.at_, r.p.mono fun _ _ h => h.imp kf (fun _ z => z) (RawR.imp kf (fun _ z => z) d), r.sz, r.all⟩
theorem Rw1.done {H H3 : Hp} {s m : Addr} {q : Addr × Addr} {cs : Cells} {ms : List Str} {n d : Nat} {l : Addr} {acc : List V} {ss : List Stm} {n2 : Nat} (hl : H l = none) (r : Rw1 H H3 s m q cs ms n d l acc ss n2) : RawR H3 (Fr H) (d + 1) (.ref l) ss :=
  ⟨l, acc, rfl, hl, r.at_, r.p.mono fun _ _ h => h.imp (Kf.refl _ _) (fun _ z => z.1) (RawR.imp (Kf.refl _ _) (fun _ z => z.1) d)⟩
section
variable {P : Program} {w : World} {K : PySem.W.Frag} {mg : Str → Option Value} {base : Heap}
theorem sc_law_row : FnScope ["_law_s", "_law_m", "_law_deep", "_law_found", "_law_k"] ["_law_s", "_law_m", "_law_deep"] (defScope s_law_row) := ⟨rfl, rfl, rfl, by decide +kernel, rfl, by decide +kernel, by decide +kernel⟩
theorem st_row (T : TX K mg) {d : Nat} (hS : Cal P w K mg base (2 * d + 3) "_law_statement" (spStat d)) : Cal P w K mg base (2 * d + 4) "_law_row" (spRow (d + 1)) := by
  refine calD (fn_law_row T.c) (T.glo (f_glo__law_row T.c)) sc_law_row (fun _ _ _ _ _ _ us hl => match us, hl with | [_, _, _], _ => rfl) (fun vs H Q E h => by obtain ⟨s, m, q, cs, ms, n, rfl, _⟩ := h; rfl) (fun cdv A outer s0 H vs Q E hr h => ?_)
  obtain ⟨s, m, q, cs, ms, n, rfl, g, hn8, kk⟩ := h
  have c := T.c
  have nd := sc_law_row.nd
  have hu := hu_of hr
  refine ⟨_, pss_cons (ps_set (i := 3) nd rfl (Or.inl rfl) (pe_lst pa_nil))
    (pss_cons (ps_for PassesOwn.never rfl (pi_range1 (by rfl) (T.free (f_free_range c)) (pa_cons (pe_c (ok_law_digit T) hr (pa_cons (pv 0) (pa_cons pe_int pa_nil))) pa_nil)) (pg_name (i := 4) nd rfl (Or.inl rfl))
      (pss_one (ps_if (pt_cmpR op_gt (pe_dget hu (pv 1) pe_str (fun _ _ => rfl)) pe_int (nomark _)) (pss_one (ps_expr (pe_bm PySem.F.plainAttrs_list PySem.F.slot_list_append PySem.F.type_list_append mt_append (pv 3) (pa_cons (pe_c hS hr (pa_cons (pv 0) (pa_cons (pv 1) (pa_cons (pv 2) pa_nil)))) pa_nil)))) pss_nil)))
    (pss_one (ps_ret (pv 3)))), ?_⟩
  have hsl : (1000 : Nat) < sizeLine := by decide
  refine ⟨by show 0 ≤ sizeLine; omega, fun l hl => ?_⟩
  have hn := g.fs hl
  have r0 := Rw1.start (d := d) g hl
  refine ⟨_, rfl, s, 4, rfl, r0.g.sd, by decide, by decide, fun nr H1 hnr k1 d1 => ?_⟩
  refine ⟨_, rfl, by omega, by omega, for_it walk_range (fun i σ H2 => (∃ v4 : Option V, σ = [some (.ref s), some (.ref m), some (.int d), some (.ref l), v4]) ∧ ∃ acc ss n2, Rw1 H H2 s m q cs ms n d l acc ss n2)
    ⟨⟨none, rfl⟩, _, _, _, r0.kx g hl k1 d1⟩ (fun _ _ _ _ _ => trivial) ?_ ?_⟩
  · rintro i y σ H2 H3 hi ⟨⟨v4, rfl⟩, acc, ss, n2, r⟩ hy
    obtain ⟨rfl, rfl⟩ := hy
    have dg := DGet.k (k := .inr "left") r.g.at_m
    rw [mkv_left] at dg
    refine ⟨_, rfl, m, _, rfl, dg, _, _, rfl, rfl, _, rfl, ?_⟩
    have hacc := r.p.length
    have hsz := r.sz
    have hls := len_szs ss
    by_cases hpos : (0 : Int) < (n2 : Int)
    · refine iteB (decide_eq_true hpos) ⟨_, rfl, .inl ⟨rfl, _, SqL.of r.at_⟩, _, rfl, _, rfl, _, rfl, s, m, q, cs, ms, n2, rfl, r.g, by omega, by omega, fun w stm n3 H4 k4 g4 e4 a4 w4 => ?_⟩
      have hll : Nsm s m l := g.fs hl
      exact ⟨l, acc, _, rfl, rfl, k4 _ _ hll r.at_, by omega, ⟨_, rfl⟩, _, _, _, r.put g hl k4 g4 e4 a4 w4⟩
    · exact iteN (decide_eq_false hpos) ⟨⟨_, rfl⟩, acc, ss, n2, r⟩
  · rintro σ H2 ⟨⟨v4, rfl⟩, acc, ss, n2, r⟩
    exact ⟨_, rfl, kk (.ref l) ss n2 H2 r.k r.g r.sz r.all (r.done hl)⟩
theorem ok_row0 (T : TX K mg) : Cal P w K mg base 2 "_law_row" (spRow 0) := by
  refine calD (fn_law_row T.c) (T.glo (f_glo__law_row T.c)) sc_law_row (fun _ _ _ _ _ _ us hl => match us, hl with | [_, _, _], _ => rfl) (fun vs H Q E h => h.elim) (fun cdv A outer s0 H vs Q E hr h => h.elim)
theorem ok_stat (T : TX K mg) : ∀ d : Nat, Cal P w K mg base (2 * d + 3) "_law_statement" (spStat d)
  | 0 => st_stat T (ok_row0 T)
  | d + 1 => st_stat T (st_row T (ok_stat T d))
def spProg : Sp := fun vs H Q _ => ∃ (s m : Addr) (cs : Cells) (ms : List Str) (lc lm : Addr), vs = [.ref s, .ref m, .int 8] ∧ H m = some (.dK [(.inr "cells", .ref lc), (.inr "marks", .ref lm)]) ∧ SdAt H s ∧ lc ≠ s ∧ lm ≠ s ∧ (∃ as, H lc = some (.lst as) ∧ Paired (CellN H (Nsm s m)) as cs) ∧ H lm = some (.lst (ms.map V.str)) ∧ CellsOk cs ∧ ms.length = 2 ∧ (∀ z ∈ ms, NameOk z) ∧
  ∀ w (ss : List Stm) H2, Kf (Nsm s m) H H2 → SdAt H2 s → szs ss ≤ 8 → AllG cs ms (pls ss) → RawR H2 (Fr H) 3 w ss → Q w H2
theorem sc_law_program : FnScope ["_law_s", "_law_m", "_law_most", "_law_found", "_law_k"] ["_law_s", "_law_m", "_law_most"] (defScope s_law_program) := ⟨rfl, rfl, rfl, by decide +kernel, rfl, by decide +kernel, by decide +kernel⟩
theorem ok_law_program (T : TX K mg) : Cal P w K mg base 8 "_law_program" spProg := by
  refine calD (k := 7) (fn_law_program T.c) (T.glo (f_glo__law_program T.c)) sc_law_program (fun _ _ _ _ _ _ us hl => match us, hl with | [_, _, _], _ => rfl) (fun vs H Q E h => by obtain ⟨s, m, cs, ms, lc, lm, rfl, _⟩ := h; rfl) (fun cdv A outer s0 H vs Q E hr h => ?_)
  obtain ⟨s, m, cs, ms, lc, lm, rfl, hm, hs, n1, n2, ⟨as, hlc, hp⟩, hlm, hok, hml, hmo, kk⟩ := h
  have c := T.c
  have nd := sc_law_program.nd
  have hu := hu_of hr
  refine ⟨_, pss_cons (ps_dput hu (pv 1) pe_str (pv 2) rfl) (pss_cons (ps_set (i := 3) nd rfl (Or.inl rfl) (pe_lst pa_nil))
    (pss_cons (ps_for PassesOwn.never rfl (pi_range1 (by rfl) (T.free (f_free_range c)) (pa_cons (pe_op op_add pe_int (pe_c (ok_law_digit T) hr (pa_cons (pv 0) (pa_cons (pv 2) pa_nil)))) pa_nil)) (pg_name (i := 4) nd rfl (Or.inl rfl))
      (pss_one (ps_if (pt_cmpR op_gt (pe_dget hu (pv 1) pe_str (fun _ _ => rfl)) pe_int (nomark _)) (pss_one (ps_expr (pe_bm PySem.F.plainAttrs_list PySem.F.slot_list_append PySem.F.type_list_append mt_append (pv 3) (pa_cons (pe_c (ok_stat T 2) hr (pa_cons (pv 0) (pa_cons (pv 1) (pa_cons pe_int pa_nil)))) pa_nil)))) pss_nil)))
    (pss_one (ps_ret (pv 3))))), ?_⟩
  have hsl : (1000 : Nat) < sizeLine := by decide
  have dp : DPut H m (.str "left") (.int 8) (upd H m (.dK (mkv lc lm 8))) := DPut.k (k := .inr "left") (v := V.int 8) hm (by show 2 < sizeLine; omega)
  refine ⟨_, rfl, _, rfl, m, _, rfl, dp, ?_⟩
  have ms' : m ≠ s := by
    obtain ⟨a, b, c, e2, _⟩ := hs
    exact ne_of hm e2 (by intro z; cases z)
  have k1 : Kf (Nsm s m) H (upd H m (.dK (mkv lc lm 8))) := (Kf.refl _ H).wr fun z => z.2 rfl
  have g : Ge (upd H m (.dK (mkv lc lm 8))) s m (lc, lm) cs ms 8 := by
    refine ⟨hs.up ms', ⟨as, upd_same, n1, n2, ?_, hp.mono fun _ _ h => h.kf k1, ?_⟩, hok, hml, hmo⟩
    · show (upd H m (.dK (mkv lc lm 8))) lc = _
      rw [upd_ne (ne_of hlc hm (by intro z; cases z))]; exact hlc
    · show (upd H m (.dK (mkv lc lm 8))) lm = _
      rw [upd_ne (ne_of hlm hm (by intro z; cases z))]; exact hlm
  have frH : ∀ b, Fr (upd H m (.dK (mkv lc lm 8))) b → Fr H b := fun b hb => by
    have := g.fs hb
    unfold Fr at hb
    rw [upd_ne this.2] at hb
    exact hb
  refine ⟨by show 0 ≤ sizeLine; omega, fun l hl => ?_⟩
  have r0 := Rw1.start (d := 2) g hl
  refine ⟨_, rfl, _, rfl, s, 8, rfl, r0.g.sd, by decide, by decide, fun nr H1 hnr k2 d2 => ?_⟩
  refine ⟨_, _, rfl, rfl, _, rfl, by omega, by omega, for_it walk_range (fun i σ H2 => (∃ v4 : Option V, σ = [some (.ref s), some (.ref m), some (.int 8), some (.ref l), v4]) ∧ ∃ acc ss n2, Rw1 (upd H m (.dK (mkv lc lm 8))) H2 s m (lc, lm) cs ms 8 2 l acc ss n2)
    ⟨⟨none, rfl⟩, _, _, _, r0.kx g hl k2 d2⟩ (fun _ _ _ _ _ => trivial) ?_ ?_⟩
  · rintro i y σ H2 H3 hi ⟨⟨v4, rfl⟩, acc, ss, n2, r⟩ hy
    obtain ⟨rfl, rfl⟩ := hy
    have dg := DGet.k (k := .inr "left") r.g.at_m
    rw [mkv_left] at dg
    refine ⟨_, rfl, m, _, rfl, dg, _, _, rfl, rfl, _, rfl, ?_⟩
    have hacc := r.p.length
    have hsz := r.sz
    have hls := len_szs ss
    by_cases hpos : (0 : Int) < (n2 : Int)
    · refine iteB (decide_eq_true hpos) ⟨_, rfl, .inl ⟨rfl, _, SqL.of r.at_⟩, _, rfl, _, rfl, s, m, (lc, lm), cs, ms, n2, rfl, r.g, by omega, by omega, fun w stm n3 H4 k4 g4 e4 a4 w4 => ?_⟩
      exact ⟨l, acc, _, rfl, rfl, k4 _ _ (g.fs hl) r.at_, by omega, ⟨_, rfl⟩, _, _, _, r.put g hl k4 g4 e4 a4 w4⟩
    · exact iteN (decide_eq_false hpos) ⟨⟨_, rfl⟩, acc, ss, n2, r⟩
  · rintro σ H2 ⟨⟨v4, rfl⟩, acc, ss, n2, r⟩
    have hsz := r.sz
    exact ⟨_, rfl, kk (.ref l) ss H2 (k1.trans r.k) r.g.sd (by omega) r.all (RawR.imp (Kf.refl _ _) frH _ _ _ (r.done hl))⟩
end
end Mb


set_option Elab.async false
set_option linter.all false
set_option maxRecDepth 100000
set_option maxHeartbeats 4000000
/-! statements made -/
namespace Mb
open PySem PySem.Spec PyProof.Rows L2
def KN (k : Kd) : Prop := match k with
  | .write c v => NameOk c ∧ NameOk v
  | .wait c v => NameOk c ∧ NameOk v
  | .iff c v => NameOk c ∧ NameOk v
  | .whil c v => NameOk c ∧ NameOk v
  | .mark n => NameOk n
  | _ => True
theorem KN_of {cs : Cells} {ms : List Str} {k : Kd} (ok : CellsOk cs) (mo : ∀ z ∈ ms, NameOk z) (h : GK cs ms k) : KN k := by
  cases k with
  | write c v => obtain ⟨us, h1, h2⟩ := h; exact ⟨(ok.each _ h1).nm, (ok.each _ h1).vs _ h2⟩
  | wait c v => obtain ⟨us, h1, h2⟩ := h; exact ⟨(ok.each _ h1).nm, (ok.each _ h1).vs _ h2⟩
  | iff c v => obtain ⟨us, h1, h2⟩ := h; exact ⟨(ok.each _ h1).nm, (ok.each _ h1).vs _ h2⟩
  | whil c v => obtain ⟨us, h1, h2⟩ := h; exact ⟨(ok.each _ h1).nm, (ok.each _ h1).vs _ h2⟩
  | mark n => exact mo n h
  | _ => trivial
def wl : Nat → Str
  | 0 => "write" | 1 => "wait" | 2 => "mark" | 3 => "skip" | 4 => "stop" | 5 => "if" | 6 => "while" | 7 => "choose" | _ => "loop"
theorem word_wl (k : Kd) : k.word = wl k.tag := by cases k <;> rfl
theorem tag_lt (k : Kd) : k.tag < 9 := by cases k <;> (simp [Kd.tag])
theorem w_of {z : Str} {n : Nat} (h : ∀ j, j < 9 → decide (V.str (wl j) = V.str z) = (j == n)) (k : Kd) : decide (V.str k.word = V.str z) = (k.tag == n) := by
  rw [word_wl]
  exact h _ (tag_lt k)
theorem w0 (k : Kd) : decide (V.str k.word = V.str "write") = (k.tag == 0) := w_of (by decide +kernel) k
theorem w1 (k : Kd) : decide (V.str k.word = V.str "wait") = (k.tag == 1) := w_of (by decide +kernel) k
theorem w2 (k : Kd) : decide (V.str k.word = V.str "mark") = (k.tag == 2) := w_of (by decide +kernel) k
theorem w3 (k : Kd) : decide (V.str k.word = V.str "skip") = (k.tag == 3) := w_of (by decide +kernel) k
theorem w4 (k : Kd) : decide (V.str k.word = V.str "stop") = (k.tag == 4) := w_of (by decide +kernel) k
theorem w5 (k : Kd) : decide (V.str k.word = V.str "if") = (k.tag == 5) := w_of (by decide +kernel) k
theorem w6 (k : Kd) : decide (V.str k.word = V.str "while") = (k.tag == 6) := w_of (by decide +kernel) k
theorem w7 (k : Kd) : decide (V.str k.word = V.str "choose") = (k.tag == 7) := w_of (by decide +kernel) k
def spMade (K : PySem.W.Frag) (n : Nat) : Sp := fun vs H Q _ => ∃ (k : Kd) (a b : List Stm) (l : Addr) (ps : List V), vs = [.str k.word, k.r1, k.r2, .ref l] ∧ H l = some (.lst ps) ∧ Paired (PAt K H n) ps (Stm.mk k a b).parts ∧ (k.np = 0 → a = []) ∧ (k.np < 2 → b = []) ∧ KN k ∧
  ∀ v H2, Same H H2 → SAt K H2 n v (.mk k a b) → Q v H2
section
variable {P : Program} {w : World} {K : PySem.W.Frag} {mg : Str → Option Value} {base : Heap}
theorem mk0_of {x : Str} (e : mk0B K x = true) : PySem.W.makesIn K (He.ga K x) = true ∧ PySem.W.findIn K (.ref (He.ga K x)) "__init__" = some (some (.builtin "object.__init__")) ∧ PySem.W.keepIn K (.ref (He.ga K x)) = true := by
  obtain ⟨a, b⟩ := He.ba e
  obtain ⟨b, c⟩ := He.ba b
  exact ⟨a, He.eqO_ok b, c⟩
theorem sc_law_made : FnScope ["_law_word", "_law_cell", "_law_value", "_law_some"] ["_law_word", "_law_cell", "_law_value", "_law_some"] (defScope s_law_made) := ⟨rfl, rfl, rfl, by decide +kernel, rfl, by decide +kernel, by decide +kernel⟩
theorem ok_law_made (T : TX K mg) (n : Nat) : Cal P w K mg base 6 "_law_made" (spMade K n) := by
  refine calD (k := 5) (fn_law_made T.c) (T.glo (f_glo__law_made T.c)) sc_law_made (fun _ _ _ _ _ _ us hl => match us, hl with | [_, _, _, _], _ => rfl) (fun vs H Q E h => by obtain ⟨k, a, b, l, ps, rfl, _⟩ := h; rfl) (fun cdv A outer s0 H vs Q E hr h => ?_)
  obtain ⟨k, a, b, l, ps, rfl, hl, hp, hnp, hnp2, hkn, kk⟩ := h
  have c := T.c
  obtain ⟨sk1, sk2, sk3⟩ := mk0_of (f_mk_Skip c)
  obtain ⟨st1, st2, st3⟩ := mk0_of (f_mk_Stop c)
  refine ⟨_, pss_cons (ps_if (pt_cmpR op_eq (pv 0) pe_str (nomark _)) (pss_one (ps_ret (pe_mk (ok_Write T) hr (pa_cons (pv 1) (pa_cons (pv 2) pa_nil))))) pss_nil)
    (pss_cons (ps_if (pt_cmpR op_eq (pv 0) pe_str (nomark _)) (pss_one (ps_ret (pe_mk (ok_Wait T) hr (pa_cons (pv 1) (pa_cons (pv 2) pa_nil))))) pss_nil)
    (pss_cons (ps_if (pt_cmpR op_eq (pv 0) pe_str (nomark _)) (pss_one (ps_ret (pe_mk (ok_Mark T) hr (pa_cons (pv 1) pa_nil)))) pss_nil)
    (pss_cons (ps_if (pt_cmpR op_eq (pv 0) pe_str (nomark _)) (pss_one (ps_ret (pe_bare sk1 sk2 sk3 (by rfl) (T.glo (f_glo_Skip c))))) pss_nil)
    (pss_cons (ps_if (pt_cmpR op_eq (pv 0) pe_str (nomark _)) (pss_one (ps_ret (pe_bare st1 st2 st3 (by rfl) (T.glo (f_glo_Stop c))))) pss_nil)
    (pss_cons (ps_if (pt_cmpR op_eq (pv 0) pe_str (nomark _)) (pss_one (ps_ret (pe_mk (ok_If T) hr (pa_cons (pv 1) (pa_cons (pv 2) (pa_cons (pe_ix ix_list (pv 3) pe_int (fun _ _ => rfl)) (pa_cons (pe_ix ix_list (pv 3) pe_int (fun _ _ => rfl)) pa_nil))))))) pss_nil)
    (pss_cons (ps_if (pt_cmpR op_eq (pv 0) pe_str (nomark _)) (pss_one (ps_ret (pe_mk (ok_While T) hr (pa_cons (pv 1) (pa_cons (pv 2) (pa_cons (pe_ix ix_list (pv 3) pe_int (fun _ _ => rfl)) pa_nil)))))) pss_nil)
    (pss_cons (ps_if (pt_cmpR op_eq (pv 0) pe_str (nomark _)) (pss_one (ps_ret (pe_mk (ok_Choose T) hr (pa_cons (pe_ix ix_list (pv 3) pe_int (fun _ _ => rfl)) (pa_cons (pe_ix ix_list (pv 3) pe_int (fun _ _ => rfl)) pa_nil))))) pss_nil)
    (pss_one (ps_ret (pe_mk (ok_Loop T) hr (pa_cons (pe_ix ix_list (pv 3) pe_int (fun _ _ => rfl)) pa_nil))))))))))), ?_⟩
  have hx0 : ∀ {x dx : Addr} {C : Addr}, (upd (upd H dx (.own x)) x (.ins C dx [])) x = some (.ins C dx []) := upd_same
  have fin : ∀ (p q : V) (x dx : Addr) (H2 : Hp), PartsOk (PAt K H n) k p q a b → H x = none → H dx = none → Made (He.ga K k.cn) x dx (k.fl p q) (upd (upd H dx (.own x)) x (.ins (He.ga K k.cn) dx [])) H2 → Q (.ref x) H2 := by
    intro p q x dx H2 hpa h1 h2 hm
    have s1 : Same H H2 := fun b o e => hm.2 b o (ne_of_none e h1) (by rw [upd_ne (ne_of_none e h1), upd_ne (ne_of_none e h2)]; exact e)
    exact kk _ _ s1 ⟨x, dx, p, q, rfl, hm.1, hpa.imp fun _ _ h => PAt.fz (Fz.of s1) _ _ _ h⟩
  cases k with
  | write cc v =>
    refine ⟨_, rfl, rfl, _, rfl, iteB (w0 _) ⟨_, rfl, _, rfl, fun x dx h1 h2 h3 => ⟨x, dx, cc, v, rfl, hx0, hkn.1, hkn.2, fun H2 hm => ⟨rfl, ?_⟩⟩⟩⟩
    exact fin .non .non x dx H2 ⟨fun z => absurd z (by show ¬ 1 ≤ 0; decide), hnp, fun z => absurd z (by show ¬ 2 ≤ 0; decide), hnp2⟩ h1 h2 hm
  | wait cc v =>
    refine ⟨_, rfl, rfl, _, rfl, iteN (w0 _) ⟨_, rfl, rfl, _, rfl, iteB (w1 _) ⟨_, rfl, _, rfl, fun x dx h1 h2 h3 => ⟨x, dx, cc, v, rfl, hx0, hkn.1, hkn.2, fun H2 hm => ⟨rfl, ?_⟩⟩⟩⟩⟩
    exact fin .non .non x dx H2 ⟨fun z => absurd z (by show ¬ 1 ≤ 0; decide), hnp, fun z => absurd z (by show ¬ 2 ≤ 0; decide), hnp2⟩ h1 h2 hm
  | mark nm =>
    refine ⟨_, rfl, rfl, _, rfl, iteN (w0 _) ⟨_, rfl, rfl, _, rfl, iteN (w1 _) ⟨_, rfl, rfl, _, rfl, iteB (w2 _) ⟨_, rfl, fun x dx h1 h2 h3 => ⟨x, dx, nm, rfl, hx0, hkn, fun H2 hm => ⟨rfl, ?_⟩⟩⟩⟩⟩⟩
    exact fin .non .non x dx H2 ⟨fun z => absurd z (by show ¬ 1 ≤ 0; decide), hnp, fun z => absurd z (by show ¬ 2 ≤ 0; decide), hnp2⟩ h1 h2 hm
  | skip =>
    refine ⟨_, rfl, rfl, _, rfl, iteN (w0 _) ⟨_, rfl, rfl, _, rfl, iteN (w1 _) ⟨_, rfl, rfl, _, rfl, iteN (w2 _) ⟨_, rfl, rfl, _, rfl, iteB (w3 _) fun x dx h1 h2 h3 => ?_⟩⟩⟩⟩
    exact fin .non .non x dx _ ⟨fun z => absurd z (by show ¬ 1 ≤ 0; decide), hnp, fun z => absurd z (by show ¬ 2 ≤ 0; decide), hnp2⟩ h1 h2 ⟨upd_same, fun _ _ _ e => e⟩
  | stop =>
    refine ⟨_, rfl, rfl, _, rfl, iteN (w0 _) ⟨_, rfl, rfl, _, rfl, iteN (w1 _) ⟨_, rfl, rfl, _, rfl, iteN (w2 _) ⟨_, rfl, rfl, _, rfl, iteN (w3 _) ⟨_, rfl, rfl, _, rfl, iteB (w4 _) fun x dx h1 h2 h3 => ?_⟩⟩⟩⟩⟩
    exact fin .non .non x dx _ ⟨fun z => absurd z (by show ¬ 1 ≤ 0; decide), hnp, fun z => absurd z (by show ¬ 2 ≤ 0; decide), hnp2⟩ h1 h2 ⟨upd_same, fun _ _ _ e => e⟩
  | iff cc v =>
    match ps, hp with
    | [p, q], .cons hp1 (.cons hp2 .nil) =>
      refine ⟨_, rfl, rfl, _, rfl, iteN (w0 _) ⟨_, rfl, rfl, _, rfl, iteN (w1 _) ⟨_, rfl, rfl, _, rfl, iteN (w2 _) ⟨_, rfl, rfl, _, rfl, iteN (w3 _) ⟨_, rfl, rfl, _, rfl, iteN (w4 _) ⟨_, rfl, rfl, _, rfl, iteB (w5 _) ?_⟩⟩⟩⟩⟩⟩
      refine ⟨_, rfl, _, rfl, _, rfl, l, _, _, _, rfl, rfl, SqL.of hl, atI_nat (j := 0) rfl, _, rfl, l, _, _, _, rfl, rfl, SqL.of hl, atI_nat (j := 1) rfl, fun x dx h1 h2 h3 => ⟨x, dx, cc, v, p, q, rfl, hx0, hkn.1, hkn.2, fun H2 hm => ⟨rfl, ?_⟩⟩⟩
      exact fin p q x dx H2 ⟨fun _ => hp1, hnp, fun _ => hp2, hnp2⟩ h1 h2 hm
  | whil cc v =>
    match ps, hp with
    | [p], .cons hp1 .nil =>
      refine ⟨_, rfl, rfl, _, rfl, iteN (w0 _) ⟨_, rfl, rfl, _, rfl, iteN (w1 _) ⟨_, rfl, rfl, _, rfl, iteN (w2 _) ⟨_, rfl, rfl, _, rfl, iteN (w3 _) ⟨_, rfl, rfl, _, rfl, iteN (w4 _) ⟨_, rfl, rfl, _, rfl, iteN (w5 _) ⟨_, rfl, rfl, _, rfl, iteB (w6 _) ?_⟩⟩⟩⟩⟩⟩⟩
      refine ⟨_, rfl, _, rfl, _, rfl, l, _, _, _, rfl, rfl, SqL.of hl, atI_nat (j := 0) rfl, fun x dx h1 h2 h3 => ⟨x, dx, cc, v, p, rfl, hx0, hkn.1, hkn.2, fun H2 hm => ⟨rfl, ?_⟩⟩⟩
      exact fin p .non x dx H2 ⟨fun _ => hp1, hnp, fun z => absurd z (by show ¬ 2 ≤ 1; decide), hnp2⟩ h1 h2 hm
  | choose =>
    match ps, hp with
    | [p, q], .cons hp1 (.cons hp2 .nil) =>
      refine ⟨_, rfl, rfl, _, rfl, iteN (w0 _) ⟨_, rfl, rfl, _, rfl, iteN (w1 _) ⟨_, rfl, rfl, _, rfl, iteN (w2 _) ⟨_, rfl, rfl, _, rfl, iteN (w3 _) ⟨_, rfl, rfl, _, rfl, iteN (w4 _) ⟨_, rfl, rfl, _, rfl, iteN (w5 _) ⟨_, rfl, rfl, _, rfl, iteN (w6 _) ⟨_, rfl, rfl, _, rfl, iteB (w7 _) ?_⟩⟩⟩⟩⟩⟩⟩⟩
      refine ⟨_, rfl, l, _, _, _, rfl, rfl, SqL.of hl, atI_nat (j := 0) rfl, _, rfl, l, _, _, _, rfl, rfl, SqL.of hl, atI_nat (j := 1) rfl, fun x dx h1 h2 h3 => ⟨x, dx, p, q, rfl, hx0, fun H2 hm => ⟨rfl, ?_⟩⟩⟩
      exact fin p q x dx H2 ⟨fun _ => hp1, hnp, fun _ => hp2, hnp2⟩ h1 h2 hm
  | loop =>
    match ps, hp with
    | [p], .cons hp1 .nil =>
      refine ⟨_, rfl, rfl, _, rfl, iteN (w0 _) ⟨_, rfl, rfl, _, rfl, iteN (w1 _) ⟨_, rfl, rfl, _, rfl, iteN (w2 _) ⟨_, rfl, rfl, _, rfl, iteN (w3 _) ⟨_, rfl, rfl, _, rfl, iteN (w4 _) ⟨_, rfl, rfl, _, rfl, iteN (w5 _) ⟨_, rfl, rfl, _, rfl, iteN (w6 _) ⟨_, rfl, rfl, _, rfl, iteN (w7 _) ?_⟩⟩⟩⟩⟩⟩⟩⟩
      refine ⟨_, rfl, l, _, _, _, rfl, rfl, SqL.of hl, atI_nat (j := 0) rfl, fun x dx h1 h2 h3 => ⟨x, dx, p, rfl, hx0, fun H2 hm => ⟨rfl, ?_⟩⟩⟩
      exact fin p .non x dx H2 ⟨fun _ => hp1, hnp, fun z => absurd z (by show ¬ 2 ≤ 1; decide), hnp2⟩ h1 h2 hm
end
end Mb


set_option Elab.async false
set_option linter.all false
set_option maxRecDepth 100000
set_option maxHeartbeats 4000000
/-! programs built -/
namespace Mb
open PySem PySem.Spec PyProof.Rows L2
def spBuilt (K : PySem.W.Frag) (n : Nat) : Sp := fun vs H Q _ => ∃ (v : V) (ss : List Stm) (f : Addr → Prop), vs = [v] ∧ RawR H f n v ss ∧ szs ss ≤ 24 ∧ n ≤ 6 ∧ (∀ t ∈ pls ss, KN t.kd) ∧ ∀ w H2, Same H H2 → PAt K H2 n w ss → Q w H2
theorem pls_at {ss : List Stm} {i : Nat} {s : Stm} (h : ss[i]? = some s) {t : Stm} (ht : t ∈ s.pl) : t ∈ pls ss := by
  have := pls_app (ss.take (i + 1)) (ss.drop (i + 1))
  rw [List.take_append_drop] at this
  rw [this, pls_take h]
  exact List.mem_append_left _ (List.mem_append_right _ ht)
theorem pls_parts {s : Stm} {j : Nat} {pp : List Stm} (h : s.parts[j]? = some pp) {t : Stm} (ht : t ∈ pls pp) : t ∈ s.pl := by
  have hm := List.mem_of_getElem? h
  rw [pl_eq]
  cases s with
  | mk k a b =>
    have h2 : pp = a ∨ pp = b := by
      cases k <;> simp [Stm.parts, Stm.kd, Stm.pa, Stm.pb] at hm <;> first | exact hm | exact .inl hm
    rcases h2 with rfl | rfl
    · exact List.mem_cons_of_mem _ (List.mem_append_left _ ht)
    · exact List.mem_cons_of_mem _ (List.mem_append_right _ ht)
theorem parts_le {s : Stm} {j : Nat} {pp : List Stm} (h : s.parts[j]? = some pp) : szs pp < s.sz := by
  have hm := List.mem_of_getElem? h
  rw [Stm.sz_eq]
  cases s with
  | mk k a b =>
    have h2 : pp = a ∨ pp = b := by
      cases k <;> simp [Stm.parts, Stm.kd, Stm.pa, Stm.pb] at hm <;> first | exact hm | exact .inl hm
    rcases h2 with rfl | rfl
    · show szs pp < 1 + (szs pp + szs b); omega
    · show szs pp < 1 + (szs a + szs pp); omega
section
variable {P : Program} {w : World} {K : PySem.W.Frag} {mg : Str → Option Value} {base : Heap}
theorem sc_law_built : FnScope ["_law_row_here", "_law_found", "_law_word", "_law_cell", "_law_value", "_law_parts", "_law_part"] ["_law_row_here"] (defScope s_law_built) := ⟨rfl, rfl, rfl, by decide +kernel, rfl, by decide +kernel, by decide +kernel⟩
theorem st_built (T : TX K mg) {d : Nat} (hB : Cal P w K mg base (2 * d + 7) "_law_built" (spBuilt K d)) : Cal P w K mg base (2 * d + 9) "_law_built" (spBuilt K (d + 1)) := by
  refine calD (k := 2 * d + 8) (fn_law_built T.c) (T.glo (f_glo__law_built T.c)) sc_law_built (bn1 fun _ _ _ _ _ _ _ => rfl) (fun vs H Q E h => by obtain ⟨v, ss, f, rfl, _⟩ := h; rfl) (fun cdv A outer s0 H vs Q E hr h => ?_)
  obtain ⟨v, ss, f, rfl, ⟨l, as, rfl, _, hl, hp⟩, h24, h6, hkn, kk⟩ := h
  have c := T.c
  have nd := sc_law_built.nd
  refine ⟨_, pss_cons (ps_set (i := 1) nd rfl (Or.inl rfl) (pe_lst pa_nil))
    (pss_cons (ps_for PassesOwn.never rfl (pi_list (pv 0)) (pg_tup rfl (pgs_cons (pg_name (i := 2) nd rfl (Or.inl rfl)) (pgs_cons (pg_name (i := 3) nd rfl (Or.inl rfl)) (pgs_cons (pg_name (i := 4) nd rfl (Or.inl rfl)) (pgs_cons (pg_name (i := 5) nd rfl (Or.inl rfl)) pgs_nil)))))
      (pss_one (ps_expr (pe_bm PySem.F.plainAttrs_list PySem.F.slot_list_append PySem.F.type_list_append mt_append (pv 1) (pa_cons (pe_c (ok_law_made T d) hr (pa_cons (pv 2) (pa_cons (pv 3) (pa_cons (pv 4) (pa_cons
        (pe_lc (own := [("_law_part", 6)]) (g := gName 6) (tt := tYes) rfl nd (pi_tup (pv 5)) (blkOk_by (N := ["_law_row_here", "_law_found", "_law_word", "_law_cell", "_law_value", "_law_parts", "_law_part"]) (sc := defScope s_law_built) (by decide +kernel))
          (fun _ _ _ _ _ => pg_name (i := 6) nd rfl (Or.inl rfl)) (fun _ _ _ _ _ => pts_nil) (fun _ _ _ _ _ => pe_c hB hr (pa_cons (pv 6) pa_nil))) pa_nil))))) pa_nil)))))
    (pss_one (ps_ret (pe_mk (ok_Program T d) hr (pa_cons (pv 1) pa_nil))))), ?_⟩
  have hsl : (1000 : Nat) < sizeLine := by decide
  have hln := hp.length
  have hls := len_szs ss
  refine ⟨by show 0 ≤ sizeLine; omega, fun lf hlf => ?_⟩
  refine ⟨_, rfl, l, rfl, ⟨_, SqL.of (smU (Same.refl H) hlf _ _ hl)⟩, for_it (walk_list (xs := as)) (fun i σ H3 => (∃ v2 v3 v4 v5 : Option V, σ = [some (.ref l), some (.ref lf), v2, v3, v4, v5, none]) ∧ Same H H3 ∧ ∃ acc, H3 lf = some (.lst acc) ∧ acc.length = i ∧ Paired (SAt K H3 d) acc (ss.take i))
    ⟨⟨none, none, none, none, rfl⟩, smU (Same.refl H) hlf, [], upd_same, rfl, .nil⟩ (fun i σ H3 _ q => SqL.of (q.2.1 _ _ hl)) ?_ ?_⟩
  · rintro i y σ H3 H4 hi ⟨⟨v2, v3, v4, v5, rfl⟩, q1, acc, q2, q3, q4⟩ ⟨rfl, hy⟩
    obtain ⟨s, hs1, t, pt, ps, rfl, _, _, ht, hpt, hps, hnp, hnp2⟩ := pair_at hp hy
    have hsz := szs_tk hs1
    have hszl := szs_take ss (i + 1)
    refine ⟨t, _, rfl, SqT.of (q1 _ _ ht), rfl, _, _, rfl, _, _, rfl, _, _, rfl, _, _, rfl, rfl, ?_⟩
    refine ⟨_, rfl, .inl ⟨rfl, _, SqL.of q2⟩, _, rfl, _, rfl, _, rfl, _, rfl, pt, rfl, ⟨_, SqT.of (q1 _ _ hpt)⟩, fun D hD => ?_⟩
    have hplen : ps.length ≤ 2 := by
      rw [hps.length, ← prt_parts s .non .non]
      exact prt_len _ _ _
    refine lc_n (walk_tup (xs := ps)) (fun j ac H5 => Same H4 H5 ∧ Paired (PAt K H5 d) ac (s.parts.take j)) ⟨smU (Same.refl _) hD, .nil⟩ (fun j ac H5 _ _ q => SqT.of (q.1 _ _ (q1 _ _ hpt))) (fun _ => rfl) ?_ ?_
    · rintro j y2 ac H5 H6 hj e1 e2 ⟨r1, r2⟩ ⟨rfl, hy2⟩
      obtain ⟨pp, hp1, hp2⟩ := pair_at hps hy2
      have hlt := parts_le hp1
      refine ⟨_, rfl, y2, pp, f, rfl, RawR.imp (Kf.of (q1.trans r1)) (fun _ z => z) _ _ _ hp2, by omega, by omega, fun t ht => hkn t (pls_at hs1 (pls_parts hp1 ht)), fun w7 H7 s7 p7 => ?_⟩
      have eD := s7 _ _ e2
      have zf : Fz H6 (upd H7 D (.lst (ac ++ [w7]))) := (Fz.of s7).trans (Fz.lst eD)
      refine acc_end hj (by omega) e1 eD ⟨smU (r1.trans s7) hD, ?_⟩
      rw [take_snoc hp1]
      exact (r2.mono fun _ _ h => PAt.fz zf _ _ _ h).snoc (PAt.fz (Fz.lst eD) _ _ _ p7)
    · rintro ac H5 e1 e2 ⟨r1, r2⟩
      rw [List.take_of_length_le (by rw [hps.length]; exact Nat.le_refl _)] at r2
      have hk : KN s.kd := hkn s (pls_at hs1 (by rw [pl_eq]; exact List.mem_cons_self ..))
      cases s with
      | mk k a b =>
        refine ⟨k, a, b, D, ac, rfl, e2, r2, hnp, hnp2, hk, fun w7 H7 s7 p7 => ?_⟩
        have q27 := s7 _ _ (r1 _ _ q2)
        have zf : Fz H4 (upd H7 lf (.lst (acc ++ [w7]))) := (Fz.of (r1.trans s7)).trans (Fz.lst q27)
        refine ⟨lf, acc, _, rfl, rfl, q27, by omega, ⟨_, _, _, _, rfl⟩, smU ((q1.trans r1).trans s7) hlf, acc ++ [w7], upd_same, by rw [List.length_append, q3]; rfl, ?_⟩
        rw [take_snoc hs1]
        exact (Rows.fz zf q4).snoc (SAt.fz (Fz.lst q27) p7)
  · rintro σ H3 ⟨⟨v2, v3, v4, v5, rfl⟩, q1, acc, q2, q3, q4⟩
    rw [List.take_of_length_le (by omega)] at q4
    refine ⟨_, rfl, fun x dx h1 h2 h3 => ⟨x, dx, lf, acc, ss, H3, rfl, upd_same, smU (smU (Same.refl _) h2) h1, h1, SqL.of q2, q4, h24, h6, fun H5 s5 p5 => ⟨rfl, kk _ H5 (q1.trans s5) p5⟩⟩⟩
theorem ok_built (T : TX K mg) : ∀ n : Nat, Cal P w K mg base (2 * n + 7) "_law_built" (spBuilt K n)
  | 0 => by
    refine calD (k := 6) (fn_law_built T.c) (T.glo (f_glo__law_built T.c)) sc_law_built (bn1 fun _ _ _ _ _ _ _ => rfl) (fun vs H Q E h => by obtain ⟨v, ss, f, rfl, _⟩ := h; rfl) (fun cdv A outer s0 H vs Q E hr h => ?_)
    obtain ⟨v, ss, f, rfl, h1, _⟩ := h
    exact h1.elim
  | d + 1 => st_built T (ok_built T d)
end
end Mb


set_option Elab.async false
set_option linter.all false
set_option maxRecDepth 100000
set_option maxHeartbeats 4000000
/-! texts told -/
namespace Mb
open PySem PySem.Spec PyProof.Rows L2
/-- the text of a list of texts -/
def ltx (ws : List Str) : Str := listText (ws.map reprText)
theorem reads_strs {h : Heap} : ∀ {ws : List Str} {us : List Value}, Vals (ws.map V.str) us → ReadsAll h us (ws.map PyData.str) []
  | [], _, .nil => .nil
  | z :: r, _, .cons a t => by
    obtain ⟨tk, rfl⟩ := a
    have := ReadsAll.cons (.str (h := h) z tk) (reads_strs t)
    exact this
theorem show_strs : ∀ ws : List Str, PyData.showableAll (ws.map PyData.str) = true
  | [] => by simp only [List.map_nil, PyData.showableAll]
  | z :: r => by simp only [List.map_cons, PyData.showableAll, PyData.showable, show_strs r, Bool.and_self]
theorem nodict_strs : ∀ ws : List Str, PyData.hasDictAll (ws.map PyData.str) = false
  | [] => by simp only [List.map_nil, PyData.hasDictAll]
  | z :: r => by simp only [List.map_cons, PyData.hasDictAll, PyData.hasDict, nodict_strs r, Bool.or_self]
theorem depth_strs : ∀ ws : List Str, PyData.depthAll (ws.map PyData.str) ≤ 2
  | [] => by simp [PyData.depthAll]
  | z :: r => by
    have := depth_strs r
    simp only [List.map_cons, PyData.depthAll, PyData.depth]
    omega
theorem ltx_len (ws : List Str) : (ltx ws).length ≤ 2 + piled (ws.map reprText) := by
  unfold ltx listText
  rw [str_len]
  cases hw : ws.map reprText with
  | nil => exact Nat.le_of_eq rfl
  | cons t r =>
    have h1 : textFrom 0 "[" (t :: r) = textFrom 1 (("[" : Str) ++ (if 0 > 0 then ", " else "" : String) ++ t) r := rfl
    have h2 := textFrom_length_pos r 1 (("[" : Str) ++ (if 0 > 0 then ", " else "" : String) ++ t) (by decide)
    rw [h1, h2, piled_cons, str_len, str_len]
    show 1 + 0 + t.length + piled r + 1 ≤ _
    omega
/-- str(x) of an instance whose class says how -/
def rStrO (C : Addr) (sp : Sp) : List V → Hp → VK → Prop := fun xs H Q => ∃ a dx fs, xs = [.ref a] ∧ H a = some (.ins C dx fs) ∧ sp [.ref a] H (fun z H' => ∃ y, z = .str y ∧ Q z H') E0
/-- str(l) of a list of texts -/
def rStrL : List V → Hp → VK → Prop := fun xs H Q => ∃ a ws, xs = [.ref a] ∧ H a = some (.lst (ws.map V.str)) ∧ (ltx ws).length ≤ sizeLine ∧ Q (.str (ltx ws)) H
section
variable {X : Cx} {k : Nat} {C : Addr} {sp : Sp}
theorem call_strO (c : Met X.prog X.w X.K X.mg X.base k C "__str__" sp) (hr : Room (k + 2) X.A) : CallR X (.type "str") (rStrO C sp) := by
  intro pins s σ H xs us Q I r h
  obtain ⟨a, dx, fs, rfl, ha, q⟩ := h
  obtain ⟨u, rfl, ru⟩ := r.one
  cases (show u = Value.ref a from ru)
  obtain ⟨f, fd, ps, F, b, hm, hc⟩ := c.ex
  obtain ⟨mA, O, _⟩ := ins_get I.hok ha
  obtain ⟨od, J, _⟩ := O.look
  have hr1 : Room (k + 1) X.A.in1 := Room.in1 hr
  have hr2 : Room k X.A.in1.in1 := hr1.in1
  have hl := F.len _ _ _ _ q
  have hrun := F.run X.A.in1.in1 X.stack s H ⟨[.ref a], []⟩ [.ref a] [.ref a] _ E0 hr2 I.env0.in1.in1 (b s [.ref a] I.kIn hl) (.cons rfl .nil) q
  refine PySem.W.kso_call (by have := hr2.un; omega) I.kIn J hm.at_ hm.fn (wpAny_call (codeAny_mono hrun fun r s' hq => ?_))
  cases r with
  | error e => exact pass0 pins σ H s e s' I hq
  | ok fl =>
    cases fl with
    | ret u =>
      obtain ⟨v, H', I', rv, y, ey, qy⟩ := I.after hq
      subst ey
      obtain ⟨t, rfl⟩ := rv
      exact ⟨.str y, H', I', ⟨t, rfl⟩, qy⟩
    | next => exact False.elim hq
    | brk => exact False.elim hq
    | cont => exact False.elim hq
theorem call_strL (hg : X.A.guards = some []) (hu : X.A.units + 16 < cLine) : CallR X (.type "str") rStrL := by
  intro pins s σ H xs us Q I r h
  obtain ⟨a, ws, rfl, ha, hz, q⟩ := h
  obtain ⟨u, rfl, ru⟩ := r.one
  cases (show u = Value.ref a from ru)
  obtain ⟨z, its, n, rv, hl, e⟩ := I.lstM ha
  have rd : Reads s.heap (.ref a) (.list (ws.map PyData.str)) [a] := Reads.list e rfl rfl (by simpa using reads_strs rv)
  have hsh : (PyData.list (ws.map PyData.str)).shown = ltx ws := by
    simp only [PyData.shown]
    rw [PyData.shownAll_strs]
    rfl
  refine str_of_reads rd (by simp only [PyData.showable]; exact show_strs ws) (PyData.noDict_hsm (by simp only [PyData.hasDict]; exact nodict_strs ws)) hg ?_ (fun _ _ e => e) (fun h' u tk hk => ?_) (by rw [hsh]; exact hz)
  · have := depth_strs ws
    simp only [PyData.depth]
    omega
  · rw [hsh]
    exact ⟨.str (ltx ws), H, I.kept (t' := tk) hk, ⟨u, rfl⟩, q⟩
end
end Mb


set_option Elab.async false
set_option linter.all false
set_option maxRecDepth 100000
set_option maxHeartbeats 4000000
/-! the text of a row: plain -/
namespace Mb
open PySem PySem.Spec PyProof.Rows L2 TL
def txt (s : Stm) : Str := Txt.join " " (wdss [s])
def tx (ss : List Stm) : Str := ltx (ss.map txt)
structure TW (z : Str) : Prop where
  len : z.length ≤ 10
  low : ∀ c ∈ z.cps.toList, c < 200
theorem tw_name {z : Str} (h : NameOk z) : TW z := by
  have h1 : ∀ c ∈ zLet.cps.toList, c < 200 := by decide +kernel
  have h2 : ∀ c ∈ zFig.cps.toList, c < 200 := by decide +kernel
  exact ⟨h.hi, fun c hc => (h.all c hc).elim (h1 c) (h2 c)⟩
def twB (z : Str) : Bool := decide (z.length ≤ 10) && z.cps.toList.all fun c => decide (c < 200)
theorem tw_b {z : Str} (h : twB z = true) : TW z := by
  unfold twB at h
  rw [Bool.and_eq_true] at h
  exact ⟨of_decide_eq_true h.1, fun c hc => of_decide_eq_true (List.all_eq_true.mp h.2 c hc)⟩
def AW (ws : List Str) : Prop := ∀ z ∈ ws, TW z
theorem AW.nil : AW [] := fun z h => by cases h
theorem AW.cons {z : Str} {ws : List Str} (h : TW z) (t : AW ws) : AW (z :: ws) := fun y hy => by
  rcases List.mem_cons.mp hy with rfl | hy
  · exact h
  · exact t y hy
theorem AW.app {a b : List Str} (h : AW a) (t : AW b) : AW (a ++ b) := fun y hy => by
  rcases List.mem_append.mp hy with hy | hy
  · exact h y hy
  · exact t y hy
theorem AW.brc {a : List Str} (h : AW a) : AW (brc a) := by
  unfold Mb.brc
  exact (AW.app (.cons (tw_b (by decide +kernel)) .nil) h).app (.cons (tw_b (by decide +kernel)) .nil)
mutual
theorem wds_tw : ∀ s : Stm, (∀ t ∈ s.pl, KN t.kd) → AW s.wds
  | .mk k a b, h => by
    have hk : KN k := h (.mk k a b) (by rw [pl_eq]; exact List.mem_cons_self ..)
    have h1 := wdss_tw a fun t ht => h t (by rw [pl_eq]; exact List.mem_cons_of_mem _ (List.mem_append_left _ ht))
    have h2 := wdss_tw b fun t ht => h t (by rw [pl_eq]; exact List.mem_cons_of_mem _ (List.mem_append_right _ ht))
    cases k with
    | write c v =>
      simp only [Stm.wds]
      exact .cons (tw_b (by decide +kernel)) (.cons (tw_name hk.1) (.cons (tw_name hk.2) .nil))
    | wait c v =>
      simp only [Stm.wds]
      exact .cons (tw_b (by decide +kernel)) (.cons (tw_name hk.1) (.cons (tw_name hk.2) .nil))
    | mark n =>
      simp only [Stm.wds]
      exact .cons (tw_b (by decide +kernel)) (.cons (tw_name hk) .nil)
    | skip =>
      simp only [Stm.wds]
      exact .cons (tw_b (by decide +kernel)) .nil
    | stop =>
      simp only [Stm.wds]
      exact .cons (tw_b (by decide +kernel)) .nil
    | iff c v =>
      simp only [Stm.wds]
      exact (((AW.cons (tw_b (by decide +kernel)) (.cons (tw_name hk.1) (.cons (tw_name hk.2) .nil))).app h1.brc).app (.cons (tw_b (by decide +kernel)) .nil)).app h2.brc
    | whil c v =>
      simp only [Stm.wds]
      exact (AW.cons (tw_b (by decide +kernel)) (.cons (tw_name hk.1) (.cons (tw_name hk.2) .nil))).app h1.brc
    | choose =>
      simp only [Stm.wds]
      exact (((AW.cons (tw_b (by decide +kernel)) .nil).app h1.brc).app (.cons (tw_b (by decide +kernel)) .nil)).app h2.brc
    | loop =>
      simp only [Stm.wds]
      exact (AW.cons (tw_b (by decide +kernel)) .nil).app h1.brc
theorem wdss_tw : ∀ ss : List Stm, (∀ t ∈ pls ss, KN t.kd) → AW (wdss ss)
  | [], _ => by rw [wdss_nil]; exact .nil
  | s :: r, h => by
    rw [wdss_cons]
    exact (wds_tw s fun t ht => h t (by rw [pls_cons]; exact List.mem_append_left _ ht)).app (wdss_tw r fun t ht => h t (by rw [pls_cons]; exact List.mem_append_right _ ht))
end
theorem joinL_len {S : List Nat} {m : Nat} : ∀ {ps : List (List Nat)}, (∀ p ∈ ps, p.length ≤ m) → (joinL S ps).length ≤ ps.length * (m + S.length)
  | [], _ => Nat.zero_le _
  | [p], h => by
    have := h p (List.mem_cons_self ..)
    show p.length ≤ 1 * (m + S.length)
    omega
  | p :: q :: r, h => by
    have h1 := h p (List.mem_cons_self ..)
    have h2 := joinL_len (S := S) (m := m) (ps := q :: r) fun z hz => h z (List.mem_cons_of_mem _ hz)
    show (p ++ (S ++ joinL S (q :: r))).length ≤ ((q :: r).length + 1) * (m + S.length)
    rw [List.length_append, List.length_append, Nat.add_mul]
    omega
theorem joinL_mem {S : List Nat} {c : Nat} : ∀ {ps : List (List Nat)}, c ∈ joinL S ps → c ∈ S ∨ ∃ p ∈ ps, c ∈ p
  | [], h => by cases h
  | [p], h => .inr ⟨p, List.mem_cons_self .., h⟩
  | p :: q :: r, h => by
    rcases List.mem_append.mp (show c ∈ p ++ (S ++ joinL S (q :: r)) from h) with h | h
    · exact .inr ⟨p, List.mem_cons_self .., h⟩
    · rcases List.mem_append.mp h with h | h
      · exact .inl h
      · rcases joinL_mem (ps := q :: r) h with h | ⟨z, hz, h⟩
        · exact .inl h
        · exact .inr ⟨z, List.mem_cons_of_mem _ hz, h⟩
theorem txt_ok {s : Stm} (h : AW s.wds) (hs : s.sz ≤ 8) : (txt s).length ≤ 792 ∧ ∀ c ∈ (txt s).cps.toList, c < 200 := by
  have hw : wdss [s] = s.wds := by rw [wdss_cons, wdss_nil, List.append_nil]
  have e : (txt s).cps.toList = joinL [32] (s.wds.map fun z => z.cps.toList) := by
    unfold txt
    rw [join_eq, hw]
    exact tl_join " " s.wds
  have hl := wds_len s
  constructor
  · have h1 := joinL_len (S := [32]) (m := 10) (ps := s.wds.map fun z => z.cps.toList) fun p hp => by
      obtain ⟨z, hz, rfl⟩ := List.mem_map.mp hp
      exact (h z hz).len
    rw [← e, List.length_map] at h1
    have h2 : s.wds.length * (10 + 1) ≤ 72 * 11 := Nat.mul_le_mul (by omega) (by decide)
    exact Nat.le_trans (Nat.le_trans h1 h2) (by decide)
  · intro c hc
    rw [e] at hc
    rcases joinL_mem hc with h1 | ⟨p, hp, h1⟩
    · rw [List.mem_singleton.mp h1]
      decide
    · obtain ⟨z, hz, rfl⟩ := List.mem_map.mp hp
      exact (h z hz).low c h1
theorem fmt_le {m : Nat} : ∀ l : List Str, (∀ y ∈ l, y.length ≤ m) → fmtCost l ≤ l.length * (10 * m + 4)
  | [], _ => Nat.zero_le _
  | y :: r, h => by
    have h1 := h y (List.mem_cons_self ..)
    have h2 := fmt_le r fun z hz => h z (List.mem_cons_of_mem _ hz)
    rw [fmtCost_cons, List.length_cons, Nat.add_mul]
    omega
/-- a row whose text may be told -/
structure TR (ss : List Stm) : Prop where
  len : ss.length ≤ 24
  each : ∀ s ∈ ss, s.sz ≤ 8 ∧ AW s.wds
theorem tx_len {ss : List Stm} (h : TR ss) : (tx ss).length ≤ sizeLine := by
  have h1 := ltx_len (ss.map txt)
  have h2 := fmt_piled (ss.map txt) fun y hy c hc => by
    obtain ⟨s, hs, rfl⟩ := List.mem_map.mp hy
    have := (txt_ok (h.each s hs).2 (h.each s hs).1).2 c hc
    exact Nat.lt_trans this (by decide)
  have h3 := fmt_le (m := 792) (ss.map txt) fun y hy => by
    obtain ⟨s, hs, rfl⟩ := List.mem_map.mp hy
    exact (txt_ok (h.each s hs).2 (h.each s hs).1).1
  rw [List.length_map] at h3
  have h4 : ss.length * (10 * 792 + 4) ≤ 24 * (10 * 792 + 4) := Nat.mul_le_mul_right _ h.len
  have h5 : 2 + 24 * (10 * 792 + 4) ≤ sizeLine := by decide
  exact Nat.le_trans h1 (Nat.le_trans (Nat.add_le_add_left (Nat.le_trans h2 (Nat.le_trans h3 h4)) 2) h5)
end Mb


set_option Elab.async false
set_option linter.all false
set_option maxRecDepth 100000
set_option maxHeartbeats 4000000
/-! defs that are called where no repr is under way -/
namespace Mb
open PySem PySem.Spec PyProof.Rows L2
/-- what a def promises where no repr is under way -/
structure GOk (P : Program) (w : World) (K : PySem.W.Frag) (mg : Str → Option Value) (base : Heap) (k : Nat) (f : Addr) (fd : FuncData) (ps : List Str) (sp : Sp) : Prop where
  many : ∀ vs H Q E, sp vs H Q E → vs.length = ps.length
  goes : ∀ (A : Around) (outer : List Env) (s : Shared) (H : Hp) (args : Args) (us : List Value) (vs : List V) (Q : VK) (E : XK), Room k A → A.guards = some [] → Env0 P w K mg base A outer s H →
    BindsTo s fd args (ps.zip us) → Vals vs us → sp vs H Q E → codeAny (model P w) A (.call (.ref f) args) (CR CX0 outer P w H s Q E) s
structure CalG (P : Program) (w : World) (K : PySem.W.Frag) (mg : Str → Option Value) (base : Heap) (k : Nat) (x : Str) (sp : Sp) : Prop where
  ex : ∃ (f : Addr) (fd : FuncData) (ps : List Str), GOk P w K mg base k f fd ps sp ∧ Binds K fd ps [] ∧ PySem.W.keepIn K (.ref f) = true ∧ mg x = some (.ref f)
section
variable {P : Program} {w : World} {K : PySem.W.Frag} {mg : Str → Option Value} {base : Heap} {n qual : Str} {params : Arguments} {body : List Stmt} {scope : Scope} {N ps : List Str} {k : Nat} {sp : Sp}
/-- what a body has to show, no repr being under way -/
def BdyG (P : Program) (w : World) (K : PySem.W.Frag) (mg : Str → Option Value) (base : Heap) (N : List Str) (qual : Str) (scope : Scope) (f : Addr) (k : Nat) (body : List Stmt) (sp : Sp) : Prop :=
  ∀ (cdv : Value) (A : Around) (outer : List Env) (s : Shared) (H : Hp) (vs : List V) (Q : VK) (E : XK), Room k (A.deeper (envOfC qual scope s.heap.objs.size f cdv)) → A.guards = some [] → sp vs H Q E →
    ∃ t, PSs (cxOf CX0 P w K mg base N qual scope f cdv A outer s H E).nox body t ∧ t { nx := fun _ H2 => Q .non H2, rt := Q } (start N vs) H
theorem gokD {f : Addr} {fd : FuncData} (F : FunD K n qual params body scope [] [] f fd) (S : FnScope N ps scope) (many : ∀ vs H Q E, sp vs H Q E → vs.length = ps.length) (hb : BdyG P w K mg base N qual scope f k body sp) : GOk P w K mg base (k + 1) f fd ps sp := by
  obtain ⟨oc, od, dV, kV, doc, pm, an, cdv, ct, osl, rfl, lk, hcd, _, _⟩ := F.ex
  refine ⟨many, ?_⟩
  intro A outer s H args us vs Q E room gs ev bind vals hv
  have kin : K.In s.heap := ev.mod.kin.keeps fun b o z => (ev.bs b o z).1
  have nol : s.heap.NoLimit := ev.mod.nolimit.keeps fun b o z => (ev.bs b o z).1
  have kinds : ∀ y ∈ ps.zip us, scope.names.lookup y.1 = some .local ∨ (scope.names.lookup y.1 = some .cell ∧ ((cellsFrom (s.heap.objs.size + 1) scope.names []).lookup y.1).isSome = true) := by
    intro y hy
    obtain ⟨a, b⟩ := y
    refine (S.par a (List.of_mem_zip hy).1).imp (fun z => z) fun z => ⟨z, ?_⟩
    exact PySem.W.cellsFrom_some _ _ _ (.inl z)
  refine codeAny_call_function room.depth (kin _ _ lk) rfl S.co S.gen rfl (PySem.W.codeRec_of kin hcd) (bind _ _ _ _ ?_)
  refine wpAny_newFunctionEnv_cells S.kind kinds fun env ee s1 nw => ?_
  subst ee
  refine ⟨nol.keeps nw.toInCall.keep, codeAny_func ?_⟩
  obtain ⟨t, h1, h2⟩ := hb cdv A outer s H vs Q E (room.deeper _) gs hv
  have inv0 : Inv (cxOf CX0 P w K mg base N qual scope f cdv A outer s H E) [] (start N vs) H s1 := inv_start S room.hd ev (many _ _ _ _ hv) vals nw
  refine wpAny_mono (h1.nox.run [] s1 (start N vs) H _ inv0 h2) (fun fl s' out => ?_) fun e s' out => out
  match fl, out with
  | .ret u, ⟨v, σ', H', J, rv, q⟩ => exact ⟨v, H', J.os, J.bare, J.base, J.hok, rv, q⟩
  | .next, ⟨σ', H', J, q⟩ => exact ⟨V.non, H', J.os, J.bare, J.base, J.hok, rfl, q⟩
  | .brk, ⟨_, _, _, q⟩ => exact False.elim q
  | .cont, ⟨_, _, _, q⟩ => exact False.elim q
theorem calG {x : Str} (F : ∃ fd, FunD K n qual params body scope [] [] (He.fAd K (x, none)) fd) (hm : mg x = some (.ref (He.ga K x))) (S : FnScope N ps scope) (bn : Bnd n qual params body scope ps)
    (many : ∀ vs H Q E, sp vs H Q E → vs.length = ps.length) (hb : BdyG P w K mg base N qual scope (He.fAd K (x, none)) k body sp) : CalG P w K mg base (k + 1) x sp := by
  obtain ⟨fd, F⟩ := F
  exact ⟨_, fd, ps, gokD F S many hb, F.bindsN bn, F.kp, hm⟩
end
section
variable {X : Cx} {k j : Nat} {x : Str} {sp : Sp} {p pos : Pos} {e : Expr} {es : List Expr} {t : TA}
theorem pe_g (c : CalG X.prog X.w X.K X.mg X.base k x sp) (hr : Room j X.A) (gs : X.A.guards = some []) (ha : PA X (e :: es) t) (hk : k ≤ j := by first | decide | omega) (hg : Gl X x := by rfl)
    (hdb : (x == ("__debug__" : Str)) = false := by decide) (he : starEach (e :: es) X.env = (false, eval e X.env) :: starEach es X.env := by rfl) (hpl : (backTo pos (starEach es X.env)).any (·.1) = false := by rfl) :
    PE X (.Call (.Name x p) (e :: es) [] pos) (tCall sp [] E0 t) := by
  obtain ⟨f, fd, ps, F, b, kp, hm⟩ := c.ex
  refine ⟨fun pins s σ H Q I h => ?_⟩
  refine wpAny_Call_Name_kw (ld_glob I hg hm ?_ hdb)
  refine PySem.W.callWith_K (h₀ := X.base) I.ok.mod.kin kp (thn (ha.run pos pins s σ H _ I h) fun us s1 ⟨vs, H1, I1, r, q⟩ => ⟨I1.kIn, ?_⟩) he hpl
  replace q : sp (vs ++ []) H1 Q E0 := q
  rw [List.append_nil] at q
  have hl : us.length = ps.length := by rw [← r.length]; exact F.many _ _ _ _ q
  have bt := b s1 us I1.kIn (by rw [List.append_nil]; exact hl)
  rw [List.append_nil] at bt
  refine wpAny_call (codeAny_mono (F.goes X.A X.stack s1 H1 ⟨us, []⟩ us vs Q E0 (hr.mono hk) gs I1.env0 bt r q) fun res s' out => ?_)
  match res, out with
  | .error z, out => exact pass0 pins σ H1 s1 z s' I1 out
  | .ok (.ret u), out => exact I1.after out
  | .ok .next, out => exact False.elim out
  | .ok .brk, out => exact False.elim out
  | .ok .cont, out => exact False.elim out
end
end Mb


set_option Elab.async false
set_option linter.all false
set_option maxRecDepth 100000
set_option maxHeartbeats 4000000
/-! law_text, law_mark -/
namespace Mb
open PySem PySem.Spec PyProof.Rows L2
/-- the text of a row of statements: a tuple or a list of them -/
def spTextT (K : PySem.W.Frag) (n : Nat) : Sp := fun vs H Q _ => ∃ (r : Addr) (as : List V) (ss : List Stm), vs = [.ref r] ∧ H r = some (.tup as) ∧ Paired (SAt K H n) as ss ∧ TR ss ∧ n + 1 ≤ 6 ∧ ∀ H2, Same H H2 → Q (.str (tx ss)) H2
def spTextL (K : PySem.W.Frag) (n : Nat) : Sp := fun vs H Q _ => ∃ (r : Addr) (as : List V) (ss : List Stm), vs = [.ref r] ∧ H r = some (.lst as) ∧ Paired (SAt K H n) as ss ∧ TR ss ∧ n + 1 ≤ 6 ∧ ∀ H2, Same H H2 → Q (.str (tx ss)) H2
def spMarkL (K : PySem.W.Frag) (n : Nat) : Sp := fun vs H Q _ => ∃ (r : Addr) (as : List V) (ss : List Stm), vs = [.ref r] ∧ H r = some (.lst as) ∧ Paired (SAt K H n) as ss ∧ ∀ H2, Same H H2 → Q (markV ss.head?) H2
section
variable {P : Program} {w : World} {K : PySem.W.Frag} {mg : Str → Option Value} {base : Heap}
theorem sc_law_text : FnScope ["_law_row_here", "_law_one"] ["_law_row_here"] (defScope s_law_text) := ⟨rfl, rfl, rfl, by decide +kernel, rfl, by decide +kernel, by decide +kernel⟩
/-- a turn: the text of one statement -/
theorem one_text {n : Nat} {H : Hp} {x : V} {s : Stm} {Q : VK} (hs : SAt K H n x s) (h8 : s.sz ≤ 8) (hw : AW s.wds) (h6 : n + 1 ≤ 6) (kk : ∀ H2, Same H H2 → Q (.str (txt s)) H2) :
    ∀ l, H l = none → tMake (He.ga K "Program") (spProgI K n) [] E0 (tCons (tC (.ref l)) tNil) [] (upd H l (.lst [x])) fun y H1 => rStrO (He.ga K "Program") (spStr K (n + 1)) [y] H1 Q := by
  intro l hl x1 dx h1 h2 h3
  have s0 : Same H (upd H l (.lst [x])) := smU (Same.refl H) hl
  have s1 : Same (upd H l (.lst [x])) (upd (upd (upd H l (.lst [x])) dx (.own x1)) x1 (.ins (He.ga K "Program") dx [])) := smU (smU (Same.refl _) h2) h1
  refine ⟨x1, dx, l, [x], [s], upd H l (.lst [x]), rfl, upd_same, s1, h1, SqL.of upd_same, .cons (SAt.fz (Fz.of s0) hs) .nil, by rw [szs_cons, szs_nil]; omega, h6, fun H5 s5 p5 => ⟨rfl, ?_⟩⟩
  obtain ⟨z, dz, tz, e, hz⟩ := p5.ref
  cases e
  refine ⟨x1, dz, _, rfl, hz, _, [s], rfl, p5, fun w7 hw7 => ?_, fun H6 s6 => ⟨_, rfl, kk H6 ((s0.trans s5).trans s6)⟩⟩
  rw [wdss_cons, wdss_nil, List.append_nil] at hw7
  exact (hw w7 hw7).len
theorem ok_textL (T : TX K mg) (n : Nat) : CalG P w K mg base (3 * n + 8) "_law_text" (spTextL K n) := by
  refine calG (k := 3 * n + 7) (fn_law_text T.c) (T.glo (f_glo__law_text T.c)) sc_law_text (bn1 fun _ _ _ _ _ _ _ => rfl) (fun vs H Q E h => by obtain ⟨r, as, ss, rfl, _⟩ := h; rfl) (fun cdv A outer s0 H vs Q E hr gs h => ?_)
  obtain ⟨r, as, ss, rfl, hl, hp, htr, h6, kk⟩ := h
  have c := T.c
  have nd := sc_law_text.nd
  have hrs : Room ((3 * (n + 1) + 2) + 2) (A.deeper (envOfC d_law_text.qual (defScope s_law_text) s0.heap.objs.size (He.fAd K ("_law_text", none)) cdv)) := hr.mono (by omega)
  refine ⟨_, pss_one (ps_ret (pe_ty (call_strL gs (by have := hr.un; show (A.deeper _).units + 16 < cLine; omega)) bb_str (T.free (f_free_str c)) (pa_cons (pe_lc (own := [("_law_one", 1)]) (g := gName 1) (tt := tYes) rfl nd (pi_list (pv 0)) (blkOk_by (N := ["_law_row_here", "_law_one"]) (sc := defScope s_law_text) (by decide +kernel))
    (fun _ _ _ _ _ => pg_name (i := 1) nd rfl (Or.inl rfl)) (fun _ _ _ _ _ => pts_nil)
    (fun _ _ _ _ _ => pe_ty (call_strO (ok_str T (n + 1)) hrs) bb_str (T.free (f_free_str c)) (pa_cons (pe_mk (ok_Program T n) hr (pa_cons (pe_lst (pa_cons (pv 1) pa_nil)) pa_nil)) pa_nil))) pa_nil))), ?_⟩
  have hln := hp.length
  have h24 := htr.len
  have hlen : as.length ≤ sizeLine := le_sl (m := 24) (by omega) (by decide)
  refine ⟨_, rfl, r, rfl, ⟨_, SqL.of hl⟩, fun D hD => ?_⟩
  refine lc_n (walk_list (xs := as)) (fun i acc H2 => Same H H2 ∧ acc = (ss.take i).map fun s => V.str (txt s)) ⟨smU (Same.refl _) hD, rfl⟩ (fun i acc H2 _ _ q => SqL.of (q.1 _ _ hl)) (fun _ => rfl) ?_ ?_
  · rintro i y acc H1 H2 hi e1 e2 ⟨q1, q2⟩ ⟨rfl, hy⟩
    obtain ⟨s, hs1, hs2⟩ := pair_at hp hy
    have he := htr.each s (List.mem_of_getElem? hs1)
    refine ⟨_, rfl, (by show 1 ≤ sizeLine; decide), fun l hl1 => one_text (SAt.fz (Fz.of q1) hs2) he.1 he.2 h6 (fun H5 s5 => ?_) l hl1⟩
    refine acc_end hi hlen e1 (s5 _ _ e2) ⟨smU (q1.trans s5) hD, ?_⟩
    rw [q2, take_snoc hs1, List.map_append]
    rfl
  · rintro acc H2 e1 e2 ⟨q1, q2⟩
    rw [List.take_of_length_le (by omega)] at q2
    refine ⟨D, ss.map txt, rfl, ?_, tx_len htr, kk H2 q1⟩
    rw [e2, q2, List.map_map]
    rfl
theorem ok_textT (T : TX K mg) (n : Nat) : CalG P w K mg base (3 * n + 8) "_law_text" (spTextT K n) := by
  refine calG (k := 3 * n + 7) (fn_law_text T.c) (T.glo (f_glo__law_text T.c)) sc_law_text (bn1 fun _ _ _ _ _ _ _ => rfl) (fun vs H Q E h => by obtain ⟨r, as, ss, rfl, _⟩ := h; rfl) (fun cdv A outer s0 H vs Q E hr gs h => ?_)
  obtain ⟨r, as, ss, rfl, hl, hp, htr, h6, kk⟩ := h
  have c := T.c
  have nd := sc_law_text.nd
  have hrs : Room ((3 * (n + 1) + 2) + 2) (A.deeper (envOfC d_law_text.qual (defScope s_law_text) s0.heap.objs.size (He.fAd K ("_law_text", none)) cdv)) := hr.mono (by omega)
  refine ⟨_, pss_one (ps_ret (pe_ty (call_strL gs (by have := hr.un; show (A.deeper _).units + 16 < cLine; omega)) bb_str (T.free (f_free_str c)) (pa_cons (pe_lc (own := [("_law_one", 1)]) (g := gName 1) (tt := tYes) rfl nd (pi_tup (pv 0)) (blkOk_by (N := ["_law_row_here", "_law_one"]) (sc := defScope s_law_text) (by decide +kernel))
    (fun _ _ _ _ _ => pg_name (i := 1) nd rfl (Or.inl rfl)) (fun _ _ _ _ _ => pts_nil)
    (fun _ _ _ _ _ => pe_ty (call_strO (ok_str T (n + 1)) hrs) bb_str (T.free (f_free_str c)) (pa_cons (pe_mk (ok_Program T n) hr (pa_cons (pe_lst (pa_cons (pv 1) pa_nil)) pa_nil)) pa_nil))) pa_nil))), ?_⟩
  have hln := hp.length
  have h24 := htr.len
  have hlen : as.length ≤ sizeLine := le_sl (m := 24) (by omega) (by decide)
  refine ⟨_, rfl, r, rfl, ⟨_, SqT.of hl⟩, fun D hD => ?_⟩
  refine lc_n (walk_tup (xs := as)) (fun i acc H2 => Same H H2 ∧ acc = (ss.take i).map fun s => V.str (txt s)) ⟨smU (Same.refl _) hD, rfl⟩ (fun i acc H2 _ _ q => SqT.of (q.1 _ _ hl)) (fun _ => rfl) ?_ ?_
  · rintro i y acc H1 H2 hi e1 e2 ⟨q1, q2⟩ ⟨rfl, hy⟩
    obtain ⟨s, hs1, hs2⟩ := pair_at hp hy
    have he := htr.each s (List.mem_of_getElem? hs1)
    refine ⟨_, rfl, (by show 1 ≤ sizeLine; decide), fun l hl1 => one_text (SAt.fz (Fz.of q1) hs2) he.1 he.2 h6 (fun H5 s5 => ?_) l hl1⟩
    refine acc_end hi hlen e1 (s5 _ _ e2) ⟨smU (q1.trans s5) hD, ?_⟩
    rw [q2, take_snoc hs1, List.map_append]
    rfl
  · rintro acc H2 e1 e2 ⟨q1, q2⟩
    rw [List.take_of_length_le (by omega)] at q2
    refine ⟨D, ss.map txt, rfl, ?_, tx_len htr, kk H2 q1⟩
    rw [e2, q2, List.map_map]
    rfl
theorem sc_law_mark : FnScope ["_law_row_here"] ["_law_row_here"] (defScope s_law_mark) := ⟨rfl, rfl, rfl, by decide +kernel, rfl, by decide +kernel, by decide +kernel⟩
theorem ok_law_mark (T : TX K mg) (n : Nat) : Cal P w K mg base 1 "_law_mark" (spMarkL K n) := by
  refine calD (fn_law_mark T.c) (T.glo (f_glo__law_mark T.c)) sc_law_mark (bn1 fun _ _ _ _ _ _ _ => rfl) (fun vs H Q E h => by obtain ⟨r, as, ss, rfl, _⟩ := h; rfl) (fun cdv A outer s0 H vs Q E hr h => ?_)
  obtain ⟨r, as, ss, rfl, hl, hp, kk⟩ := h
  have c := T.c
  refine ⟨_, pss_cons (ps_if (PW.pt (pw_and (pt_cmpR (op_neNil hr.units) (pv 0) (pe_lst pa_nil) (nomark _)) (pw_and1 (pt_val (pe_b call_isi bb_isi (T.free (f_free_isinstance c)) (pa_cons (pe_ix ix_list (pv 0) pe_int (fun _ _ => rfl)) (pa_cons (pe_gl (T.ref (f_glo_Mark c))) pa_nil))))))) (pss_one (ps_ret (pe_fld (pe_ix ix_list (pv 0) pe_int (fun _ _ => rfl)) rfl))) pss_nil)
    (pss_one (ps_ret pe_non)), ?_⟩
  refine ⟨_, rfl, (by show 0 ≤ sizeLine; decide), fun l hl1 => ?_⟩
  have s1 : Same H (upd H l (.lst [])) := smU (Same.refl H) hl1
  cases hp with
  | nil =>
    exact ⟨r, l, [], rfl, rfl, SqL.of (s1 _ _ hl), SqL.of upd_same, _, rfl, iteN rfl (kk _ s1)⟩
  | @cons v0 s as ss hs hp =>
    obtain ⟨x, dx, p, q, rfl, hx, hpa⟩ := id hs
    have hi0 : atI (V.ref x :: as) 0 = some (.ref x) := atI_nat (j := 0) rfl
    refine ⟨r, l, _, rfl, rfl, SqL.of (s1 _ _ hl), SqL.of upd_same, _, rfl, iteB rfl ⟨_, rfl, r, _, _, _, rfl, rfl, SqL.of (s1 _ _ hl), hi0, ?_⟩⟩
    refine ⟨_, _, _, _, (s.kd.tag == 2), rfl, .own _, ty_kd T s.kd (s1 _ _ hx), is_Mark T s.kd, _, rfl, ?_⟩
    have hk := kk _ s1
    cases s with
    | mk k a b =>
      cases k with
      | mark nm => exact iteB rfl ⟨_, rfl, r, _, _, _, rfl, rfl, SqL.of (s1 _ _ hl), hi0, x, _, dx, _, _, rfl, s1 _ _ hx, cls_of (f_cls_Mark c), no_of (f_no_Mark_name c), rfl, hk⟩
      | _ => exact iteN rfl hk
end
end Mb


set_option Elab.async false
set_option linter.all false
set_option maxRecDepth 100000
set_option maxHeartbeats 4000000
/-! pairs and rests: what stands while they are gone through -/
namespace Mb
open PySem PySem.Spec PyProof.Rows L2
/-! ### plain -/
mutual
theorem mem_pl_sz : ∀ (s t : Stm), t ∈ s.pl → t.sz ≤ s.sz ∧ ∀ u ∈ t.pl, u ∈ s.pl
  | .mk k a b, t, h => by
    have hs : (Stm.mk k a b).sz = 1 + (szs a + szs b) := Stm.sz_eq _
    have hp : (Stm.mk k a b).pl = .mk k a b :: (pls a ++ pls b) := pl_eq _
    rw [hp] at h
    rcases List.mem_cons.mp h with rfl | h
    · exact ⟨Nat.le_refl _, fun u hu => hu⟩
    · rcases List.mem_append.mp h with h | h
      · obtain ⟨h1, h2⟩ := mem_pls_sz a t h
        exact ⟨by omega, fun u hu => by rw [hp]; exact List.mem_cons_of_mem _ (List.mem_append_left _ (h2 u hu))⟩
      · obtain ⟨h1, h2⟩ := mem_pls_sz b t h
        exact ⟨by omega, fun u hu => by rw [hp]; exact List.mem_cons_of_mem _ (List.mem_append_right _ (h2 u hu))⟩
theorem mem_pls_sz : ∀ (ss : List Stm) (t : Stm), t ∈ pls ss → t.sz ≤ szs ss ∧ ∀ u ∈ t.pl, u ∈ pls ss
  | [], t, h => by rw [pls_nil] at h; cases h
  | s :: r, t, h => by
    rw [pls_cons] at h
    rw [szs_cons, pls_cons]
    rcases List.mem_append.mp h with h | h
    · obtain ⟨h1, h2⟩ := mem_pl_sz s t h
      exact ⟨by omega, fun u hu => List.mem_append_left _ (h2 u hu)⟩
    · obtain ⟨h1, h2⟩ := mem_pls_sz r t h
      exact ⟨by omega, fun u hu => List.mem_append_right _ (h2 u hu)⟩
end
/-- what the program is like -/
structure PG (cs : Cells) (p : List Stm) : Prop where
  ok : CellsOk cs
  few : szs p ≤ 8
  kg : ∀ t ∈ pls p, KG (bdOf cs) t.kd
  kn : ∀ t ∈ pls p, KN t.kd
theorem PG.tr {cs : Cells} {p row : List Stm} {g : Nat} (h : PG cs p) (e : (rsM p)[g]? = some row) : TR row := by
  obtain ⟨h1, h2⟩ := rsM_in e
  have := h.few
  refine ⟨by omega, fun s hs => ?_⟩
  obtain ⟨h3, h4⟩ := mem_pls_sz p s (h2 s hs)
  exact ⟨by omega, wds_tw s fun t ht => h.kn t (h4 t ht)⟩
theorem PG.row {cs : Cells} {p row : List Stm} {g : Nat} (h : PG cs p) (e : (rsM p)[g]? = some row) : (∀ s ∈ row, KG (bdOf cs) s.kd) ∧ row.length ≤ 1000 := by
  obtain ⟨h1, h2⟩ := rsM_in e
  have := h.few
  exact ⟨fun s hs => h.kg s (h2 s hs), by omega⟩
theorem KG_of {cs : Cells} {ms : List Str} {k : Kd} (ok : CellsOk cs) (h : GK cs ms k) : KG (bdOf cs) k := by
  cases k with
  | write c v => obtain ⟨us, h1, h2⟩ := h; exact ⟨us, bd_mem ok.nd h1, h2⟩
  | wait c v => obtain ⟨us, h1, h2⟩ := h; exact ⟨us, bd_mem ok.nd h1, h2⟩
  | iff c v => obtain ⟨us, h1, h2⟩ := h; exact ⟨us, bd_mem ok.nd h1, h2⟩
  | whil c v => obtain ⟨us, h1, h2⟩ := h; exact ⟨us, bd_mem ok.nd h1, h2⟩
  | _ => trivial
theorem few_rooms {gs : List Nat} {n : Nat} (nd : gs.Nodup) (le : ∀ g ∈ gs, g ≤ n) : gs.length ≤ n + 1 := by
  have := nodup_le gs (List.range (n + 1)) nd fun g hg => List.mem_range.mpr (by have := le g hg; omega)
  rwa [List.length_range] at this
/-! ### what a heap keeps but for a list and a dict -/
structure Fi (H H2 : Hp) : Prop where
  ins : ∀ b C dx fs, H b = some (.ins C dx fs) → H2 b = some (.ins C dx fs)
  tup : ∀ b xs, H b = some (.tup xs) → H2 b = some (.tup xs)
theorem SOf.fi {K : PySem.W.Frag} {H H2 : Hp} {P P2 : V → List Stm → Prop} (z : Fi H H2) (i : ∀ v ss, P v ss → P2 v ss) {v : V} {s : Stm} (h : SOf K H P v s) : SOf K H2 P2 v s := by
  obtain ⟨x, dx, p, q, e, a, b⟩ := h
  exact ⟨x, dx, p, q, e, z.ins _ _ _ _ a, b.imp i⟩
theorem PAt.fi {K : PySem.W.Frag} {H H2 : Hp} (z : Fi H H2) : ∀ (n : Nat) (v : V) (ss : List Stm), PAt K H n v ss → PAt K H2 n v ss
  | 0, _, _, h => h
  | n + 1, v, ss, ⟨x, dx, t, as, e, a, b, y, c⟩ => ⟨x, dx, t, as, e, z.ins _ _ _ _ a, z.tup _ _ b, y, c.mono fun _ _ h => h.fi z (PAt.fi z n)⟩
theorem Rows.fi {K : PySem.W.Frag} {H H2 : Hp} (z : Fi H H2) {n : Nat} {as : List V} {ss : List Stm} (h : Paired (SAt K H n) as ss) : Paired (SAt K H2 n) as ss := h.mono fun _ _ e => SOf.fi z (PAt.fi z n) e
abbrev Npd (pr rd : Addr) : Addr → Prop := fun b => b ≠ pr ∧ b ≠ rd
theorem Fi.kf {H H2 : Hp} {pr rd : Addr} {xs : List V} {kvs : List (Key × V)} (k : Kf (Npd pr rd) H H2) (h1 : H pr = some (.lst xs)) (h2 : H rd = some (.dK kvs)) : Fi H H2 :=
  ⟨fun b _ _ _ e => k b _ ⟨ne_of e h1 (by intro z; cases z), ne_of e h2 (by intro z; cases z)⟩ e, fun b _ e => k b _ ⟨ne_of e h1 (by intro z; cases z), ne_of e h2 (by intro z; cases z)⟩ e⟩
theorem RowN.kp {K : PySem.W.Frag} {H H2 : Hp} {pr rd : Addr} {n : Nat} (k : Kf (Npd pr rd) H H2) (z : Fi H H2) {v : V} {ss : List Stm} (h : RowN K H n (Npd pr rd) v ss) : RowN K H2 n (Npd pr rd) v ss := by
  obtain ⟨l, as, e, a, b, c⟩ := h
  exact ⟨l, as, e, a, k _ _ a b, Rows.fi z c⟩
/-- a room and what is left of the text there -/
def PairR (K : PySem.W.Frag) (H : Hp) (pr rd : Addr) (p : List Stm) (v : V) (g : Nat) : Prop := ∃ t rw row, v = .ref t ∧ H t = some (.tup [.int g, rw]) ∧ (rsM p)[g]? = some row ∧ RowN K H 3 (Npd pr rd) rw row
theorem PairR.kp {K : PySem.W.Frag} {H H2 : Hp} {pr rd : Addr} {p : List Stm} (k : Kf (Npd pr rd) H H2) (z : Fi H H2) {v : V} {g : Nat} (h : PairR K H pr rd p v g) : PairR K H2 pr rd p v g := by
  obtain ⟨t, rw, row, e, a, b, c⟩ := h
  exact ⟨t, rw, row, e, z.tup _ _ a, b, c.kp k z⟩
structure Lp (K : PySem.W.Frag) (H0 H : Hp) (pr rd : Addr) (p : List Stm) (gs : List Nat) : Prop where
  s0 : Same H0 H
  n1 : H0 pr = none
  n2 : H0 rd = none
  pv : ∃ pvs, H pr = some (.lst pvs) ∧ Paired (PairR K H pr rd p) pvs gs
  kv : ∃ kvs, H rd = some (.dK kvs) ∧ kvs.length = gs.length ∧ ∀ g : Nat, valV kvs (.inl (g : Int)) = if g ∈ gs then (rsM p)[g]?.map (fun row => V.str (tx row)) else none
  nd : gs.Nodup
  le : ∀ g ∈ gs, g ≤ szs p
  ne : gs ≠ []
theorem Lp.same {K : PySem.W.Frag} {H0 H H2 : Hp} {pr rd : Addr} {p : List Stm} {gs : List Nat} (s : Same H H2) (h : Lp K H0 H pr rd p gs) : Lp K H0 H2 pr rd p gs := by
  obtain ⟨pvs, e1, q1⟩ := h.pv
  obtain ⟨kvs, e2, q2⟩ := h.kv
  have z : Fi H H2 := ⟨fun _ _ _ _ e => s _ _ e, fun _ _ e => s _ _ e⟩
  exact ⟨h.s0.trans s, h.n1, h.n2, ⟨pvs, s _ _ e1, q1.mono fun _ _ y => y.kp (Kf.of s) z⟩, ⟨kvs, s _ _ e2, q2⟩, h.nd, h.le, h.ne⟩
/-- the first pair tells the list of pairs from rows and steps -/
theorem Lp.row {K : PySem.W.Frag} {H0 H : Hp} {pr rd : Addr} {p : List Stm} {gs : List Nat} (h : Lp K H0 H pr rd p gs) {n : Nat} {v : V} {row : List Stm} (r : RowR K H n v row) : RowN K H n (Npd pr rd) v row := by
  obtain ⟨l, as, e, _, a, b⟩ := r
  obtain ⟨pvs, e1, q1⟩ := h.pv
  obtain ⟨kvs, e2, _⟩ := h.kv
  refine ⟨l, as, e, ⟨fun z => ?_, ne_of a e2 (by intro z; cases z)⟩, a, b⟩
  subst z
  rw [a] at e1
  have e3 : as = pvs := HO.lst.inj (Option.some.inj e1)
  subst e3
  have hne := h.ne
  cases q1 with
  | nil => exact hne rfl
  | cons q _ =>
    obtain ⟨t, rw, row, e, et, _⟩ := q
    subst e
    cases b with
    | cons s _ =>
      obtain ⟨x, dx, p', q', e, ex, _⟩ := s
      cases e
      rw [et] at ex
      cases ex
theorem Lp.steps {K : PySem.W.Frag} {H0 H : Hp} {pr rd : Addr} {p : List Stm} {gs : List Nat} (h : Lp K H0 H pr rd p gs) {α : Type} {R : V → α → Prop} {l : Addr} {xs : List V} {st : List (Act × α)} (a : H l = some (.lst xs)) (b : Paired (StepR K H R) xs st) : Npd pr rd l := by
  obtain ⟨pvs, e1, q1⟩ := h.pv
  obtain ⟨kvs, e2, _⟩ := h.kv
  refine ⟨fun z => ?_, ne_of a e2 (by intro z; cases z)⟩
  subst z
  rw [a] at e1
  have e3 : xs = pvs := HO.lst.inj (Option.some.inj e1)
  subst e3
  have hne := h.ne
  cases q1 with
  | nil => exact hne rfl
  | cons q _ =>
    obtain ⟨t, rw, row, e, et, _⟩ := q
    subst e
    cases b with
    | cons s _ =>
      obtain ⟨t2, av, gv, e, ex, ⟨t3, e4, _⟩, _⟩ := s
      cases e
      rw [et] at ex
      have := HO.tup.inj (Option.some.inj ex)
      subst e4
      cases this
/-- a new room is laid -/
theorem Lp.put {K : PySem.W.Frag} {H0 H : Hp} {pr rd tp : Addr} {p : List Stm} {gs : List Nat} {pvs : List V} {kvs : List (Key × V)} (h : Lp K H0 H pr rd p gs) (e1 : H pr = some (.lst pvs)) (e2 : H rd = some (.dK kvs)) {g : Nat} {rw : V} {row : List Stm} (hg : ¬ g ∈ gs) (hr : (rsM p)[g]? = some row)
    (r : RowN K H 3 (Npd pr rd) rw row) (ht : (upd H rd (.dK (putK kvs (.inl (g : Int)) (.str (tx row))))) tp = none) :
    Lp K H0 (upd (upd (upd H rd (.dK (putK kvs (.inl (g : Int)) (.str (tx row))))) tp (.tup [.int g, rw])) pr (.lst (pvs ++ [.ref tp]))) pr rd p (gs ++ [g]) := by
  have npr : pr ≠ rd := ne_of e1 e2 (by intro z; cases z)
  have ntp : H tp = none := by
    by_cases z : tp = rd
    · rw [z, upd_same] at ht
      cases ht
    · rw [upd_ne z] at ht
      exact ht
  have n1 : tp ≠ rd := (ne_of_none e2 ntp).symm
  have n2 : tp ≠ pr := (ne_of_none e1 ntp).symm
  have k : Kf (Npd pr rd) H (upd (upd (upd H rd (.dK (putK kvs (.inl (g : Int)) (.str (tx row))))) tp (.tup [.int g, rw])) pr (.lst (pvs ++ [.ref tp]))) := fun b o hb e => by
    rw [upd_ne hb.1, upd_ne (ne_of_none e ntp), upd_ne hb.2]
    exact e
  have z := Fi.kf k e1 e2
  have s3 : Same H0 (upd (upd (upd H rd (.dK (putK kvs (.inl (g : Int)) (.str (tx row))))) tp (.tup [.int g, rw])) pr (.lst (pvs ++ [.ref tp]))) := smU (smU (smU h.s0 h.n2) (h.s0.free ntp)) h.n1
  obtain ⟨pvs2, e3, q1⟩ := h.pv
  rw [e1] at e3
  cases e3
  obtain ⟨kvs2, e4, q2, q3⟩ := h.kv
  rw [e2] at e4
  cases e4
  have hnone : valV kvs (.inl (g : Int)) = none := by rw [q3 g, if_neg hg]
  refine ⟨s3, h.n1, h.n2, ⟨_, upd_same, ?_⟩, ⟨putK kvs (.inl (g : Int)) (.str (tx row)), by rw [upd_ne npr.symm, upd_ne n1.symm]; exact upd_same, ?_, fun g2 => ?_⟩, ?_, fun g2 hg2 => ?_, by simp⟩
  · refine (q1.mono fun _ _ y => y.kp k z).snoc ⟨tp, rw, row, rfl, by rw [upd_ne n2]; exact upd_same, hr, r.kp k z⟩
  · have : (kvs.any fun kv => decide (kv.1 = (.inl (g : Int) : Key))) = false := by rw [valV_any, hnone]; rfl
    unfold putK
    rw [this, if_neg Bool.false_ne_true, List.length_append, List.length_append, q2]
    rfl
  · rw [valV_put]
    by_cases e : g2 = g
    · subst e
      rw [if_pos rfl, if_pos (by simp), hr]
      rfl
    · rw [if_neg (fun z => e (by have := Sum.inl.inj z; omega)), q3 g2]
      by_cases hm : g2 ∈ gs
      · rw [if_pos hm, if_pos (List.mem_append_left _ hm)]
      · rw [if_neg hm, if_neg (fun z => (List.mem_append.mp z).elim hm fun z => e (List.mem_singleton.mp z))]
  · refine List.nodup_append.mpr ⟨h.nd, List.pairwise_singleton .., fun a ha b hb e => ?_⟩
    have := List.mem_singleton.mp hb
    subst this
    subst e
    exact hg ha
  · rcases List.mem_append.mp hg2 with hm | hm
    · exact h.le g2 hm
    · rw [List.mem_singleton.mp hm]
      have := (List.getElem?_eq_some_iff.mp hr).1
      rw [rsM_len] at this
      omega
end Mb


set_option Elab.async false
set_option linter.all false
set_option maxRecDepth 100000
set_option maxHeartbeats 4000000
/-! rules for the law's own body -/
namespace Mb
open PySem PySem.Spec PyProof.Rows L2
/-- list + list, read or tracked -/
def rCatS (K : PySem.W.Frag) : R2 := fun x y H Q => ∃ l b xs zs, x = .ref l ∧ y = .ref b ∧ SqL K H l xs ∧ SqL K H b zs ∧ xs.length + zs.length ≤ sizeLine ∧ ∀ p, H p = none → Q (.ref p) (upd H p (.lst (xs ++ zs)))
theorem op_catS {X : Cx} : OpR X (binaryOp .Add) (rCatS X.K) := by
  rintro pins s σ H x y v u Q I rx ry ⟨l, b, xs, zs, rfl, rfl, h1, h2, hz, q⟩
  obtain rfl : v = Value.ref l := rx
  obtain rfl : u = Value.ref b := ry
  obtain ⟨i1, r1, p1, z1⟩ := I.list h1
  obtain ⟨i2, r2, p2, z2⟩ := I.list h2
  obtain ⟨⟨cls, dd, data, sl⟩, ho, hc, n, hd⟩ := p1.isList
  obtain ⟨⟨cls2, dd2, data2, sl2⟩, ho2, hc2, n2, hd2⟩ := p2.isList
  simp only at hc hd hc2 hd2
  subst hc hd hc2 hd2
  have l1 := r1.length
  have l2 := r2.length
  refine concat_meets ⟨_, ho, rfl⟩ ⟨_, ho2, rfl⟩ noFill_list_add seq_list_add PySem.F.slot_list_add PySem.F.entry_list_add (PySem.F.args_list_add_2 _ _) (list_addW l b i1.toArray i2.toArray n n2 dd dd2 sl sl2 (by simp only [List.size_toArray]; omega)) ⟨ho, ho2, ?_⟩
  have e : i1.toArray ++ i2.toArray = (i1 ++ i2).toArray := by simp
  rw [e]
  exact ⟨.ref _, _, I.lnew (t' := s.toks) (r1.append r2) (by rw [List.length_append]; omega), rfl, q _ I.fresh⟩
/-! ### acts told apart by what they say -/
def Act.pd (a : Act) : PyData := .tuple (match a with
  | .look c v => [.str "look", .str c, .str v]
  | .put c v => [.str "put", .str c, .str v]
  | .go => [.str "go"])
def ActOk (a : Act) : Prop := match a with
  | .look c v => NameOk c ∧ NameOk v
  | .put c v => NameOk c ∧ NameOk v
  | .go => True
def soB (z : Str) : Bool := PyData.strOk z
theorem so_name {z : Str} (h : NameOk z) : PyData.strOk z = true := by
  have h1 : ∀ c ∈ zLet.cps.toList, c < 128 := by decide +kernel
  have h2 : ∀ c ∈ zFig.cps.toList, c < 128 := by decide +kernel
  have h3 : ∀ c ∈ z.cps.toList, c < 128 := fun c hc => (h.all c hc).elim (h1 c) (h2 c)
  unfold PyData.strOk
  rw [Array.all_eq_true']
  intro c hc
  exact decide_eq_true (Nat.lt_trans (h3 c (Array.mem_toList_iff.mpr hc)) (by decide))
theorem act_lay {a : Act} (h : ActOk a) : a.pd.canLay0 = true ∧ a.pd.depth ≤ 4 := by
  have e1 : PyData.strOk "look" = true := by decide +kernel
  have e2 : PyData.strOk "put" = true := by decide +kernel
  have e3 : PyData.strOk "go" = true := by decide +kernel
  cases a with
  | look c v => exact ⟨by simp [Act.pd, PyData.canLay0, PyData.canLayAll0, e1, so_name h.1, so_name h.2], by simp [Act.pd, PyData.depth, PyData.depthAll]⟩
  | put c v => exact ⟨by simp [Act.pd, PyData.canLay0, PyData.canLayAll0, e2, so_name h.1, so_name h.2], by simp [Act.pd, PyData.depth, PyData.depthAll]⟩
  | go => exact ⟨by simp [Act.pd, PyData.canLay0, PyData.canLayAll0, e3], by simp [Act.pd, PyData.depth, PyData.depthAll]⟩
theorem acts_lay : ∀ as : List Act, (∀ a ∈ as, ActOk a) → PyData.canLayAll0 (as.map Act.pd) = true ∧ PyData.depthAll (as.map Act.pd) ≤ 8
  | [], _ => ⟨by simp [PyData.canLayAll0], by simp [PyData.depthAll]⟩
  | a :: r, h => by
    obtain ⟨h1, h2⟩ := act_lay (h a (List.mem_cons_self ..))
    obtain ⟨h3, h4⟩ := acts_lay r fun b hb => h b (List.mem_cons_of_mem _ hb)
    refine ⟨by rw [List.map_cons, PyData.canLayAll0, h1, h3]; rfl, ?_⟩
    rw [List.map_cons, PyData.depthAll]
    omega
theorem acts_shaped {as : List Act} (h : ∀ a ∈ as, ActOk a) : SeqAt.shaped (.list (as.map Act.pd)) = true := by
  obtain ⟨h1, h2⟩ := acts_lay as h
  unfold SeqAt.shaped
  rw [Bool.and_eq_true]
  refine ⟨by rw [PyData.canLay0]; exact h1, decide_eq_true ?_⟩
  rw [PyData.depth]
  omega
theorem acts_eqv {as : List Act} (h : ∀ a ∈ as, ActOk a) : PyData.eqv (.list (as.map Act.pd)) (.list (as.map Act.pd)) = true := by
  obtain ⟨h1, h2⟩ := acts_lay as h
  exact SeqAt.eqv_refl _ (by rw [PyData.canLay0]; exact h1)
/-- the acts that a row's text gives name cells and values of the board -/
theorem left_ok {cs : Cells} (ok : CellsOk cs) {row : List Stm} (h : ∀ s ∈ row, KG (bdOf cs) s.kd) : ∀ t ∈ leftM (bdOf cs) row, ActOk t.1 := by
  cases row with
  | nil => intro t ht; cases ht
  | cons s r =>
    have hk := h s (List.mem_cons_self ..)
    have key : ∀ c us, bdOf cs c = some us → NameOk c ∧ ∀ v ∈ us, NameOk v := fun c us e => by
      have := ok.each _ (mem_bd e)
      exact ⟨this.nm, this.vs⟩
    have oths : ∀ c v u, (∃ us, bdOf cs c = some us ∧ v ∈ us) → u ∈ oth (bdOf cs) c v → NameOk c ∧ NameOk u := by
      rintro c v u ⟨us, e, _⟩ hu
      rw [oth_of e] at hu
      exact ⟨(key c us e).1, (key c us e).2 u (List.mem_filter.mp hu).1⟩
    have own : ∀ c v, (∃ us, bdOf cs c = some us ∧ v ∈ us) → NameOk c ∧ NameOk v := by
      rintro c v ⟨us, e, hv⟩
      exact ⟨(key c us e).1, (key c us e).2 v hv⟩
    cases s with
    | mk k a b =>
      intro t ht
      rw [leftM_cons] at ht
      cases k with
      | write c v =>
        rw [List.mem_singleton.mp ht]
        exact own c v hk
      | wait c v =>
        rw [List.mem_singleton.mp ht]
        exact own c v hk
      | mark n =>
        rw [List.mem_singleton.mp ht]
        trivial
      | skip =>
        rw [List.mem_singleton.mp ht]
        trivial
      | stop => cases ht
      | iff c v =>
        rcases List.mem_cons.mp ht with rfl | ht
        · exact own c v hk
        · obtain ⟨u, hu, rfl⟩ := List.mem_map.mp ht
          exact oths c v u hk hu
      | whil c v =>
        rcases List.mem_cons.mp ht with rfl | ht
        · exact own c v hk
        · obtain ⟨u, hu, rfl⟩ := List.mem_map.mp ht
          exact oths c v u hk hu
      | choose =>
        rcases List.mem_cons.mp ht with rfl | ht
        · trivial
        · rw [List.mem_singleton.mp ht]
          trivial
      | loop =>
        rw [List.mem_singleton.mp ht]
        trivial
section
variable {K : PySem.W.Frag} {mg : Str → Option Value}
theorem strs_dp {H : Hp} : ∀ zs : List Str, DpAll K H (zs.map V.str) (zs.map PyData.str)
  | [] => .nil
  | z :: r => .cons (.str z) (strs_dp r)
theorem act_dp (T : TX K mg) {H : Hp} {v : V} {a : Act} (h : ActAt K H v a) : Dp K H v a.pd := by
  have one : ∀ {t : Addr} {zs : List Str}, SqT K H t (zs.map V.str) → Dp K H (.ref t) (.tuple (zs.map PyData.str)) := fun hs => .tup hs (strs_dp _)
  obtain ⟨t, rfl, h⟩ := h
  rcases h with h | ⟨rfl, rfl⟩
  · cases a with
    | look c v => exact one (zs := ["look", c, v]) (SqT.of h)
    | put c v => exact one (zs := ["put", c, v]) (SqT.of h)
    | go => exact one (zs := ["go"]) (SqT.of h)
  · exact one (zs := ["go"]) (He.tupB_ok (f_tup_GO T.c) H)
theorem acts_dp (T : TX K mg) {H : Hp} : ∀ {vs : List V} {as : List Act}, Paired (ActAt K H) vs as → DpAll K H vs (as.map Act.pd)
  | _, _, .nil => .nil
  | _, _, .cons h t => .cons (act_dp T h) (acts_dp T t)
theorem acts_lst (T : TX K mg) {H : Hp} {D : Addr} {vs : List V} {as : List Act} (e : H D = some (.lst vs)) (h : Paired (ActAt K H) vs as) : Dp K H (.ref D) (.list (as.map Act.pd)) := .lst (SqL.of e) (acts_dp T h)
end
end Mb


set_option Elab.async false
set_option linter.all false
set_option maxRecDepth 100000
set_option maxHeartbeats 4000000
/-! the law's own body -/
namespace Mb
open PySem PySem.Spec PyProof.Rows L2
def spLaw (K : PySem.W.Frag) : Sp := fun vs H Q _ => ∃ (a : Addr) (ns : List Int), vs = [.ref a] ∧ SqL K H a (ns.map V.int) ∧ ns.length ≤ 1000 ∧ ∀ H2, Q (.bl true) H2
abbrev nmL : List Str := ["_law_script", "_law_number", "_law_s", "_law_cells_here", "_law_m", "_law_program_here", "_law_board", "_law_machine", "_law_pairs", "_law_rests", "_law_at", "_law_room", "_law_row_here", "_law_rooms", "_law_rows", "_law_act", "_law_goal", "_law_rest", "_law_other"]
theorem cut_mem {xs : List V} {lo hi : Option Int} {y : V} (h : y ∈ cutV xs lo hi) : y ∈ xs := by
  unfold cutV at h
  exact List.mem_of_mem_drop (List.mem_of_mem_take h)
theorem same_kx {Ha H1 H2 : Hp} {s : Addr} (h : Same Ha H1) (n : Ha s = none) (k : Kx s H1 H2) : Same Ha H2 := fun b o e => k b o (ne_of_none e n) (h b o e)
theorem same_kf {Ha H1 H2 : Hp} {s m : Addr} (h : Same Ha H1) (n : Ha s = none) (n2 : Ha m = none) (k : Kf (Nsm s m) H1 H2) : Same Ha H2 := fun b o e => k b o ⟨ne_of_none e n, ne_of_none e n2⟩ (h b o e)
theorem merge2 (lc lm : Addr) : mergeK [] [((.inr "cells" : Key), V.ref lc), (.inr "marks", .ref lm)] = [(.inr "cells", .ref lc), (.inr "marks", .ref lm)] := by
  have h1 : ¬ (Sum.inr "cells" : Key) = .inr "marks" := fun z => absurd (Sum.inr.inj z) (by decide +kernel)
  simp [mergeK, putK, h1]
theorem merge1 (v : V) : mergeK [] [((.inl 0 : Key), v)] = [(.inl 0, v)] := by simp [mergeK, putK]
theorem cells_n {H : Hp} {s m lc : Addr} {cs : Cells} (ok : CellsOk cs) (d : SdAt H s) (n : H m = none) (h : CellsAt H lc cs) : ∃ as, H lc = some (.lst as) ∧ Paired (CellN H (Nsm s m)) as cs := by
  obtain ⟨as, e, p⟩ := h
  obtain ⟨i1, i2, i3, es, _⟩ := d
  have go : ∀ {as : List V} {cs : Cells}, (∀ q ∈ cs, CellOk q) → Paired (CellAt H) as cs → Paired (CellN H (Nsm s m)) as cs := by
    intro as cs hc p
    induction p with
    | nil => exact .nil
    | @cons v q as cs h t ih =>
      obtain ⟨t1, r1, e1, h1, h2⟩ := h
      refine .cons ⟨t1, r1, e1, ⟨ne_of h1 es (by intro z; cases z), ne_of_none h1 n⟩, ⟨ne_of h2 es fun z => ?_, ne_of_none h2 n⟩, h1, h2⟩ (ih fun y hy => hc y (List.mem_cons_of_mem _ hy))
      have z2 := HO.lst.inj z
      have lo := (hc q (List.mem_cons_self ..)).lo
      cases hq : q.2 with
      | nil => rw [hq] at lo; simp at lo
      | cons a r => rw [hq] at z2; cases z2
  exact ⟨as, e, go ok.each p⟩
theorem left_len {cs : Cells} (ok : CellsOk cs) {row : List Stm} (h : ∀ s ∈ row, KG (bdOf cs) s.kd) : (leftM (bdOf cs) row).length ≤ 10 := by
  cases row with
  | nil => exact Nat.zero_le _
  | cons s r =>
    have hk := h s (List.mem_cons_self ..)
    have oths : ∀ c v, (∃ us, bdOf cs c = some us ∧ v ∈ us) → (oth (bdOf cs) c v).length ≤ 4 := by
      rintro c v ⟨us, e, _⟩
      rw [oth_of e]
      exact Nat.le_trans rest_len (ok.each _ (mem_bd e)).hi
    cases s with
    | mk k a b =>
      rw [leftM_cons]
      cases k with
      | iff c v =>
        have := oths c v hk
        show ((Act.look c v, _) :: (oth (bdOf cs) c v).map _).length ≤ 10
        rw [List.length_cons, List.length_map]
        omega
      | whil c v =>
        have := oths c v hk
        show ((Act.look c v, _) :: (oth (bdOf cs) c v).map _).length ≤ 10
        rw [List.length_cons, List.length_map]
        omega
      | stop => exact Nat.zero_le _
      | choose => show 2 ≤ 10; decide
      | _ => show 1 ≤ 10; decide
theorem tied_acts {R : Nat → List Stm → Prop} : ∀ {st : List (Act × Nat)} {lf : List (Act × List Stm)}, Paired (StepT R) st lf → st.map (·.1) = lf.map (·.1)
  | _, _, .nil => rfl
  | _, _, .cons h t => by rw [List.map_cons, List.map_cons, h.1, tied_acts t]
theorem ActAt.fi {K : PySem.W.Frag} {H H2 : Hp} (z : Fi H H2) {v : V} {a : Act} (h : ActAt K H v a) : ActAt K H2 v a := by
  obtain ⟨t, e, h⟩ := h
  exact ⟨t, e, h.elim (fun q => .inl (z.tup _ _ q)) .inr⟩
theorem StepR.fi {α : Type} {K : PySem.W.Frag} {H H2 : Hp} {R R2 : V → α → Prop} (z : Fi H H2) (i : ∀ v g, R v g → R2 v g) {v : V} {s : Act × α} (h : StepR K H R v s) : StepR K H2 R2 v s := by
  obtain ⟨t, av, gv, e, a, b, c⟩ := h
  exact ⟨t, av, gv, e, z.tup _ _ a, b.fi z, i _ _ c⟩
theorem put_frame {H : Hp} {pr rd tp : Addr} {pvs : List V} {kvs : List (Key × V)} {g : Nat} {rw : V} {row : List Stm} (e1 : H pr = some (.lst pvs)) (e2 : H rd = some (.dK kvs)) (ht : (upd H rd (.dK (putK kvs (.inl (g : Int)) (.str (tx row))))) tp = none) :
    Kf (Npd pr rd) H (upd (upd (upd H rd (.dK (putK kvs (.inl (g : Int)) (.str (tx row))))) tp (.tup [.int g, rw])) pr (.lst (pvs ++ [.ref tp]))) ∧ Fi H (upd (upd (upd H rd (.dK (putK kvs (.inl (g : Int)) (.str (tx row))))) tp (.tup [.int g, rw])) pr (.lst (pvs ++ [.ref tp]))) := by
  have ntp : H tp = none := by
    by_cases z : tp = rd
    · rw [z, upd_same] at ht
      cases ht
    · rw [upd_ne z] at ht
      exact ht
  have k : Kf (Npd pr rd) H (upd (upd (upd H rd (.dK (putK kvs (.inl (g : Int)) (.str (tx row))))) tp (.tup [.int g, rw])) pr (.lst (pvs ++ [.ref tp]))) := fun b o hb e => by
    rw [upd_ne hb.1, upd_ne (ne_of_none e ntp), upd_ne hb.2]
    exact e
  exact ⟨k, Fi.kf k e1 e2⟩
theorem ne_self {o : Option Stm} {H : Hp} {Q : VK} (h : Q (.bl false) H) : rNe (markV o) (markV o) H Q := by
  have e : (!decide (markV o = markV o)) = false := by simp
  refine ⟨?_, by rw [e]; exact h⟩
  cases o with
  | none => rfl
  | some s =>
    cases s with
    | mk k a b => cases k <;> rfl
theorem mark_flat (o : Option Stm) : markV o = .non ∨ ∃ n, markV o = .str n := by
  cases o with
  | none => exact .inl rfl
  | some s =>
    cases s with
    | mk k a b => cases k <;> first | exact .inr ⟨_, rfl⟩ | exact .inl rfl
/-- the steps and the rests, while the pairs grow -/
structure Zp (K : PySem.W.Frag) (H : Hp) (pr rd lr lw : Addr) (xs ys : List V) (st : List (Act × Nat)) (lf : List (Act × List Stm)) : Prop where
  nr : Npd pr rd lr
  nw : Npd pr rd lw
  er : H lr = some (.lst xs)
  ew : H lw = some (.lst ys)
  pr_ : Paired (StepR K H fun v (n : Nat) => v = .int n) xs st
  pw_ : Paired (StepR K H (RowN K H 3 (Npd pr rd))) ys lf
theorem Zp.kp {K : PySem.W.Frag} {H H2 : Hp} {pr rd lr lw : Addr} {xs ys : List V} {st : List (Act × Nat)} {lf : List (Act × List Stm)} (h : Zp K H pr rd lr lw xs ys st lf) (k : Kf (Npd pr rd) H H2) (z : Fi H H2) : Zp K H2 pr rd lr lw xs ys st lf :=
  ⟨h.nr, h.nw, k _ _ h.nr h.er, k _ _ h.nw h.ew, h.pr_.mono fun _ _ q => StepR.fi (R2 := fun v (n : Nat) => v = .int n) z (fun _ _ e => e) q, h.pw_.mono fun _ _ q => StepR.fi z (fun _ _ e => e.kp k z) q⟩
theorem Zp.same {K : PySem.W.Frag} {H H2 : Hp} {pr rd lr lw : Addr} {xs ys : List V} {st : List (Act × Nat)} {lf : List (Act × List Stm)} (h : Zp K H pr rd lr lw xs ys st lf) (s : Same H H2) : Zp K H2 pr rd lr lw xs ys st lf :=
  h.kp (Kf.of s) ⟨fun _ _ _ _ e => s _ _ e, fun _ _ e => s _ _ e⟩
section
variable {P : Program} {w : World} {K : PySem.W.Frag} {mg : Str → Option Value} {base : Heap}
theorem sc_law : FnScope nmL ["_law_script"] (defScope s_law) := ⟨rfl, rfl, rfl, by decide +kernel, rfl, by decide +kernel, by decide +kernel⟩
theorem gok_law (T : TX K mg) {fd : FuncData} (F : FunD K d_law.name d_law.qual (defArgs s_law) (defBody s_law) (defScope s_law) [] [] (He.fAd K d_law.at_) fd) : GOk P w K mg base 18 (He.fAd K d_law.at_) fd ["_law_script"] (spLaw K) := by
  refine gokD (k := 17) F sc_law (fun vs H Q E h => by obtain ⟨a, ns, rfl, _⟩ := h; rfl) (fun cdv A outer s0 H vs Q E hr gs h => ?_)
  obtain ⟨a, ns, rfl, ha, hlen, kk⟩ := h
  have c := T.c
  have nd := sc_law.nd
  have hu := hu_of hr
  refine ⟨_, pss_cons (ps_for PassesOwn.never rfl (pi_list (pe_slice sl_list (pe_op op_catS (pv 0) (pe_lst (pa_cons pe_int pa_nil))) po_none (po_some pe_int))) (pg_name (i := 1) nd rfl (Or.inl rfl))
      (pss_cons (ps_set (i := 2) nd rfl (Or.inl rfl) (pe_c (ok_law_state T) hr (pa_cons (pv 1) pa_nil)))
      (pss_cons (ps_set (i := 3) nd rfl (Or.inl rfl) (pe_c (ok_law_cells T) hr (pa_cons (pv 2) (pa_cons pe_int (pa_cons pe_int pa_nil)))))
      (pss_cons (ps_set (i := 4) nd rfl (Or.inl rfl) (pe_disp (pps_cons pe_str (pv 3) (pps_cons pe_str (pe_c (ok_law_names T) hr (pa_cons (pv 2) (pa_cons pe_int pa_nil))) pps_nil)) rfl rfl (by simp) (by decide)))
      (pss_cons (ps_set (i := 5) nd rfl (Or.inl rfl) (pe_c (ok_built T 3) hr (pa_cons (pe_c (ok_law_program T) hr (pa_cons (pv 2) (pa_cons (pv 4) (pa_cons pe_int pa_nil)))) pa_nil)))
      (pss_cons (ps_set (i := 6) nd rfl (Or.inl rfl) (pe_mk (ok_Board T) hr (pa_cons (pv 3) pa_nil)))
      (pss_cons (ps_set (i := 7) nd rfl (Or.inl rfl) (pe_mk (ok_Machine T 3) hr (pa_cons (pv 6) (pa_cons (pv 5) pa_nil))))
      (pss_cons (ps_set (i := 8) nd rfl (Or.inl rfl) (pe_lst (pa_cons (pe_tup (pa_cons pe_int (pa_cons (pe_ty call_list_of bb_list (T.free (f_free_list c)) (pa_cons (pe_fld (pv 5) rfl) pa_nil)) pa_nil))) pa_nil)))
      (pss_cons (ps_set (i := 9) nd rfl (Or.inl rfl) (pe_disp (pps_cons pe_int (pe_g (ok_textT T 3) hr gs (pa_cons (pe_fld (pv 5) rfl) pa_nil)) pps_nil) rfl rfl (by simp) (by decide)))
      (pss_cons (ps_set (i := 10) nd rfl (Or.inl rfl) pe_int)
      (pss_one (ps_while PassesOwn.never (pt_cmpR op_lt (pv 10) (pe_b call_len_seq bb_len (T.free (f_free_len c)) (pa_cons (pv 8) pa_nil)) (nomark _))
        (pss_cons (ps_asg (pe_ix ix_list (pv 8) (pv 10) (fun _ _ => rfl)) (pg_tup rfl (pgs_cons (pg_name (i := 11) nd rfl (Or.inl rfl)) (pgs_cons (pg_name (i := 12) nd rfl (Or.inl rfl)) pgs_nil))))
        (pss_cons (ps_set (i := 10) nd rfl (Or.inl rfl) (pe_op op_add (pv 10) pe_int))
        (pss_cons (ps_set (i := 13) nd rfl (Or.inl rfl) (pe_mt (ok_steps T 3) hr (pv 7) (pa_cons (pv 11) pa_nil)))
        (pss_cons (ps_set (i := 14) nd rfl (Or.inl rfl) (pe_c (ok_left T 3) hr (pa_cons (pv 6) (pa_cons (pv 12) pa_nil))))
        (pss_cons (ps_if (PW.pt (pw_or (pt_cmpR (op_neD hr.units)
            (pe_lc (own := [("_law_act", 15), ("_law_goal", 16)]) (g := gTup K 2 (gCons (gName 15) (gCons (gName 16) gNil))) (tt := tYes) rfl nd (pi_list (pv 13)) (blkOk_by (N := nmL) (sc := defScope s_law) (by decide +kernel))
              (fun _ _ _ _ _ => pg_tup rfl (pgs_cons (pg_name (i := 15) nd rfl (Or.inl rfl)) (pgs_cons (pg_name (i := 16) nd rfl (Or.inl rfl)) pgs_nil))) (fun _ _ _ _ _ => pts_nil) (fun _ _ _ _ _ => pv 15))
            (pe_lc (own := [("_law_act", 15), ("_law_rest", 17)]) (g := gTup K 2 (gCons (gName 15) (gCons (gName 17) gNil))) (tt := tYes) rfl nd (pi_list (pv 14)) (blkOk_by (N := nmL) (sc := defScope s_law) (by decide +kernel))
              (fun _ _ _ _ _ => pg_tup rfl (pgs_cons (pg_name (i := 15) nd rfl (Or.inl rfl)) (pgs_cons (pg_name (i := 17) nd rfl (Or.inl rfl)) pgs_nil))) (fun _ _ _ _ _ => pts_nil) (fun _ _ _ _ _ => pv 15)) (nomark _))
            (pw_or1 (pt_cmpR op_ne (pe_mt (ok_mark_of T 3) hr (pv 7) (pa_cons (pv 11) pa_nil)) (pe_c (ok_law_mark T 3) hr (pa_cons (pv 12) pa_nil)) (nomark _))))) (pss_one (ps_ret pe_bl)) pss_nil)
        (pss_one (ps_for PassesOwn.never rfl (pi_zip (by rfl) (T.free (f_free_zip c)) (pa_cons (pv 13) (pa_cons (pv 14) pa_nil)))
            (pg_tup rfl (pgs_cons (pg_tup rfl (pgs_cons (pg_name (i := 15) nd rfl (Or.inl rfl)) (pgs_cons (pg_name (i := 16) nd rfl (Or.inl rfl)) pgs_nil))) (pgs_cons (pg_tup rfl (pgs_cons (pg_name (i := 18) nd rfl (Or.inl rfl)) (pgs_cons (pg_name (i := 17) nd rfl (Or.inl rfl)) pgs_nil))) pgs_nil)))
          (pss_cut (ps_if (PW.pt (pw_and (pt_cmp (pc_dnotin hu (pv 16) (pv 9))) (pw_and1 (pt_cmpR op_lt (pe_b call_len_seq bb_len (T.free (f_free_len c)) (pa_cons (pv 8) pa_nil)) pe_int (nomark _)))))
              (pss_cons (ps_dput hu (pv 9) (pv 16) (pe_g (ok_textL T 3) hr gs (pa_cons (pv 17) pa_nil)) rfl)
              (pss_one (ps_expr (pe_bm PySem.F.plainAttrs_list PySem.F.slot_list_append PySem.F.type_list_append mt_append (pv 8) (pa_cons (pe_tup (pa_cons (pv 16) (pa_cons (pv 17) pa_nil))) pa_nil))))) pss_nil)
          (pss_one (ps_if (pt_cmpR op_ne (pe_dget2 hu (pv 9) (pv 16) (pe_g (ok_textL T 3) hr gs (pa_cons (pv 17) pa_nil)) ⟨rfl, rfl, rfl, rfl⟩) (pe_g (ok_textL T 3) hr gs (pa_cons (pv 17) pa_nil)) (nomark _)) (pss_one (ps_ret pe_bl)) pss_nil))))))))))))))))))))))
    (pss_one (ps_ret pe_bl)), ?_⟩
  have hsl : (5000 : Nat) < sizeLine := by decide
  -- the numbers gone through
  refine ⟨_, rfl, (by show 1 ≤ sizeLine; omega), fun l0 hl0 => ⟨a, l0, _, _, rfl, rfl, (smU (Same.refl H) hl0).seq ha, SqL.of upd_same, (by rw [List.length_map]; show ns.length + 1 ≤ sizeLine; omega), fun lp hlp => ⟨_, rfl, lp, _, rfl, SqL.of upd_same, fun li hli => ⟨li, rfl, ⟨_, SqL.of upd_same⟩, ?_⟩⟩⟩⟩
  refine for_it (walk_list (xs := cutV (ns.map V.int ++ [V.int 0]) none (some 6))) (fun i σ H2 => (∃ v1 v2 v3 v4 v5 v6 v7 v8 v9 v10 v11 v12 v13 v14 v15 v16 v17 v18 : Option V, σ = [some (.ref a), v1, v2, v3, v4, v5, v6, v7, v8, v9, v10, v11, v12, v13, v14, v15, v16, v17, v18]) ∧ H2 li = some (.lst (cutV (ns.map V.int ++ [V.int 0]) none (some 6))))
    ⟨⟨none, none, none, none, none, none, none, none, none, none, none, none, none, none, none, none, none, none, rfl⟩, upd_same⟩ (fun i σ H2 _ q => SqL.of q.2) ?_ (fun σ H2 _ => kk H2)
  rintro i y σ Ha H2 hi ⟨⟨v1, v2, v3, v4, v5, v6, v7, v8, v9, v10, v11, v12, v13, v14, v15, v16, v17, v18, rfl⟩, hli2⟩ ⟨rfl, hy⟩
  obtain ⟨j, rfl⟩ : ∃ j, y = .int j := by
    have hm := cut_mem (List.mem_of_getElem? hy)
    rcases List.mem_append.mp hm with hm | hm
    · obtain ⟨j, _, e⟩ := List.mem_map.mp hm
      exact ⟨j, e.symm⟩
    · exact ⟨0, List.mem_singleton.mp hm⟩
  -- state, cells
  refine ⟨_, rfl, j, rfl, fun s H1 s1 hs0 d1 => ?_⟩
  refine ⟨_, rfl, s, rfl, d1, fun lc cs H3 hlc k3 d3 cA cOk => ?_⟩
  have s3 := same_kx s1 hs0 k3
  have nlc := d1.ne hlc
  -- the dict
  refine fun m hm => ⟨_, rfl, _, rfl, s, 2, rfl, d3.up (d3.ne hm), by decide, fun lm ms H4 hlm k4 d4 e4 ml mnd mok => ?_⟩
  have nms := d3.ne hm
  have nlm := (d3.up (o := .dK []) nms).ne hlm
  have hm4 : H4 m = some (.dK []) := k4 _ _ nms upd_same
  refine ⟨hm4, [(.inr "cells", .ref lc), (.inr "marks", .ref lm)], rfl, (by show 2 ≤ 15; decide), ?_⟩
  rw [merge2]
  have hm0 : H2 m = none := s3.free hm
  obtain ⟨cas, ce, cp⟩ := cells_n (m := m) cOk d3 hm cA
  have k34 : Kf (Nsm s m) H3 (upd H4 m (.dK [(.inr "cells", .ref lc), (.inr "marks", .ref lm)])) := ((((Kf.refl _ H3).up hm).trans (Kf.kx k4)).wr fun z => z.2 rfl)
  have nlcm : lc ≠ m := ne_of_none ce hm
  have nlmm : lm ≠ m := (ne_of_none (upd_same (H := H3) (a := m) (o := .dK [])) hlm).symm
  have d5 : SdAt (upd H4 m (.dK [(.inr "cells", .ref lc), (.inr "marks", .ref lm)])) s := d4.up nms
  have ce5 := k34 _ _ ⟨nlc, nlcm⟩ ce
  have cp5 := cp.mono fun _ _ h => h.kf k34
  have e5 : (upd H4 m (.dK [(.inr "cells", .ref lc), (.inr "marks", .ref lm)])) lm = some (.lst (ms.map V.str)) := by rw [upd_ne nlmm]; exact e4
  -- the program
  refine ⟨_, rfl, _, rfl, s, m, cs, ms, lc, lm, rfl, upd_same, d5, nlc, nlm, ⟨cas, ce5, cp5⟩, e5, cOk, ml, mok, fun w0 ss H6 k6 d6 h8 hall hraw => ?_⟩
  have hkn : ∀ t ∈ pls ss, KN t.kd := fun t ht => KN_of cOk mok (hall t ht)
  have hkg : ∀ t ∈ pls ss, KG (bdOf cs) t.kd := fun t ht => KG_of cOk (hall t ht)
  refine ⟨w0, ss, _, rfl, hraw, by omega, by decide, hkn, fun wp H7 s7 hP => ?_⟩
  have hG : PG cs ss := ⟨cOk, h8, hkg, hkn⟩
  have s67 : Same H2 H7 := (same_kf (same_kf s3 hs0 hm0 k34) hs0 hm0 k6).trans s7
  have k7 : Kf (Nsm s m) (upd H4 m (.dK [(.inr "cells", .ref lc), (.inr "marks", .ref lm)])) H7 := k6.trans (Kf.of s7)
  have cA7 : CellsAt H7 lc cs := ⟨cas, k7 _ _ ⟨nlc, nlcm⟩ ce5, cp5.mono fun _ _ h => by
    obtain ⟨t, r, e, ft, fr, x1, x2⟩ := h.kf k7
    exact ⟨t, r, e, x1, x2⟩⟩
  -- board, machine
  refine ⟨_, rfl, fun xb dxb b1 b2 b3 => ⟨xb, dxb, lc, cs, H7, rfl, upd_same, smU (smU (Same.refl _) b2) b1, b1, cA7, cOk, fun H8 s8 hB => ⟨rfl, ?_⟩⟩⟩
  have hP8 := PAt.fz (Fz.of s8) _ _ _ hP
  refine ⟨_, rfl, _, rfl, fun xm dxm m1 m2 m3 => ⟨xm, dxm, _, wp, ss, bdOf cs, H8, rfl, upd_same, smU (smU (Same.refl _) m2) m1, m1, hB, hP8, hkg, fun H9 s9 hM => ⟨rfl, ?_⟩⟩⟩
  have hB9 := hB.fz (Fz.of s9)
  obtain ⟨xp, dxp, tp, pas, rfl, hxp, htp, _, hrows⟩ := PAt.row (PAt.fz (Fz.of s9) _ _ _ hP8)
  have cP := cls_of (f_cls_Program c)
  have nR := no_of (f_no_Program_row c)
  have hTR : TR ss := hG.tr (rsM_zero ss)
  -- pairs
  refine ⟨_, rfl, xp, _, dxp, _, _, rfl, hxp, cP, nR, rfl, tp, pas, rfl, .inr (SqT.of htp), fun l1 hl1 => ⟨(by show 2 ≤ sizeLine; omega), fun t1 ht1 => ⟨(by show 1 ≤ sizeLine; omega), fun pr hpr => ?_⟩⟩⟩
  have sA : Same H9 (upd (upd (upd H9 l1 (.lst pas)) t1 (.tup [V.int 0, .ref l1])) pr (.lst [V.ref t1])) := smN (smN (smU (Same.refl _) hl1) ht1) hpr
  have npr : H9 pr = none := (smN (o := .tup [V.int 0, .ref l1]) (smU (o := .lst pas) (Same.refl _) hl1) ht1).free hpr
  have eT : (upd (upd (upd H9 l1 (.lst pas)) t1 (.tup [V.int 0, .ref l1])) pr (.lst [V.ref t1])) t1 = some (.tup [V.int 0, .ref l1]) := smU (Same.refl _) hpr _ _ upd_same
  have eL : (upd (upd (upd H9 l1 (.lst pas)) t1 (.tup [V.int 0, .ref l1])) pr (.lst [V.ref t1])) l1 = some (.lst pas) := smN (smU (Same.refl _) ht1) hpr _ _ upd_same
  have eP : (upd (upd (upd H9 l1 (.lst pas)) t1 (.tup [V.int 0, .ref l1])) pr (.lst [V.ref t1])) pr = some (.lst [V.ref t1]) := upd_same
  have nLP : l1 ≠ pr := ne_of_none (smU (o := .tup [V.int 0, .ref l1]) (Same.refl _) ht1 _ _ (upd_same (H := H9) (a := l1) (o := .lst pas))) hpr
  generalize upd (upd (upd H9 l1 (.lst pas)) t1 (.tup [V.int 0, .ref l1])) pr (.lst [V.ref t1]) = HA at sA eT eL eP
  -- rests
  refine fun rd hrd => ⟨_, rfl, xp, _, dxp, _, _, rfl, smU (Same.refl _) hrd _ _ (sA _ _ hxp), cP, nR, rfl, tp, pas, ss, rfl, smU (Same.refl _) hrd _ _ (sA _ _ htp), Rows.fz ((Fz.of sA).trans (Fz.new hrd)) hrows, hTR, by decide, fun HB sB => ⟨sB _ _ upd_same, [(.inl 0, .str (tx ss))], rfl, (by show 1 ≤ 15; decide), ?_⟩⟩
  rw [merge1]
  have nrd : H9 rd = none := sA.free hrd
  have sBA : Same HA HB := (smU (Same.refl _) hrd).trans sB
  have keep : ∀ {b : Addr} {o : HO}, b ≠ rd → HA b = some o → (upd HB rd (.dK [(.inl 0, .str (tx ss))])) b = some o := fun n e => by
    rw [upd_ne n]
    exact sBA _ _ e
  have lp0 : Lp K H9 (upd HB rd (.dK [(.inl 0, .str (tx ss))])) pr rd ss [0] := by
    have ner : ∀ {b : Addr} {o : HO}, HA b = some o → b ≠ rd := fun e => ne_of_none e hrd
    have s9c : Same H9 (upd HB rd (.dK [(.inl 0, .str (tx ss))])) := smU (sA.trans sBA) nrd
    refine ⟨s9c, npr, nrd, ⟨[.ref t1], keep (ner eP) eP, .cons ⟨t1, .ref l1, ss, rfl, keep (ner eT) eT, rsM_zero ss, l1, pas, rfl, ⟨nLP, ner eL⟩, keep (ner eL) eL, Rows.fz (Fz.of s9c) hrows⟩ .nil⟩, ⟨_, upd_same, rfl, fun g => ?_⟩, List.pairwise_singleton .., fun g hg => by rw [List.mem_singleton.mp hg]; exact Nat.zero_le _, by simp⟩
    by_cases e : g = 0
    · subst e
      rw [if_pos (by simp), rsM_zero]
      exact valV_pos rfl
    · rw [if_neg (by simpa using e)]
      exact valV_neg (fun z => e (by have := Sum.inl.inj z; omega))
  have hli9 : H9 li = some (.lst (cutV (ns.map V.int ++ [V.int 0]) none (some 6))) := s9 _ _ (s8 _ _ (s67 _ _ hli2))
  generalize upd HB rd (.dK [(.inl 0, .str (tx ss))]) = HC at lp0
  refine ⟨fun mm σ H => ∃ (gs : List Nat) (k : Nat) (u11 u12 u13 u14 u15 u16 u17 u18 : Option V), mm + k = 9 ∧ σ = [some (.ref a), some (.int j), some (.ref s), some (.ref lc), some (.ref m), some (.ref xp), some (.ref xb), some (.ref xm), some (.ref pr), some (.ref rd), some (.int k), u11, u12, u13, u14, u15, u16, u17, u18] ∧ Lp K H9 H pr rd ss gs ∧ k ≤ gs.length,
    ⟨9, [0], 0, _, _, _, _, _, _, _, _, rfl, rfl, lp0, Nat.zero_le _⟩, ?_⟩
  rintro mm σ HD ⟨gs, k, u11, u12, u13, u14, u15, u16, u17, u18, hmk, rfl, lp, hkl⟩
  obtain ⟨pvs, e1, q1⟩ := id lp.pv
  have hfew := few_rooms lp.nd lp.le
  have hpl := q1.length
  refine ⟨_, rfl, _, rfl, pr, pvs, rfl, .inl (SqL.of e1), _, _, rfl, rfl, _, rfl, ?_⟩
  by_cases hlt : k < pvs.length
  · refine iteB (decide_eq_true (by omega)) ⟨fun σ' H' => ∃ m', m' < mm ∧ _, fun σ' H' h => h, ?_⟩
    obtain ⟨g, hg1, hg2⟩ := pair_at q1 (List.getElem?_eq_getElem hlt)
    obtain ⟨t, rw', row, hv, et, hrow, hrw⟩ := hg2
    have hat : pvs[k]? = some (.ref t) := by rw [List.getElem?_eq_getElem hlt, hv]
    have hgle := lp.le g (List.mem_of_getElem? hg1)
    refine ⟨_, rfl, _, rfl, pr, pvs, _, _, rfl, rfl, SqL.of e1, atI_nat hat, t, _, rfl, SqT.of et, rfl, _, _, rfl, _, _, rfl, rfl, ?_⟩
    refine ⟨_, rfl, _, _, rfl, rfl, ?_⟩
    -- the steps
    have hMD := hM.same lp.s0
    obtain ⟨x', dx', bv', tv', pl', ex', as', es', e, hxm, _⟩ := id hMD
    cases e
    obtain ⟨st, hst⟩ : ∃ st, (exM (bdOf cs) ss)[g]? = some st := ⟨_, List.getElem?_eq_getElem (by rw [exM_len]; omega)⟩
    refine ⟨_, rfl, xm, dx', _, rfl, hxm, rfl, _, rfl, .ref xm, g, bdOf cs, ss, st, rfl, hMD, hst, fun lr xs HE sE eE pE => ?_⟩
    -- what is left
    have lpE := lp.same sE
    have hBE := hB9.fz (Fz.of lpE.s0)
    have hrwE := hrw.same sE
    obtain ⟨hkgr, hlr⟩ := hG.row hrow
    refine ⟨_, rfl, _, rfl, _, rw', row, bdOf cs, rfl, hBE, hrwE.any, hkgr, hlr, fun lw ys HF sF eF pF => ?_⟩
    have lpF := lpE.same sF
    have tied := tie (bdOf cs) ss hst hrow
    have haeq := tied_acts tied
    have hok := left_ok cOk hkgr
    have hll := left_len cOk hkgr
    have hstl := tied.length
    have pEF := pE.mono fun _ _ h => StepR.fz (R2 := fun v (n : Nat) => v = V.int n) (Fz.of sF) (fun _ _ e => e) h
    have eEF := sF _ _ eE
    have hxl := pEF.length
    have hyl := pF.length
    -- the acts
    refine ⟨_, rfl, lr, rfl, ⟨_, SqL.of eEF⟩, fun D1 hD1 => ?_⟩
    refine lc_p (walk_list (xs := xs)) (fun i acc H2 => Same HF H2 ∧ Paired (ActAt K H2) acc ((st.take i).map (·.1))) ⟨smU (Same.refl _) hD1, .nil⟩ (fun i acc H2 _ _ q => SqL.of (q.1 _ _ eEF)) (fun _ _ => rfl) ?_ ?_
    · rintro i2 y2 acc Hx Hy hi2 f1 f2 ⟨r1, r2⟩ ⟨rfl, hy2⟩
      obtain ⟨sp, hs1, t5, av, gv, rfl, ht5, hact, hgv⟩ := pair_at pEF hy2
      refine ⟨t5, av, gv, rfl, SqT.of (r1 _ _ ht5), _, rfl, acc_end hi2 (by omega) f1 f2 ⟨smU r1 hD1, ?_⟩⟩
      rw [take_snoc hs1, List.map_append]
      exact (r2.mono fun _ _ h => h.fz (Fz.lst f2)).snoc ((hact.fz (Fz.of r1)).fz (Fz.lst f2))
    rintro acc1 HG f1 f2 ⟨r1, r2⟩
    rw [List.take_of_length_le (by omega)] at r2
    have eFG := r1 _ _ eF
    refine ⟨_, rfl, lw, rfl, ⟨_, SqL.of eFG⟩, fun D2 hD2 => ?_⟩
    refine lc_p (walk_list (xs := ys)) (fun i acc H2 => Same HG H2 ∧ Paired (ActAt K H2) acc (((leftM (bdOf cs) row).take i).map (·.1))) ⟨smU (Same.refl _) hD2, .nil⟩ (fun i acc H2 _ _ q => SqL.of (q.1 _ _ eFG)) (fun _ _ => rfl) ?_ ?_
    · rintro i2 y2 acc Hx Hy hi2 j1 j2 ⟨r3, r4⟩ ⟨rfl, hy2⟩
      obtain ⟨sp, hs1, t5, av, gv, rfl, ht5, hact, hgv⟩ := pair_at pF hy2
      refine ⟨t5, av, gv, rfl, SqT.of (r3 _ _ (r1 _ _ ht5)), _, rfl, acc_end hi2 (by omega) j1 j2 ⟨smU r3 hD2, ?_⟩⟩
      rw [take_snoc hs1, List.map_append]
      exact (r4.mono fun _ _ h => h.fz (Fz.lst j2)).snoc ((hact.fz (Fz.of (r1.trans r3))).fz (Fz.lst j2))
    rintro acc2 HI j1 j2 ⟨r3, r4⟩
    rw [List.take_of_length_le (by omega)] at r4
    rw [haeq] at r2
    have hok2 : ∀ x ∈ (leftM (bdOf cs) row).map (·.1), ActOk x := fun x hx => by
      obtain ⟨y, hy, rfl⟩ := List.mem_map.mp hx
      exact hok y hy
    have sFI := r1.trans r3
    have lpI := lpF.same sFI
    have hMI := hM.same lpI.s0
    have hxmI := (sE.trans (sF.trans sFI)) _ _ hxm
    refine ⟨_, _, acts_lst T (r3 _ _ f2) (r2.mono fun _ _ h => h.fz (Fz.of r3)), acts_lst T j2 r4, acts_shaped hok2, acts_shaped hok2, _, rfl, iteN (by rw [acts_eqv hok2]; rfl) ?_⟩
    obtain ⟨lrow, ras, rfl, hnl, hlrow, hras⟩ := hrwE.same (sF.trans sFI)
    have hmk2 := rsM_hd hrow
    refine ⟨_, rfl, xm, dx', _, rfl, hxmI, rfl, _, rfl, .ref xm, g, bdOf cs, ss, rfl, hMI, hgle, _, rfl, lrow, ras, row, rfl, hlrow, hras, fun HJ sJ => ?_⟩
    have lpJ := lpI.same sJ
    have zp : Zp K HJ pr rd lr lw xs ys st (leftM (bdOf cs) row) := by
      have z0 : Zp K HF pr rd lr lw xs ys st (leftM (bdOf cs) row) := ⟨lpF.steps eEF pEF, lpF.steps eF pF, eEF, eF, pEF, pF.mono fun _ _ h => StepR.fz (Fz.refl _) (fun _ _ e => lpF.row e) h⟩
      exact z0.same (sFI.trans sJ)
    rw [hmk2]
    have hst10 : st.length ≤ 10 := by omega
    have hmin : st.length = min xs.length ys.length := by omega
    refine ne_self ⟨_, rfl, iteN rfl ?_⟩
    -- each step with each rest
    refine ⟨_, rfl, _, rfl, lr, lw, xs, ys, rfl, SqL.of zp.er, SqL.of zp.ew, ?_⟩
    refine for_it (walk_zip (n := st.length) hmin) (fun i σ H2 => ∃ (gs2 : List Nat) (u15 u16 u17 u18 : Option V), σ = [some (.ref a), some (.int j), some (.ref s), some (.ref lc), some (.ref m), some (.ref xp), some (.ref xb), some (.ref xm), some (.ref pr), some (.ref rd), some (.int ((k : Int) + 1)), some (.int g), some (.ref lrow), some (.ref lr), some (.ref lw), u15, u16, u17, u18] ∧ Lp K H9 H2 pr rd ss gs2 ∧ k + 1 ≤ gs2.length ∧ Zp K H2 pr rd lr lw xs ys st (leftM (bdOf cs) row))
      ⟨gs, _, _, _, _, rfl, lpJ, by omega, zp⟩ (fun i σ H2 _ q => by obtain ⟨_, _, _, _, _, _, _, _, z⟩ := q; exact ⟨SqL.of z.er, SqL.of z.ew⟩) ?_ ?_
    · rintro i3 y3 σ HK HL hi3 ⟨gs2, u15, u16, u17, u18, rfl, lpK, hk2, zpK⟩ ⟨tz, x3, z3, rfl, htz, rfl, hx3, hz3⟩
      obtain ⟨sp1, hsp1, t5, av5, gv5, rfl, ht5, _, hgv5⟩ := pair_at zpK.pr_ hx3
      obtain ⟨sp2, hsp2, t6, av6, gv6, rfl, ht6, _, hrow6⟩ := pair_at zpK.pw_ hz3
      obtain ⟨sp1', hsp1', htt⟩ := pair_at tied hsp1
      rw [hsp2] at hsp1'
      cases hsp1'
      have hg5 : (rsM ss)[sp1.2]? = some sp2.2 := htt.2
      subst hgv5
      have sL : Same HK (upd HK tz (.tup [.ref t5, .ref t6])) := smU (Same.refl _) htz
      refine ⟨tz, _, rfl, SqT.of upd_same, rfl, _, _, rfl, ⟨t5, _, rfl, SqT.of (sL _ _ ht5), rfl, _, _, rfl, _, _, rfl, rfl, ?_⟩⟩
      refine ⟨_, _, rfl, ⟨t6, _, rfl, SqT.of (sL _ _ ht6), rfl, _, _, rfl, _, _, rfl, rfl, rfl, ?_⟩⟩
      have lpL := lpK.same sL
      have zpL := zpK.same sL
      obtain ⟨l7, as7, rfl, hn7, hl7, hp7⟩ := hrow6.same sL
      generalize upd HK tz (.tup [.ref t5, .ref t6]) = HM at lpL zpL hl7 hp7
      refine ⟨fun σ H2 => ∃ gs3, σ = [some (.ref a), some (.int j), some (.ref s), some (.ref lc), some (.ref m), some (.ref xp), some (.ref xb), some (.ref xm), some (.ref pr), some (.ref rd), some (.int ((k : Int) + 1)), some (.int g), some (.ref lrow), some (.ref lr), some (.ref lw), some av5, some (.int (sp1.2 : Nat)), some (.ref l7), some av6] ∧ Lp K H9 H2 pr rd ss gs3 ∧ k + 1 ≤ gs3.length ∧ Zp K H2 pr rd lr lw xs ys st (leftM (bdOf cs) row) ∧ sp1.2 ∈ gs3 ∧ RowN K H2 3 (Npd pr rd) (.ref l7) sp2.2, ?_, ?_⟩
      · obtain ⟨kvs, ekv, qk1, qk2⟩ := id lpL.kv
        obtain ⟨pvs2, ep2, qp2⟩ := id lpL.pv
        have hp2 := qp2.length
        have hfew2 := few_rooms lpL.nd lpL.le
        have dg := DGet.k (k := .inl ((sp1.2 : Nat) : Int)) ekv
        rw [qk2 sp1.2] at dg
        by_cases hin : sp1.2 ∈ gs2
        · rw [if_pos hin, hg5] at dg
          exact ⟨_, rfl, _, rfl, rd, _, rfl, dg, _, rfl, iteN rfl ⟨gs2, rfl, lpL, hk2, zpL, hin, l7, as7, rfl, hn7, hl7, hp7⟩⟩
        · rw [if_neg hin] at dg
          refine ⟨_, rfl, _, rfl, rd, _, rfl, dg, _, rfl, iteB rfl ⟨_, rfl, pr, pvs2, rfl, .inl (SqL.of ep2), _, _, rfl, rfl, _, rfl, iteB (decide_eq_true (by omega)) ?_⟩⟩
          refine ⟨_, rfl, l7, as7, sp2.2, rfl, hl7, hp7, hG.tr hg5, by decide, fun HN sN => ⟨_, rfl, _, rfl, rd, _, rfl, DPut.k (k := .inl ((sp1.2 : Nat) : Int)) (sN _ _ ekv) (by omega), ?_⟩⟩
          have lpN := lpL.same sN
          have zpN := zpL.same sN
          have ep3 := sN _ _ ep2
          have ek3 := sN _ _ ekv
          have npd : pr ≠ rd := ne_of ep3 ek3 (by intro z; cases z)
          have ep4 : (upd HN rd (.dK (putK kvs (.inl ((sp1.2 : Nat) : Int)) (.str (tx sp2.2))))) pr = some (.lst pvs2) := by rw [upd_ne npd]; exact ep3
          have hrowN : RowN K HN 3 (Npd pr rd) (.ref l7) sp2.2 := ⟨l7, as7, rfl, hn7, sN _ _ hl7, Rows.fz (Fz.of sN) hp7⟩
          refine ⟨_, rfl, .inl ⟨rfl, _, SqL.of ep4⟩, _, rfl, _, rfl, (by show 2 ≤ sizeLine; omega), fun tp htp => ⟨pr, pvs2, _, rfl, rfl, smU (Same.refl _) htp _ _ ep4, by omega, gs2 ++ [sp1.2], rfl, lpN.put ep3 ek3 hin hg5 hrowN htp, by rw [List.length_append]; omega, ?_, by simp, ?_⟩⟩
          · obtain ⟨kf, fi⟩ := put_frame (g := sp1.2) (row := sp2.2) (rw := .ref l7) (pvs := pvs2) ep3 ek3 htp
            exact zpN.kp kf fi
          · obtain ⟨kf, fi⟩ := put_frame (g := sp1.2) (row := sp2.2) (rw := .ref l7) (pvs := pvs2) ep3 ek3 htp
            exact hrowN.kp kf fi
      · rintro σ HN ⟨gs3, rfl, lpN, hk3, zpN, hin3, l8, as8, e8, hn8, hl8, hp8⟩
        cases e8
        obtain ⟨kvs, ekv, qk1, qk2⟩ := id lpN.kv
        refine ⟨_, rfl, rd, rfl, .inl ⟨kvs, .inl ekv⟩, _, rfl, _, rfl, l7, as8, sp2.2, rfl, hl8, hp8, hG.tr hg5, by decide, fun HO sO => ?_⟩
        have dg := DGet.k (k := .inl ((sp1.2 : Nat) : Int)) (sO _ _ ekv)
        rw [qk2 sp1.2, if_pos hin3, hg5] at dg
        refine ⟨_, dg, _, rfl, l7, as8, sp2.2, rfl, sO _ _ hl8, Rows.fz (Fz.of sO) hp8, hG.tr hg5, by decide, fun HP sP => ⟨rfl, _, rfl, iteN (by simp) ?_⟩⟩
        exact ⟨gs3, _, _, _, _, rfl, (lpN.same sO).same sP, hk3, (zpN.same sO).same sP⟩
    · rintro σ HK ⟨gs2, u15, u16, u17, u18, rfl, lpK, hk2, zpK⟩
      exact ⟨8 - k, by omega, gs2, k + 1, _, _, _, _, _, _, _, _, by omega, rfl, lpK, hk2⟩
  · refine iteN (decide_eq_false (by omega)) ⟨⟨_, _, _, _, _, _, _, _, _, _, _, _, _, _, _, _, _, _, rfl⟩, lp.s0 _ _ hli9⟩
end
end Mb


set_option Elab.async false
set_option linter.all false
set_option maxRecDepth 100000
set_option maxHeartbeats 4000000
/-! the end -/
namespace Mb
open PySem PySem.Spec PyProof.Rows L2
/-- the heap in which just the script is tracked, unless the module knows it -/
def scrH (K : PySem.W.Frag) (a : Addr) (vs : List Value) (ns : List Int) : Hp := fun b => if b = a ∧ (K.lookup a).isNone = true then some (.frz { cls := .type "list", data := .seq vs.toArray } (.lst (ns.map V.int))) else none
section
variable {P : Program} {w : World} {K : PySem.W.Frag} {mg mb : Str → Option Value} {k : Nat} {fa a : Addr} {fd : FuncData} {x : Str} {sp : Sp} {s : Shared} {vs : List Value} {ns : List Int}
theorem scr_at {b : Addr} {o : HO} (h : scrH K a vs ns b = some o) : b = a ∧ K.lookup a = none ∧ o = .frz { cls := .type "list", data := .seq vs.toArray } (.lst (ns.map V.int)) := by
  unfold scrH at h
  by_cases c : b = a ∧ (K.lookup a).isNone = true
  · rw [if_pos c] at h
    exact ⟨c.1, Option.isNone_iff_eq_none.mp c.2, (Option.some.inj h).symm⟩
  · rw [if_neg c] at h
    cases h
theorem scr_none {b : Addr} (h : b ≠ a ∨ K.lookup a ≠ none) : scrH K a vs ns b = none := by
  cases e : scrH K a vs ns b with
  | none => rfl
  | some o =>
    obtain ⟨h1, h2, _⟩ := scr_at e
    rcases h with h | h
    · exact absurd h1 h
    · exact absurd h2 h
/-- the law called at the top, where no repr is under way -/
theorem law_top (kin : K.In s.heap) (hns : s.heap.Ns mainGlobals mg) (hbn : s.heap.Ns builtinsNs mb) (hbb : ∀ x : Str, x ≠ "__name__" → mb x = bootBuiltins x) (nol : s.heap.NoLimit) (gen : s.gens = #[])
    (obj : s.heap.get? a = some { cls := .type "list", data := .seq vs.toArray }) (areI : IntsAre vs ns) (few : ns.length ≤ sizeLine) (room : Room k callerA)
    (F : ∀ base : Heap, K.In base → base.Ns mainGlobals mg → GOk P w K mg base k fa fd [x] sp) (bind : ∀ (s : Shared) (u : Value), BindsTo s fd ⟨[u], []⟩ [(x, u)])
    (asked : ∀ H : Hp, SqL K H a (ns.map V.int) → sp [.ref a] H (fun v _ => v = .bl true) fun _ _ _ => False) :
    codeAny (model P w) callerA (.call (.ref fa) ⟨[.ref a], []⟩) (fun r s' => r = .ok (.ret (.bool true)) ∧ OldK s.heap s'.heap ∧ s'.os = s.os ∧ AllBare s'.gens) s := by
  have vals := vals_ints areI
  have many := areI.length
  have seq : SqL K (scrH K a vs ns) a (ns.map V.int) := by
    cases e : K.lookup a with
    | some o =>
      have z := kin a o e
      rw [obj] at z
      cases z
      exact .inr ⟨_, vs.toArray, _, e, rfl, rfl, rfl, by rw [List.size_toArray, many]; exact few, by simpa using vals⟩
    | none => exact .inl (.inr ⟨{ cls := .type "list", data := .seq vs.toArray }, if_pos ⟨rfl, by rw [e]; rfl⟩⟩)
  have hok : HOk P w (scrH K a vs ns) s.heap := by
    intro b u z
    obtain ⟨rfl, _, rfl⟩ := scr_at z
    exact ⟨obj, by rw [List.length_map]; exact few, vs, _, vals, obj⟩
  have inB : ∀ {b : Addr} {o : Obj}, s.heap.get? b = some o → scrH K a vs ns b = none → (hidT s.heap (scrH K a vs ns)).get? b = some o := fun p q => hidT_get p q
  have nsB : ∀ {b : Addr} {m : Str → Option Value}, s.heap.Ns b m → (hidT s.heap (scrH K a vs ns)).Ns b m := by
    rintro b m ⟨o, es, ep, p, d, r⟩
    refine ⟨o, es, ep, inB p (scr_none (.inl fun z => ?_)), d, r⟩
    subst z
    rw [obj] at p
    cases p
    have d' : Data.seq vs.toArray _ = Data.dict es ep := d
    cases d'
  have kinB : K.In (hidT s.heap (scrH K a vs ns)) := by
    intro b o p
    refine inB (kin b o p) ?_
    by_cases z : b = a
    · subst z
      exact scr_none (.inr (by rw [p]; simp))
    · exact scr_none (.inl z)
  have modB : Mod K mg (hidT s.heap (scrH K a vs ns)) := by
    obtain ⟨mc, n1, n2⟩ := nol
    exact ⟨kinB, nsB hns, ⟨mb, nsB hbn, hbb⟩, mc, nsB n1, n2⟩
  have none_in : ∀ b : Addr, b ∈ ([] : List Addr) → False := fun b hb => by cases hb
  have env : Env0 P w K mg (hidT s.heap (scrH K a vs ns)) callerA [] s (scrH K a vs ns) :=
    ⟨rfl, modB, fun _ _ p => of_hidT p, Nat.le_of_eq (hidT_size _ _), trivial, fun b hb => (none_in b hb).elim, hok, .of_eq gen⟩
  have goes := (F _ kinB (nsB hns)).goes callerA [] s (scrH K a vs ns) ⟨[.ref a], []⟩ [.ref a] [.ref a] _ _ room rfl env (bind s (.ref a)) (.cons rfl .nil) (asked _ seq)
  refine codeAny_mono goes fun r s' out => ?_
  match r, out with
  | .error _, out => exact False.elim out
  | .ok .next, out => exact False.elim out
  | .ok .brk, out => exact False.elim out
  | .ok .cont, out => exact False.elim out
  | .ok (.ret u), ⟨v, H', os, bare, un, hok', rv, q⟩ =>
    cases (show v = .bl true from q)
    cases (show u = Value.bool true from rv)
    refine ⟨rfl, OldK.of_keep fun b o p => ?_, os, bare⟩
    cases z : scrH K a vs ns b with
    | none => exact un.keep b o p z (fun y => none_in b y) (by simp)
    | some y =>
      obtain ⟨_, _, e3⟩ := scr_at z
      subst e3
      obtain ⟨g1, _⟩ := hok b _ z
      obtain ⟨g2, _⟩ := hok' b _ (un.frzs b _ _ z)
      rw [p] at g1
      cases g1
      exact g2
end
theorem room18 : Room 18 callerA := ⟨rfl, by decide, by decide⟩
theorem few63 {n : Nat} (h : n ≤ 63) : n ≤ sizeLine := Nat.le_trans h (by decide)
end Mb


set_option Elab.async false
set_option linter.all false
set_option maxRecDepth 100000
set_option maxHeartbeats 4000000
/-! the row -/
namespace Mb
open PySem PySem.Spec PyProof.Rows L2
theorem law_kept {w : World} {K : PySem.W.Frag} {mg mb : Str → Option Value} {fa a : Addr} {s : Shared} {vs : List Value} {ns : List Int} {P : Program} (c : SaysM K) (kin : K.In s.heap) (hns : s.heap.Ns mainGlobals mg) (hbn : s.heap.Ns builtinsNs mb) (hbb : ∀ x : Str, x ≠ "__name__" → mb x = bootBuiltins x) (nol : s.heap.NoLimit) (gen : s.gens = #[])
    (obj : s.heap.get? a = some { cls := .type "list", data := .seq vs.toArray }) (areI : IntsAre vs ns) (few : ns.length ≤ 63) (hmg : mg ("law" : Str) = some (.ref fa)) :
    codeAny (model P w) callerA (.call (.ref fa) ⟨[.ref a], []⟩) (fun r s' => r = .ok (.ret (.bool true)) ∧ OldK s.heap s'.heap ∧ s'.os = s.os ∧ AllBare s'.gens) s := by
  have T : TX K mg := ⟨c, _, kin, hns⟩
  have e := hmg.symm.trans (T.glo (f_glo_law c))
  cases e
  obtain ⟨fd, F⟩ := fn_law c
  have b := FunD.bindsA (ps := ["_law_script"]) F fun _ _ _ _ _ _ us hl => match us, hl with | [_], _ => rfl
  exact law_top (x := "_law_script") (sp := spLaw K) kin hns hbn hbb nol gen obj areI (few63 few) room18 (fun base h1 h2 => gok_law ⟨c, base, h1, h2⟩ F) (fun s v => b s [v] rfl) fun H h => ⟨a, ns, rfl, h, by omega, fun _ => rfl⟩
end Mb
open PySem PySem.W PySem.Calls PyProof.Rows
theorem PySem.Challenge.cw_manyboard_k22_whole_tied_all_the_way_holds : PySem.Challenge.rw_manyboard_k22_whole_tied_all_the_way.Holds := by
  w_on; o_law
  refine HandSHeadRun.head_any (r := Mb.Rw) (q := Mb.qv) (H := Mb.hk) (ob := Mb.ob) (M := 20000) (loose := Mb.nms) (d := HandSHeadRun.topDef Mb.Rw.prog 64) (kwd := []) Mb.ob_eq
    (by kernel_rfl) (fun s => by kernel_rfl) Mb.run (by kernel_rfl) (by kernel_rfl) (by kernel_rfl) (by rfl) (by first | assumption | decide +kernel) (by decide +kernel) ⟨rfl, rfl, rfl, rfl, rfl, by decide +kernel⟩ ?hw ?hc
  case hw => w_witness2
  case hc =>
    refine Att.attach_call (l := PySem.Challenge.rw_manyboard_k22_whole_tied_all_the_way) (n := 63) rfl (by kernel_rfl) fun w s₀ s₁ mg mb fa o pm cd doc a vs ns G Y ho hd hcd hmg0 obj areI few gen => ?_
    obtain ⟨K, kin, c⟩ := Y
    have hmg : mg ("law" : PySem.Str) = some (.ref fa) := by
      have e : (HandSHeadRun.topDef Mb.Rw.prog 64).name = ("law" : PySem.Str) := by kernel_rfl
      rw [← e]
      exact hmg0
    exact Mb.law_kept c kin G.T.g G.T.b G.T.builtins G.T.nolimit gen obj areI few hmg

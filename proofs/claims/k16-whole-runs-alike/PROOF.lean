import PyProof.Rows.All
import Wide.All
import OpenK.AllK
import Wide.FinOn
import HandS.Base
import HandS.Call
import HandS.Words
import HandS.Defaults
import HandS.ForMost
import HandS.Codes
import HandS.HeadHook1
import HandS.HeadHook2
import KE.KStateDown
import Lean
import HandS.Ends
import HandS.More
import HandS.WordsExc
import HandS.Head0
import HandS.Head1
import HandS.Head2
import HandS.HeadEnd
import PySem.PyData
import HandS.ReplaceLit
import HandS.TupMul
import HandS.Zip
import KE.GoesEnum
import HandS.Evl
import HandS.TupAny
import HandS.NoneIn
import HandS.Style
import HandS.Flow
import HandS.Conv
import HandS.WordsDict
import PyProof.Rows.StrMeet
import HandS.IsInst
import HandS.Set
import HandS.SetFor
import PyProof.Rows.SetFrom
import PyProof.Rows.SortStr
import PyProof.Claim2
import HandS.Text
import HandS.Walk
import PySem.Challenge.RW_wipeways_k16_whole_runs_alike
set_option Elab.async false
set_option linter.all false
set_option maxRecDepth 100000
namespace K16
open PySem L2
/-! ### the text by places -/
def top (i : Nat) : Stmt := PySem.Challenge.pw_wipeways_k16_whole_runs_alike.main.body.getD i (.Pass ⟨0, 0, 0, 0⟩)
abbrev s_first_name : Stmt := top 4
abbrev s_in_record : Stmt := top 5
abbrev s_rows_in : Stmt := top 7
abbrev s_def_of : Stmt := top 8
abbrev s_row_of : Stmt := top 9
abbrev s_words_along : Stmt := top 11
abbrev s_word_at : Stmt := top 12
abbrev s_behind : Stmt := top 13
abbrev s_first_place : Stmt := top 14
abbrev s_inside : Stmt := top 15
abbrev s_out_of : Stmt := top 16
abbrev s_is_answer : Stmt := top 20
abbrev s_both : Stmt := top 21
abbrev s_run : Stmt := top 24
abbrev s_law_deck : Stmt := top 26
abbrev s_law_draw : Stmt := top 27
abbrev s_law_some : Stmt := top 28
abbrev s_law_names : Stmt := top 29
abbrev s_law_boxes : Stmt := top 30
abbrev s_law_one_of : Stmt := top 31
abbrev s_law_picked : Stmt := top 32
abbrev s_law_plain : Stmt := top 33
abbrev s_law_leading : Stmt := top 34
abbrev s_law_grown : Stmt := top 35
abbrev s_law_program : Stmt := top 36
abbrev s_law_row : Stmt := top 37
abbrev s_law_word : Stmt := top 38
abbrev s_law_after : Stmt := top 39
abbrev s_law_into : Stmt := top 40
abbrev s_law_out : Stmt := top 41
abbrev s_law_leave : Stmt := top 42
abbrev s_law_end_def : Stmt := top 43
abbrev s_law_arrive : Stmt := top 44
abbrev s_law_fall : Stmt := top 45
abbrev s_law_wanted : Stmt := top 46
abbrev s_law_things : Stmt := top 47
abbrev s_law_step : Stmt := top 48
abbrev s_law_started : Stmt := top 49
abbrev s_law_played : Stmt := top 50
abbrev s_law_boxed : Stmt := top 51
abbrev s_law_box : Stmt := top 52
abbrev s_law_row_anew : Stmt := top 53
abbrev s_law_place : Stmt := top 54
abbrev s_law_left : Stmt := top 55
abbrev s_law_called_anew : Stmt := top 56
abbrev s_law_numberless : Stmt := top 57
abbrev s_law : Stmt := top 58
abbrev m_Frame_init : Stmt := inClass (top 22) 0
abbrev m_Frame_look : Stmt := inClass (top 22) 1
abbrev m_Frame_put : Stmt := inClass (top 22) 2
abbrev m_Frame_empty : Stmt := inClass (top 22) 3
abbrev m_Frame_kept_here : Stmt := inClass (top 22) 4
abbrev m_Frame_shown : Stmt := inClass (top 22) 5
abbrev m_Run_init : Stmt := inClass (top 23) 0
abbrev m_Run_come_to : Stmt := inClass (top 23) 1
abbrev m_Run_go_back : Stmt := inClass (top 23) 2
abbrev m_Run_fall : Stmt := inClass (top 23) 3
abbrev m_Run_answer : Stmt := inClass (top 23) 4
abbrev m_Run_wants : Stmt := inClass (top 23) 5
abbrev m_Run_change : Stmt := inClass (top 23) 6
abbrev m_Run_take_away : Stmt := inClass (top 23) 7
abbrev m_Run_call : Stmt := inClass (top 23) 8
abbrev m_Run_lead : Stmt := inClass (top 23) 9
abbrev m_Run_step : Stmt := inClass (top 23) 10
end K16

set_option Elab.async false
set_option linter.all false
set_option maxRecDepth 100000
set_option maxHeartbeats 2000000
namespace K16
open PySem PySem.Spec PyProof.Rows L2
/-! ### what the head tells: facts by names -/
def d_first_name : He.DefD := ⟨("first_name", none), "first_name", "first_name", defArgs s_first_name, defBody s_first_name, defScope s_first_name, [], []⟩
def d_in_record : He.DefD := ⟨("in_record", none), "in_record", "in_record", defArgs s_in_record, defBody s_in_record, defScope s_in_record, [], []⟩
def d_rows_in : He.DefD := ⟨("rows_in", none), "rows_in", "rows_in", defArgs s_rows_in, defBody s_rows_in, defScope s_rows_in, [], []⟩
def d_def_of : He.DefD := ⟨("def_of", none), "def_of", "def_of", defArgs s_def_of, defBody s_def_of, defScope s_def_of, [], []⟩
def d_row_of : He.DefD := ⟨("row_of", none), "row_of", "row_of", defArgs s_row_of, defBody s_row_of, defScope s_row_of, [], []⟩
def d_words_along : He.DefD := ⟨("words_along", none), "words_along", "words_along", defArgs s_words_along, defBody s_words_along, defScope s_words_along, [], []⟩
def d_word_at : He.DefD := ⟨("word_at", none), "word_at", "word_at", defArgs s_word_at, defBody s_word_at, defScope s_word_at, [], []⟩
def d_behind : He.DefD := ⟨("behind", none), "behind", "behind", defArgs s_behind, defBody s_behind, defScope s_behind, [], []⟩
def d_first_place : He.DefD := ⟨("first_place", none), "first_place", "first_place", defArgs s_first_place, defBody s_first_place, defScope s_first_place, [], []⟩
def d_inside : He.DefD := ⟨("inside", none), "inside", "inside", defArgs s_inside, defBody s_inside, defScope s_inside, [], []⟩
def d_out_of : He.DefD := ⟨("out_of", none), "out_of", "out_of", defArgs s_out_of, defBody s_out_of, defScope s_out_of, [], []⟩
def d_is_answer : He.DefD := ⟨("is_answer", none), "is_answer", "is_answer", defArgs s_is_answer, defBody s_is_answer, defScope s_is_answer, [], []⟩
def d_both : He.DefD := ⟨("both", none), "both", "both", defArgs s_both, defBody s_both, defScope s_both, [], []⟩
def d_run : He.DefD := ⟨("run", none), "run", "run", defArgs s_run, defBody s_run, defScope s_run, [], []⟩
def d_law_deck : He.DefD := ⟨("_law_deck", none), "_law_deck", "_law_deck", defArgs s_law_deck, defBody s_law_deck, defScope s_law_deck, [], []⟩
def d_law_draw : He.DefD := ⟨("_law_draw", none), "_law_draw", "_law_draw", defArgs s_law_draw, defBody s_law_draw, defScope s_law_draw, [], []⟩
def d_law_some : He.DefD := ⟨("_law_some", none), "_law_some", "_law_some", defArgs s_law_some, defBody s_law_some, defScope s_law_some, [], []⟩
def d_law_names : He.DefD := ⟨("_law_names", none), "_law_names", "_law_names", defArgs s_law_names, defBody s_law_names, defScope s_law_names, [], []⟩
def d_law_boxes : He.DefD := ⟨("_law_boxes", none), "_law_boxes", "_law_boxes", defArgs s_law_boxes, defBody s_law_boxes, defScope s_law_boxes, [], []⟩
def d_law_one_of : He.DefD := ⟨("_law_one_of", none), "_law_one_of", "_law_one_of", defArgs s_law_one_of, defBody s_law_one_of, defScope s_law_one_of, [], []⟩
def d_law_picked : He.DefD := ⟨("_law_picked", none), "_law_picked", "_law_picked", defArgs s_law_picked, defBody s_law_picked, defScope s_law_picked, [], []⟩
def d_law_plain : He.DefD := ⟨("_law_plain", none), "_law_plain", "_law_plain", defArgs s_law_plain, defBody s_law_plain, defScope s_law_plain, [], []⟩
def d_law_leading : He.DefD := ⟨("_law_leading", none), "_law_leading", "_law_leading", defArgs s_law_leading, defBody s_law_leading, defScope s_law_leading, [], []⟩
def d_law_grown : He.DefD := ⟨("_law_grown", none), "_law_grown", "_law_grown", defArgs s_law_grown, defBody s_law_grown, defScope s_law_grown, [], []⟩
def d_law_program : He.DefD := ⟨("_law_program", none), "_law_program", "_law_program", defArgs s_law_program, defBody s_law_program, defScope s_law_program, [], []⟩
def d_law_row : He.DefD := ⟨("_law_row", none), "_law_row", "_law_row", defArgs s_law_row, defBody s_law_row, defScope s_law_row, [], []⟩
def d_law_word : He.DefD := ⟨("_law_word", none), "_law_word", "_law_word", defArgs s_law_word, defBody s_law_word, defScope s_law_word, [], []⟩
def d_law_after : He.DefD := ⟨("_law_after", none), "_law_after", "_law_after", defArgs s_law_after, defBody s_law_after, defScope s_law_after, [], []⟩
def d_law_into : He.DefD := ⟨("_law_into", none), "_law_into", "_law_into", defArgs s_law_into, defBody s_law_into, defScope s_law_into, [], []⟩
def d_law_out : He.DefD := ⟨("_law_out", none), "_law_out", "_law_out", defArgs s_law_out, defBody s_law_out, defScope s_law_out, [], []⟩
def d_law_leave : He.DefD := ⟨("_law_leave", none), "_law_leave", "_law_leave", defArgs s_law_leave, defBody s_law_leave, defScope s_law_leave, [], []⟩
def d_law_end_def : He.DefD := ⟨("_law_end_def", none), "_law_end_def", "_law_end_def", defArgs s_law_end_def, defBody s_law_end_def, defScope s_law_end_def, [], []⟩
def d_law_arrive : He.DefD := ⟨("_law_arrive", none), "_law_arrive", "_law_arrive", defArgs s_law_arrive, defBody s_law_arrive, defScope s_law_arrive, [], []⟩
def d_law_fall : He.DefD := ⟨("_law_fall", none), "_law_fall", "_law_fall", defArgs s_law_fall, defBody s_law_fall, defScope s_law_fall, [], []⟩
def d_law_wanted : He.DefD := ⟨("_law_wanted", none), "_law_wanted", "_law_wanted", defArgs s_law_wanted, defBody s_law_wanted, defScope s_law_wanted, [], []⟩
def d_law_things : He.DefD := ⟨("_law_things", none), "_law_things", "_law_things", defArgs s_law_things, defBody s_law_things, defScope s_law_things, [], []⟩
def d_law_step : He.DefD := ⟨("_law_step", none), "_law_step", "_law_step", defArgs s_law_step, defBody s_law_step, defScope s_law_step, [], []⟩
def d_law_started : He.DefD := ⟨("_law_started", none), "_law_started", "_law_started", defArgs s_law_started, defBody s_law_started, defScope s_law_started, [], []⟩
def d_law_played : He.DefD := ⟨("_law_played", none), "_law_played", "_law_played", defArgs s_law_played, defBody s_law_played, defScope s_law_played, [], []⟩
def d_law_boxed : He.DefD := ⟨("_law_boxed", none), "_law_boxed", "_law_boxed", defArgs s_law_boxed, defBody s_law_boxed, defScope s_law_boxed, [], []⟩
def d_law_box : He.DefD := ⟨("_law_box", none), "_law_box", "_law_box", defArgs s_law_box, defBody s_law_box, defScope s_law_box, [], []⟩
def d_law_row_anew : He.DefD := ⟨("_law_row_anew", none), "_law_row_anew", "_law_row_anew", defArgs s_law_row_anew, defBody s_law_row_anew, defScope s_law_row_anew, [], []⟩
def d_law_place : He.DefD := ⟨("_law_place", none), "_law_place", "_law_place", defArgs s_law_place, defBody s_law_place, defScope s_law_place, [], []⟩
def d_law_left : He.DefD := ⟨("_law_left", none), "_law_left", "_law_left", defArgs s_law_left, defBody s_law_left, defScope s_law_left, [], []⟩
def d_law_called_anew : He.DefD := ⟨("_law_called_anew", none), "_law_called_anew", "_law_called_anew", defArgs s_law_called_anew, defBody s_law_called_anew, defScope s_law_called_anew, [], []⟩
def d_law_numberless : He.DefD := ⟨("_law_numberless", none), "_law_numberless", "_law_numberless", defArgs s_law_numberless, defBody s_law_numberless, defScope s_law_numberless, [], []⟩
def d_law : He.DefD := ⟨("law", none), "law", "law", defArgs s_law, defBody s_law, defScope s_law, [], []⟩
def d_Frame_init : He.DefD := ⟨("Frame", some "__init__"), "__init__", "Frame.__init__", defArgs m_Frame_init, defBody m_Frame_init, defScope m_Frame_init, [], []⟩
def d_Frame_look : He.DefD := ⟨("Frame", some "look"), "look", "Frame.look", defArgs m_Frame_look, defBody m_Frame_look, defScope m_Frame_look, [], []⟩
def d_Frame_put : He.DefD := ⟨("Frame", some "put"), "put", "Frame.put", defArgs m_Frame_put, defBody m_Frame_put, defScope m_Frame_put, [], []⟩
def d_Frame_empty : He.DefD := ⟨("Frame", some "empty"), "empty", "Frame.empty", defArgs m_Frame_empty, defBody m_Frame_empty, defScope m_Frame_empty, [], []⟩
def d_Frame_kept_here : He.DefD := ⟨("Frame", some "kept_here"), "kept_here", "Frame.kept_here", defArgs m_Frame_kept_here, defBody m_Frame_kept_here, defScope m_Frame_kept_here, [], []⟩
def d_Frame_shown : He.DefD := ⟨("Frame", some "shown"), "shown", "Frame.shown", defArgs m_Frame_shown, defBody m_Frame_shown, defScope m_Frame_shown, [], []⟩
def d_Run_init : He.DefD := ⟨("Run", some "__init__"), "__init__", "Run.__init__", defArgs m_Run_init, defBody m_Run_init, defScope m_Run_init, [], []⟩
def d_Run_come_to : He.DefD := ⟨("Run", some "come_to"), "come_to", "Run.come_to", defArgs m_Run_come_to, defBody m_Run_come_to, defScope m_Run_come_to, [], []⟩
def d_Run_go_back : He.DefD := ⟨("Run", some "go_back"), "go_back", "Run.go_back", defArgs m_Run_go_back, defBody m_Run_go_back, defScope m_Run_go_back, [], []⟩
def d_Run_fall : He.DefD := ⟨("Run", some "fall"), "fall", "Run.fall", defArgs m_Run_fall, defBody m_Run_fall, defScope m_Run_fall, [], []⟩
def d_Run_answer : He.DefD := ⟨("Run", some "answer"), "answer", "Run.answer", defArgs m_Run_answer, defBody m_Run_answer, defScope m_Run_answer, [], []⟩
def d_Run_wants : He.DefD := ⟨("Run", some "wants"), "wants", "Run.wants", defArgs m_Run_wants, defBody m_Run_wants, defScope m_Run_wants, [], []⟩
def d_Run_change : He.DefD := ⟨("Run", some "change"), "change", "Run.change", defArgs m_Run_change, defBody m_Run_change, defScope m_Run_change, [], []⟩
def d_Run_take_away : He.DefD := ⟨("Run", some "take_away"), "take_away", "Run.take_away", defArgs m_Run_take_away, defBody m_Run_take_away, defScope m_Run_take_away, [], []⟩
def d_Run_call : He.DefD := ⟨("Run", some "call"), "call", "Run.call", defArgs m_Run_call, defBody m_Run_call, defScope m_Run_call, [], []⟩
def d_Run_lead : He.DefD := ⟨("Run", some "lead"), "lead", "Run.lead", defArgs m_Run_lead, defBody m_Run_lead, defScope m_Run_lead, [], []⟩
def d_Run_step : He.DefD := ⟨("Run", some "step"), "step", "Run.step", defArgs m_Run_step, defBody m_Run_step, defScope m_Run_step, [], []⟩
def fn0 : List He.DefD := [d_first_name, d_in_record, d_rows_in, d_def_of, d_row_of, d_words_along, d_word_at, d_behind, d_first_place, d_inside, d_out_of, d_is_answer, d_both, d_run, d_law_deck, d_law_draw, d_law_some, d_law_names, d_law_boxes, d_law_one_of, d_law_picked, d_law_plain, d_law_leading, d_law_grown, d_law_program, d_law_row, d_law_word, d_law_after, d_law_into, d_law_out]
def fn1 : List He.DefD := [d_law_leave, d_law_end_def, d_law_arrive, d_law_fall, d_law_wanted, d_law_things, d_law_step, d_law_started, d_law_played, d_law_boxed, d_law_box, d_law_row_anew, d_law_place, d_law_left, d_law_called_anew, d_law_numberless, d_law, d_Frame_init, d_Frame_look, d_Frame_put, d_Frame_empty, d_Frame_kept_here, d_Frame_shown, d_Run_init, d_Run_come_to, d_Run_go_back, d_Run_fall, d_Run_answer, d_Run_wants, d_Run_change]
def fn2 : List He.DefD := [d_Run_take_away, d_Run_call, d_Run_lead, d_Run_step]
def fn : List He.DefD := fn0 ++ fn1 ++ fn2
def fa0 : List He.Fa := [.glo "first_name", .glo "in_record", .glo "rows_in", .glo "def_of", .glo "row_of", .glo "words_along", .glo "word_at", .glo "behind", .glo "first_place", .glo "inside", .glo "out_of", .glo "is_answer", .glo "both", .glo "run", .glo "_law_deck", .glo "_law_draw", .glo "_law_some", .glo "_law_names", .glo "_law_boxes", .glo "_law_one_of", .glo "_law_picked", .glo "_law_plain", .glo "_law_leading", .glo "_law_grown", .glo "_law_program", .glo "_law_row", .glo "_law_word", .glo "_law_after", .glo "_law_into", .glo "_law_out"]
def fa1 : List He.Fa := [.glo "_law_leave", .glo "_law_end_def", .glo "_law_arrive", .glo "_law_fall", .glo "_law_wanted", .glo "_law_things", .glo "_law_step", .glo "_law_started", .glo "_law_played", .glo "_law_boxed", .glo "_law_box", .glo "_law_row_anew", .glo "_law_place", .glo "_law_left", .glo "_law_called_anew", .glo "_law_numberless", .glo "law", .glo "Frame", .glo "Run", .int "NUMBERS" 10000, .int "REST" 10007, .cls "Frame", .mkr "Frame", .cls "Run", .mkr "Run", .meth "Frame" "look", .meth "Frame" "put", .meth "Frame" "empty", .meth "Frame" "kept_here", .meth "Frame" "shown"]
def fa2 : List He.Fa := [.meth "Run" "come_to", .meth "Run" "go_back", .meth "Run" "fall", .meth "Run" "answer", .meth "Run" "wants", .meth "Run" "change", .meth "Run" "take_away", .meth "Run" "call", .meth "Run" "lead", .meth "Run" "step", .noat "Frame" "called_at", .noat "Frame" "things", .noat "Run" "whole", .noat "Run" "given", .noat "Run" "used", .noat "Run" "steps", .noat "Run" "numbers", .noat "Run" "leavings", .noat "Run" "frames", .noat "Run" "over_by", .noat "Run" "place", .free "isinstance", .free "int", .free "bool", .free "str", .free "tuple", .free "sorted", .free "set", .free "list", .free "zip"]
def fa3 : List He.Fa := [.free "reversed", .free "len", .free "range", .free "sum", .free "enumerate", .free "min", .free "dict"]
def fa : List He.Fa := fa0 ++ fa1 ++ fa2 ++ fa3
/-- the written part K, the module's names mg: what the defs lean on -/
structure Fx (K : PySem.W.Frag) (mg : Str → Option Value) : Prop where
  says : He.SaysD fa fn K
  ex : ∃ h : Heap, K.In h ∧ h.Ns mainGlobals mg
section
variable {K : PySem.W.Frag} {mg : Str → Option Value}
abbrev CF (K : PySem.W.Frag) : Addr := He.ga K "Frame"
abbrev CR (K : PySem.W.Frag) : Addr := He.ga K "Run"
theorem Fx.g_first_name (T : Fx K mg) : mg "first_name" = some (.ref (He.ga K "first_name")) := by obtain ⟨h, X, G⟩ := T.ex; exact He.glo_ok X G (T.says.fact 0 (f := .glo "first_name") rfl)
theorem Fx.g_in_record (T : Fx K mg) : mg "in_record" = some (.ref (He.ga K "in_record")) := by obtain ⟨h, X, G⟩ := T.ex; exact He.glo_ok X G (T.says.fact 1 (f := .glo "in_record") rfl)
theorem Fx.g_rows_in (T : Fx K mg) : mg "rows_in" = some (.ref (He.ga K "rows_in")) := by obtain ⟨h, X, G⟩ := T.ex; exact He.glo_ok X G (T.says.fact 2 (f := .glo "rows_in") rfl)
theorem Fx.g_def_of (T : Fx K mg) : mg "def_of" = some (.ref (He.ga K "def_of")) := by obtain ⟨h, X, G⟩ := T.ex; exact He.glo_ok X G (T.says.fact 3 (f := .glo "def_of") rfl)
theorem Fx.g_row_of (T : Fx K mg) : mg "row_of" = some (.ref (He.ga K "row_of")) := by obtain ⟨h, X, G⟩ := T.ex; exact He.glo_ok X G (T.says.fact 4 (f := .glo "row_of") rfl)
theorem Fx.g_words_along (T : Fx K mg) : mg "words_along" = some (.ref (He.ga K "words_along")) := by obtain ⟨h, X, G⟩ := T.ex; exact He.glo_ok X G (T.says.fact 5 (f := .glo "words_along") rfl)
theorem Fx.g_word_at (T : Fx K mg) : mg "word_at" = some (.ref (He.ga K "word_at")) := by obtain ⟨h, X, G⟩ := T.ex; exact He.glo_ok X G (T.says.fact 6 (f := .glo "word_at") rfl)
theorem Fx.g_behind (T : Fx K mg) : mg "behind" = some (.ref (He.ga K "behind")) := by obtain ⟨h, X, G⟩ := T.ex; exact He.glo_ok X G (T.says.fact 7 (f := .glo "behind") rfl)
theorem Fx.g_first_place (T : Fx K mg) : mg "first_place" = some (.ref (He.ga K "first_place")) := by obtain ⟨h, X, G⟩ := T.ex; exact He.glo_ok X G (T.says.fact 8 (f := .glo "first_place") rfl)
theorem Fx.g_inside (T : Fx K mg) : mg "inside" = some (.ref (He.ga K "inside")) := by obtain ⟨h, X, G⟩ := T.ex; exact He.glo_ok X G (T.says.fact 9 (f := .glo "inside") rfl)
theorem Fx.g_out_of (T : Fx K mg) : mg "out_of" = some (.ref (He.ga K "out_of")) := by obtain ⟨h, X, G⟩ := T.ex; exact He.glo_ok X G (T.says.fact 10 (f := .glo "out_of") rfl)
theorem Fx.g_is_answer (T : Fx K mg) : mg "is_answer" = some (.ref (He.ga K "is_answer")) := by obtain ⟨h, X, G⟩ := T.ex; exact He.glo_ok X G (T.says.fact 11 (f := .glo "is_answer") rfl)
theorem Fx.g_both (T : Fx K mg) : mg "both" = some (.ref (He.ga K "both")) := by obtain ⟨h, X, G⟩ := T.ex; exact He.glo_ok X G (T.says.fact 12 (f := .glo "both") rfl)
theorem Fx.g_run (T : Fx K mg) : mg "run" = some (.ref (He.ga K "run")) := by obtain ⟨h, X, G⟩ := T.ex; exact He.glo_ok X G (T.says.fact 13 (f := .glo "run") rfl)
theorem Fx.g_law_deck (T : Fx K mg) : mg "_law_deck" = some (.ref (He.ga K "_law_deck")) := by obtain ⟨h, X, G⟩ := T.ex; exact He.glo_ok X G (T.says.fact 14 (f := .glo "_law_deck") rfl)
theorem Fx.g_law_draw (T : Fx K mg) : mg "_law_draw" = some (.ref (He.ga K "_law_draw")) := by obtain ⟨h, X, G⟩ := T.ex; exact He.glo_ok X G (T.says.fact 15 (f := .glo "_law_draw") rfl)
theorem Fx.g_law_some (T : Fx K mg) : mg "_law_some" = some (.ref (He.ga K "_law_some")) := by obtain ⟨h, X, G⟩ := T.ex; exact He.glo_ok X G (T.says.fact 16 (f := .glo "_law_some") rfl)
theorem Fx.g_law_names (T : Fx K mg) : mg "_law_names" = some (.ref (He.ga K "_law_names")) := by obtain ⟨h, X, G⟩ := T.ex; exact He.glo_ok X G (T.says.fact 17 (f := .glo "_law_names") rfl)
theorem Fx.g_law_boxes (T : Fx K mg) : mg "_law_boxes" = some (.ref (He.ga K "_law_boxes")) := by obtain ⟨h, X, G⟩ := T.ex; exact He.glo_ok X G (T.says.fact 18 (f := .glo "_law_boxes") rfl)
theorem Fx.g_law_one_of (T : Fx K mg) : mg "_law_one_of" = some (.ref (He.ga K "_law_one_of")) := by obtain ⟨h, X, G⟩ := T.ex; exact He.glo_ok X G (T.says.fact 19 (f := .glo "_law_one_of") rfl)
theorem Fx.g_law_picked (T : Fx K mg) : mg "_law_picked" = some (.ref (He.ga K "_law_picked")) := by obtain ⟨h, X, G⟩ := T.ex; exact He.glo_ok X G (T.says.fact 20 (f := .glo "_law_picked") rfl)
theorem Fx.g_law_plain (T : Fx K mg) : mg "_law_plain" = some (.ref (He.ga K "_law_plain")) := by obtain ⟨h, X, G⟩ := T.ex; exact He.glo_ok X G (T.says.fact 21 (f := .glo "_law_plain") rfl)
theorem Fx.g_law_leading (T : Fx K mg) : mg "_law_leading" = some (.ref (He.ga K "_law_leading")) := by obtain ⟨h, X, G⟩ := T.ex; exact He.glo_ok X G (T.says.fact 22 (f := .glo "_law_leading") rfl)
theorem Fx.g_law_grown (T : Fx K mg) : mg "_law_grown" = some (.ref (He.ga K "_law_grown")) := by obtain ⟨h, X, G⟩ := T.ex; exact He.glo_ok X G (T.says.fact 23 (f := .glo "_law_grown") rfl)
theorem Fx.g_law_program (T : Fx K mg) : mg "_law_program" = some (.ref (He.ga K "_law_program")) := by obtain ⟨h, X, G⟩ := T.ex; exact He.glo_ok X G (T.says.fact 24 (f := .glo "_law_program") rfl)
theorem Fx.g_law_row (T : Fx K mg) : mg "_law_row" = some (.ref (He.ga K "_law_row")) := by obtain ⟨h, X, G⟩ := T.ex; exact He.glo_ok X G (T.says.fact 25 (f := .glo "_law_row") rfl)
theorem Fx.g_law_word (T : Fx K mg) : mg "_law_word" = some (.ref (He.ga K "_law_word")) := by obtain ⟨h, X, G⟩ := T.ex; exact He.glo_ok X G (T.says.fact 26 (f := .glo "_law_word") rfl)
theorem Fx.g_law_after (T : Fx K mg) : mg "_law_after" = some (.ref (He.ga K "_law_after")) := by obtain ⟨h, X, G⟩ := T.ex; exact He.glo_ok X G (T.says.fact 27 (f := .glo "_law_after") rfl)
theorem Fx.g_law_into (T : Fx K mg) : mg "_law_into" = some (.ref (He.ga K "_law_into")) := by obtain ⟨h, X, G⟩ := T.ex; exact He.glo_ok X G (T.says.fact 28 (f := .glo "_law_into") rfl)
theorem Fx.g_law_out (T : Fx K mg) : mg "_law_out" = some (.ref (He.ga K "_law_out")) := by obtain ⟨h, X, G⟩ := T.ex; exact He.glo_ok X G (T.says.fact 29 (f := .glo "_law_out") rfl)
theorem Fx.g_law_leave (T : Fx K mg) : mg "_law_leave" = some (.ref (He.ga K "_law_leave")) := by obtain ⟨h, X, G⟩ := T.ex; exact He.glo_ok X G (T.says.fact 30 (f := .glo "_law_leave") rfl)
theorem Fx.g_law_end_def (T : Fx K mg) : mg "_law_end_def" = some (.ref (He.ga K "_law_end_def")) := by obtain ⟨h, X, G⟩ := T.ex; exact He.glo_ok X G (T.says.fact 31 (f := .glo "_law_end_def") rfl)
theorem Fx.g_law_arrive (T : Fx K mg) : mg "_law_arrive" = some (.ref (He.ga K "_law_arrive")) := by obtain ⟨h, X, G⟩ := T.ex; exact He.glo_ok X G (T.says.fact 32 (f := .glo "_law_arrive") rfl)
theorem Fx.g_law_fall (T : Fx K mg) : mg "_law_fall" = some (.ref (He.ga K "_law_fall")) := by obtain ⟨h, X, G⟩ := T.ex; exact He.glo_ok X G (T.says.fact 33 (f := .glo "_law_fall") rfl)
theorem Fx.g_law_wanted (T : Fx K mg) : mg "_law_wanted" = some (.ref (He.ga K "_law_wanted")) := by obtain ⟨h, X, G⟩ := T.ex; exact He.glo_ok X G (T.says.fact 34 (f := .glo "_law_wanted") rfl)
theorem Fx.g_law_things (T : Fx K mg) : mg "_law_things" = some (.ref (He.ga K "_law_things")) := by obtain ⟨h, X, G⟩ := T.ex; exact He.glo_ok X G (T.says.fact 35 (f := .glo "_law_things") rfl)
theorem Fx.g_law_step (T : Fx K mg) : mg "_law_step" = some (.ref (He.ga K "_law_step")) := by obtain ⟨h, X, G⟩ := T.ex; exact He.glo_ok X G (T.says.fact 36 (f := .glo "_law_step") rfl)
theorem Fx.g_law_started (T : Fx K mg) : mg "_law_started" = some (.ref (He.ga K "_law_started")) := by obtain ⟨h, X, G⟩ := T.ex; exact He.glo_ok X G (T.says.fact 37 (f := .glo "_law_started") rfl)
theorem Fx.g_law_played (T : Fx K mg) : mg "_law_played" = some (.ref (He.ga K "_law_played")) := by obtain ⟨h, X, G⟩ := T.ex; exact He.glo_ok X G (T.says.fact 38 (f := .glo "_law_played") rfl)
theorem Fx.g_law_boxed (T : Fx K mg) : mg "_law_boxed" = some (.ref (He.ga K "_law_boxed")) := by obtain ⟨h, X, G⟩ := T.ex; exact He.glo_ok X G (T.says.fact 39 (f := .glo "_law_boxed") rfl)
theorem Fx.g_law_box (T : Fx K mg) : mg "_law_box" = some (.ref (He.ga K "_law_box")) := by obtain ⟨h, X, G⟩ := T.ex; exact He.glo_ok X G (T.says.fact 40 (f := .glo "_law_box") rfl)
theorem Fx.g_law_row_anew (T : Fx K mg) : mg "_law_row_anew" = some (.ref (He.ga K "_law_row_anew")) := by obtain ⟨h, X, G⟩ := T.ex; exact He.glo_ok X G (T.says.fact 41 (f := .glo "_law_row_anew") rfl)
theorem Fx.g_law_place (T : Fx K mg) : mg "_law_place" = some (.ref (He.ga K "_law_place")) := by obtain ⟨h, X, G⟩ := T.ex; exact He.glo_ok X G (T.says.fact 42 (f := .glo "_law_place") rfl)
theorem Fx.g_law_left (T : Fx K mg) : mg "_law_left" = some (.ref (He.ga K "_law_left")) := by obtain ⟨h, X, G⟩ := T.ex; exact He.glo_ok X G (T.says.fact 43 (f := .glo "_law_left") rfl)
theorem Fx.g_law_called_anew (T : Fx K mg) : mg "_law_called_anew" = some (.ref (He.ga K "_law_called_anew")) := by obtain ⟨h, X, G⟩ := T.ex; exact He.glo_ok X G (T.says.fact 44 (f := .glo "_law_called_anew") rfl)
theorem Fx.g_law_numberless (T : Fx K mg) : mg "_law_numberless" = some (.ref (He.ga K "_law_numberless")) := by obtain ⟨h, X, G⟩ := T.ex; exact He.glo_ok X G (T.says.fact 45 (f := .glo "_law_numberless") rfl)
theorem Fx.g_law (T : Fx K mg) : mg "law" = some (.ref (He.ga K "law")) := by obtain ⟨h, X, G⟩ := T.ex; exact He.glo_ok X G (T.says.fact 46 (f := .glo "law") rfl)
theorem Fx.g_Frame (T : Fx K mg) : mg "Frame" = some (.ref (He.ga K "Frame")) := by obtain ⟨h, X, G⟩ := T.ex; exact He.glo_ok X G (T.says.fact 47 (f := .glo "Frame") rfl)
theorem Fx.g_Run (T : Fx K mg) : mg "Run" = some (.ref (He.ga K "Run")) := by obtain ⟨h, X, G⟩ := T.ex; exact He.glo_ok X G (T.says.fact 48 (f := .glo "Run") rfl)
theorem Fx.NUMBERS (T : Fx K mg) : ∃ t, mg "NUMBERS" = some (.int 10000 t) := by obtain ⟨h, X, G⟩ := T.ex; exact He.int_ok X G (T.says.fact 49 (f := .int "NUMBERS" 10000) rfl)
theorem Fx.REST (T : Fx K mg) : ∃ t, mg "REST" = some (.int 10007 t) := by obtain ⟨h, X, G⟩ := T.ex; exact He.int_ok X G (T.says.fact 50 (f := .int "REST" 10007) rfl)
theorem Fx.cls_Frame (T : Fx K mg) : Cls K (He.ga K "Frame") := He.cls_ok (T.says.fact 51 (f := .cls "Frame") rfl)
theorem Fx.mk_Frame (T : Fx K mg) : Mk K (He.ga K "Frame") (He.ma K (He.ga K "Frame") "__init__") := He.mkr_ok (T.says.fact 52 (f := .mkr "Frame") rfl)
theorem Fx.cls_Run (T : Fx K mg) : Cls K (He.ga K "Run") := He.cls_ok (T.says.fact 53 (f := .cls "Run") rfl)
theorem Fx.mk_Run (T : Fx K mg) : Mk K (He.ga K "Run") (He.ma K (He.ga K "Run") "__init__") := He.mkr_ok (T.says.fact 54 (f := .mkr "Run") rfl)
theorem Fx.me_Frame_look (T : Fx K mg) : Meth K (He.ga K "Frame") "look" (He.ma K (He.ga K "Frame") "look") := He.meth_ok (T.says.fact 55 (f := .meth "Frame" "look") rfl)
theorem Fx.me_Frame_put (T : Fx K mg) : Meth K (He.ga K "Frame") "put" (He.ma K (He.ga K "Frame") "put") := He.meth_ok (T.says.fact 56 (f := .meth "Frame" "put") rfl)
theorem Fx.me_Frame_empty (T : Fx K mg) : Meth K (He.ga K "Frame") "empty" (He.ma K (He.ga K "Frame") "empty") := He.meth_ok (T.says.fact 57 (f := .meth "Frame" "empty") rfl)
theorem Fx.me_Frame_kept_here (T : Fx K mg) : Meth K (He.ga K "Frame") "kept_here" (He.ma K (He.ga K "Frame") "kept_here") := He.meth_ok (T.says.fact 58 (f := .meth "Frame" "kept_here") rfl)
theorem Fx.me_Frame_shown (T : Fx K mg) : Meth K (He.ga K "Frame") "shown" (He.ma K (He.ga K "Frame") "shown") := He.meth_ok (T.says.fact 59 (f := .meth "Frame" "shown") rfl)
theorem Fx.me_Run_come_to (T : Fx K mg) : Meth K (He.ga K "Run") "come_to" (He.ma K (He.ga K "Run") "come_to") := He.meth_ok (T.says.fact 60 (f := .meth "Run" "come_to") rfl)
theorem Fx.me_Run_go_back (T : Fx K mg) : Meth K (He.ga K "Run") "go_back" (He.ma K (He.ga K "Run") "go_back") := He.meth_ok (T.says.fact 61 (f := .meth "Run" "go_back") rfl)
theorem Fx.me_Run_fall (T : Fx K mg) : Meth K (He.ga K "Run") "fall" (He.ma K (He.ga K "Run") "fall") := He.meth_ok (T.says.fact 62 (f := .meth "Run" "fall") rfl)
theorem Fx.me_Run_answer (T : Fx K mg) : Meth K (He.ga K "Run") "answer" (He.ma K (He.ga K "Run") "answer") := He.meth_ok (T.says.fact 63 (f := .meth "Run" "answer") rfl)
theorem Fx.me_Run_wants (T : Fx K mg) : Meth K (He.ga K "Run") "wants" (He.ma K (He.ga K "Run") "wants") := He.meth_ok (T.says.fact 64 (f := .meth "Run" "wants") rfl)
theorem Fx.me_Run_change (T : Fx K mg) : Meth K (He.ga K "Run") "change" (He.ma K (He.ga K "Run") "change") := He.meth_ok (T.says.fact 65 (f := .meth "Run" "change") rfl)
theorem Fx.me_Run_take_away (T : Fx K mg) : Meth K (He.ga K "Run") "take_away" (He.ma K (He.ga K "Run") "take_away") := He.meth_ok (T.says.fact 66 (f := .meth "Run" "take_away") rfl)
theorem Fx.me_Run_call (T : Fx K mg) : Meth K (He.ga K "Run") "call" (He.ma K (He.ga K "Run") "call") := He.meth_ok (T.says.fact 67 (f := .meth "Run" "call") rfl)
theorem Fx.me_Run_lead (T : Fx K mg) : Meth K (He.ga K "Run") "lead" (He.ma K (He.ga K "Run") "lead") := He.meth_ok (T.says.fact 68 (f := .meth "Run" "lead") rfl)
theorem Fx.me_Run_step (T : Fx K mg) : Meth K (He.ga K "Run") "step" (He.ma K (He.ga K "Run") "step") := He.meth_ok (T.says.fact 69 (f := .meth "Run" "step") rfl)
theorem Fx.no_Frame_called_at (T : Fx K mg) : NoAttr K (He.ga K "Frame") "called_at" := He.noat_ok (T.says.fact 70 (f := .noat "Frame" "called_at") rfl)
theorem Fx.no_Frame_things (T : Fx K mg) : NoAttr K (He.ga K "Frame") "things" := He.noat_ok (T.says.fact 71 (f := .noat "Frame" "things") rfl)
theorem Fx.no_Run_whole (T : Fx K mg) : NoAttr K (He.ga K "Run") "whole" := He.noat_ok (T.says.fact 72 (f := .noat "Run" "whole") rfl)
theorem Fx.no_Run_given (T : Fx K mg) : NoAttr K (He.ga K "Run") "given" := He.noat_ok (T.says.fact 73 (f := .noat "Run" "given") rfl)
theorem Fx.no_Run_used (T : Fx K mg) : NoAttr K (He.ga K "Run") "used" := He.noat_ok (T.says.fact 74 (f := .noat "Run" "used") rfl)
theorem Fx.no_Run_steps (T : Fx K mg) : NoAttr K (He.ga K "Run") "steps" := He.noat_ok (T.says.fact 75 (f := .noat "Run" "steps") rfl)
theorem Fx.no_Run_numbers (T : Fx K mg) : NoAttr K (He.ga K "Run") "numbers" := He.noat_ok (T.says.fact 76 (f := .noat "Run" "numbers") rfl)
theorem Fx.no_Run_leavings (T : Fx K mg) : NoAttr K (He.ga K "Run") "leavings" := He.noat_ok (T.says.fact 77 (f := .noat "Run" "leavings") rfl)
theorem Fx.no_Run_frames (T : Fx K mg) : NoAttr K (He.ga K "Run") "frames" := He.noat_ok (T.says.fact 78 (f := .noat "Run" "frames") rfl)
theorem Fx.no_Run_over_by (T : Fx K mg) : NoAttr K (He.ga K "Run") "over_by" := He.noat_ok (T.says.fact 79 (f := .noat "Run" "over_by") rfl)
theorem Fx.no_Run_place (T : Fx K mg) : NoAttr K (He.ga K "Run") "place" := He.noat_ok (T.says.fact 80 (f := .noat "Run" "place") rfl)
theorem Fx.isinstance_ (T : Fx K mg) : mg "isinstance" = none := by obtain ⟨h, X, G⟩ := T.ex; exact He.free_ok X G (T.says.fact 81 (f := .free "isinstance") rfl)
theorem Fx.int_ (T : Fx K mg) : mg "int" = none := by obtain ⟨h, X, G⟩ := T.ex; exact He.free_ok X G (T.says.fact 82 (f := .free "int") rfl)
theorem Fx.bool_ (T : Fx K mg) : mg "bool" = none := by obtain ⟨h, X, G⟩ := T.ex; exact He.free_ok X G (T.says.fact 83 (f := .free "bool") rfl)
theorem Fx.str_ (T : Fx K mg) : mg "str" = none := by obtain ⟨h, X, G⟩ := T.ex; exact He.free_ok X G (T.says.fact 84 (f := .free "str") rfl)
theorem Fx.tuple_ (T : Fx K mg) : mg "tuple" = none := by obtain ⟨h, X, G⟩ := T.ex; exact He.free_ok X G (T.says.fact 85 (f := .free "tuple") rfl)
theorem Fx.sorted_ (T : Fx K mg) : mg "sorted" = none := by obtain ⟨h, X, G⟩ := T.ex; exact He.free_ok X G (T.says.fact 86 (f := .free "sorted") rfl)
theorem Fx.set_ (T : Fx K mg) : mg "set" = none := by obtain ⟨h, X, G⟩ := T.ex; exact He.free_ok X G (T.says.fact 87 (f := .free "set") rfl)
theorem Fx.list_ (T : Fx K mg) : mg "list" = none := by obtain ⟨h, X, G⟩ := T.ex; exact He.free_ok X G (T.says.fact 88 (f := .free "list") rfl)
theorem Fx.zip_ (T : Fx K mg) : mg "zip" = none := by obtain ⟨h, X, G⟩ := T.ex; exact He.free_ok X G (T.says.fact 89 (f := .free "zip") rfl)
theorem Fx.reversed_ (T : Fx K mg) : mg "reversed" = none := by obtain ⟨h, X, G⟩ := T.ex; exact He.free_ok X G (T.says.fact 90 (f := .free "reversed") rfl)
theorem Fx.len_ (T : Fx K mg) : mg "len" = none := by obtain ⟨h, X, G⟩ := T.ex; exact He.free_ok X G (T.says.fact 91 (f := .free "len") rfl)
theorem Fx.range_ (T : Fx K mg) : mg "range" = none := by obtain ⟨h, X, G⟩ := T.ex; exact He.free_ok X G (T.says.fact 92 (f := .free "range") rfl)
theorem Fx.sum_ (T : Fx K mg) : mg "sum" = none := by obtain ⟨h, X, G⟩ := T.ex; exact He.free_ok X G (T.says.fact 93 (f := .free "sum") rfl)
theorem Fx.enumerate_ (T : Fx K mg) : mg "enumerate" = none := by obtain ⟨h, X, G⟩ := T.ex; exact He.free_ok X G (T.says.fact 94 (f := .free "enumerate") rfl)
theorem Fx.min_ (T : Fx K mg) : mg "min" = none := by obtain ⟨h, X, G⟩ := T.ex; exact He.free_ok X G (T.says.fact 95 (f := .free "min") rfl)
theorem Fx.dict_ (T : Fx K mg) : mg "dict" = none := by obtain ⟨h, X, G⟩ := T.ex; exact He.free_ok X G (T.says.fact 96 (f := .free "dict") rfl)
theorem Fx.f_first_name (T : Fx K mg) : ∃ fd, FunD K "first_name" "first_name" (defArgs s_first_name) (defBody s_first_name) (defScope s_first_name) [] [] (He.ga K "first_name") fd := T.says.def_ 0 (d := d_first_name) rfl
theorem Fx.f_in_record (T : Fx K mg) : ∃ fd, FunD K "in_record" "in_record" (defArgs s_in_record) (defBody s_in_record) (defScope s_in_record) [] [] (He.ga K "in_record") fd := T.says.def_ 1 (d := d_in_record) rfl
theorem Fx.f_rows_in (T : Fx K mg) : ∃ fd, FunD K "rows_in" "rows_in" (defArgs s_rows_in) (defBody s_rows_in) (defScope s_rows_in) [] [] (He.ga K "rows_in") fd := T.says.def_ 2 (d := d_rows_in) rfl
theorem Fx.f_def_of (T : Fx K mg) : ∃ fd, FunD K "def_of" "def_of" (defArgs s_def_of) (defBody s_def_of) (defScope s_def_of) [] [] (He.ga K "def_of") fd := T.says.def_ 3 (d := d_def_of) rfl
theorem Fx.f_row_of (T : Fx K mg) : ∃ fd, FunD K "row_of" "row_of" (defArgs s_row_of) (defBody s_row_of) (defScope s_row_of) [] [] (He.ga K "row_of") fd := T.says.def_ 4 (d := d_row_of) rfl
theorem Fx.f_words_along (T : Fx K mg) : ∃ fd, FunD K "words_along" "words_along" (defArgs s_words_along) (defBody s_words_along) (defScope s_words_along) [] [] (He.ga K "words_along") fd := T.says.def_ 5 (d := d_words_along) rfl
theorem Fx.f_word_at (T : Fx K mg) : ∃ fd, FunD K "word_at" "word_at" (defArgs s_word_at) (defBody s_word_at) (defScope s_word_at) [] [] (He.ga K "word_at") fd := T.says.def_ 6 (d := d_word_at) rfl
theorem Fx.f_behind (T : Fx K mg) : ∃ fd, FunD K "behind" "behind" (defArgs s_behind) (defBody s_behind) (defScope s_behind) [] [] (He.ga K "behind") fd := T.says.def_ 7 (d := d_behind) rfl
theorem Fx.f_first_place (T : Fx K mg) : ∃ fd, FunD K "first_place" "first_place" (defArgs s_first_place) (defBody s_first_place) (defScope s_first_place) [] [] (He.ga K "first_place") fd := T.says.def_ 8 (d := d_first_place) rfl
theorem Fx.f_inside (T : Fx K mg) : ∃ fd, FunD K "inside" "inside" (defArgs s_inside) (defBody s_inside) (defScope s_inside) [] [] (He.ga K "inside") fd := T.says.def_ 9 (d := d_inside) rfl
theorem Fx.f_out_of (T : Fx K mg) : ∃ fd, FunD K "out_of" "out_of" (defArgs s_out_of) (defBody s_out_of) (defScope s_out_of) [] [] (He.ga K "out_of") fd := T.says.def_ 10 (d := d_out_of) rfl
theorem Fx.f_is_answer (T : Fx K mg) : ∃ fd, FunD K "is_answer" "is_answer" (defArgs s_is_answer) (defBody s_is_answer) (defScope s_is_answer) [] [] (He.ga K "is_answer") fd := T.says.def_ 11 (d := d_is_answer) rfl
theorem Fx.f_both (T : Fx K mg) : ∃ fd, FunD K "both" "both" (defArgs s_both) (defBody s_both) (defScope s_both) [] [] (He.ga K "both") fd := T.says.def_ 12 (d := d_both) rfl
theorem Fx.f_run (T : Fx K mg) : ∃ fd, FunD K "run" "run" (defArgs s_run) (defBody s_run) (defScope s_run) [] [] (He.ga K "run") fd := T.says.def_ 13 (d := d_run) rfl
theorem Fx.f_law_deck (T : Fx K mg) : ∃ fd, FunD K "_law_deck" "_law_deck" (defArgs s_law_deck) (defBody s_law_deck) (defScope s_law_deck) [] [] (He.ga K "_law_deck") fd := T.says.def_ 14 (d := d_law_deck) rfl
theorem Fx.f_law_draw (T : Fx K mg) : ∃ fd, FunD K "_law_draw" "_law_draw" (defArgs s_law_draw) (defBody s_law_draw) (defScope s_law_draw) [] [] (He.ga K "_law_draw") fd := T.says.def_ 15 (d := d_law_draw) rfl
theorem Fx.f_law_some (T : Fx K mg) : ∃ fd, FunD K "_law_some" "_law_some" (defArgs s_law_some) (defBody s_law_some) (defScope s_law_some) [] [] (He.ga K "_law_some") fd := T.says.def_ 16 (d := d_law_some) rfl
theorem Fx.f_law_names (T : Fx K mg) : ∃ fd, FunD K "_law_names" "_law_names" (defArgs s_law_names) (defBody s_law_names) (defScope s_law_names) [] [] (He.ga K "_law_names") fd := T.says.def_ 17 (d := d_law_names) rfl
theorem Fx.f_law_boxes (T : Fx K mg) : ∃ fd, FunD K "_law_boxes" "_law_boxes" (defArgs s_law_boxes) (defBody s_law_boxes) (defScope s_law_boxes) [] [] (He.ga K "_law_boxes") fd := T.says.def_ 18 (d := d_law_boxes) rfl
theorem Fx.f_law_one_of (T : Fx K mg) : ∃ fd, FunD K "_law_one_of" "_law_one_of" (defArgs s_law_one_of) (defBody s_law_one_of) (defScope s_law_one_of) [] [] (He.ga K "_law_one_of") fd := T.says.def_ 19 (d := d_law_one_of) rfl
theorem Fx.f_law_picked (T : Fx K mg) : ∃ fd, FunD K "_law_picked" "_law_picked" (defArgs s_law_picked) (defBody s_law_picked) (defScope s_law_picked) [] [] (He.ga K "_law_picked") fd := T.says.def_ 20 (d := d_law_picked) rfl
theorem Fx.f_law_plain (T : Fx K mg) : ∃ fd, FunD K "_law_plain" "_law_plain" (defArgs s_law_plain) (defBody s_law_plain) (defScope s_law_plain) [] [] (He.ga K "_law_plain") fd := T.says.def_ 21 (d := d_law_plain) rfl
theorem Fx.f_law_leading (T : Fx K mg) : ∃ fd, FunD K "_law_leading" "_law_leading" (defArgs s_law_leading) (defBody s_law_leading) (defScope s_law_leading) [] [] (He.ga K "_law_leading") fd := T.says.def_ 22 (d := d_law_leading) rfl
theorem Fx.f_law_grown (T : Fx K mg) : ∃ fd, FunD K "_law_grown" "_law_grown" (defArgs s_law_grown) (defBody s_law_grown) (defScope s_law_grown) [] [] (He.ga K "_law_grown") fd := T.says.def_ 23 (d := d_law_grown) rfl
theorem Fx.f_law_program (T : Fx K mg) : ∃ fd, FunD K "_law_program" "_law_program" (defArgs s_law_program) (defBody s_law_program) (defScope s_law_program) [] [] (He.ga K "_law_program") fd := T.says.def_ 24 (d := d_law_program) rfl
theorem Fx.f_law_row (T : Fx K mg) : ∃ fd, FunD K "_law_row" "_law_row" (defArgs s_law_row) (defBody s_law_row) (defScope s_law_row) [] [] (He.ga K "_law_row") fd := T.says.def_ 25 (d := d_law_row) rfl
theorem Fx.f_law_word (T : Fx K mg) : ∃ fd, FunD K "_law_word" "_law_word" (defArgs s_law_word) (defBody s_law_word) (defScope s_law_word) [] [] (He.ga K "_law_word") fd := T.says.def_ 26 (d := d_law_word) rfl
theorem Fx.f_law_after (T : Fx K mg) : ∃ fd, FunD K "_law_after" "_law_after" (defArgs s_law_after) (defBody s_law_after) (defScope s_law_after) [] [] (He.ga K "_law_after") fd := T.says.def_ 27 (d := d_law_after) rfl
theorem Fx.f_law_into (T : Fx K mg) : ∃ fd, FunD K "_law_into" "_law_into" (defArgs s_law_into) (defBody s_law_into) (defScope s_law_into) [] [] (He.ga K "_law_into") fd := T.says.def_ 28 (d := d_law_into) rfl
theorem Fx.f_law_out (T : Fx K mg) : ∃ fd, FunD K "_law_out" "_law_out" (defArgs s_law_out) (defBody s_law_out) (defScope s_law_out) [] [] (He.ga K "_law_out") fd := T.says.def_ 29 (d := d_law_out) rfl
theorem Fx.f_law_leave (T : Fx K mg) : ∃ fd, FunD K "_law_leave" "_law_leave" (defArgs s_law_leave) (defBody s_law_leave) (defScope s_law_leave) [] [] (He.ga K "_law_leave") fd := T.says.def_ 30 (d := d_law_leave) rfl
theorem Fx.f_law_end_def (T : Fx K mg) : ∃ fd, FunD K "_law_end_def" "_law_end_def" (defArgs s_law_end_def) (defBody s_law_end_def) (defScope s_law_end_def) [] [] (He.ga K "_law_end_def") fd := T.says.def_ 31 (d := d_law_end_def) rfl
theorem Fx.f_law_arrive (T : Fx K mg) : ∃ fd, FunD K "_law_arrive" "_law_arrive" (defArgs s_law_arrive) (defBody s_law_arrive) (defScope s_law_arrive) [] [] (He.ga K "_law_arrive") fd := T.says.def_ 32 (d := d_law_arrive) rfl
theorem Fx.f_law_fall (T : Fx K mg) : ∃ fd, FunD K "_law_fall" "_law_fall" (defArgs s_law_fall) (defBody s_law_fall) (defScope s_law_fall) [] [] (He.ga K "_law_fall") fd := T.says.def_ 33 (d := d_law_fall) rfl
theorem Fx.f_law_wanted (T : Fx K mg) : ∃ fd, FunD K "_law_wanted" "_law_wanted" (defArgs s_law_wanted) (defBody s_law_wanted) (defScope s_law_wanted) [] [] (He.ga K "_law_wanted") fd := T.says.def_ 34 (d := d_law_wanted) rfl
theorem Fx.f_law_things (T : Fx K mg) : ∃ fd, FunD K "_law_things" "_law_things" (defArgs s_law_things) (defBody s_law_things) (defScope s_law_things) [] [] (He.ga K "_law_things") fd := T.says.def_ 35 (d := d_law_things) rfl
theorem Fx.f_law_step (T : Fx K mg) : ∃ fd, FunD K "_law_step" "_law_step" (defArgs s_law_step) (defBody s_law_step) (defScope s_law_step) [] [] (He.ga K "_law_step") fd := T.says.def_ 36 (d := d_law_step) rfl
theorem Fx.f_law_started (T : Fx K mg) : ∃ fd, FunD K "_law_started" "_law_started" (defArgs s_law_started) (defBody s_law_started) (defScope s_law_started) [] [] (He.ga K "_law_started") fd := T.says.def_ 37 (d := d_law_started) rfl
theorem Fx.f_law_played (T : Fx K mg) : ∃ fd, FunD K "_law_played" "_law_played" (defArgs s_law_played) (defBody s_law_played) (defScope s_law_played) [] [] (He.ga K "_law_played") fd := T.says.def_ 38 (d := d_law_played) rfl
theorem Fx.f_law_boxed (T : Fx K mg) : ∃ fd, FunD K "_law_boxed" "_law_boxed" (defArgs s_law_boxed) (defBody s_law_boxed) (defScope s_law_boxed) [] [] (He.ga K "_law_boxed") fd := T.says.def_ 39 (d := d_law_boxed) rfl
theorem Fx.f_law_box (T : Fx K mg) : ∃ fd, FunD K "_law_box" "_law_box" (defArgs s_law_box) (defBody s_law_box) (defScope s_law_box) [] [] (He.ga K "_law_box") fd := T.says.def_ 40 (d := d_law_box) rfl
theorem Fx.f_law_row_anew (T : Fx K mg) : ∃ fd, FunD K "_law_row_anew" "_law_row_anew" (defArgs s_law_row_anew) (defBody s_law_row_anew) (defScope s_law_row_anew) [] [] (He.ga K "_law_row_anew") fd := T.says.def_ 41 (d := d_law_row_anew) rfl
theorem Fx.f_law_place (T : Fx K mg) : ∃ fd, FunD K "_law_place" "_law_place" (defArgs s_law_place) (defBody s_law_place) (defScope s_law_place) [] [] (He.ga K "_law_place") fd := T.says.def_ 42 (d := d_law_place) rfl
theorem Fx.f_law_left (T : Fx K mg) : ∃ fd, FunD K "_law_left" "_law_left" (defArgs s_law_left) (defBody s_law_left) (defScope s_law_left) [] [] (He.ga K "_law_left") fd := T.says.def_ 43 (d := d_law_left) rfl
theorem Fx.f_law_called_anew (T : Fx K mg) : ∃ fd, FunD K "_law_called_anew" "_law_called_anew" (defArgs s_law_called_anew) (defBody s_law_called_anew) (defScope s_law_called_anew) [] [] (He.ga K "_law_called_anew") fd := T.says.def_ 44 (d := d_law_called_anew) rfl
theorem Fx.f_law_numberless (T : Fx K mg) : ∃ fd, FunD K "_law_numberless" "_law_numberless" (defArgs s_law_numberless) (defBody s_law_numberless) (defScope s_law_numberless) [] [] (He.ga K "_law_numberless") fd := T.says.def_ 45 (d := d_law_numberless) rfl
theorem Fx.f_law (T : Fx K mg) : ∃ fd, FunD K "law" "law" (defArgs s_law) (defBody s_law) (defScope s_law) [] [] (He.ga K "law") fd := T.says.def_ 46 (d := d_law) rfl
theorem Fx.f_Frame_init (T : Fx K mg) : ∃ fd, FunD K "__init__" "Frame.__init__" (defArgs m_Frame_init) (defBody m_Frame_init) (defScope m_Frame_init) [] [] (He.ma K (He.ga K "Frame") "__init__") fd := T.says.def_ 47 (d := d_Frame_init) rfl
theorem Fx.f_Frame_look (T : Fx K mg) : ∃ fd, FunD K "look" "Frame.look" (defArgs m_Frame_look) (defBody m_Frame_look) (defScope m_Frame_look) [] [] (He.ma K (He.ga K "Frame") "look") fd := T.says.def_ 48 (d := d_Frame_look) rfl
theorem Fx.f_Frame_put (T : Fx K mg) : ∃ fd, FunD K "put" "Frame.put" (defArgs m_Frame_put) (defBody m_Frame_put) (defScope m_Frame_put) [] [] (He.ma K (He.ga K "Frame") "put") fd := T.says.def_ 49 (d := d_Frame_put) rfl
theorem Fx.f_Frame_empty (T : Fx K mg) : ∃ fd, FunD K "empty" "Frame.empty" (defArgs m_Frame_empty) (defBody m_Frame_empty) (defScope m_Frame_empty) [] [] (He.ma K (He.ga K "Frame") "empty") fd := T.says.def_ 50 (d := d_Frame_empty) rfl
theorem Fx.f_Frame_kept_here (T : Fx K mg) : ∃ fd, FunD K "kept_here" "Frame.kept_here" (defArgs m_Frame_kept_here) (defBody m_Frame_kept_here) (defScope m_Frame_kept_here) [] [] (He.ma K (He.ga K "Frame") "kept_here") fd := T.says.def_ 51 (d := d_Frame_kept_here) rfl
theorem Fx.f_Frame_shown (T : Fx K mg) : ∃ fd, FunD K "shown" "Frame.shown" (defArgs m_Frame_shown) (defBody m_Frame_shown) (defScope m_Frame_shown) [] [] (He.ma K (He.ga K "Frame") "shown") fd := T.says.def_ 52 (d := d_Frame_shown) rfl
theorem Fx.f_Run_init (T : Fx K mg) : ∃ fd, FunD K "__init__" "Run.__init__" (defArgs m_Run_init) (defBody m_Run_init) (defScope m_Run_init) [] [] (He.ma K (He.ga K "Run") "__init__") fd := T.says.def_ 53 (d := d_Run_init) rfl
theorem Fx.f_Run_come_to (T : Fx K mg) : ∃ fd, FunD K "come_to" "Run.come_to" (defArgs m_Run_come_to) (defBody m_Run_come_to) (defScope m_Run_come_to) [] [] (He.ma K (He.ga K "Run") "come_to") fd := T.says.def_ 54 (d := d_Run_come_to) rfl
theorem Fx.f_Run_go_back (T : Fx K mg) : ∃ fd, FunD K "go_back" "Run.go_back" (defArgs m_Run_go_back) (defBody m_Run_go_back) (defScope m_Run_go_back) [] [] (He.ma K (He.ga K "Run") "go_back") fd := T.says.def_ 55 (d := d_Run_go_back) rfl
theorem Fx.f_Run_fall (T : Fx K mg) : ∃ fd, FunD K "fall" "Run.fall" (defArgs m_Run_fall) (defBody m_Run_fall) (defScope m_Run_fall) [] [] (He.ma K (He.ga K "Run") "fall") fd := T.says.def_ 56 (d := d_Run_fall) rfl
theorem Fx.f_Run_answer (T : Fx K mg) : ∃ fd, FunD K "answer" "Run.answer" (defArgs m_Run_answer) (defBody m_Run_answer) (defScope m_Run_answer) [] [] (He.ma K (He.ga K "Run") "answer") fd := T.says.def_ 57 (d := d_Run_answer) rfl
theorem Fx.f_Run_wants (T : Fx K mg) : ∃ fd, FunD K "wants" "Run.wants" (defArgs m_Run_wants) (defBody m_Run_wants) (defScope m_Run_wants) [] [] (He.ma K (He.ga K "Run") "wants") fd := T.says.def_ 58 (d := d_Run_wants) rfl
theorem Fx.f_Run_change (T : Fx K mg) : ∃ fd, FunD K "change" "Run.change" (defArgs m_Run_change) (defBody m_Run_change) (defScope m_Run_change) [] [] (He.ma K (He.ga K "Run") "change") fd := T.says.def_ 59 (d := d_Run_change) rfl
theorem Fx.f_Run_take_away (T : Fx K mg) : ∃ fd, FunD K "take_away" "Run.take_away" (defArgs m_Run_take_away) (defBody m_Run_take_away) (defScope m_Run_take_away) [] [] (He.ma K (He.ga K "Run") "take_away") fd := T.says.def_ 60 (d := d_Run_take_away) rfl
theorem Fx.f_Run_call (T : Fx K mg) : ∃ fd, FunD K "call" "Run.call" (defArgs m_Run_call) (defBody m_Run_call) (defScope m_Run_call) [] [] (He.ma K (He.ga K "Run") "call") fd := T.says.def_ 61 (d := d_Run_call) rfl
theorem Fx.f_Run_lead (T : Fx K mg) : ∃ fd, FunD K "lead" "Run.lead" (defArgs m_Run_lead) (defBody m_Run_lead) (defScope m_Run_lead) [] [] (He.ma K (He.ga K "Run") "lead") fd := T.says.def_ 62 (d := d_Run_lead) rfl
theorem Fx.f_Run_step (T : Fx K mg) : ∃ fd, FunD K "step" "Run.step" (defArgs m_Run_step) (defBody m_Run_step) (defScope m_Run_step) [] [] (He.ma K (He.ga K "Run") "step") fd := T.says.def_ 63 (d := d_Run_step) rfl
end
end K16

set_option Elab.async false
set_option linter.all false
set_option maxRecDepth 100000
set_option maxHeartbeats 0
namespace K16
open PySem PySem.Spec PyProof.Rows L2
/-! ### the head's run -/
abbrev R : PySem.W.OpenRow := PySem.W.OpenLaw.row PySem.Challenge.rw_wipeways_k16_whole_runs_alike
abbrev hk : PySem.W.Hook := He.hookD 4 fa fn
def ob (s : PySem.W.SharedT) : He.AlD := He.obsDG 4 fa fn (HandSHeadRun.getT s)
theorem ob_eq (s : PySem.W.SharedT) : ob s = hk.obs s.abs := He.obsDG_eq (HandSHeadRun.getT_eq s)
def loose0 : List PySem.Str := ["first_name", "in_record", "rows_in", "def_of", "row_of", "words_along", "word_at", "behind", "first_place", "inside", "out_of", "is_answer", "both", "run", "_law_deck", "_law_draw", "_law_some", "_law_names", "_law_boxes", "_law_one_of", "_law_picked", "_law_plain", "_law_leading", "_law_grown", "_law_program", "_law_row", "_law_word", "_law_after", "_law_into", "_law_out"]
def loose1 : List PySem.Str := ["_law_leave", "_law_end_def", "_law_arrive", "_law_fall", "_law_wanted", "_law_things", "_law_step", "_law_started", "_law_played", "_law_boxed", "_law_box", "_law_row_anew", "_law_place", "_law_left", "_law_called_anew", "_law_numberless", "WipeError", "NoAnswer", "NUMBERS", "REST", "Frame", "Run"]
def loose : List PySem.Str := loose0 ++ loose1
theorem run (w : World) : HandSHeadRun.RunEq R (PySem.W.view R.prog [58]) hk ob 4000 loose w := by
  intro os
  kernel_rfl
end K16

set_option linter.all false
/-! KMach: the tongue as plain data, places, the machine over an algebra of held things (no program in sight) -/
namespace K16
open PySem
inductive Word where
  | take (x w : Str) | ask (x : Str) | num (x : Str) (n : Int) | copy (x y : Str) | mix (x y z : Str) | opn (x y : Str)
  | tell (x : Str) | wipe (x : Str) | clear (r : Str) | drop (bs : List Str)
  | choose (rows : List (List Word)) | loop (row : List Word) | out (n : Nat)
  | risk (f : Str) | fault (f : Str) | call (d : Str) (args gets : List Str) | back
abbrev Row := List Word
structure Def where
  name : Str
  params : List Str
  results : List Str
  row : Row
structure Prog where
  defs : List Def
  main : Row
/-- a place: the row's name, the way down to the row (innermost first: number of the word, number of the row in it), the number in it -/
structure Place where
  nm : Str
  path : List (Nat × Nat)
  at_ : Nat
  deriving DecidableEq
def rowsIn : Word → List Row
  | .choose rs => rs
  | .loop r => [r]
  | _ => []
def isLoop : Word → Bool
  | .loop _ => true
  | _ => false
def defOf (p : Prog) (d : Str) : Option Def := p.defs.find? fun D => decide (D.name = d)
def rowOf (p : Prog) (nm : Str) : Option Row := if nm = (Str.empty) then some p.main else (defOf p nm).map (·.row)
def rowP (R : Row) : List (Nat × Nat) → Option Row
  | [] => some R
  | (n, c) :: ps => (rowP R ps).bind fun r => (r[n]?).bind fun w => (rowsIn w)[c]?
def rowAt (p : Prog) (nm : Str) (path : List (Nat × Nat)) : Option Row := (rowOf p nm).bind fun R => rowP R path
/-- the word at a place: none: no such place; some none: its row's end -/
def wordR (r : Row) (n : Nat) : Option (Option Word) := if n = r.length then some none else (r[n]?).map some
def wordAt (p : Prog) (pl : Place) : Option (Option Word) := (rowAt p pl.nm pl.path).bind fun r => wordR r pl.at_
def behindG (p : Prog) (nm : Str) : List (Nat × Nat) → Nat → Option Place
  | [], n => (rowAt p nm []).map fun _ => ⟨nm, [], n + 1⟩
  | (m, c) :: ps, n => (rowAt p nm ((m, c) :: ps)).bind fun r =>
    if n + 1 < r.length then some ⟨nm, (m, c) :: ps, n + 1⟩
    else match wordAt p ⟨nm, ps, m⟩ with
      | some (some w) => if isLoop w then some ⟨nm, ps, m⟩ else behindG p nm ps m
      | _ => none
def behind (p : Prog) (pl : Place) : Option Place := behindG p pl.nm pl.path pl.at_
def inside (p : Prog) (pl : Place) (c : Nat) : Option Place :=
  match wordAt p pl with
  | some (some w) => (rowsIn w)[c]?.bind fun r =>
    if r ≠ [] then some ⟨pl.nm, (pl.at_, c) :: pl.path, 0⟩ else if isLoop w then some pl else behind p pl
  | _ => none
/-- from the place around: n more loops to leave (1 or more) -/
def outG (p : Prog) (nm : Str) : List (Nat × Nat) → Nat → Nat → Option Place
  | ps, m, n => match wordAt p ⟨nm, ps, m⟩ with
    | some (some w) =>
      let n' := if isLoop w then n - 1 else n
      if n' = 0 then behindG p nm ps m else match ps with
        | [] => none
        | (m', _) :: ps' => outG p nm ps' m' n'
    | _ => none
def outOf (p : Prog) (pl : Place) (n : Nat) : Option Place := match pl.path with
  | [] => none
  | (m, _) :: ps => outG p pl.nm ps m n

/-! ### the machine -/
inductive Over where
  | ended
  | fault (f : Str)
  deriving DecidableEq
structure Alg where
  T : Type
  L : Type
  plain : Place → Word → Option Int → T → L → Option (T × L)
  hand : List Str → List Str → T → Option (T × T)
  home : Place → List Str → List Str → T → T → L → Option (T × L)
  leave : Place → T → L → Option L
structure MS (A : Alg) where
  used : Nat
  steps : Nat
  place : Place
  frames : List (Option Place × A.T)
  log : A.L
  over : Option Over
section
variable {A : Alg}
def goBack (p : Prog) (s : MS A) : Option (MS A) := match s.frames with
  | [] => none
  | [(_, t)] => (A.leave s.place t s.log).map fun l => { s with frames := [], log := l, over := some .ended }
  | (cp, t) :: (cp', t') :: rest => match cp with
    | none => none
    | some c => match wordAt p c with
      | some (some (.call d _ gets)) => (defOf p d).bind fun D => (A.home s.place D.results gets t t' s.log).bind fun (t2, l) =>
        (behind p c).map fun pl => { s with frames := (cp', t2) :: rest, log := l, place := pl }
      | _ => none
def settle (p : Prog) : Nat → MS A → Option (MS A)
  | 0, _ => none
  | k + 1, s => if s.over.isSome then some s else match wordAt p s.place with
    | none => none
    | some (some _) => some s
    | some none => (goBack p s).bind (settle p k)
def comeTo (p : Prog) (s : MS A) (pl : Place) : Option (MS A) := settle p (s.frames.length + 1) { s with place := pl }
def leaveAll : Place → List (Option Place × A.T) → A.L → Option A.L
  | _, [], l => some l
  | pl, (cp, t) :: rest, l => (A.leave pl t l).bind fun l' => match rest, cp with
    | [], _ => some l'
    | _ :: _, none => none
    | _ :: _, some c => leaveAll c rest l'
def fall (s : MS A) (f : Str) : Option (MS A) := (leaveAll s.place s.frames s.log).map fun l => { s with log := l, over := some (.fault f) }
/-- how many answers a word may be given, where it wants one -/
def need : Word → Option Nat
  | .take _ _ => some 10000
  | .ask _ => some 10000
  | .choose rs => some rs.length
  | .risk _ => some 2
  | _ => none
def stepW (p : Prog) (s : MS A) (w : Word) (a : Option Int) : Option (MS A) := match w with
  | .choose _ => a.bind fun v => (inside p s.place v.toNat).bind (comeTo p s)
  | .loop _ => (inside p s.place 0).bind (comeTo p s)
  | .out n => if n = 0 then none else (outOf p s.place n).bind (comeTo p s)
  | .call d args _ => (defOf p d).bind fun D => match s.frames with
    | [] => none
    | (cp, t) :: rest => if 1000 ≤ rest.length then none else (A.hand args D.params t).bind fun (fr, t') => comeTo p { s with frames := (some s.place, fr) :: (cp, t') :: rest } ⟨d, [], 0⟩
  | .fault f => fall s f
  | .risk f => a.bind fun v => if v = 1 then fall s f else (behind p s.place).bind (comeTo p s)
  | .back => (goBack p s).bind fun s' => if s'.over.isSome then some s' else comeTo p s' s'.place
  | w => match s.frames with
    | [] => none
    | (cp, t) :: rest => (A.plain s.place w a t s.log).bind fun (t', l) => (behind p s.place).bind (comeTo p { s with frames := (cp, t') :: rest, log := l })
def tick (s : MS A) : MS A := { s with steps := s.steps + 1 }
def step (p : Prog) (given : List Int) (s : MS A) : Option (MS A) := match wordAt p s.place with
  | some (some w) => (match need w with
    | none => stepW p s w none
    | some m => given[s.used]?.bind fun v => if 0 ≤ v ∧ v < (m : Int) then stepW p { s with used := s.used + 1 } w (some v) else none).map tick
  | _ => none
/-- at most k steps -/
def runs (p : Prog) (given : List Int) : Nat → MS A → Option (MS A)
  | 0, s => some s
  | k + 1, s => if s.over.isSome then some s else match wordAt p s.place with
    | some (some w) => if (need w).isSome ∧ s.used = given.length then some s else (step p given s).bind (runs p given k)
    | _ => none
def start (p : Prog) (t0 : A.T) (l0 : A.L) : Option (MS A) := comeTo p { used := 0, steps := 0, place := ⟨Str.empty, [], 0⟩, frames := [(none, t0)], log := l0, over := none } ⟨Str.empty, [], 0⟩
end

/-! ### what is held -/
abbrev Thing := Int × List Str
abbrev Things := Str → Thing
def none0 : Thing := (0, [])
def empty0 : Things := fun _ => none0
def put (t : Things) (b : Str) (v : Thing) : Things := fun c => if c = b then v else t c
def wipeAll (t : Things) (bs : List Str) : Things := fun c => if c ∈ bs then none0 else t c
structure Leav where
  place : Place
  box : Str
  worths : List Str
  deriving DecidableEq
/-- the boxes and the worths of a program, both rising -/
structure Env where
  Bs : List Str
  Ws : List Str
def kept (E : Env) (pl : Place) (t : Things) : List Leav := E.Bs.filterMap fun b => if (t b).2 = [] then none else some ⟨pl, b, (t b).2⟩
def shown (E : Env) (t : Things) : List (Str × Thing) := E.Bs.filterMap fun b => if t b = none0 then none else some (b, t b)
/-- a box of the record r: two names with a dot between, the first of them r -/
def dot : Nat := 46
def firstName (b : Str) : Str := ⟨(b.cps.toList.takeWhile fun c => decide (c ≠ dot)).toArray⟩
def inRecord (b r : Str) : Bool := decide (dot ∈ b.cps.toList) && decide (firstName b = r)
def both (E : Env) (a b : List Str) : List Str := E.Ws.filter fun w => decide (w ∈ a ∨ w ∈ b)
def lineMax : Nat := 100000
abbrev Log := List Int × List Leav
def Log.ok (l : Log) : Bool := decide (l.1.length ≤ lineMax) && decide (l.2.length ≤ lineMax)
def boxesOk (E : Env) : Word → Bool
  | .take x w => decide (x ∈ E.Bs) && decide (w ∈ E.Ws)
  | .ask x => decide (x ∈ E.Bs)
  | .num x _ => decide (x ∈ E.Bs)
  | .copy x y => decide (x ∈ E.Bs) && decide (y ∈ E.Bs)
  | .mix x y z => decide (x ∈ E.Bs) && (decide (y ∈ E.Bs) && decide (z ∈ E.Bs))
  | .opn x y => decide (x ∈ E.Bs) && decide (y ∈ E.Bs)
  | .tell x => decide (x ∈ E.Bs)
  | .wipe x => decide (x ∈ E.Bs)
  | .drop bs => bs.all (fun b => decide (b ∈ E.Bs)) && decide (bs.length ≤ 20)
  | _ => true
def worthsOk (E : Env) (a b : List Str) : Bool := (a.all fun w => decide (w ∈ E.Ws)) && ((b.all fun w => decide (w ∈ E.Ws)) && decide (a.length + b.length < 60))
def plainT (E : Env) (w : Word) (a : Option Int) (t : Things) : Option Things := match w with
  | .take x u => a.map fun v => put t x (v, [u])
  | .ask x => a.map fun v => put t x (v, [])
  | .num x n => some (put t x (n, []))
  | .copy x y => some (put t x (t y))
  | .mix x y z => if worthsOk E (t y).2 (t z).2 then some (put t x (((t y).1 + 2 * (t z).1) % 10007, both E (t y).2 (t z).2)) else none
  | .opn x y => some (put t x ((t y).1 % 2, []))
  | .tell _ => some t
  | .wipe x => some (wipeAll t [x])
  | .clear r => some fun c => if inRecord c r then none0 else t c
  | .drop bs => some (wipeAll t bs)
  | _ => none
def plainL (E : Env) (pl : Place) (w : Word) (t : Things) (l : Log) : Log := match w with
  | .tell x => (l.1 ++ [(t x).1], l.2)
  | .drop bs => (l.1, l.2 ++ kept E pl (fun c => if c ∈ bs then t c else none0))
  | _ => l
def okLog (l : Log) : Option Log := if l.ok then some l else none
def subsetB (E : Env) (bs : List Str) : Bool := (bs.all fun b => decide (b ∈ E.Bs)) && decide (bs.length ≤ 20)
@[reducible] def full (E : Env) : Alg where
  T := Things
  L := Log
  plain := fun pl w a t l => if boxesOk E w then (plainT E w a t).bind fun t' => (okLog (plainL E pl w t l)).map fun l' => (t', l') else none
  hand := fun args params t => if subsetB E args && (subsetB E params && decide (args.length = params.length)) then some ((args.zip params).foldl (fun fr ap => put fr ap.2 (t ap.1)) empty0, wipeAll t args) else none
  home := fun pl results gets t t' l => if subsetB E results && (subsetB E gets && decide (gets.length = results.length)) then
      (okLog (l.1, l.2 ++ kept E pl (wipeAll t results))).map fun l' => ((gets.zip (results.map t)).foldl (fun g bt => put g bt.1 bt.2) t', l') else none
  leave := fun pl t l => okLog (l.1, l.2 ++ kept E pl t)
/-- how a run is told -/
inductive Res where
  | ended (steps : Nat) (told : List Int) (left : List Leav)
  | fault (f : Str) (steps : Nat) (told : List Int) (left : List Leav)
  | on (pl : Place) (steps : Nat) (told : List Int) (left : List Leav) (held : List (Str × Thing))
def told (E : Env) (s : MS (full E)) : Option Res := match s.over with
  | some .ended => some (.ended s.steps s.log.1 s.log.2)
  | some (.fault f) => some (.fault f s.steps s.log.1 s.log.2)
  | none => match s.frames with
    | [] => none
    | (_, t) :: _ => some (.on s.place s.steps s.log.1 s.log.2 (shown E t))
def runM (E : Env) (p : Prog) (given : List Int) (most : Nat) : Option Res :=
  (start (A := full E) p empty0 ([], [])).bind fun s => (runs p given most s).bind (told E)
end K16

set_option Elab.async false
set_option linter.all false
set_option maxRecDepth 100000
set_option maxHeartbeats 4000000
/-! KMisc: small rules of our own: a list against [], a text times 0 or 1, 'a' + x.replace(y, z), a tuple times 0 or 1 -/
namespace K16
open PySem PySem.Spec PyProof.Rows L2
section
variable {X : Cx}
/-- xs == [] -/
def rEqNil : R2 := fun x y H Q => ∃ a b xs, x = .ref a ∧ y = .ref b ∧ H a = some (.lst xs) ∧ H b = some (.lst []) ∧ Q (.bl xs.isEmpty) H
theorem op_eqNil (hu : X.A.units < cLine) : OpR X (compareOp .Eq) rEqNil := by
  intro pins s σ H x y v u Q I rx ry h
  obtain ⟨a, b, xs, rfl, rfl, ha, hb, q⟩ := h
  cases rx
  cases ry
  obtain ⟨us, r1, p1, _⟩ := I.list (.inl (.inl ha))
  obtain ⟨ws, r2, p2, _⟩ := I.list (.inl (.inl hb))
  cases r2
  have fin : ∀ k : Bool, xs.isEmpty = k → EP X pins σ Q (.bool k) s := fun k e => ⟨.bl k, H, I, rfl, e ▸ q⟩
  cases xs with
  | nil =>
    cases r1
    exact PySem.SeqAt.eq_listAt (e := fun _ => true) p1.isList p2.isList rfl hu (fun j h1 => absurd h1 (Nat.not_lt_zero j)) (fin true rfl)
  | cons c cs =>
    cases r1
    exact PySem.SeqAt.eq_list_lengthsAt p1.isList p2.isList rfl hu (fin false rfl)
/-- x * n, n 0 or 1 -/
def rMulS : R2 := fun x y H Q => ∃ (z : Str) (n : Int), x = .str z ∧ y = .int n ∧ (n = 0 ∨ n = 1) ∧ Q (.str (if n = 1 then z else Str.empty)) H
theorem op_mulS : OpR X (binaryOp .Mult) rMulS := by
  intro pins s σ H x y v u Q I rx ry h
  obtain ⟨z, n, rfl, rfl, hn, q⟩ := h
  obtain ⟨t, rfl⟩ := rx
  obtain ⟨t', rfl⟩ := ry
  have e1 : Txt.mul z n = if n = 1 then z else Str.empty := by
    rcases hn with rfl | rfl
    · rfl
    · simp [Txt.mul]
  rw [← e1] at q
  refine SB.mul ?_ fun t2 k => ⟨.str (Txt.mul z n), H, I.tok k, ⟨t2, rfl⟩, q⟩
  rcases hn with rfl | rfl
  · exact ⟨by decide, fun h => absurd (by decide) h, fun h => absurd (by decide) h⟩
  · exact ⟨by decide, fun _ h => absurd h (by simp), fun _ h => absurd h (by simp)⟩
/-- c + o.replace(y, z) -/
def tAddRepl (c y z : Str) (to : TE) : TE := fun σ H Q => CwR.tReplC to y z σ H fun u H1 => ∃ t, u = .str t ∧ c.length + t.length ≤ sizeLine ∧ Q (.str (c ++ t)) H1
theorem pe_addRepl {o : Expr} {to : TE} {c y z : Str} {j0 j1 j2 : Nat} {c0 c1 c2 apos pos p : Pos} (ho : PE X o to) (hyz : (y == z) = false)
    (hst : starEach [.Constant (.str y) j1 c1, .Constant (.str z) j2 c2] X.env = [(false, eval (.Constant (.str y) j1 c1) X.env), (false, eval (.Constant (.str z) j2 c2) X.env)] := by rfl)
    (hbase : attributeBase o "replace" X.env (eval o X.env) = eval o X.env := by rfl) (hline : (apos.endLine == pos.line) = true := by rfl) :
    PE X (.BinOp (.Constant (.str c) j0 c0) .Add (.Call (.Attribute o "replace" apos) [.Constant (.str y) j1 c1, .Constant (.str z) j2 c2] [] pos) p) (tAddRepl c y z to) := by
  refine ⟨fun pins s σ H Q I h => ?_⟩
  refine wpAny_BinOp (Calls.Constant_str ?_)
  refine thn (CwR.pet_replC ho hyz hst hbase hline pins { s with toks := s.toks + 1 } σ H _ (by show 1 ≤ s.toks + 1; omega) (I.tok _) h) fun u s2 h2 => ?_
  obtain ⟨v, H1, I1, rv, t, rfl, hl, q⟩ := h2
  exact op_add_str pins s2 σ H1 (.str c) _ _ u Q I1 ⟨_, rfl⟩ rv ⟨c, _, rfl, rfl, hl, q⟩
end
end K16

set_option Elab.async false
set_option linter.all false
set_option maxRecDepth 100000
set_option maxHeartbeats 2000000
/-! KData: data that stands in the heap and is never changed (tuples), readings that make or read it -/
namespace K16
open PySem PySem.Spec L2 Evl

/-! ### a value is this data: None, ints, texts, tracked tuples of these -/
mutual
inductive Im (H : Hp) : V → PyData → Prop
  | non : Im H .non .none
  | int (i : Int) : Im H (.int i) (.int i)
  | str (x : Str) : Im H (.str x) (.str x)
  | tup {a : Addr} {xs : List V} {ds : List PyData} : H a = some (.tup xs) → Ims H xs ds → Im H (.ref a) (.tuple ds)
inductive Ims (H : Hp) : List V → List PyData → Prop
  | nil : Ims H [] []
  | cons {v : V} {vs : List V} {d : PyData} {ds : List PyData} : Im H v d → Ims H vs ds → Ims H (v :: vs) (d :: ds)
end
/-- the tuples that were tracked are tracked -/
def KT (H H' : Hp) : Prop := ∀ a xs, H a = some (.tup xs) → H' a = some (.tup xs)
theorem KT.refl (H : Hp) : KT H H := fun _ _ h => h
theorem KT.trans {H H1 H2 : Hp} (a : KT H H1) (b : KT H1 H2) : KT H H2 := fun x o h => b x o (a x o h)
theorem KT.of {H H' : Hp} (e : Ex H H') : KT H H' := fun a xs h => e a _ h
/-- all that is tracked outside S is as it was -/
def Kp (S : List Addr) (H H' : Hp) : Prop := ∀ b o, H b = some o → b ∉ S → H' b = some o
theorem Kp.refl {S : List Addr} (H : Hp) : Kp S H H := fun _ _ h _ => h
theorem Kp.trans {S : List Addr} {H H1 H2 : Hp} (a : Kp S H H1) (b : Kp S H1 H2) : Kp S H H2 := fun x o h n => b x o (a x o h n) n
theorem Kp.of {S : List Addr} {H H' : Hp} (e : Ex H H') : Kp S H H' := fun a o h _ => e a o h
theorem Kp.mono {S T : List Addr} {H H' : Hp} (e : Kp S H H') (h : ∀ b ∈ S, b ∈ T) : Kp T H H' := fun a o q n => e a o q fun z => n (h a z)
theorem Kp.ex {H H' : Hp} (e : Kp [] H H') : Ex H H' := fun a o h => e a o h (by simp)
/-- an object in S is changed -/
theorem Kp.mut {S : List Addr} {H H' : Hp} {p : Addr} {o : HO} (e : Kp S H H') (h : p ∈ S) : Kp S H (upd H' p o) := fun a u ha n => by
  rw [upd_ne (fun z : a = p => n (by rw [z]; exact h))]
  exact e a u ha n
/-- an object that H does not know is laid or changed -/
theorem Kp.new {S : List Addr} {H H' : Hp} {p : Addr} {o : HO} (e : Kp S H H') (h : H p = none) : Kp S H (upd H' p o) := fun a u ha n => by
  rw [upd_ne (ne_of_none ha h)]
  exact e a u ha n
theorem Kp.kt {S : List Addr} {H H' : Hp} (e : Kp S H H') (h : ∀ b ∈ S, ∀ xs, H b ≠ some (.tup xs)) : KT H H' := fun a xs q => e a _ q fun z => h a z xs q
theorem KT.upd {H H' : Hp} {p : Addr} {o : HO} (e : KT H H') (h : ∀ xs, H p ≠ some (.tup xs)) : KT H (upd H' p o) := fun a xs q => by
  rw [upd_ne (fun z : a = p => h xs (by rw [← z]; exact q))]
  exact e a xs q

section
variable {H H' : Hp} {v : V} {vs : List V} {d : PyData} {ds : List PyData}
mutual
theorem Im.mono (e : KT H H') : ∀ {v : V} {d : PyData}, Im H v d → Im H' v d
  | _, _, .non => .non
  | _, _, .int i => .int i
  | _, _, .str x => .str x
  | _, _, .tup h hs => .tup (e _ _ h) (Ims.mono e hs)
theorem Ims.mono (e : KT H H') : ∀ {vs : List V} {ds : List PyData}, Ims H vs ds → Ims H' vs ds
  | _, _, .nil => .nil
  | _, _, .cons h hs => .cons (Im.mono e h) (Ims.mono e hs)
end
theorem Im.ex (e : Ex H H') (h : Im H v d) : Im H' v d := h.mono (KT.of e)
theorem Ims.ex (e : Ex H H') (h : Ims H vs ds) : Ims H' vs ds := h.mono (KT.of e)
theorem Im.non_ (h : Im H v .none) : v = .non := by cases h; rfl
theorem Im.int_ {i : Int} (h : Im H v (.int i)) : v = .int i := by cases h; rfl
theorem Im.str_ {x : Str} (h : Im H v (.str x)) : v = .str x := by cases h; rfl
theorem Im.tup_ (h : Im H v (.tuple ds)) : ∃ a xs, v = .ref a ∧ H a = some (.tup xs) ∧ Ims H xs ds := by
  cases h with
  | tup h hs => exact ⟨_, _, rfl, h, hs⟩
theorem Ims.len (h : Ims H vs ds) : vs.length = ds.length := by
  induction ds generalizing vs with
  | nil => cases h; rfl
  | cons d ds ih => cases h with | cons h hs => exact congrArg (· + 1) (ih hs)
theorem Ims.get (h : Ims H vs ds) {i : Nat} (e : ds[i]? = some d) : ∃ v, vs[i]? = some v ∧ Im H v d := by
  induction ds generalizing vs i with
  | nil => simp at e
  | cons x ds ih =>
    cases h with
    | cons h hs =>
      cases i with
      | zero => simp at e; subst e; exact ⟨_, rfl, h⟩
      | succ i => simpa using ih hs (by simpa using e)
theorem Ims.get' (h : Ims H vs ds) {i : Nat} (e : vs[i]? = some v) : ∃ d, ds[i]? = some d ∧ Im H v d := by
  induction ds generalizing vs i with
  | nil => cases h; simp at e
  | cons x ds ih =>
    cases h with
    | cons h hs =>
      cases i with
      | zero => simp at e; subst e; exact ⟨_, rfl, h⟩
      | succ i => simpa using ih hs (by simpa using e)
theorem Ims.append {vs' : List V} {ds' : List PyData} (h : Ims H vs ds) (h' : Ims H vs' ds') : Ims H (vs ++ vs') (ds ++ ds') := by
  induction ds generalizing vs with
  | nil => cases h; exact h'
  | cons d ds ih => cases h with | cons h hs => exact .cons h (ih hs)
theorem Ims.drop (h : Ims H vs ds) (n : Nat) : Ims H (vs.drop n) (ds.drop n) := by
  induction ds generalizing vs n with
  | nil => cases h; simpa using Ims.nil
  | cons d ds ih =>
    cases h with
    | cons h hs =>
      cases n with
      | zero => exact .cons h hs
      | succ n => simpa using ih hs n
theorem Ims.take (h : Ims H vs ds) (n : Nat) : Ims H (vs.take n) (ds.take n) := by
  induction ds generalizing vs n with
  | nil => cases h; simpa using Ims.nil
  | cons d ds ih =>
    cases h with
    | cons h hs =>
      cases n with
      | zero => exact .nil
      | succ n => simpa using Ims.cons h (ih hs n)
theorem Ims.atI (h : Ims H vs ds) {i : Int} (e : L2.atI ds i = some d) : ∃ v, L2.atI vs i = some v ∧ Im H v d := by
  unfold L2.atI at e ⊢
  rw [h.len]
  cases q : ixN ds.length i with
  | none => rw [q] at e; cases e
  | some j => rw [q] at e; exact h.get e
mutual
theorem Im.dp {K : PySem.W.Frag} : ∀ {v : V} {d : PyData}, Im H v d → Dp K H v d
  | _, _, .non => .non
  | _, _, .int i => .int i
  | _, _, .str x => .str x
  | _, _, .tup h hs => .tup (.inl (.inl h)) (Ims.dp hs)
theorem Ims.dp {K : PySem.W.Frag} : ∀ {vs : List V} {ds : List PyData}, Ims H vs ds → DpAll K H vs ds
  | _, _, .nil => .nil
  | _, _, .cons h hs => .cons (Im.dp h) (Ims.dp hs)
end
theorem Ims.map {α : Type} {f : α → PyData} {g : α → V} {l : List α} (h : ∀ a ∈ l, Im H (g a) (f a)) : Ims H (l.map g) (l.map f) := by
  induction l with
  | nil => exact .nil
  | cons a l ih => exact .cons (h a (by simp)) (ih fun b hb => h b (by simp [hb]))
theorem Ims.strs (l : List Str) : Ims H (l.map V.str) (l.map PyData.str) := Ims.map fun a _ => .str a
theorem Ims.ints (l : List Int) : Ims H (l.map V.int) (l.map PyData.int) := Ims.map fun a _ => .int a
theorem Ims.strs_ {l : List Str} (h : Ims H vs (l.map PyData.str)) : vs = l.map V.str := by
  induction l generalizing vs with
  | nil => cases h; rfl
  | cons a l ih => cases h with | cons h hs => rw [h.str_, ih hs]; rfl
theorem Ims.ints_ {l : List Int} (h : Ims H vs (l.map PyData.int)) : vs = l.map V.int := by
  induction l generalizing vs with
  | nil => cases h; rfl
  | cons a l ih => cases h with | cons h hs => rw [h.int_, ih hs]; rfl
theorem Im.new {p : Addr} {xs : List V} (hp : H p = none) (h : Ims H xs ds) : Im (upd H p (.tup xs)) (.ref p) (.tuple ds) :=
  .tup upd_same (h.ex (Ex.new hp))
end

/-! ### scalars among data -/
def scalD : PyData → PyData → Bool
  | .none, .none => true | .none, .int _ => true | .int _, .none => true | .none, .str _ => true | .str _, .none => true
  | .int _, .int _ => true | .str _, .str _ => true | .int _, .str _ => true | .str _, .int _ => true
  | _, _ => false
def eqD : PyData → PyData → Bool
  | .none, .none => true
  | .int i, .int j => decide (i = j)
  | .str x, .str y => decide (x = y)
  | _, _ => false
theorem scal_of {H : Hp} {v u : V} {d e : PyData} (hv : Im H v d) (hu : Im H u e) (h : scalD d e = true) : scal v u = true ∧ decide (v = u) = eqD d e := by
  cases hv <;> cases hu <;> first | (simp [scalD] at h; done) | (refine ⟨rfl, ?_⟩; simp [eqD])

/-! ### what evaluates to which data -/
def EvD (te : TE) (σ : L2.St) (H : Hp) (d : PyData) : Prop := ∀ H1, Ex H H1 → ∀ Q : VK, (∀ v H2, Ex H1 H2 → Im H2 v d → Q v H2) → te σ H1 Q
def EvDs (ta : TA) (σ : L2.St) (H : Hp) (ds : List PyData) : Prop := ∀ H1, Ex H H1 → ∀ Q : List V → Hp → Prop, (∀ vs H2, Ex H1 H2 → Ims H2 vs ds → Q vs H2) → ta σ H1 Q
/-- a def's promise: called with data ds it hands back the data d -/
def spD (f : List PyData → PyData → Prop) : Sp := fun vs H Q _ => ∃ ds d, f ds d ∧ Ims H vs ds ∧ ∀ v H', Ex H H' → Im H' v d → Q v H'
section
variable {K : PySem.W.Frag} {σ : L2.St} {H H' : Hp} {ta tb te : TE} {d e f : PyData} {ds es : List PyData}
theorem EvD.mono (x : Ex H H') (h : EvD te σ H d) : EvD te σ H' d := fun H1 a Q q => h H1 (x.trans a) Q q
theorem EvDs.mono {ta : TA} (x : Ex H H') (h : EvDs ta σ H ds) : EvDs ta σ H' ds := fun H1 a Q q => h H1 (x.trans a) Q q
theorem EvD.go (h : EvD te σ H d) {Q : VK} (q : ∀ v H2, Ex H H2 → Im H2 v d → Q v H2) : te σ H Q := h H (Ex.refl H) Q q
theorem evd_var {i : Nat} {v : V} (h : σ[i]? = some (some v)) (hd : Im H v d) : EvD (tVar i) σ H d := fun H1 a Q q => ⟨v, h, q v H1 (Ex.refl H1) (hd.ex a)⟩
theorem evd_c {v : V} (hd : Im H v d) : EvD (tC v) σ H d := fun H1 a Q q => q v H1 (Ex.refl H1) (hd.ex a)
theorem evd_int {i : Int} : EvD (tC (.int i)) σ H (.int i) := evd_c (.int i)
theorem evd_str {x : Str} : EvD (tC (.str x)) σ H (.str x) := evd_c (.str x)
theorem evd_non : EvD (tC .non) σ H .none := evd_c .non
theorem evd_op {r : R2} (h1 : EvD ta σ H d) (h2 : EvD tb σ H e) (hr : ∀ v u H1, Ex H H1 → Im H1 v d → Im H1 u e → ∀ Q : VK, (∀ z H2, Ex H1 H2 → Im H2 z f → Q z H2) → r v u H1 Q) : EvD (tOp r ta tb) σ H f := fun H1 a Q q =>
  h1 H1 a _ fun v H2 e2 i2 => h2 H2 (a.trans e2) _ fun u H3 e3 i3 => hr v u H3 ((a.trans e2).trans e3) (i2.ex e3) i3 Q fun z H4 e4 => q z H4 ((e2.trans e3).trans e4)
theorem evd_add {i j : Int} (h1 : EvD ta σ H (.int i)) (h2 : EvD tb σ H (.int j)) : EvD (tOp (rI0 fun i j => .int (i + j)) ta tb) σ H (.int (i + j)) :=
  evd_op h1 h2 fun v u H1 _ a b Q q => ⟨i, j, a.int_, b.int_, q _ H1 (Ex.refl H1) (.int _)⟩
theorem evd_sub {i j : Int} (h1 : EvD ta σ H (.int i)) (h2 : EvD tb σ H (.int j)) : EvD (tOp (rI0 fun i j => .int (i - j)) ta tb) σ H (.int (i - j)) :=
  evd_op h1 h2 fun v u H1 _ a b Q q => ⟨i, j, a.int_, b.int_, q _ H1 (Ex.refl H1) (.int _)⟩
theorem evd_neg {i : Int} (h1 : EvD ta σ H (.int i)) : EvD (tUn (rU fun i => .int (-i)) ta) σ H (.int (-i)) := fun H1 a Q q =>
  h1 H1 a _ fun v H2 e2 i2 => ⟨i, i2.int_, q _ H2 e2 (.int _)⟩
theorem evd_is (h : EvD te σ H d) (x : d = e) : EvD te σ H e := x ▸ h
/-- t[i] -/
theorem evd_ix {i : Int} (h1 : EvD ta σ H (.tuple ds)) (h2 : EvD tb σ H (.int i)) (hi : atI ds i = some d) : EvD (tOp (rIxT K) ta tb) σ H d :=
  evd_op h1 h2 fun v u H1 _ a b Q q => by
    obtain ⟨p, xs, rfl, hp, hs⟩ := a.tup_
    obtain ⟨z, hz, iz⟩ := hs.atI hi
    exact ⟨p, xs, i, z, rfl, b.int_, SqT.of hp, hz, q z H1 (Ex.refl H1) iz⟩
theorem evd_ixn {i : Nat} (h1 : EvD ta σ H (.tuple ds)) (h2 : EvD tb σ H (.int i)) (hi : ds[i]? = some d) : EvD (tOp (rIxT K) ta tb) σ H d := evd_ix h1 h2 (atI_nat hi)
theorem evd_at (n : Nat) {i : Int} (h1 : EvD ta σ H (.tuple ds)) (h : ds[n]? = some d) (hi : i = (n : Int) := by rfl) : EvD (tOp (rIxT K) ta (tC (.int i))) σ H d := by
  subst hi
  exact evd_ixn h1 evd_int h
theorem evds_nil : EvDs tNil σ H [] := fun H1 _ _ q => q [] H1 (Ex.refl H1) .nil
theorem evds_cons {tr : TA} (h1 : EvD ta σ H d) (h2 : EvDs tr σ H ds) : EvDs (tCons ta tr) σ H (d :: ds) := fun H1 a Q q =>
  h1 H1 a _ fun v H2 e2 i2 => h2 H2 (a.trans e2) _ fun vs H3 e3 i3 => q _ H3 (e2.trans e3) (.cons (i2.ex e3) i3)
theorem evd_tup {t : TA} (h : EvDs t σ H ds) (hl : ds.length ≤ 100000 := by first | decide | (simp; done)) : EvD (tTup t) σ H (.tuple ds) := fun H1 a Q q =>
  h H1 a _ fun vs H2 e2 i2 => ⟨sz_of (by rw [i2.len]; exact hl), fun p hp => q _ _ (e2.trans (Ex.new hp)) (Im.new hp i2)⟩
theorem evd_cat (h1 : EvD ta σ H (.tuple ds)) (h2 : EvD tb σ H (.tuple es)) (hl : ds.length + es.length ≤ 100000) : EvD (tOp (rCatA K) ta tb) σ H (.tuple (ds ++ es)) :=
  evd_op h1 h2 fun v u H1 _ a b Q q => by
    obtain ⟨p, xs, rfl, hp, hs⟩ := a.tup_
    obtain ⟨p2, ys, rfl, hp2, hs2⟩ := b.tup_
    refine ⟨p, p2, xs, ys, rfl, rfl, SqT.of hp, SqT.of hp2, sz_of (by rw [hs.len, hs2.len]; exact hl), fun z => ?_, fun _ z => ?_, fun _ _ r hr => ?_⟩
    · subst z
      cases hs
      exact q _ H1 (Ex.refl H1) (.tup hp2 hs2)
    · subst z
      cases hs2
      rw [List.append_nil] at q
      exact q _ H1 (Ex.refl H1) (.tup hp hs)
    · exact q _ _ (Ex.new hr) (Im.new hr (hs.append hs2))
/-- t[lo:hi] -/
def cutD (xs : List PyData) (lo hi : Option Int) : List PyData := (xs.drop (HT.sIx xs.length 0 lo)).take (HT.sIx xs.length xs.length hi - HT.sIx xs.length 0 lo)
theorem evd_slice {tl th : TO} {lo hi : Option Int} (h1 : EvD ta σ H (.tuple ds)) (h2 : EvO tl σ H lo) (h3 : EvO th σ H hi) (hd : cutD ds lo hi = es) : EvD (tSl (rSlA K) ta tl th) σ H (.tuple es) := fun H1 a Q q =>
  h1 H1 a _ fun v H2 e2 i2 => h2 H2 (a.trans e2) _ fun H3 e3 => h3 H3 ((a.trans e2).trans e3) _ fun H4 e4 => by
    obtain ⟨p, xs, rfl, hp, hs⟩ := (i2.ex (e3.trans e4)).tup_
    have hl := hs.len
    refine ⟨p, xs, rfl, SqT.of hp, fun z => ?_, fun _ r hr => ?_⟩
    · refine q _ H4 ((e2.trans e3).trans e4) ?_
      rw [hl] at z
      have : es = ds := by
        rw [← hd]
        unfold cutD
        rw [z.1, z.2]
        simp
      rw [this]
      exact .tup hp hs
    · refine q _ _ (((e2.trans e3).trans e4).trans (Ex.new hr)) (Im.new hr ?_)
      rw [← hd]
      unfold cutV cutD
      rw [hl]
      exact (hs.drop _).take _
theorem evo_some {i : Int} (h : EvD te σ H (.int i)) : EvO (tPart te) σ H (some i) := fun H1 a Q q => h H1 a _ fun v H2 e2 i2 => ⟨i, i2.int_, q H2 e2⟩
/-- len(t) -/
def rLenQ (K : PySem.W.Frag) : List V → Hp → VK → Prop := fun xs H Q => ∃ p ys, xs = [V.ref p] ∧ (SqL K H p ys ∨ SqT K H p ys) ∧ Q (.int ys.length) H
theorem evd_len (h1 : EvD ta σ H (.tuple ds)) : EvD (tCB (rLenQ K) (tCons ta tNil)) σ H (.int ds.length) := fun H1 a Q q =>
  h1 H1 a _ fun v H2 e2 i2 => by
    obtain ⟨p, xs, rfl, hp, hs⟩ := i2.tup_
    exact ⟨p, xs, rfl, .inr (SqT.of hp), q _ H2 e2 (by rw [hs.len]; exact .int _)⟩
/-- a call of a def that works on data -/
theorem evd_call {t : TA} {g : List PyData → PyData → Prop} {E : XK} (h : EvDs t σ H ds) (hg : g ds d) : EvD (tCall (spD g) [] E t) σ H d := fun H1 a Q q =>
  h H1 a _ fun vs H2 e2 i2 => ⟨ds, d, hg, by simpa using i2, fun v H3 e3 i3 => q v H3 (e2.trans e3) i3⟩
theorem evd_if {t : TT} {b : Bool} (h : EvT t σ H b) (h1 : b = true → EvD ta σ H d) (h2 : b = false → EvD tb σ H d) : EvD (tIf t ta tb) σ H d := fun H1 a Q q => h H1 a _ fun H2 e2 => by
  cases b with
  | true =>
    show ta σ H2 Q
    exact h1 rfl H2 (a.trans e2) Q fun v H3 e3 => q v H3 (e2.trans e3)
  | false =>
    show tb σ H2 Q
    exact h2 rfl H2 (a.trans e2) Q fun v H3 e3 => q v H3 (e2.trans e3)
/-! tests -/
theorem evt_op {r : R2} {b : Bool} (h1 : EvD ta σ H d) (h2 : EvD tb σ H e) (hr : ∀ v u H1, Ex H H1 → Im H1 v d → Im H1 u e → ∀ Q : VK, (∀ H2, Ex H1 H2 → Q (.bl b) H2) → r v u H1 Q) : EvT (tTest (tOp r ta tb)) σ H b := fun H1 a Q q =>
  h1 H1 a _ fun v H2 e2 i2 => h2 H2 (a.trans e2) _ fun u H3 e3 i3 => hr v u H3 ((a.trans e2).trans e3) (i2.ex e3) i3 _ fun H4 e4 => ⟨b, rfl, q H4 ((e2.trans e3).trans e4)⟩
theorem evt_eq (h1 : EvD ta σ H d) (h2 : EvD tb σ H e) (hs : scalD d e = true) : EvT (tTest (tOp rEq ta tb)) σ H (eqD d e) :=
  evt_op h1 h2 fun v u H1 _ a b Q q => by
    obtain ⟨x1, x2⟩ := scal_of a b hs
    refine ⟨x1, ?_⟩
    rw [x2]
    exact q H1 (Ex.refl H1)
theorem evt_ne (h1 : EvD ta σ H d) (h2 : EvD tb σ H e) (hs : scalD d e = true) : EvT (tTest (tOp rNe ta tb)) σ H (!eqD d e) :=
  evt_op h1 h2 fun v u H1 _ a b Q q => by
    obtain ⟨x1, x2⟩ := scal_of a b hs
    refine ⟨x1, ?_⟩
    rw [x2]
    exact q H1 (Ex.refl H1)
theorem evt_lt {i j : Int} (h1 : EvD ta σ H (.int i)) (h2 : EvD tb σ H (.int j)) : EvT (tTest (tOp (rI0 fun i j => .bl (decide (i < j))) ta tb)) σ H (decide (i < j)) :=
  evt_op h1 h2 fun v u H1 _ a b Q q => ⟨i, j, a.int_, b.int_, q H1 (Ex.refl H1)⟩
theorem evt_gt {i j : Int} (h1 : EvD ta σ H (.int i)) (h2 : EvD tb σ H (.int j)) : EvT (tTest (tOp (rI0 fun i j => .bl (decide (j < i))) ta tb)) σ H (decide (j < i)) :=
  evt_op h1 h2 fun v u H1 _ a b Q q => ⟨i, j, a.int_, b.int_, q H1 (Ex.refl H1)⟩
theorem evt_eqD (h1 : EvD ta σ H d) (h2 : EvD tb σ H e) (hs : SeqAt.shaped d = true) (hs' : SeqAt.shaped e = true) : EvT (tTest (tOp (rEqD K) ta tb)) σ H (PyData.eqv d e) :=
  evt_op h1 h2 fun v u H1 _ a b Q q => ⟨d, e, a.dp, b.dp, hs, hs', q H1 (Ex.refl H1)⟩
theorem evt_neD (h1 : EvD ta σ H d) (h2 : EvD tb σ H e) (hs : SeqAt.shaped d = true) (hs' : SeqAt.shaped e = true) : EvT (tTest (tOp (rNeD K) ta tb)) σ H (!PyData.eqv d e) :=
  evt_op h1 h2 fun v u H1 _ a b Q q => ⟨d, e, a.dp, b.dp, hs, hs', q H1 (Ex.refl H1)⟩
theorem evt_isN (h1 : EvD ta σ H d) {b : Bool} (hb : (match d with | .none => true | _ => false) = b) : EvT (tTest (tOp (fun x y H Q => y = .non ∧ Q (.bl (decide (x = .non))) H) ta (tC .non))) σ H b :=
  evt_op h1 evd_non fun v u H1 _ a c Q q => by
    refine ⟨c.non_, ?_⟩
    have : decide (v = .non) = b := by rw [← hb]; cases a <;> simp
    rw [this]
    exact q H1 (Ex.refl H1)
theorem evt_is {t : TT} {a b : Bool} (h : EvT t σ H a) (x : a = b) : EvT t σ H b := x ▸ h
/-! statements -/
variable {D : Ends} {tz tu tw : TS} {t : TT}
theorem qd_set {i : Nat} (h : EvD te σ H d) (k : ∀ v H1, Ex H H1 → Im H1 v d → tz D (σ.set i (some v)) H1) : tSeq (tAsg te (gName i)) tz D σ H := h.go fun v H1 e1 i1 => k v H1 e1 i1
theorem qd_lst {ta : TA} {i : Nat} (h : EvDs ta σ H ds) (hl : ds.length ≤ 100000) (k : ∀ p vs H1, H p = none → Ex H H1 → H1 p = some (.lst vs) → Ims H1 vs ds → tz D (σ.set i (some (.ref p))) H1) : tSeq (tAsg (tLst ta) (gName i)) tz D σ H :=
  h H (Ex.refl H) _ fun vs H1 e1 i1 => ⟨sz_of (by rw [i1.len]; exact hl), fun p hp => k p vs _ (fresh_back e1 hp) (e1.trans (Ex.new hp)) upd_same (i1.ex (Ex.new hp))⟩
/-- xs.append(e) -/
theorem qd_app {l : Addr} {xs : List V} (ha : Ev ta σ H (.ref l)) (hl : H l = some (.lst xs)) (h : EvD te σ H d) (hz : xs.length < 100000) (k : ∀ v H1, Ex H H1 → Im H1 v d → tz D σ (upd H1 l (.lst (xs ++ [v])))) :
    tSeq (tDrop (tBM K "list" rAppend ta (tCons te tNil))) tz D σ H := ha H (Ex.refl H) _ fun H1 e1 =>
  ⟨.inl ⟨rfl, xs, sq_of (e1 l _ hl)⟩, h H1 e1 _ fun v H2 e2 i2 => ⟨l, xs, v, rfl, rfl, e2 l _ (e1 l _ hl), sz_lt hz, k v H2 (e1.trans e2) i2⟩⟩
theorem sd_app {l : Addr} {xs : List V} (ha : Ev ta σ H (.ref l)) (hl : H l = some (.lst xs)) (h : EvD te σ H d) (hz : xs.length < 100000) (k : ∀ v H1, Ex H H1 → Im H1 v d → D.nx σ (upd H1 l (.lst (xs ++ [v])))) :
    tDrop (tBM K "list" rAppend ta (tCons te tNil)) D σ H := ha H (Ex.refl H) _ fun H1 e1 =>
  ⟨.inl ⟨rfl, xs, sq_of (e1 l _ hl)⟩, h H1 e1 _ fun v H2 e2 i2 => ⟨l, xs, v, rfl, rfl, e2 l _ (e1 l _ hl), sz_lt hz, k v H2 (e1.trans e2) i2⟩⟩
theorem small_up {a b : Int} (ha : 0 ≤ a ∧ a ≤ 100000) (hb : 0 ≤ b ∧ b ≤ 100000) : Builtin.Range.small a b 2 = true := by
  have h : 0 ≤ Builtin.Range.rangeSize a b 2 ∧ Builtin.Range.rangeSize a b 2 ≤ 100001 := by
    unfold Builtin.Range.rangeSize
    rw [if_pos (by decide)]
    split <;> omega
  unfold Builtin.Range.small Builtin.Range.rangeFitsLong
  simp
  omega
/-- for j in range(a, b, 2), n turns -/
theorem qd_for2 {j : Nat} {a b : Int} {n : Nat} {ta : TA} (h : EvDs ta σ H [.int a, .int b, .int 2]) (ha : 0 ≤ a ∧ a ≤ 100000) (hb : 0 ≤ b ∧ b ≤ 100000) (hn : (if a < b then (b - a - 1) / 2 + 1 else 0) = (n : Int)) (Pv : Nat → L2.St → Hp → Prop)
    (h0 : ∀ H1, Ex H H1 → Pv 0 σ H1) (hs : ∀ i σ' H', i < n → Pv i σ' H' → tu { D with nx := Pv (i + 1), ct := Pv (i + 1), bk := tz D } (σ'.set j (some (.int (a + (i : Int) * 2)))) H') (hd : ∀ σ' H', Pv n σ' H' → tz D σ' H') :
    tSeq (tFor (iRng3 ta) (gName j) tu) tz D σ H := by
  show tFor (iRng3 ta) (gName j) tu { D with nx := tz D } σ H
  refine h H (Ex.refl H) _ fun vs H1 e1 i1 => ?_
  have : vs = [.int a, .int b, .int 2] := by
    cases i1 with | cons h1 hs => cases hs with | cons h2 hs => cases hs with | cons h3 hs => cases hs; rw [h1.int_, h2.int_, h3.int_]
  subst this
  refine ⟨a, b, 2, n, rfl, ⟨by decide, by decide, small_up ha hb, ?_⟩, for_rangeC (lo := a) (c := 2) (n := n) Pv (h0 H1 e1) hs hd⟩
  unfold Builtin.Range.rangeSize
  rw [if_pos (by decide)]
  exact hn
theorem qd_ret (h : EvD te σ H d) (k : ∀ v H1, Ex H H1 → Im H1 v d → D.rt v H1) : tRet te D σ H := h.go k
end
end K16

set_option Elab.async false
set_option linter.all false
set_option maxRecDepth 100000
set_option maxHeartbeats 2000000
/-! KCal: a def's promise by its body; how words, defs, places are laid as data; small readings -/
namespace K16
open PySem PySem.Spec PyProof.Rows L2 Evl
section
variable {P : Program} {w : World} {K : PySem.W.Frag} {mg : Str → Option Value} {base : Heap}
theorem cal_of {x : Str} {st : Stmt} {f : Addr} {fd : FuncData} {N ps : List Str} {k : Nat} {sp : Sp} (F : FunD K x x (defArgs st) (defBody st) (defScope st) [] [] f fd) (hm : mg x = some (.ref f)) (S : FnScope N ps (defScope st))
    (hb : ∀ (kV doc pm : Value) (an : Option Addr) (cdv ct : Value) (us : List Value), us.length = ps.length → bindArgs (PySem.W.fnOf x x (defArgs st) (defBody st) (defScope st) .none kV doc pm an cdv ct) ⟨us, []⟩ = pure (ps.zip us))
    (len : ∀ vs H Q E, sp vs H Q E → vs.length = ps.length)
    (hbody : ∀ (cdv : Value) (A : Around) (outer : List PySem.Env) (s : Shared) (H : Hp) (vs : List V) (Q : VK) (E : XK), Room k (A.deeper (envOfC x (defScope st) s.heap.objs.size f cdv)) → sp vs H Q E →
      ∃ t, PSs (cxOf C8.CX0 P w K mg base N x (defScope st) f cdv A outer s H E).nox (defBody st) t ∧ t { nx := fun _ H' => Q .non H', rt := Q } (L2.start N vs) H) : C8.Cal P w K mg base (k + 1) x sp [] :=
  ⟨f, fd, ps, [], F.ok S len fun cdv A outer s H vs Q E hr h => by
    obtain ⟨t, h1, h2⟩ := hbody cdv A outer s H vs Q E hr h
    exact ⟨t, h1.nox, h2⟩, hm, F.kp, F.bindsN hb, .nil⟩
theorem met_of {m qual : Str} {C : Addr} {st : Stmt} {f : Addr} {fd : FuncData} {N ps : List Str} {k : Nat} {sp : Sp} (c : Cls K C) (me : Meth K C m f) (F : FunD K m qual (defArgs st) (defBody st) (defScope st) [] [] f fd) (S : FnScope N ps (defScope st))
    (hb : ∀ (kV doc pm : Value) (an : Option Addr) (cdv ct : Value) (us : List Value), us.length = ps.length → bindArgs (PySem.W.fnOf m qual (defArgs st) (defBody st) (defScope st) .none kV doc pm an cdv ct) ⟨us, []⟩ = pure (ps.zip us))
    (len : ∀ vs H Q E, sp vs H Q E → vs.length = ps.length)
    (hbody : ∀ (cdv : Value) (A : Around) (outer : List PySem.Env) (s : Shared) (H : Hp) (vs : List V) (Q : VK) (E : XK), Room k (A.deeper (envOfC qual (defScope st) s.heap.objs.size f cdv)) → sp vs H Q E →
      ∃ t, PSs (cxOf C8.CX0 P w K mg base N qual (defScope st) f cdv A outer s H E).nox (defBody st) t ∧ t { nx := fun _ H' => Q .non H', rt := Q } (L2.start N vs) H) : C8.Met P w K mg base (k + 1) C m sp [] :=
  ⟨f, fd, ps, [], c, me, F.ok S len fun cdv A outer s H vs Q E hr h => by
    obtain ⟨t, h1, h2⟩ := hbody cdv A outer s H vs Q E hr h
    exact ⟨t, h1.nox, h2⟩, F.bindsN hb, .nil⟩
theorem mak_of {x qual : Str} {C : Addr} {st : Stmt} {f : Addr} {fd : FuncData} {N ps : List Str} {k : Nat} {sp : Sp} (M : Mk K C f) (hm : mg x = some (.ref C)) (F : FunD K "__init__" qual (defArgs st) (defBody st) (defScope st) [] [] f fd) (S : FnScope N ps (defScope st))
    (hb : ∀ (kV doc pm : Value) (an : Option Addr) (cdv ct : Value) (us : List Value), us.length = ps.length → bindArgs (PySem.W.fnOf "__init__" qual (defArgs st) (defBody st) (defScope st) .none kV doc pm an cdv ct) ⟨us, []⟩ = pure (ps.zip us))
    (len : ∀ vs H Q E, sp vs H Q E → vs.length = ps.length)
    (hbody : ∀ (cdv : Value) (A : Around) (outer : List PySem.Env) (s : Shared) (H : Hp) (vs : List V) (Q : VK) (E : XK), Room k (A.deeper (envOfC qual (defScope st) s.heap.objs.size f cdv)) → sp vs H Q E →
      ∃ t, PSs (cxOf C8.CX0 P w K mg base N qual (defScope st) f cdv A outer s H E).nox (defBody st) t ∧ t { nx := fun _ H' => Q .non H', rt := Q } (L2.start N vs) H) : C8.Mak P w K mg base (k + 1) x C sp [] :=
  ⟨f, fd, ps, [], M, F.ok S len fun cdv A outer s H vs Q E hr h => by
    obtain ⟨t, h1, h2⟩ := hbody cdv A outer s H vs Q E hr h
    exact ⟨t, h1.nox, h2⟩, hm, F.bindsN hb, .nil⟩
end

/-! ### the laying of the tongue's things -/
abbrev tstr (l : List Str) : PyData := .tuple (l.map PyData.str)
def hd : Word → Str
  | .take _ _ => "take" | .ask _ => "ask" | .num _ _ => "number" | .copy _ _ => "copy" | .mix _ _ _ => "mix" | .opn _ _ => "open"
  | .tell _ => "tell" | .wipe _ => "wipe" | .clear _ => "clear" | .drop _ => "drop" | .choose _ => "choose" | .loop _ => "loop" | .out _ => "out"
  | .risk _ => "risk" | .fault _ => "fault" | .call _ _ _ => "call" | .back => "back"
mutual
def tlD : Word → List PyData
  | .take x w => [.str x, .str w] | .ask x => [.str x] | .num x n => [.str x, .int n] | .copy x y => [.str x, .str y]
  | .mix x y z => [.str x, .str y, .str z] | .opn x y => [.str x, .str y] | .tell x => [.str x] | .wipe x => [.str x]
  | .clear r => [.str r] | .drop bs => [tstr bs] | .choose rows => [.tuple (encRs rows)] | .loop row => [.tuple (encR row)]
  | .out n => [.int n] | .risk f => [.str f] | .fault f => [.str f] | .call d args gets => [.str d, tstr args, tstr gets] | .back => []
def encR : List Word → List PyData
  | [] => []
  | w :: r => .tuple (.str (hd w) :: tlD w) :: encR r
def encRs : List (List Word) → List PyData
  | [] => []
  | r :: rs => .tuple (encR r) :: encRs rs
end
abbrev encW (w : Word) : PyData := .tuple (.str (hd w) :: tlD w)
abbrev encRow (r : Row) : PyData := .tuple (encR r)
theorem encR_map : ∀ r : Row, encR r = r.map encW
  | [] => by simp [encR]
  | w :: r => by simp [encR, encR_map r]
theorem encRs_map : ∀ r : List Row, encRs r = r.map encRow
  | [] => by simp [encRs]
  | w :: r => by simp [encRs, encRs_map r]
abbrev encDef (D : K16.Def) : PyData := .tuple [.str D.name, tstr D.params, tstr D.results, encRow D.row]
abbrev encProg (p : Prog) : PyData := .tuple [.tuple (p.defs.map encDef), encRow p.main]
def encPath : List (Nat × Nat) → List PyData
  | [] => []
  | (n, c) :: ps => encPath ps ++ [.int n, .int c]
abbrev encPl (pl : Place) : PyData := .tuple (.str pl.nm :: (encPath pl.path ++ [.int pl.at_]))
theorem encPath_len : ∀ ps : List (Nat × Nat), (encPath ps).length = 2 * ps.length
  | [] => rfl
  | (n, c) :: ps => by simp [encPath, encPath_len ps]; omega
theorem encPath_app : ∀ a b : List (Nat × Nat), encPath (a ++ b) = encPath b ++ encPath a
  | [], b => by simp [encPath]
  | (n, c) :: a, b => by simp [encPath, encPath_app a b]
theorem encR_get {r : Row} {n : Nat} {w : Word} (h : r[n]? = some w) : (encR r)[n]? = some (encW w) := by rw [encR_map, List.getElem?_map, h]; rfl
theorem encR_len (r : Row) : (encR r).length = r.length := by rw [encR_map, List.length_map]
theorem hd_choose : ∀ {w : Word}, hd w = "choose" → ∃ rs, w = .choose rs := by
  intro w h
  cases w <;> first | exact ⟨_, rfl⟩ | (simp only [hd] at h; exact absurd h (by decide +kernel))
theorem hd_loop : ∀ {w : Word}, hd w = "loop" → ∃ r, w = .loop r := by
  intro w h
  cases w <;> first | exact ⟨_, rfl⟩ | (simp only [hd] at h; exact absurd h (by decide +kernel))

section
variable {H H' : Hp} {vs : List V} {a b c d : PyData}
theorem Ims.one (h : Ims H vs [a]) : ∃ v, vs = [v] ∧ Im H v a := by
  cases h with | cons h hs => cases hs; exact ⟨_, rfl, h⟩
theorem Ims.two (h : Ims H vs [a, b]) : ∃ v u, vs = [v, u] ∧ Im H v a ∧ Im H u b := by
  cases h with | cons h hs => obtain ⟨u, rfl, hu⟩ := hs.one; exact ⟨_, u, rfl, h, hu⟩
theorem Ims.three (h : Ims H vs [a, b, c]) : ∃ v u z, vs = [v, u, z] ∧ Im H v a ∧ Im H u b ∧ Im H z c := by
  cases h with | cons h hs => obtain ⟨u, z, rfl, hu, hz⟩ := hs.two; exact ⟨_, u, z, rfl, h, hu, hz⟩
theorem Ims.four (h : Ims H vs [a, b, c, d]) : ∃ v u z y, vs = [v, u, z, y] ∧ Im H v a ∧ Im H u b ∧ Im H z c ∧ Im H y d := by
  cases h with | cons h hs => obtain ⟨u, z, y, rfl, hu, hz, hy⟩ := hs.three; exact ⟨_, u, z, y, rfl, h, hu, hz, hy⟩
end
section
variable {K : PySem.W.Frag} {σ : L2.St} {H H' : Hp} {ta tb te : TE} {d e f : PyData} {ds es : List PyData} {D : Ends} {tz tu tw : TS} {t : TT}
/-- an if without else whose answer is known -/
theorem q_no (h : EvT t σ H false) (k : ∀ H1, Ex H H1 → tz D σ H1) : tSeq (tIfS t tu tNext) tz D σ H := q_when h (fun z => nomatch z) fun _ => k
theorem q_yes (h : EvT t σ H true) (k : ∀ H1, Ex H H1 → tu { D with nx := tz D } σ H1) : tSeq (tIfS t tu tNext) tz D σ H := q_when h (fun _ => k) (fun z => nomatch z)
theorem q_noE (h : EvT t σ H false) (k : ∀ H1, Ex H H1 → tw D σ H1) : tIfS t tu tw D σ H := s_if h (fun z => nomatch z) fun _ => k
theorem q_yesE (h : EvT t σ H true) (k : ∀ H1, Ex H H1 → tu D σ H1) : tIfS t tu tw D σ H := s_if h (fun _ => k) (fun z => nomatch z)
theorem evt_yes {b : Bool} (h : EvT t σ H b) (x : b = true) : EvT t σ H true := x ▸ h
theorem evt_no {b : Bool} (h : EvT t σ H b) (x : b = false) : EvT t σ H false := x ▸ h
theorem evt_hd {w : Word} {z : Str} {i : Int} (h : EvD te σ H (encW w)) (hi : i = ((0 : Nat) : Int) := by rfl) : EvT (tTest (tOp rEq (tOp (rIxT K) te (tC (.int i))) (tC (.str z)))) σ H (decide (hd w = z)) :=
  evt_eq (evd_at 0 h rfl hi) evd_str rfl
theorem evt_hd1 {w : Word} {z : Str} {i : Int} (h : EvD te σ H (encW w)) (e : hd w = z) (hi : i = ((0 : Nat) : Int) := by rfl) : EvT (tTest (tOp rEq (tOp (rIxT K) te (tC (.int i))) (tC (.str z)))) σ H true :=
  evt_yes (evt_hd h hi) (decide_eq_true e)
theorem evt_hd0 {w : Word} {z : Str} {i : Int} (h : EvD te σ H (encW w)) (e : ¬ hd w = z) (hi : i = ((0 : Nat) : Int) := by rfl) : EvT (tTest (tOp rEq (tOp (rIxT K) te (tC (.int i))) (tC (.str z)))) σ H false :=
  evt_no (evt_hd h hi) (decide_eq_false e)
theorem qd_two {i j : Nat} (h : EvD te σ H (.tuple [d, e])) (k : ∀ v u H1, Ex H H1 → Im H1 v d → Im H1 u e → tz D ((σ.set i (some v)).set j (some u)) H1) :
    tSeq (tAsg te (gTup K 2 (gCons (gName i) (gCons (gName j) gNil)))) tz D σ H := h.go fun v H1 e1 i1 => by
  obtain ⟨a, xs, rfl, ha, hs⟩ := i1.tup_
  obtain ⟨v, u, rfl, hv, hu⟩ := hs.two
  exact ⟨a, _, rfl, SqT.of ha, rfl, v, _, rfl, u, _, rfl, rfl, k v u H1 e1 hv hu⟩
end
end K16

set_option Elab.async false
set_option linter.all false
set_option maxRecDepth 100000
set_option maxHeartbeats 4000000
/-! KPlaces: rows_in, def_of, row_of, words_along, word_at -/
namespace K16
open PySem PySem.Spec PyProof.Rows L2 Evl
theorem find_at {α : Type} {l : List α} {q : α → Bool} {i : Nat} {x : α} (h : (l.take i).find? q = none) (hx : l[i]? = some x) (hq : q x = true) : l.find? q = some x := by
  have hi : i < l.length := (List.getElem?_eq_some_iff.mp hx).1
  have e : l = l.take i ++ x :: l.drop (i + 1) := by
    have := List.take_append_drop i l
    rw [List.drop_eq_getElem_cons hi] at this
    rw [← (List.getElem?_eq_some_iff.mp hx).2]
    exact this.symm
  rw [e, List.find?_append, h, List.find?_cons, hq]
  rfl
theorem find_next {α : Type} {l : List α} {q : α → Bool} {i : Nat} {x : α} (h : (l.take i).find? q = none) (hx : l[i]? = some x) (hq : q x = false) : (l.take (i + 1)).find? q = none := by
  rw [List.take_add_one, hx, List.find?_append, h]
  simp [hq]
section
variable {K : PySem.W.Frag} {σ : L2.St} {H H' : Hp} {ta tb te tl : TE} {d e f : PyData} {ds es : List PyData} {D : Ends} {tz tu tw : TS} {t : TT}
theorem qd_forT {j : Nat} (h : EvD tl σ H (.tuple ds)) (Pv : Hp → Nat → L2.St → Hp → Prop) (h0 : ∀ H1, Ex H H1 → Pv H1 0 σ H1) (hk : ∀ H1 i σ' H', Ex H H1 → Pv H1 i σ' H' → KT H1 H')
    (hs : ∀ H1 i d v σ' H', Ex H H1 → ds[i]? = some d → Im H' v d → Pv H1 i σ' H' → tu { D with nx := Pv H1 (i + 1), ct := Pv H1 (i + 1), bk := tz D } (σ'.set j (some v)) H') (hd : ∀ H1 σ' H', Ex H H1 → Pv H1 ds.length σ' H' → tz D σ' H') :
    tSeq (tFor (iTup K tl) (gName j) tu) tz D σ H := by
  show tFor (iTup K tl) (gName j) tu { D with nx := tz D } σ H
  refine h.go fun v H1 e1 i1 => ?_
  obtain ⟨a, xs, rfl, ha, hx⟩ := i1.tup_
  refine ⟨a, rfl, ⟨xs, SqT.of ha⟩, for_tup (K := K) (a := a) (xs := xs) (Pv H1) (h0 H1 e1) (fun i σ' H' _ p => SqT.of (hk H1 i σ' H' e1 p _ _ ha)) ?_ fun σ' H' p => hd H1 σ' H' e1 (by rw [← hx.len]; exact p)⟩
  intro i x σ' H' hi p
  obtain ⟨d, hd1, hd2⟩ := (hx.mono (hk H1 i σ' H' e1 p)).get' hi
  exact hs H1 i d x σ' H' e1 hd1 hd2 p
end

/-! ### rows_in -/
theorem sc_rows_in : FnScope ["word"] ["word"] (defScope s_rows_in) := ⟨rfl, rfl, rfl, by decide +kernel, rfl, by decide +kernel, by decide +kernel⟩
def fRowsIn : List PyData → PyData → Prop := fun ds d => ∃ w, ds = [encW w] ∧ d = .tuple ((rowsIn w).map encRow)
theorem spD_len {f : List PyData → PyData → Prop} {n : Nat} (h : ∀ ds d, f ds d → ds.length = n) : ∀ vs H Q E, spD f vs H Q E → vs.length = n := by
  rintro vs H Q E ⟨ds, d, h1, h2, _⟩
  rw [h2.len]
  exact h ds d h1
section
variable {P : Program} {w : World} {K : PySem.W.Frag} {mg : Str → Option Value} {base : Heap}
theorem ok_rows_in (T : Fx K mg) : C8.Cal P w K mg base 1 "rows_in" (spD fRowsIn) [] := by
  obtain ⟨fd, F⟩ := T.f_rows_in
  refine cal_of F T.g_rows_in sc_rows_in (fun _ _ _ _ _ _ us hl => match us, hl with | [_], _ => rfl) (spD_len (n := 1) (by rintro _ _ ⟨w, rfl, _⟩; rfl)) fun cdv A outer s H vs Q E hr hsp => ?_
  obtain ⟨_, _, ⟨w, rfl, rfl⟩, hi, k⟩ := hsp
  obtain ⟨v, rfl, iv⟩ := hi.one
  refine ⟨_, (pss_cons (ps_if (pt_cmpR op_eq (pe_ix ix_tup (pv 0) pe_int (fun _ _ => rfl)) pe_str (nomark _))
      (pss_one (ps_ret (pe_ix ix_tup (pv 0) pe_int (fun _ _ => rfl))))
      pss_nil)
    (pss_cons (ps_if (pt_cmpR op_eq (pe_ix ix_tup (pv 0) pe_int (fun _ _ => rfl)) pe_str (nomark _))
      (pss_one (ps_ret (pe_tup (pa_cons (pe_ix ix_tup (pv 0) pe_int (fun _ _ => rfl)) pa_nil))))
      pss_nil)
    (pss_one (ps_ret (pe_tup pa_nil))))), ?_⟩
  have hw : ∀ {H1 : Hp}, Ex H H1 → EvD (tVar 0) (L2.start ["word"] [v]) H1 (encW w) := fun e => evd_var rfl (iv.ex e)
  by_cases hc : hd w = "choose"
  · obtain ⟨rs, rfl⟩ := hd_choose hc
    refine q_yes (evt_hd1 (hw (Ex.refl H)) hc) fun H1 e1 => ?_
    refine qd_ret (evd_at (d := .tuple (encRs rs)) 1 (hw e1) (by simp only [tlD]; rfl)) fun v H2 e2 i2 => k v H2 (e1.trans e2) ?_
    rw [encRs_map] at i2
    exact i2
  refine q_no (evt_hd0 (hw (Ex.refl H)) hc) fun H1 e1 => ?_
  by_cases hl : hd w = "loop"
  · obtain ⟨r, rfl⟩ := hd_loop hl
    refine q_yes (evt_hd1 (hw e1) hl) fun H2 e2 => ?_
    exact qd_ret (evd_tup (evds_cons (evd_at 1 (hw (e1.trans e2)) (by simp only [tlD]; rfl)) evds_nil) ) fun v H3 e3 i3 => k v H3 ((e1.trans e2).trans e3) i3
  refine q_no (evt_hd0 (hw e1) hl) fun H2 e2 => ?_
  refine qd_ret (evd_tup evds_nil ) fun v H3 e3 i3 => k v H3 ((e1.trans e2).trans e3) ?_
  have : (rowsIn w).map encRow = [] := by
    cases w <;> first | rfl | exact absurd rfl hc | exact absurd rfl hl
  rw [this]
  exact i3

/-! ### def_of -/
def fDefOf : List PyData → PyData → Prop := fun ds d => ∃ p nm, ds = [encProg p, .str nm] ∧ d = (match defOf p nm with | some D => encDef D | none => .none)
theorem sc_def_of : FnScope ["program", "name", "one"] ["program", "name"] (defScope s_def_of) := ⟨rfl, rfl, rfl, by decide +kernel, rfl, by decide +kernel, by decide +kernel⟩
theorem ok_def_of (T : Fx K mg) : C8.Cal P w K mg base 1 "def_of" (spD fDefOf) [] := by
  obtain ⟨fd, F⟩ := T.f_def_of
  refine cal_of F T.g_def_of sc_def_of (fun _ _ _ _ _ _ us hl => match us, hl with | [_, _], _ => rfl) (spD_len (n := 2) (by rintro _ _ ⟨p, nm, rfl, _⟩; rfl)) fun cdv A outer s H vs Q E hr hsp => ?_
  obtain ⟨_, _, ⟨p, nm, rfl, rfl⟩, hi, k⟩ := hsp
  obtain ⟨vp, vn, rfl, ip, iN⟩ := hi.two
  refine ⟨_, (pss_cons (ps_for PassesOwn.never rfl (pi_tup (pe_ix ix_tup (pv 0) pe_int (fun _ _ => rfl))) (pg_name (i := 2) sc_def_of.nd rfl (.inl rfl))
      (pss_one (ps_if (pt_cmpR op_eq (pe_ix ix_tup (pv 2) pe_int (fun _ _ => rfl)) (pv 1) (nomark _))
        (pss_one (ps_ret (pv 2)))
        pss_nil)))
    (pss_one (ps_ret pe_non))), ?_⟩
  refine qd_forT (ds := p.defs.map encDef) (evd_at 0 (evd_var rfl ip) rfl) (fun H1 i σ' H' => (∃ x, σ' = [some vp, some vn, x]) ∧ Ex H1 H' ∧ (p.defs.take i).find? (fun D => decide (D.name = nm)) = none)
    (fun H1 e1 => ⟨⟨_, rfl⟩, Ex.refl H1, rfl⟩) (fun H1 i σ' H' _ h => KT.of h.2.1) ?_ ?_
  · rintro H1 i d v σ' H' e1 hd hv ⟨⟨x, rfl⟩, e2, hn⟩
    rw [List.getElem?_map] at hd
    cases q : p.defs[i]? with
    | none => rw [q] at hd; cases hd
    | some D0 =>
      rw [q] at hd
      obtain rfl : encDef D0 = d := Option.some.inj hd
      have hv0 : EvD (tVar 2) [some vp, some vn, some v] H' (encDef D0) := evd_var rfl hv
      refine s_if (evt_eq (evd_at 0 hv0 rfl) (evd_var rfl (iN.ex (e1.trans e2))) rfl) (fun hb H2 e3 => ?_) (fun hb H2 e3 => ?_)
      · have hb : D0.name = nm := of_decide_eq_true hb
        refine qd_ret (hv0.mono e3) fun z H3 e4 i4 => k z H3 (((e1.trans e2).trans e3).trans e4) ?_
        have : defOf p nm = some D0 := find_at hn q (decide_eq_true hb)
        rw [this]
        exact i4
      · have hb : ¬ D0.name = nm := of_decide_eq_false hb
        exact ⟨⟨_, rfl⟩, e2.trans e3, find_next hn q (decide_eq_false hb)⟩
  · rintro H1 σ' H' e1 ⟨⟨x, rfl⟩, e2, hn⟩
    refine qd_ret evd_non fun z H3 e4 i4 => k z H3 ((e1.trans e2).trans e4) ?_
    rw [List.length_map, List.take_length] at hn
    have : defOf p nm = none := hn
    rw [this]
    exact i4

/-! ### row_of -/
def fRowOf : List PyData → PyData → Prop := fun ds d => ∃ p nm r, ds = [encProg p, .str nm] ∧ rowOf p nm = some r ∧ d = encRow r
theorem sc_row_of : FnScope ["program", "name"] ["program", "name"] (defScope s_row_of) := ⟨rfl, rfl, rfl, by decide +kernel, rfl, by decide +kernel, by decide +kernel⟩
theorem ok_row_of (T : Fx K mg) : C8.Cal P w K mg base 2 "row_of" (spD fRowOf) [] := by
  obtain ⟨fd, F⟩ := T.f_row_of
  have c_def_of := ok_def_of (P := P) (w := w) (base := base) T
  refine cal_of F T.g_row_of sc_row_of (fun _ _ _ _ _ _ us hl => match us, hl with | [_, _], _ => rfl) (spD_len (n := 2) (by rintro _ _ ⟨p, nm, r, rfl, _⟩; rfl)) fun cdv A outer s H vs Q E hr hsp => ?_
  obtain ⟨_, _, ⟨p, nm, r, rfl, hrow, rfl⟩, hi, k⟩ := hsp
  obtain ⟨vp, vn, rfl, ip, iN⟩ := hi.two
  refine ⟨_, (pss_cons (ps_if (pt_cmpR op_eq (pv 1) pe_str (nomark _))
      (pss_one (ps_ret (pe_ix ix_tup (pv 0) pe_int (fun _ _ => rfl))))
      pss_nil)
    (pss_one (ps_ret (pe_ix ix_tup (C8.pe_c c_def_of hr (by omega) rfl (pa_cons (pv 0) (pa_cons (pv 1) pa_nil))) pe_int (fun _ _ => rfl))))), ?_⟩
  unfold rowOf at hrow
  by_cases h0 : nm = Str.empty
  · rw [if_pos h0] at hrow
    cases hrow
    refine q_yes (evt_yes (evt_eq (evd_var rfl iN) evd_str rfl) (decide_eq_true h0)) fun H1 e1 => ?_
    exact qd_ret (evd_at 1 (evd_var rfl (ip.ex e1)) rfl) fun z H3 e4 i4 => k z H3 (e1.trans e4) i4
  · rw [if_neg h0] at hrow
    refine q_no (evt_no (evt_eq (evd_var rfl iN) evd_str rfl) (decide_eq_false h0)) fun H1 e1 => ?_
    obtain ⟨D0, hD, rfl⟩ := Option.map_eq_some_iff.mp hrow
    refine qd_ret (evd_at 3 (evd_call (evds_cons (evd_var rfl (ip.ex e1)) (evds_cons (evd_var rfl (iN.ex e1)) evds_nil)) (d := encDef D0) ⟨p, nm, rfl, by rw [hD]⟩) rfl) fun z H3 e4 i4 => k z H3 (e1.trans e4) i4
end
end K16

set_option Elab.async false
set_option linter.all false
set_option maxRecDepth 100000
set_option maxHeartbeats 4000000
/-! KPlaces2: words_along, word_at, behind, first_place, inside, out_of -/
namespace K16
open PySem PySem.Spec PyProof.Rows L2 Evl
section
variable {K : PySem.W.Frag} {σ : L2.St} {H H' : Hp} {ta tb te tl : TE} {d e f : PyData} {ds es : List PyData} {D : Ends} {tz tu tw : TS} {t : TT}
/-- words_along(p, pl): a new list, its last the row and the number -/
def spAlong : Sp := fun vs H Q _ => ∃ p pl r, Ims H vs [encProg p, encPl pl] ∧ rowAt p pl.nm pl.path = some r ∧ pl.path.length ≤ 1000 ∧ ∀ a H' xs v, Ex H H' → H' a = some (.lst (xs ++ [v])) → Im H' v (.tuple [encRow r, .int pl.at_]) → Q (.ref a) H'
theorem evd_along {p : Prog} {pl : Place} {r : Row} {E : XK} {t : TA} (h : EvDs t σ H [encProg p, encPl pl]) (hr : rowAt p pl.nm pl.path = some r) (hl : pl.path.length ≤ 1000) :
    EvD (tOp (rIxL K) (tCall spAlong [] E t) (tUn (rU fun i => .int (-i)) (tC (.int 1)))) σ H (.tuple [encRow r, .int pl.at_]) := fun H1 a Q q =>
  h H1 a _ fun vs H2 e2 i2 => ⟨p, pl, r, by simpa using i2, hr, hl, fun a H3 xs v e3 ha iv => ⟨1, rfl, a, xs ++ [v], -1, v, rfl, rfl, SqL.of ha, atI_last xs v, q v H3 (e2.trans e3) iv⟩⟩
end
theorem rowP_app {R r : Row} : ∀ {a b : List (Nat × Nat)}, rowP R b = some r → rowP R (a ++ b) = rowP r a
  | [], b, h => h
  | (n, c) :: a, b, h => by
    show (rowP R (a ++ b)).bind _ = (rowP r a).bind _
    rw [rowP_app h]
theorem rowP_pre {R r : Row} : ∀ {a b : List (Nat × Nat)}, rowP R (a ++ b) = some r → ∃ r', rowP R b = some r'
  | [], b, h => ⟨r, h⟩
  | (n, c) :: a, b, h => by
    have h : (rowP R (a ++ b)).bind _ = some r := h
    obtain ⟨r1, h1, _⟩ := Option.bind_eq_some_iff.mp h
    exact rowP_pre h1
/-- the numbers of a place behind its name -/
theorem encPl_num {pre suf : List (Nat × Nat)} {n c : Nat} {nm : Str} {m : Nat} : (PyData.str nm :: (encPath (pre ++ (n, c) :: suf) ++ [PyData.int m]))[1 + 2 * suf.length]? = some (.int n) ∧
    (PyData.str nm :: (encPath (pre ++ (n, c) :: suf) ++ [PyData.int m]))[2 + 2 * suf.length]? = some (.int c) := by
  have e1 := encPath_len suf
  constructor
  · rw [show 1 + 2 * suf.length = (2 * suf.length) + 1 by omega, List.getElem?_cons_succ, encPath_app, encPath, List.append_assoc, List.append_assoc, List.getElem?_append_right (by omega)]
    simp [e1]
  · rw [show 2 + 2 * suf.length = (2 * suf.length + 1) + 1 by omega, List.getElem?_cons_succ, encPath_app, encPath, List.append_assoc, List.append_assoc, List.getElem?_append_right (by omega)]
    simp [e1]
theorem encPl_last {ps : List (Nat × Nat)} {nm : Str} {m : Nat} : (PyData.str nm :: (encPath ps ++ [PyData.int m]))[1 + 2 * ps.length]? = some (.int m) := by
  rw [show 1 + 2 * ps.length = (2 * ps.length) + 1 by omega, List.getElem?_cons_succ, List.getElem?_append_right (by rw [encPath_len]; omega), encPath_len]
  simp
theorem encPl_len (pl : Place) : (PyData.str pl.nm :: (encPath pl.path ++ [PyData.int pl.at_])).length = 2 + 2 * pl.path.length := by
  simp [encPath_len]; omega
/-- the number at the k-th level: the way ends there, or leads on -/
def numAt (pl : Place) (pre : List (Nat × Nat)) : Nat := match pre.getLast? with
  | some (n, _) => n
  | none => pl.at_
theorem encPl_at {pl : Place} {pre suf : List (Nat × Nat)} (h : pl.path = pre ++ suf) : (PyData.str pl.nm :: (encPath pl.path ++ [PyData.int pl.at_]))[1 + 2 * suf.length]? = some (.int (numAt pl pre)) := by
  unfold numAt
  rw [h]
  rcases List.eq_nil_or_concat pre with rfl | ⟨pre', ⟨n, c⟩, rfl⟩
  · exact encPl_last
  · have := (encPl_num (pre := pre') (suf := suf) (n := n) (c := c) (nm := pl.nm) (m := pl.at_)).1
    simpa using this
section
variable {P : Program} {w : World} {K : PySem.W.Frag} {mg : Str → Option Value} {base : Heap}
theorem sc_words_along : FnScope ["program", "place", "row", "found", "at"] ["program", "place"] (defScope s_words_along) := ⟨rfl, rfl, rfl, by decide +kernel, rfl, by decide +kernel, by decide +kernel⟩
theorem ok_words_along (T : Fx K mg) : C8.Cal P w K mg base 3 "words_along" spAlong [] := by
  obtain ⟨fd, F⟩ := T.f_words_along
  have c_row_of := ok_row_of (P := P) (w := w) (base := base) T
  have c_rows_in := ok_rows_in (P := P) (w := w) (base := base) T
  refine cal_of F T.g_words_along sc_words_along (fun _ _ _ _ _ _ us hl => match us, hl with | [_, _], _ => rfl) (fun vs H Q E ⟨p, pl, r, h, _⟩ => h.len) fun cdv A outer s H vs Q E hr hsp => ?_
  obtain ⟨p, pl, r, hi, hrow, hlen, k⟩ := hsp
  obtain ⟨vp, vl, rfl, ip, il⟩ := hi.two
  refine ⟨_, (pss_cons (ps_set (i := 2) sc_words_along.nd rfl (.inl rfl) (C8.pe_c c_row_of hr (by omega) rfl (pa_cons (pv 0) (pa_cons (pe_ix ix_tup (pv 1) pe_int (fun _ _ => rfl)) pa_nil))))
    (pss_cons (ps_set (i := 3) sc_words_along.nd rfl (.inl rfl) (pe_lst (pa_cons (pe_tup (pa_cons (pv 2) (pa_cons (pe_ix ix_tup (pv 1) pe_int (fun _ _ => rfl)) pa_nil))) pa_nil)))
    (pss_cons (ps_for PassesOwn.never rfl (pi_range3 (by rfl) T.range_ (pa_cons pe_int (pa_cons (pe_callB call_len_seq (by rfl) T.len_ boot_len (pa_cons (pv 1) pa_nil)) (pa_cons pe_int pa_nil)))) (pg_name (i := 4) sc_words_along.nd rfl (.inl rfl))
      (pss_cons (ps_set (i := 2) sc_words_along.nd rfl (.inl rfl) (pe_ix ix_tup (C8.pe_c c_rows_in hr (by omega) rfl (pa_cons (pe_ix ix_tup (pv 2) (pe_ix ix_tup (pv 1) (pe_op op_sub (pv 4) pe_int) (fun _ _ => rfl)) (fun _ _ => rfl)) pa_nil)) (pe_ix ix_tup (pv 1) (pv 4) (fun _ _ => rfl)) (fun _ _ => rfl)))
      (pss_one (ps_expr (pe_bm PySem.F.plainAttrs_list PySem.F.slot_list_append PySem.F.type_list_append mt_append (pv 3) (pa_cons (pe_tup (pa_cons (pv 2) (pa_cons (pe_ix ix_tup (pv 1) (pe_op op_add (pv 4) pe_int) (fun _ _ => rfl)) pa_nil))) pa_nil))))))
    (pss_one (ps_ret (pv 3)))))), ?_⟩
  obtain ⟨R, hR, hr'⟩ := Option.bind_eq_some_iff.mp hrow
  -- row = row_of(program, place[0])
  refine qd_set (evd_call (d := encRow R) (evds_cons (evd_var rfl ip) (evds_cons (evd_at 0 (evd_var rfl il) rfl) evds_nil)) ⟨p, pl.nm, R, rfl, hR, rfl⟩) fun vr H1 e1 i1 => ?_
  have hl0 := encPl_len pl
  have hz : pl.path.length ≤ 1000 := hlen
  -- found = [(row, place[1])]
  refine qd_lst (evds_cons (evd_tup (evds_cons (evd_var rfl i1) (evds_cons (evd_at 1 (evd_var rfl (il.ex e1)) (encPl_at (pre := pl.path) (suf := []) (by simp))) evds_nil))) evds_nil) (by simp) fun fl vs H2 nfl e2 hfl i2 => ?_
  obtain ⟨v2, rfl, iv2⟩ := i2.one
  refine qd_for2 (n := pl.path.length) (evds_cons evd_int (evds_cons (evd_len (evd_var rfl (il.ex (e1.trans e2)))) (evds_cons evd_int evds_nil))) (by omega) (by omega) (by split <;> omega)
    (fun i σ' H' => ∃ (vr : V) (x : Option V) (r' : Row) (pre suf : List (Nat × Nat)) (xs : List V) (v : V), σ' = [some vp, some vl, some vr, some (.ref fl), x] ∧ Kp [fl] H1 H' ∧ pl.path = pre ++ suf ∧ suf.length = i ∧ rowP R suf = some r' ∧ Im H' vr (encRow r') ∧
      H' fl = some (.lst (xs ++ [v])) ∧ xs.length = i ∧ Im H' v (.tuple [encRow r', .int (numAt pl pre)]))
    (fun H3 e3 => ⟨vr, none, R, pl.path, [], [], v2, rfl, Kp.of (e2.trans e3), by simp, rfl, rfl, i1.ex (e2.trans e3), e3 _ _ hfl, rfl, iv2.ex e3⟩) ?_ ?_
  · rintro i σ' H' hi ⟨vr, x, r', pre, suf, xs, v, rfl, kp, hp, rfl, hrow', ir, hfl', hxs, iv⟩
    have hpre : pre ≠ [] := by
      rintro rfl
      rw [List.nil_append] at hp
      rw [hp] at hi
      omega
    obtain ⟨pre', ⟨n, c⟩, rfl⟩ := (List.eq_nil_or_concat pre).resolve_left hpre
    rw [List.concat_eq_append] at hp
    have hp2 : pl.path = pre' ++ ((n, c) :: suf) := by rw [hp]; simp
    obtain ⟨r2, hr2⟩ := rowP_pre (hp2 ▸ hr')
    have hr2' := hr2
    have hr2' : (rowP R suf).bind _ = some r2 := hr2'
    rw [hrow', Option.bind_some] at hr2'
    obtain ⟨wd, hw, hw2⟩ := Option.bind_eq_some_iff.mp hr2'
    have he1 : Ex H H' := e1.trans (Kp.ex (fun b o h _ => kp b o h (by
      simp only [List.mem_singleton]
      exact ne_of_none h nfl)))
    have num := encPl_num (pre := pre') (suf := suf) (n := n) (c := c) (nm := pl.nm) (m := pl.at_)
    rw [← hp2] at num
    have il' := il.ex he1
    -- row = rows_in(row[place[at - 1]])[place[at]]
    refine qd_set (d := encRow r2) (evd_ixn (evd_call (d := .tuple ((rowsIn wd).map encRow)) (evds_cons (evd_ixn (evd_var rfl ir) (evd_ixn (evd_var rfl il') (evd_is (evd_sub (evd_var rfl (.int _)) evd_int) (congrArg PyData.int (show _ = ((1 + 2 * suf.length : Nat) : Int) by omega))) num.1) (encR_get hw)) evds_nil) ⟨wd, rfl, rfl⟩)
      (evd_ixn (evd_var rfl il') (evd_is (evd_var rfl (.int _)) (congrArg PyData.int (show _ = ((2 + 2 * suf.length : Nat) : Int) by omega))) num.2) (by rw [List.getElem?_map, hw2]; rfl)) fun vr2 H3 e3 i3 => ?_
    -- found.append((row, place[at + 1]))
    refine sd_app (xs := xs ++ [v]) (ev_var rfl) (e3 _ _ hfl') (evd_tup (evds_cons (evd_var rfl i3) (evds_cons (evd_ixn (evd_var rfl (il'.ex e3)) (evd_is (evd_add (evd_var rfl (.int _)) evd_int) (congrArg PyData.int (show _ = ((1 + 2 * ((n, c) :: suf).length : Nat) : Int) by simp; omega))) (encPl_at hp2)) evds_nil))) (by simp; omega) fun v3 H4 e4 i4 => ?_
    refine ⟨vr2, some (.int (2 + (suf.length : Int) * 2)), r2, pre', (n, c) :: suf, xs ++ [v], v3, rfl, (kp.trans (Kp.of (e3.trans e4))).mut (by simp), hp2, rfl, hr2, ?_, upd_same, by simp [hxs], ?_⟩
    · exact (i3.ex e4).mono ((KT.refl H4).upd fun ys z => by rw [e4 _ _ (e3 _ _ hfl')] at z; cases z)
    · exact i4.mono ((KT.refl H4).upd fun ys z => by rw [e4 _ _ (e3 _ _ hfl')] at z; cases z)
  · rintro σ' H' ⟨vr, x, r', pre, suf, xs, v, rfl, kp, hp, hsl, hrow', ir, hfl', hxs, iv⟩
    have hpre : pre = [] := by
      have := congrArg List.length hp
      rw [List.length_append] at this
      exact List.eq_nil_of_length_eq_zero (by omega)
    subst hpre
    rw [List.nil_append] at hp
    subst hp
    obtain rfl : r' = r := Option.some.inj (hrow'.symm.trans hr')
    refine ⟨_, rfl, k fl H' xs v ?_ hfl' iv⟩
    exact e1.trans (Kp.ex (fun b o h _ => kp b o h (by
      simp only [List.mem_singleton]
      exact ne_of_none h nfl)))
end
end K16

set_option Elab.async false
set_option linter.all false
set_option maxRecDepth 100000
set_option maxHeartbeats 4000000
/-! KPlaces3: word_at, behind, first_place, inside, out_of -/
namespace K16
open PySem PySem.Spec PyProof.Rows L2 Evl
/-- a statement that is reached only where n is not 0 -/
theorem ps_rec {n : Nat} {X : Cx} {st : Stmt} {t : TS} (h : n ≠ 0 → PS X st t) : PS X st (fun D σ H => n ≠ 0 ∧ t D σ H) := ⟨fun pins s σ H D I q => (h q.1).run pins s σ H D I q.2⟩
theorem pe_rec {n : Nat} {X : Cx} {e : Expr} {t : TE} (h : n ≠ 0 → PE X e t) : PE X e (fun σ H Q => n ≠ 0 ∧ t σ H Q) := ⟨fun pins s σ H D I q => (h q.1).run pins s σ H D I q.2⟩
def encOW : Option Word → PyData
  | some w => encW w
  | none => .none
def fWordAt : List PyData → PyData → Prop := fun ds d => ∃ p pl o, ds = [encProg p, encPl pl] ∧ wordAt p pl = some o ∧ pl.path.length ≤ 1000 ∧ d = encOW o
def fBehind (n : Nat) : List PyData → PyData → Prop := fun ds d => ∃ p pl pl', ds = [encProg p, encPl pl] ∧ behind p pl = some pl' ∧ pl.path.length ≤ n ∧ n ≤ 1000 ∧ d = encPl pl'
def fFirst : List PyData → PyData → Prop := fun ds d => ∃ p nm, ds = [p, .str nm] ∧ d = encPl ⟨nm, [], 0⟩
def fInside : List PyData → PyData → Prop := fun ds d => ∃ p pl c pl', ds = [encProg p, encPl pl, .int (c : Nat)] ∧ inside p pl c = some pl' ∧ pl.path.length ≤ 8 ∧ (∀ w, wordAt p pl = some (some w) → ∀ r ∈ rowsIn w, SeqAt.shaped (encRow r) = true) ∧ d = encPl pl'
def fOut : List PyData → PyData → Prop := fun ds d => ∃ p pl n pl', ds = [encProg p, encPl pl, .int (n : Nat)] ∧ outOf p pl n = some pl' ∧ 1 ≤ n ∧ pl.path.length ≤ 8 ∧ d = encPl pl'
/-- place[:-1], place[:-2] -/
theorem cut1 (pl : Place) : cutD (.str pl.nm :: (encPath pl.path ++ [.int pl.at_])) none (some (-1)) = .str pl.nm :: encPath pl.path := by
  unfold cutD
  simp only [HT.sIx]
  have : ((-1 : Int) + ((PyData.str pl.nm :: (encPath pl.path ++ [PyData.int pl.at_])).length : Int)).toNat = (PyData.str pl.nm :: encPath pl.path).length := by simp; omega
  rw [if_pos (by decide), this, List.drop_zero, Nat.sub_zero, ← List.cons_append, List.take_left']
  rfl
theorem cut2 (nm : Str) (m c : Nat) (ps : List (Nat × Nat)) (n : Nat) : cutD (.str nm :: (encPath ((m, c) :: ps) ++ [.int n])) none (some (-2)) = .str nm :: (encPath ps ++ [.int m]) := by
  unfold cutD
  simp only [HT.sIx]
  have : ((-2 : Int) + ((PyData.str nm :: (encPath ((m, c) :: ps) ++ [PyData.int n])).length : Int)).toNat = (PyData.str nm :: (encPath ps ++ [PyData.int m])).length := by simp [encPath]; omega
  rw [if_pos (by decide), this, List.drop_zero, Nat.sub_zero, encPath]
  have e : PyData.str nm :: (encPath ps ++ [PyData.int m, PyData.int c] ++ [PyData.int n]) = (PyData.str nm :: (encPath ps ++ [PyData.int m])) ++ [PyData.int c, PyData.int n] := by simp
  rw [e, List.take_left']
  rfl
section
variable {K : PySem.W.Frag} {σ : L2.St} {H H' : Hp} {ta tb te tl : TE} {d e f : PyData} {ds es : List PyData} {D : Ends} {tz tu tw : TS} {t : TT}
theorem evo_neg {i j : Int} (h : -i = j := by rfl) : EvO (tPart (tUn (rU fun i => .int (-i)) (tC (.int i)))) σ H (some j) := by
  subst h
  exact evo_some (evd_neg evd_int)
end
section
variable {P : Program} {w : World} {K : PySem.W.Frag} {mg : Str → Option Value} {base : Heap}
theorem sc_word_at : FnScope ["program", "place", "row", "number"] ["program", "place"] (defScope s_word_at) := ⟨rfl, rfl, rfl, by decide +kernel, rfl, by decide +kernel, by decide +kernel⟩
theorem ok_word_at (T : Fx K mg) : C8.Cal P w K mg base 4 "word_at" (spD fWordAt) [] := by
  obtain ⟨fd, F⟩ := T.f_word_at
  have c_words_along := ok_words_along (P := P) (w := w) (base := base) T
  refine cal_of F T.g_word_at sc_word_at (fun _ _ _ _ _ _ us hl => match us, hl with | [_, _], _ => rfl) (spD_len (n := 2) (by rintro _ _ ⟨p, nm, r, rfl, _⟩; rfl)) fun cdv A outer s H vs Q E hr hsp => ?_
  obtain ⟨_, _, ⟨p, pl, o, rfl, hw, hlen, rfl⟩, hi, k⟩ := hsp
  obtain ⟨vp, vl, rfl, ip, il⟩ := hi.two
  obtain ⟨r, hrow, hw⟩ := Option.bind_eq_some_iff.mp hw
  refine ⟨_, (pss_cons (ps_asg (pe_ix ix_list (C8.pe_c c_words_along hr (by omega) rfl (pa_cons (pv 0) (pa_cons (pv 1) pa_nil))) (pe_un un_neg pe_int) (fun _ _ => rfl)) (pg_tup rfl (pgs_cons (pg_name (i := 2) sc_word_at.nd rfl (.inl rfl)) (pgs_cons (pg_name (i := 3) sc_word_at.nd rfl (.inl rfl)) pgs_nil))))
    (pss_cons (ps_if (pt_cmpR op_eq (pv 3) (pe_callB call_len_seq (by rfl) T.len_ boot_len (pa_cons (pv 2) pa_nil)) (nomark _))
      (pss_one (ps_ret pe_non))
      pss_nil)
    (pss_one (ps_ret (pe_ix ix_tup (pv 2) (pv 3) (fun _ _ => rfl)))))), ?_⟩
  refine qd_two (evd_along (evds_cons (evd_var rfl ip) (evds_cons (evd_var rfl il) evds_nil)) hrow hlen) fun vr vn H1 e1 ir iN => ?_
  have t0 := evt_eq (evd_var (i := 3) (σ := [some vp, some vl, some vr, some vn]) rfl iN) (evd_len (K := K) (evd_var (i := 2) rfl ir)) rfl
  unfold wordR at hw
  by_cases hn : pl.at_ = r.length
  · rw [if_pos hn] at hw
    cases hw
    exact q_yes (evt_yes t0 (decide_eq_true (by rw [encR_len]; omega))) fun H2 e2 => qd_ret evd_non fun z H3 e4 i4 => k z H3 ((e1.trans e2).trans e4) i4
  · rw [if_neg hn] at hw
    obtain ⟨wd, hw2, rfl⟩ := Option.map_eq_some_iff.mp hw
    exact q_no (evt_no t0 (decide_eq_false (by rw [encR_len]; omega))) fun H2 e2 => qd_ret (evd_ixn (evd_var rfl (ir.ex e2)) (evd_var rfl (iN.ex e2)) (encR_get hw2)) fun z H3 e4 i4 => k z H3 ((e1.trans e2).trans e4) i4

theorem sc_behind : FnScope ["program", "place", "row", "number", "around"] ["program", "place"] (defScope s_behind) := ⟨rfl, rfl, rfl, by decide +kernel, rfl, by decide +kernel, by decide +kernel⟩
theorem behind_step (T : Fx K mg) (n : Nat) (c_behind : n ≠ 0 → C8.Cal P w K mg base (5 + (n - 1)) "behind" (spD (fBehind (n - 1))) []) : C8.Cal P w K mg base (5 + n) "behind" (spD (fBehind n)) [] := by
  obtain ⟨fd, F⟩ := T.f_behind
  have c_words_along := ok_words_along (P := P) (w := w) (base := base) T
  have c_word_at := ok_word_at (P := P) (w := w) (base := base) T
  rw [Nat.add_right_comm 4 1 n]
  refine cal_of F T.g_behind sc_behind (fun _ _ _ _ _ _ us hl => match us, hl with | [_, _], _ => rfl) (spD_len (n := 2) (by rintro _ _ ⟨p, nm, r, rfl, _⟩; rfl)) fun cdv A outer s H vs Q E hr hsp => ?_
  obtain ⟨_, _, ⟨p, pl, pl', rfl, hb, hlen, hn, rfl⟩, hi, k⟩ := hsp
  obtain ⟨vp, vl, rfl, ip, il⟩ := hi.two
  refine ⟨_, (pss_cons (ps_asg (pe_ix ix_list (C8.pe_c c_words_along hr (by omega) rfl (pa_cons (pv 0) (pa_cons (pv 1) pa_nil))) (pe_un un_neg pe_int) (fun _ _ => rfl)) (pg_tup rfl (pgs_cons (pg_name (i := 2) sc_behind.nd rfl (.inl rfl)) (pgs_cons (pg_name (i := 3) sc_behind.nd rfl (.inl rfl)) pgs_nil))))
    (pss_cons (ps_if (PW.pt (pw_or (pt_cmpR op_lt (pe_op op_add (pv 3) pe_int) (pe_callB call_len_seq (by rfl) T.len_ boot_len (pa_cons (pv 2) pa_nil)) (nomark _)) (pw_or1 (pt_cmpR op_eq (pe_callB call_len_seq (by rfl) T.len_ boot_len (pa_cons (pv 1) pa_nil)) pe_int (nomark _)))))
      (pss_one (ps_ret (pe_op op_catA (pe_slice sl_tupA (pv 1) po_none (po_some (pe_un un_neg pe_int))) (pe_tup (pa_cons (pe_op op_add (pv 3) pe_int) pa_nil)))))
      pss_nil)
    (pss_cons (ps_set (i := 4) sc_behind.nd rfl (.inl rfl) (pe_slice sl_tupA (pv 1) po_none (po_some (pe_un un_neg pe_int))))
    (pss_cons (ps_if (pt_cmpR op_eq (pe_ix ix_tup (C8.pe_c c_word_at hr (by omega) rfl (pa_cons (pv 0) (pa_cons (pv 4) pa_nil))) pe_int (fun _ _ => rfl)) pe_str (nomark _))
      (pss_one (ps_ret (pv 4)))
      pss_nil)
    (pss_one (ps_rec fun h0 => ps_ret (C8.pe_c (c_behind h0) hr (by omega) rfl (pa_cons (pv 0) (pa_cons (pv 4) pa_nil))))))))), ?_⟩
  obtain ⟨nm, path, m⟩ := pl
  -- the row around
  have hrow : ∃ r, rowAt p nm path = some r := by
    unfold behind at hb
    cases path with
    | nil =>
      simp only [behindG] at hb
      obtain ⟨r, h, _⟩ := Option.map_eq_some_iff.mp hb
      exact ⟨r, h⟩
    | cons x ps =>
      simp only [behindG] at hb
      obtain ⟨r, h, _⟩ := Option.bind_eq_some_iff.mp hb
      exact ⟨r, h⟩
  obtain ⟨r, hrow⟩ := hrow
  refine qd_two (evd_along (evds_cons (evd_var rfl ip) (evds_cons (evd_var rfl il) evds_nil)) hrow (Nat.le_trans hlen hn)) fun vr vn H1 e1 ir iN => ?_
  dsimp only at iN hlen
  have t0 := evt_lt (evd_add (evd_var (i := 3) (σ := [some vp, some vl, some vr, some vn, none]) rfl iN) (evd_int (i := 1))) (evd_len (K := K) (evd_var (i := 2) rfl ir)) (H := H1)
  have t1 : EvT _ [some vp, some vl, some vr, some vn, none] H1 _ := evt_eq (evd_len (K := K) (evd_var (i := 1) rfl (il.ex e1))) (evd_int (i := 2)) rfl
  have t2 := et_or t0 fun _ => t1
  have next : ∀ {H2 : Hp}, Ex H1 H2 → EvD (tOp (rCatA K) (tSl (rSlA K) (tVar 1) tNoPart (tPart (tUn (rU fun i => .int (-i)) (tC (.int 1))))) (tTup (tCons (tOp (rI0 fun i j => .int (i + j)) (tVar 3) (tC (.int 1))) tNil))) [some vp, some vl, some vr, some vn, none] H2 (encPl ⟨nm, path, m + 1⟩) := fun e2 => by
    refine evd_cat (evd_slice (evd_var rfl (il.ex (e1.trans e2))) eo_none evo_neg (cut1 ⟨nm, path, m⟩)) (evd_tup (evds_cons (evd_add (evd_var rfl (iN.ex e2)) evd_int) evds_nil)) ?_
    simp only [List.length_cons, encPath_len, List.length_nil]
    have : path.length ≤ n := hlen
    omega
  rcases path with _ | ⟨⟨m', c⟩, ps⟩
  · -- the row of the def itself
    refine q_yes (evt_yes t2 ?_) fun H2 e2 => qd_ret (next e2) fun z H3 e4 i4 => k z H3 ((e1.trans e2).trans e4) ?_
    · rw [Bool.or_eq_true]
      exact .inr (by simp [eqD, encPath])
    · unfold behind at hb
      simp only [behindG, hrow, Option.map_some] at hb
      cases hb
      exact i4
  · unfold behind at hb
    simp only [behindG, hrow, Option.bind_some] at hb
    have hne : eqD (.int (((PyData.str nm :: (encPath ((m', c) :: ps) ++ [PyData.int m])).length : Nat) : Int)) (.int 2) = false := decide_eq_false (by have := encPl_len ⟨nm, (m', c) :: ps, m⟩; simp at this ⊢; omega)
    by_cases hlt : m + 1 < r.length
    · rw [if_pos hlt] at hb
      cases hb
      refine q_yes (evt_yes t2 ?_) fun H2 e2 => qd_ret (next e2) fun z H3 e4 i4 => k z H3 ((e1.trans e2).trans e4) i4
      rw [Bool.or_eq_true]
      exact .inl (decide_eq_true (by rw [encR_len]; omega))
    · rw [if_neg hlt] at hb
      refine q_no (evt_no t2 ?_) fun H2 e2 => ?_
      · rw [Bool.or_eq_false_iff]
        exact ⟨decide_eq_false (by rw [encR_len]; omega), hne⟩
      -- around = place[:-2]
      have hps : ps.length + 1 ≤ n := hlen
      refine qd_set (evd_slice (evd_var rfl (il.ex (e1.trans e2))) eo_none evo_neg (cut2 nm m' c ps m)) fun va H3 e3 ia => ?_
      have e123 := (e1.trans e2).trans e3
      cases hwa : wordAt p ⟨nm, ps, m'⟩ with
      | none => rw [hwa] at hb; cases hb
      | some o =>
        cases o with
        | none => rw [hwa] at hb; cases hb
        | some wd =>
          rw [hwa] at hb
          have hw : ∀ {H4 : Hp}, Ex H3 H4 → EvD (tCall (spD fWordAt) [] C8.E0 (tCons (tVar 0) (tCons (tVar 4) tNil))) [some vp, some vl, some vr, some vn, some va] H4 (encW wd) := fun e4 =>
            evd_call (evds_cons (evd_var rfl (ip.ex (e123.trans e4))) (evds_cons (evd_var rfl (ia.ex e4)) evds_nil)) ⟨p, ⟨nm, ps, m'⟩, some wd, rfl, hwa, by show ps.length ≤ 1000; omega, rfl⟩
          by_cases hlp : hd wd = "loop"
          · obtain ⟨r', rfl⟩ := hd_loop hlp
            have hb : some (⟨nm, ps, m'⟩ : Place) = some pl' := hb
            cases hb
            exact q_yes (evt_hd1 (hw (Ex.refl H3)) hlp) fun H4 e4 => qd_ret (evd_var rfl (ia.ex e4)) fun z H5 e5 i5 => k z H5 ((e123.trans e4).trans e5) i5
          · have hil : isLoop wd = false := by
              cases wd <;> first | rfl | exact absurd rfl hlp
            have hb : (if isLoop wd = true then some _ else behindG p nm ps m') = some pl' := hb
            rw [hil] at hb
            have hb : behindG p nm ps m' = some pl' := hb
            refine q_no (evt_hd0 (hw (Ex.refl H3)) hlp) fun H4 e4 => ?_
            refine ⟨by omega, ?_⟩
            exact qd_ret (evd_call (evds_cons (evd_var rfl (ip.ex (e123.trans e4))) (evds_cons (evd_var rfl (ia.ex e4)) evds_nil)) ⟨p, ⟨nm, ps, m'⟩, pl', rfl, hb, by show ps.length ≤ n - 1; omega, by omega, rfl⟩) fun z H5 e5 i5 => k z H5 ((e123.trans e4).trans e5) i5
theorem ok_behind (T : Fx K mg) : ∀ n : Nat, C8.Cal P w K mg base (5 + n) "behind" (spD (fBehind n)) []
  | 0 => behind_step T 0 fun h => absurd rfl h
  | n + 1 => behind_step T (n + 1) fun _ => ok_behind T n

/-! ### first_place, inside, out_of -/
theorem sc_first_place : FnScope ["program", "name"] ["program", "name"] (defScope s_first_place) := ⟨rfl, rfl, rfl, by decide +kernel, rfl, by decide +kernel, by decide +kernel⟩
theorem ok_first_place (T : Fx K mg) : C8.Cal P w K mg base 1 "first_place" (spD fFirst) [] := by
  obtain ⟨fd, F⟩ := T.f_first_place
  refine cal_of F T.g_first_place sc_first_place (fun _ _ _ _ _ _ us hl => match us, hl with | [_, _], _ => rfl) (spD_len (n := 2) (by rintro _ _ ⟨p, nm, rfl, _⟩; rfl)) fun cdv A outer s H vs Q E hr hsp => ?_
  obtain ⟨_, _, ⟨p, nm, rfl, rfl⟩, hi, k⟩ := hsp
  obtain ⟨vp, vl, rfl, ip, il⟩ := hi.two
  refine ⟨_, (pss_one (ps_ret (pe_tup (pa_cons (pv 1) (pa_cons pe_int pa_nil))))), ?_⟩
  exact qd_ret (evd_tup (evds_cons (evd_var rfl il) (evds_cons evd_int evds_nil))) k
theorem sc_inside : FnScope ["program", "place", "number", "word"] ["program", "place", "number"] (defScope s_inside) := ⟨rfl, rfl, rfl, by decide +kernel, rfl, by decide +kernel, by decide +kernel⟩
theorem eqv_nil (ds : List PyData) : PyData.eqv (.tuple ds) (.tuple []) = ds.isEmpty := by
  cases ds <;> simp [PyData.eqv, PyData.eqvAll]
theorem shaped_nil : SeqAt.shaped (.tuple []) = true := by decide +kernel
theorem ok_inside (T : Fx K mg) : C8.Cal P w K mg base 14 "inside" (spD fInside) [] := by
  obtain ⟨fd, F⟩ := T.f_inside
  have c_word_at := ok_word_at (P := P) (w := w) (base := base) T
  have c_rows_in := ok_rows_in (P := P) (w := w) (base := base) T
  have c_behind := ok_behind (P := P) (w := w) (base := base) T 8
  refine cal_of F T.g_inside sc_inside (fun _ _ _ _ _ _ us hl => match us, hl with | [_, _, _], _ => rfl) (spD_len (n := 3) (by rintro _ _ ⟨p, pl, c, pl', rfl, _⟩; rfl)) fun cdv A outer s H vs Q E hr hsp => ?_
  obtain ⟨_, _, ⟨p, pl, c, pl', rfl, hin, hlen, hsh, rfl⟩, hi, k⟩ := hsp
  obtain ⟨vp, vl, vc, rfl, ip, il, ic⟩ := hi.three
  refine ⟨_, (pss_cons (ps_set (i := 3) sc_inside.nd rfl (.inl rfl) (C8.pe_c c_word_at hr (by omega) rfl (pa_cons (pv 0) (pa_cons (pv 1) pa_nil))))
    (pss_cons (ps_if (pt_cmpR (op_neD hr.units) (pe_ix ix_tup (C8.pe_c c_rows_in hr (by omega) rfl (pa_cons (pv 3) pa_nil)) (pv 2) (fun _ _ => rfl)) (pe_tup pa_nil) (nomark _))
      (pss_one (ps_ret (pe_op op_catA (pv 1) (pe_tup (pa_cons (pv 2) (pa_cons pe_int pa_nil))))))
      pss_nil)
    (pss_cons (ps_if (pt_cmpR op_eq (pe_ix ix_tup (pv 3) pe_int (fun _ _ => rfl)) pe_str (nomark _))
      (pss_one (ps_ret (pv 1)))
      pss_nil)
    (pss_one (ps_ret (C8.pe_c c_behind hr (by omega) rfl (pa_cons (pv 0) (pa_cons (pv 1) pa_nil)))))))), ?_⟩
  unfold inside at hin
  cases hwa : wordAt p pl with
  | none => rw [hwa] at hin; cases hin
  | some o =>
    cases o with
    | none => rw [hwa] at hin; cases hin
    | some wd =>
      rw [hwa] at hin
      have hin : ((rowsIn wd)[c]?.bind fun r => if r ≠ [] then some (⟨pl.nm, (pl.at_, c) :: pl.path, 0⟩ : Place) else if isLoop wd then some pl else behind p pl) = some pl' := hin
      obtain ⟨r, hr1, hr2⟩ := Option.bind_eq_some_iff.mp hin
      refine qd_set (evd_call (d := encW wd) (evds_cons (evd_var rfl ip) (evds_cons (evd_var rfl il) evds_nil)) ⟨p, pl, some wd, rfl, hwa, by omega, rfl⟩) fun vw H1 e1 iw => ?_
      have t1 := evt_neD (K := K) (σ := [some vp, some vl, some vc, some vw]) (H := H1) (evd_ixn (K := K) (evd_call (g := fRowsIn) (d := .tuple ((rowsIn wd).map encRow)) (E := C8.E0) (evds_cons (evd_var (i := 3) rfl iw) evds_nil) ⟨wd, rfl, rfl⟩) (evd_var (i := 2) rfl (ic.ex e1)) (d := encRow r) (by rw [List.getElem?_map, hr1]; rfl)) (evd_tup evds_nil) (hsh wd hwa r (List.mem_of_getElem? hr1)) shaped_nil
      rw [eqv_nil] at t1
      by_cases hne : r = []
      · subst hne
        rw [if_neg (fun z => z rfl)] at hr2
        refine q_no (evt_no t1 (by simp [encR])) fun H2 e2 => ?_
        by_cases hlp : hd wd = "loop"
        · obtain ⟨r', rfl⟩ := hd_loop hlp
          have hr2 : some pl = some pl' := hr2
          cases hr2
          exact q_yes (evt_hd1 (evd_var rfl (iw.ex e2)) hlp) fun H4 e4 => qd_ret (evd_var rfl (il.ex ((e1.trans e2).trans e4))) fun z H5 e5 i5 => k z H5 (((e1.trans e2).trans e4).trans e5) i5
        · have hil : isLoop wd = false := by
            cases wd <;> first | rfl | exact absurd rfl hlp
          rw [hil] at hr2
          have hr2 : behind p pl = some pl' := hr2
          exact q_no (evt_hd0 (evd_var rfl (iw.ex e2)) hlp) fun H4 e4 => qd_ret (evd_call (evds_cons (evd_var rfl (ip.ex ((e1.trans e2).trans e4))) (evds_cons (evd_var rfl (il.ex ((e1.trans e2).trans e4))) evds_nil)) ⟨p, pl, pl', rfl, hr2, hlen, by omega, rfl⟩) fun z H5 e5 i5 => k z H5 (((e1.trans e2).trans e4).trans e5) i5
      · rw [if_pos hne] at hr2
        cases hr2
        refine q_yes (evt_yes t1 (by cases r with | nil => exact absurd rfl hne | cons a b => simp [encR])) fun H2 e2 => ?_
        refine qd_ret (d := encPl ⟨pl.nm, (pl.at_, c) :: pl.path, 0⟩) (evd_is (evd_cat (evd_var rfl (il.ex (e1.trans e2))) (evd_tup (evds_cons (evd_var rfl (ic.ex (e1.trans e2))) (evds_cons evd_int evds_nil))) ?_) ?_) fun z H5 e5 i5 => k z H5 ((e1.trans e2).trans e5) i5
        · rw [encPl_len]
          show _ + 2 ≤ _
          omega
        · simp [encPl, encPath]
def leftN (w : Word) (n : Nat) : Nat := if isLoop w then n - 1 else n
theorem outG_zero {p : Prog} {nm : Str} {ps : List (Nat × Nat)} {m n : Nat} {w : Word} (h : wordAt p ⟨nm, ps, m⟩ = some (some w)) (h0 : leftN w n = 0) : outG p nm ps m n = behindG p nm ps m := by
  unfold leftN at h0
  rw [outG.eq_def]
  simp [h, h0]
theorem outG_next {p : Prog} {nm : Str} {ps : List (Nat × Nat)} {m n m' c : Nat} {w : Word} (h : wordAt p ⟨nm, (m', c) :: ps, m⟩ = some (some w)) (h0 : ¬ leftN w n = 0) : outG p nm ((m', c) :: ps) m n = outG p nm ps m' (leftN w n) := by
  unfold leftN at h0 ⊢
  conv => lhs; rw [outG.eq_def]
  simp [h, h0]
theorem outG_nil {p : Prog} {nm : Str} {m n : Nat} {w : Word} (h : wordAt p ⟨nm, [], m⟩ = some (some w)) (h0 : ¬ leftN w n = 0) : outG p nm [] m n = none := by
  unfold leftN at h0
  rw [outG.eq_def]
  simp [h, h0]
theorem outG_word {p : Prog} {nm : Str} {ps : List (Nat × Nat)} {m n : Nat} {pl' : Place} (h : outG p nm ps m n = some pl') : ∃ w, wordAt p ⟨nm, ps, m⟩ = some (some w) := by
  rw [outG.eq_def] at h
  cases e : wordAt p ⟨nm, ps, m⟩ with
  | none => simp [e] at h
  | some o => cases o with
    | none => simp [e] at h
    | some w => exact ⟨w, rfl⟩
theorem sc_out_of : FnScope ["program", "place", "n", "around"] ["program", "place", "n"] (defScope s_out_of) := ⟨rfl, rfl, rfl, by decide +kernel, rfl, by decide +kernel, by decide +kernel⟩
theorem ok_out_of (T : Fx K mg) : C8.Cal P w K mg base 14 "out_of" (spD fOut) [] := by
  obtain ⟨fd, F⟩ := T.f_out_of
  have c_word_at := ok_word_at (P := P) (w := w) (base := base) T
  have c_behind := ok_behind (P := P) (w := w) (base := base) T 8
  refine cal_of F T.g_out_of sc_out_of (fun _ _ _ _ _ _ us hl => match us, hl with | [_, _, _], _ => rfl) (spD_len (n := 3) (by rintro _ _ ⟨p, pl, c, pl', rfl, _⟩; rfl)) fun cdv A outer s H vs Q E hr hsp => ?_
  obtain ⟨_, _, ⟨p, pl, n, pl', rfl, hout, hn, hlen, rfl⟩, hi, k⟩ := hsp
  obtain ⟨vp, vl, vc, rfl, ip, il, ic⟩ := hi.three
  refine ⟨_, (pss_cons (ps_set (i := 3) sc_out_of.nd rfl (.inl rfl) (pe_slice sl_tupA (pv 1) po_none (po_some (pe_un un_neg pe_int))))
    (pss_cons (ps_while PassesOwn.never (pt_cmpR op_gt (pv 2) pe_int (nomark _))
      (pss_cons (ps_if (pt_cmpR op_eq (pe_ix ix_tup (C8.pe_c c_word_at hr (by omega) rfl (pa_cons (pv 0) (pa_cons (pv 3) pa_nil))) pe_int (fun _ _ => rfl)) pe_str (nomark _))
        (pss_one (ps_set (i := 2) sc_out_of.nd rfl (.inl rfl) (pe_op op_sub (pv 2) pe_int)))
        pss_nil)
      (pss_one (ps_if (pt_cmpR op_gt (pv 2) pe_int (nomark _))
        (pss_one (ps_set (i := 3) sc_out_of.nd rfl (.inl rfl) (pe_slice sl_tupA (pv 3) po_none (po_some (pe_un un_neg pe_int)))))
        pss_nil))))
    (pss_one (ps_ret (C8.pe_c c_behind hr (by omega) rfl (pa_cons (pv 0) (pa_cons (pv 3) pa_nil))))))), ?_⟩
  obtain ⟨nm, path, m⟩ := pl
  unfold outOf at hout
  dsimp only at hout hlen
  rcases path with _ | ⟨⟨m', c⟩, ps⟩
  · cases hout
  have hout : outG p nm ps m' n = some pl' := hout
  have hpl : ps.length + 1 ≤ 8 := hlen
  refine qd_set (evd_slice (evd_var rfl il) eo_none evo_neg (cut2 nm m' c ps m)) fun va H1 e1 ia => ?_
  refine q_while (fun μ σ' H' => ∃ (a : Nat) (va : V) (ps' : List (Nat × Nat)) (m2 : Nat), σ' = [some vp, some vl, some (.int (a : Nat)), some va] ∧ Ex H H' ∧ Im H' va (encPl ⟨nm, ps', m2⟩) ∧ ps'.length ≤ 7 ∧
      ((1 ≤ a ∧ outG p nm ps' m2 a = some pl' ∧ μ = ps'.length + 1) ∨ (a = 0 ∧ behindG p nm ps' m2 = some pl'))) (ps.length + 1) ?_ ?_
  · exact ⟨n, va, ps, m', by rw [ic.int_]; rfl, e1, ia, by omega, .inl ⟨hn, hout, rfl⟩⟩
  · rintro μ σ' H' ⟨a, va, ps', m2, rfl, e2, ia, hl', hor⟩
    refine ⟨decide (0 < (a : Int)), evt_gt (evd_var rfl (.int _)) evd_int, fun hb H3 e3 => ?_, fun hb H3 e3 => ?_⟩
    · have ha : 0 < (a : Int) := of_decide_eq_true hb
      obtain ⟨h1, h2, rfl⟩ : 1 ≤ a ∧ outG p nm ps' m2 a = some pl' ∧ μ = ps'.length + 1 := by
        rcases hor with h | h
        · exact h
        · omega
      refine ⟨fun σ2 H2 => ∃ μ', μ' < ps'.length + 1 ∧ ∃ (a : Nat) (va : V) (ps' : List (Nat × Nat)) (m2 : Nat), σ2 = [some vp, some vl, some (.int (a : Nat)), some va] ∧ Ex H H2 ∧ Im H2 va (encPl ⟨nm, ps', m2⟩) ∧ ps'.length ≤ 7 ∧
        ((1 ≤ a ∧ outG p nm ps' m2 a = some pl' ∧ μ' = ps'.length + 1) ∨ (a = 0 ∧ behindG p nm ps' m2 = some pl')), fun _ _ h => h, ?_⟩
      obtain ⟨wd, hwa⟩ := outG_word h2
      have e23 := e2.trans e3
      have hw : EvD (tCall (spD fWordAt) [] C8.E0 (tCons (tVar 0) (tCons (tVar 3) tNil))) [some vp, some vl, some (.int (a : Nat)), some va] H3 (encW wd) :=
        evd_call (evds_cons (evd_var rfl (ip.ex e23)) (evds_cons (evd_var rfl (ia.ex e3)) evds_nil)) ⟨p, ⟨nm, ps', m2⟩, some wd, rfl, hwa, by show ps'.length ≤ 1000; omega, rfl⟩
      -- behind the first if: a' loops are left
      have rest : ∀ (a' : Nat) (H4 : Hp), Ex H3 H4 → (a' = leftN wd a) → tIfS (tTest (tOp (rI0 fun i j => .bl (decide (j < i))) (tVar 2) (tC (.int 0)))) (tAsg (tSl (rSlA K) (tVar 3) tNoPart (tPart (tUn (rU fun i => .int (-i)) (tC (.int 2))))) (gName 3)) tNext
          { nx := fun σ2 H2 => ∃ μ', μ' < ps'.length + 1 ∧ ∃ (a : Nat) (va : V) (ps' : List (Nat × Nat)) (m2 : Nat), σ2 = [some vp, some vl, some (.int (a : Nat)), some va] ∧ Ex H H2 ∧ Im H2 va (encPl ⟨nm, ps', m2⟩) ∧ ps'.length ≤ 7 ∧ ((1 ≤ a ∧ outG p nm ps' m2 a = some pl' ∧ μ' = ps'.length + 1) ∨ (a = 0 ∧ behindG p nm ps' m2 = some pl')), rt := Q,
            ct := fun σ2 H2 => ∃ μ', μ' < ps'.length + 1 ∧ ∃ (a : Nat) (va : V) (ps' : List (Nat × Nat)) (m2 : Nat), σ2 = [some vp, some vl, some (.int (a : Nat)), some va] ∧ Ex H H2 ∧ Im H2 va (encPl ⟨nm, ps', m2⟩) ∧ ps'.length ≤ 7 ∧ ((1 ≤ a ∧ outG p nm ps' m2 a = some pl' ∧ μ' = ps'.length + 1) ∨ (a = 0 ∧ behindG p nm ps' m2 = some pl')),
            bk := fun σ' H' => tRet (tCall (spD (fBehind 8)) [] C8.E0 (tCons (tVar 0) (tCons (tVar 3) tNil))) { nx := fun _ H' => Q .non H', rt := Q } σ' H' } [some vp, some vl, some (.int (a' : Nat)), some va] H4 := fun a' H4 e4 ha' => by
        refine s_if (evt_gt (evd_var rfl (.int _)) evd_int) (fun hb H5 e5 => ?_) (fun hb H5 e5 => ?_)
        · have hp : 0 < (a' : Int) := of_decide_eq_true hb
          rcases ps' with _ | ⟨⟨m3, c3⟩, ps3⟩
          · rw [outG_nil hwa (by omega)] at h2
            cases h2
          rw [outG_next hwa (by omega), ← ha'] at h2
          have hl3 : ps3.length + 1 ≤ 7 := hl'
          refine (evd_slice (evd_var rfl (ia.ex ((e3.trans e4).trans e5))) eo_none evo_neg (cut2 nm m3 c3 ps3 m2)).go fun v6 H6 e6 i6 => ?_
          exact ⟨ps3.length + 1, by simp, a', v6, ps3, m3, rfl, ((e23.trans e4).trans e5).trans e6, i6, by omega, .inl ⟨by omega, h2, rfl⟩⟩
        · have hp : ¬ 0 < (a' : Int) := of_decide_eq_false hb
          rw [outG_zero hwa (by omega)] at h2
          exact ⟨0, by omega, a', va, ps', m2, rfl, (e23.trans e4).trans e5, ia.ex ((e3.trans e4).trans e5), hl', .inr ⟨by omega, h2⟩⟩
      by_cases hlp : hd wd = "loop"
      · obtain ⟨r', rfl⟩ := hd_loop hlp
        refine q_yes (evt_hd1 hw hlp) fun H4 e4 => ?_
        refine (evd_sub (evd_var rfl (.int _)) evd_int).go fun v6 H6 e6 i6 => ?_
        have := i6.int_
        subst this
        have ea : (a : Int) - 1 = ((a - 1 : Nat) : Int) := by omega
        have r1 := rest (a - 1) H6 (e4.trans e6) rfl
        rw [← ea] at r1
        exact r1
      · have hil : isLoop wd = false := by
          cases wd <;> first | rfl | exact absurd rfl hlp
        exact q_no (evt_hd0 hw hlp) fun H4 e4 => rest a H4 e4 (by unfold leftN; rw [hil]; rfl)
    · have ha : ¬ 0 < (a : Int) := of_decide_eq_false hb
      have hbe : behindG p nm ps' m2 = some pl' := by
        rcases hor with h | h
        · omega
        · exact h.2
      exact qd_ret (evd_call (evds_cons (evd_var rfl (ip.ex (e2.trans e3))) (evds_cons (evd_var rfl (ia.ex e3)) evds_nil)) ⟨p, ⟨nm, ps', m2⟩, pl', rfl, hbe, by show ps'.length ≤ 8; omega, by omega, rfl⟩) fun z H5 e5 i5 => k z H5 ((e2.trans e3).trans e5) i5
end
end K16

set_option Elab.async false
set_option linter.all false
set_option maxRecDepth 100000
set_option maxHeartbeats 2000000
/-! KDict: the dict of things: what it holds, how it is read and changed; texts in rising order -/
namespace K16
open PySem PySem.Spec PyProof.Rows L2 Evl

/-! ### texts in rising order -/
def ltS (a b : Str) : Prop := a.cps.toList < b.cps.toList
theorem str_ext {a b : Str} (h : a.cps.toList = b.cps.toList) : a = b := by
  obtain ⟨⟨a⟩⟩ := a
  obtain ⟨⟨b⟩⟩ := b
  simp at h
  subst h
  rfl
theorem ltS_irrefl (a : Str) : ¬ ltS a a := List.lt_irrefl _
theorem ltS_trans {a b c : Str} (h : ltS a b) (h' : ltS b c) : ltS a c := List.lt_trans h h'
theorem ltS_tri {a b : Str} (h : ¬ ltS b a) (hn : a ≠ b) : ltS a b := by
  have h1 : a.cps.toList ≤ b.cps.toList := List.not_lt.mp h
  rcases List.le_iff_lt_or_eq.mp h1 with h2 | h2
  · exact h2
  · exact absurd (str_ext h2) hn
theorem rising_step : ∀ {x : Str} {l : List Str}, risingS x l = true → (x :: l).Nodup → (x :: l).Pairwise ltS
  | x, [], _, _ => List.pairwise_singleton ..
  | x, y :: l, h, hn => by
    have h : (!ltCps y.cps.toList x.cps.toList && risingS y l) = true := h
    rw [Bool.and_eq_true] at h
    obtain ⟨h1, h2⟩ := h
    obtain ⟨n1, n2⟩ := List.nodup_cons.mp hn
    have ih := rising_step h2 n2
    have hxy : ltS x y := ltS_tri (fun z => by
      have z : y.cps.toList < x.cps.toList := z
      rw [ltCps_eq] at h1
      simp [z] at h1) (fun z => n1 (by rw [z]; exact List.mem_cons_self))
    refine List.pairwise_cons.mpr ⟨fun z hz => ?_, ih⟩
    rcases List.mem_cons.mp hz with rfl | hz
    · exact hxy
    · exact ltS_trans hxy ((List.pairwise_cons.mp ih).1 z hz)
theorem sorted_inc {l : List Str} (h : sortedS l = true) (hn : l.Nodup) : l.Pairwise ltS := by
  cases l with
  | nil => exact List.Pairwise.nil
  | cons x l => exact rising_step h hn
theorem inc_nodup {l : List Str} (h : l.Pairwise ltS) : l.Nodup := List.Pairwise.imp (R := ltS) (S := fun a b => a ≠ b) (fun {a b} h e => by subst e; exact ltS_irrefl a h) h
theorem eq_of_inc : ∀ {l m : List Str}, l.Pairwise ltS → m.Pairwise ltS → (∀ x, x ∈ l ↔ x ∈ m) → l = m
  | [], [], _, _, _ => rfl
  | [], y :: m, _, _, h => absurd ((h y).mpr List.mem_cons_self) (by simp)
  | x :: l, [], _, _, h => absurd ((h x).mp List.mem_cons_self) (by simp)
  | x :: l, y :: m, hl, hm, h => by
    obtain ⟨l1, l2⟩ := List.pairwise_cons.mp hl
    obtain ⟨m1, m2⟩ := List.pairwise_cons.mp hm
    have e : x = y := by
      rcases List.mem_cons.mp ((h x).mp List.mem_cons_self) with e | hx
      · exact e
      · rcases List.mem_cons.mp ((h y).mpr List.mem_cons_self) with e | hy
        · exact e.symm
        · exact absurd (ltS_trans (m1 x hx) (l1 y hy)) (ltS_irrefl y)
    subst e
    rw [eq_of_inc l2 m2 fun z => ⟨fun hz => (List.mem_cons.mp ((h z).mp (List.mem_cons_of_mem _ hz))).resolve_left fun e => ltS_irrefl x (by have := l1 z hz; rw [e] at this; exact this),
      fun hz => (List.mem_cons.mp ((h z).mpr (List.mem_cons_of_mem _ hz))).resolve_left fun e => ltS_irrefl x (by have := m1 z hz; rw [e] at this; exact this)⟩]

/-! ### boxes and worths -/
structure EnvOk (E : Env) : Prop where
  bs : E.Bs.Pairwise ltS
  bl : E.Bs.length ≤ 20
  ws : E.Ws.Pairwise ltS
  wl : E.Ws.length ≤ 20
  bok : ∀ b ∈ E.Bs, PyData.strOk b = true ∧ b.length ≤ 1000
  wok : ∀ w ∈ E.Ws, PyData.strOk w = true
def encTh (x : Thing) : PyData := .tuple [.int x.1, tstr x.2]
theorem canLay_strs : ∀ {ws : List Str}, (∀ w ∈ ws, PyData.strOk w = true) → PyData.canLayAll0 (ws.map PyData.str) = true
  | [], _ => rfl
  | w :: ws, h => by
    show (PyData.strOk w && PyData.canLayAll0 (ws.map PyData.str)) = true
    rw [h w List.mem_cons_self, canLay_strs fun w hw => h w (List.mem_cons_of_mem _ hw)]
    rfl
theorem depth_strs : ∀ ws : List Str, PyData.depthAll (ws.map PyData.str) ≤ 1
  | [] => by simp [PyData.depthAll]
  | w :: ws => by
    have := depth_strs ws
    simp [PyData.depthAll, PyData.depth]
    omega
theorem shaped_strs {ws : List Str} (h : ∀ w ∈ ws, PyData.strOk w = true) : SeqAt.shaped (tstr ws) = true := by
  unfold SeqAt.shaped
  rw [Bool.and_eq_true]
  refine ⟨?_, decide_eq_true ?_⟩
  · simp only [tstr, PyData.canLay0]; exact canLay_strs h
  · have := depth_strs ws
    simp [PyData.depth]
    omega
theorem shaped_th {x : Thing} (h : ∀ w ∈ x.2, PyData.strOk w = true) : SeqAt.shaped (encTh x) = true := by
  unfold SeqAt.shaped
  rw [Bool.and_eq_true]
  refine ⟨?_, decide_eq_true ?_⟩
  · simp [encTh, PyData.canLay0, PyData.canLayAll0, canLay_strs h]
  · have := depth_strs x.2
    simp [encTh, PyData.depth, PyData.depthAll]
    omega
theorem eqv_strs : ∀ a b : List Str, PyData.eqvAll (a.map PyData.str) (b.map PyData.str) = decide (a = b)
  | [], [] => rfl
  | [], _ :: _ => rfl
  | _ :: _, [] => rfl
  | x :: a, y :: b => by
    simp only [List.map_cons, PyData.eqvAll, PyData.eqv, eqv_strs a b]
    by_cases h : x = y <;> by_cases h' : a = b <;> simp [h, h']
theorem eqv_th (x : Thing) : PyData.eqv (encTh x) (.tuple [.int 0, .tuple []]) = decide (x = none0) := by
  obtain ⟨n, ws⟩ := x
  have := eqv_strs ws []
  simp only [List.map_nil] at this
  simp only [encTh, none0, PyData.eqv, PyData.eqvAll, this]
  by_cases h : n = 0 <;> by_cases h' : ws = [] <;> simp [h, h']
/-! ### dicts -/
theorem valV_drop {κ : Type} [DecidableEq κ] : ∀ (kvs : List (κ × V)) (k j : κ), valV (dropK kvs k) j = if j = k then none else valV kvs j
  | [], k, j => by simp [dropK, valV]
  | p :: r, k, j => by
    by_cases e : p.1 = k
    · rw [dropK_pos e, valV_drop r k j]
      by_cases h : j = k
      · rw [if_pos h, if_pos h]
      · rw [if_neg h, if_neg h, valV_neg fun z => h (z.symm.trans e)]
    · rw [dropK_neg e]
      by_cases h : p.1 = j
      · rw [valV_pos h, valV_pos h, if_neg fun z => e (h.trans z)]
      · rw [valV_neg h, valV_neg h, valV_drop r k j]
theorem keys_put {κ : Type} [DecidableEq κ] {kvs : List (κ × V)} {k j : κ} {v : V} (h : j ∈ (putK kvs k v).map (·.1)) : j = k ∨ j ∈ kvs.map (·.1) := by
  unfold putK at h
  split at h
  · right
    have : (kvs.map fun kv => if kv.1 = k then (kv.1, v) else kv).map (·.1) = kvs.map (·.1) := by
      rw [List.map_map]
      apply List.map_congr_left
      intro x _
      simp only [Function.comp]
      split <;> rfl
    rwa [this] at h
  · rw [List.map_append, List.mem_append] at h
    rcases h with h | h
    · exact .inr h
    · exact .inl (by simpa using h)
theorem nd_put {κ : Type} [DecidableEq κ] {kvs : List (κ × V)} (k : κ) (v : V) (hn : (kvs.map (·.1)).Nodup) : ((putK kvs k v).map (·.1)).Nodup := by
  cases h : valV kvs k with
  | none => exact nd_putK v hn h
  | some x =>
    unfold putK
    rw [valV_any, h]
    have : (kvs.map fun kv => if kv.1 = k then (kv.1, v) else kv).map (·.1) = kvs.map (·.1) := by
      rw [List.map_map]
      apply List.map_congr_left
      intro x _
      simp only [Function.comp]
      split <;> rfl
    simpa [this] using hn
theorem nodup_le {α : Type} [DecidableEq α] : ∀ {l m : List α}, l.Nodup → (∀ x ∈ l, x ∈ m) → l.length ≤ m.length
  | [], m, _, _ => Nat.zero_le _
  | x :: l, m, hn, h => by
    obtain ⟨n1, n2⟩ := List.nodup_cons.mp hn
    have hx := h x List.mem_cons_self
    have ih := nodup_le (l := l) (m := m.erase x) n2 fun y hy => (List.mem_erase_of_ne fun e => n1 (by rw [← e]; exact hy)).mpr (h y (List.mem_cons_of_mem _ hy))
    rw [List.length_erase_of_mem hx] at ih
    have : 0 < m.length := List.length_pos_of_mem hx
    simp only [List.length_cons]
    omega
structure ThD (E : Env) (H : Hp) (kvs : List (Key × V)) (t : Things) : Prop where
  keys : ∀ k ∈ kvs.map (·.1), ∃ b ∈ E.Bs, k = Sum.inr b
  nd : (kvs.map (·.1)).Nodup
  val : ∀ b, (t b = none0 ∧ valV kvs (Sum.inr b) = none) ∨ (t b ≠ none0 ∧ ∃ v, valV kvs (Sum.inr b) = some v ∧ Im H v (encTh (t b)))
  ws : ∀ b, ∀ w ∈ (t b).2, w ∈ E.Ws
/-- the dict at d holds the things t -/
def ThAt (E : Env) (H : Hp) (d : Addr) (t : Things) : Prop := ∃ kvs, H d = some (.dK kvs) ∧ ThD E H kvs t
section
variable {E : Env} {H H' : Hp} {kvs : List (Key × V)} {t : Things} {d : Addr} {b : Str} {v : V} {x : Thing}
theorem ThD.mono (e : KT H H') (h : ThD E H kvs t) : ThD E H' kvs t :=
  ⟨h.keys, h.nd, fun b => (h.val b).imp id fun ⟨h1, v, h2, h3⟩ => ⟨h1, v, h2, h3.mono e⟩, h.ws⟩
theorem ThAt.mono (e : KT H H') (k : ∀ o, H d = some o → H' d = some o) (h : ThAt E H d t) : ThAt E H' d t := by
  obtain ⟨kvs, h1, h2⟩ := h
  exact ⟨kvs, k _ h1, h2.mono e⟩
theorem ThAt.ex (e : Ex H H') (h : ThAt E H d t) : ThAt E H' d t := h.mono (KT.of e) fun o => e d o
theorem ThAt.at (h : ThAt E H d t) : ∃ kvs, H d = some (.dK kvs) := by obtain ⟨kvs, h, _⟩ := h; exact ⟨kvs, h⟩
theorem th_len (n : E.Bs.length ≤ 20) (h : ThD E H kvs t) : kvs.length ≤ 20 := by
  have h3 : (kvs.map (·.1)).length ≤ (E.Bs.map (Sum.inr : Str → Key)).length := nodup_le h.nd fun k hk => by
    obtain ⟨b, hb, rfl⟩ := h.keys k hk
    exact List.mem_map.mpr ⟨b, hb, rfl⟩
  simp only [List.length_map] at h3
  omega
theorem th_empty : ThD E H [] empty0 := ⟨fun k hk => by simp at hk, List.Pairwise.nil, fun b => .inl ⟨rfl, rfl⟩, fun b w hw => by simp [empty0, none0] at hw⟩
theorem th_put (h : ThD E H kvs t) (hb : b ∈ E.Bs) (hv : Im H v (encTh x)) (hx : x ≠ none0) (hw : ∀ w ∈ x.2, w ∈ E.Ws) : ThD E H (putK kvs (Sum.inr b) v) (put t b x) := by
  refine ⟨fun k hk => ?_, nd_put _ _ h.nd, fun c => ?_, fun c => ?_⟩
  · rcases keys_put hk with rfl | hk
    · exact ⟨b, hb, rfl⟩
    · exact h.keys k hk
  · rw [valV_put]
    unfold put
    by_cases e : c = b
    · subst e
      rw [if_pos rfl, if_pos rfl]
      exact .inr ⟨hx, v, rfl, hv⟩
    · rw [if_neg (fun z => e (Sum.inr.inj z)), if_neg e]
      exact h.val c
  · unfold put
    by_cases e : c = b
    · rw [if_pos e]; exact hw
    · rw [if_neg e]; exact h.ws c
theorem th_drop (h : ThD E H kvs t) : ThD E H (dropK kvs (Sum.inr b)) (put t b none0) := by
  refine ⟨fun k hk => ?_, nd_dropK h.nd, fun c => ?_, fun c => ?_⟩
  · obtain ⟨p, hp, rfl⟩ := List.mem_map.mp hk
    exact h.keys _ (List.mem_map.mpr ⟨p, dropK_mem hp, rfl⟩)
  · rw [valV_drop]
    unfold put
    by_cases e : c = b
    · subst e
      rw [if_pos rfl, if_pos rfl]
      exact .inl ⟨rfl, rfl⟩
    · rw [if_neg (fun z => e (Sum.inr.inj z)), if_neg e]
      exact h.val c
  · unfold put
    by_cases e : c = b
    · rw [if_pos e]; intro w hw; simp [none0] at hw
    · rw [if_neg e]; exact h.ws c
theorem th_none (h : ThD E H kvs t) (hb : valV kvs (Sum.inr b) = none) : put t b none0 = t := by
  funext c
  unfold put
  split
  · next e =>
    subst e
    rcases h.val c with h | ⟨_, v, h, _⟩
    · exact h.1.symm
    · rw [hb] at h; cases h
  · rfl
theorem th_get (h : ThD E H kvs t) : ∀ z, Im H z (encTh none0) → Im H ((valV kvs (Sum.inr b)).getD z) (encTh (t b)) := fun z hz => by
  rcases h.val b with ⟨h1, h2⟩ | ⟨_, v, h2, h3⟩
  · rw [h1, h2]; exact hz
  · rw [h2]; exact h3
/-- the boxes that the dict knows -/
theorem th_keys (h : ThD E H kvs t) : ∃ ks : List Str, kvs.map (·.1) = ks.map Sum.inr ∧ ks.Nodup ∧ ∀ b, b ∈ ks ↔ (b ∈ E.Bs ∧ t b ≠ none0) := by
  have : ∀ l : List Key, (∀ k ∈ l, ∃ b ∈ E.Bs, k = Sum.inr b) → ∃ ks : List Str, l = ks.map Sum.inr := by
    intro l
    induction l with
    | nil => intro _; exact ⟨[], rfl⟩
    | cons k l ih =>
      intro hl
      obtain ⟨b, _, rfl⟩ := hl k List.mem_cons_self
      obtain ⟨ks, rfl⟩ := ih fun k hk => hl k (List.mem_cons_of_mem _ hk)
      exact ⟨b :: ks, rfl⟩
  obtain ⟨ks, hks⟩ := this _ h.keys
  refine ⟨ks, hks, ?_, fun b => ?_⟩
  · have := h.nd
    rw [hks] at this
    exact List.Pairwise.imp (R := fun a b : Str => (Sum.inr a : Key) ≠ Sum.inr b) (S := fun a b => a ≠ b) (fun {a b} h e => h (by subst e; rfl)) (List.pairwise_map.mp this)
  · have m : b ∈ ks ↔ (Sum.inr b : Key) ∈ kvs.map (·.1) := by
      rw [hks]
      exact ⟨fun h => List.mem_map.mpr ⟨b, h, rfl⟩, fun h => by obtain ⟨c, hc, e⟩ := List.mem_map.mp h; rw [← Sum.inr.inj e]; exact hc⟩
    rw [m]
    constructor
    · intro hk
      obtain ⟨c, hc, e⟩ := h.keys _ hk
      refine ⟨by rw [Sum.inr.inj e]; exact hc, fun z => ?_⟩
      rcases h.val b with ⟨_, h2⟩ | ⟨h1, _⟩
      · exact valV_not h2 hk
      · exact h1 z
    · rintro ⟨_, hn⟩
      rcases h.val b with ⟨h1, _⟩ | ⟨_, v, h2, _⟩
      · exact absurd h1 hn
      · exact valV_in h2
theorem th_sorted (ok : EnvOk E) (h : ThD E H kvs t) {ks ys : List Str} (hks : kvs.map (·.1) = ks.map Sum.inr) (hp : ys.Perm ks) (hs : sortedS ys = true) : ys = E.Bs.filter fun b => decide (t b ≠ none0) := by
  obtain ⟨ks', e, n, m⟩ := th_keys h
  have : ks = ks' := by
    have e2 := hks.symm.trans e
    have inj : ∀ a b : List Str, a.map (Sum.inr : Str → Key) = b.map Sum.inr → a = b := by
      intro a
      induction a with
      | nil => intro b hb; cases b with | nil => rfl | cons _ _ => simp at hb
      | cons x a ih => intro b hb; cases b with | nil => simp at hb | cons y b => simp at hb; rw [hb.1, ih b (by simpa using hb.2)]
    exact inj _ _ e2
  subst this
  refine eq_of_inc (sorted_inc hs (hp.nodup_iff.mpr n)) (ok.bs.filter _) fun b => ?_
  rw [hp.mem_iff, m b, List.mem_filter]
  simp
end
end K16

set_option Elab.async false
set_option linter.all false
set_option maxRecDepth 100000
set_option maxHeartbeats 2000000
/-! KRead: readings that make lists of data, read fields, read and change the dict of things -/
namespace K16
open PySem PySem.Spec PyProof.Rows L2 Evl
/-! rules whose reading names the written part by the letter K (for the inside of a comprehension) -/
section
variable {X : Cx} {a b o : Expr} {ta : TE} {f : Str} {pos : Pos}
theorem ix_tupK (K : PySem.W.Frag) (h : X.K = K := by rfl) : IxR X (rIxT K) := h ▸ ix_tup
theorem ix_listK (K : PySem.W.Frag) (h : X.K = K := by rfl) : IxR X (rIxL K) := h ▸ ix_list
theorem op_catAK (K : PySem.W.Frag) (h : X.K = K := by rfl) : OpR X (binaryOp .Add) (rCatA K) := h ▸ op_catA
theorem op_eqDK (K : PySem.W.Frag) (hu : X.A.units + 64 < cLine) (h : X.K = K := by rfl) : OpR X (compareOp .Eq) (rEqD K) := h ▸ op_eqD hu
theorem op_neDK (K : PySem.W.Frag) (hu : X.A.units + 64 < cLine) (h : X.K = K := by rfl) : OpR X (compareOp .NotEq) (rNeD K) := h ▸ op_neD hu
theorem op_inK (K : PySem.W.Frag) (h : X.K = K := by rfl) : OpR X (compareOp .In) (rIn K false) := h ▸ op_in_seq
theorem pe_fldK (K : PySem.W.Frag) (he : PE X o ta) (hb : attributeBase o f X.env (eval o X.env) = eval o X.env) (h : X.K = K := by rfl) : PE X (.Attribute o f pos) (tFld K ta f) := h ▸ pe_fld he hb
end
/-- a new list of data -/
def EvLD (te : TE) (σ : L2.St) (H : Hp) (ds : List PyData) : Prop := ∀ H1, Ex H H1 → ∀ Q : VK, (∀ p vs H2, H1 p = none → Ex H1 H2 → H2 p = some (.lst vs) → Ims H2 vs ds → Q (.ref p) H2) → te σ H1 Q
section
variable {K : PySem.W.Frag} {σ : L2.St} {H H' : Hp} {ta tb te tl td tx ty : TE} {d e f : PyData} {ds es : List PyData} {D : Ends} {tz tu tw : TS} {t tt : TT} {v : V}
theorem EvLD.mono (x : Ex H H') (h : EvLD te σ H ds) : EvLD te σ H' ds := fun H1 a Q q => h H1 (x.trans a) Q q
theorem Ims.upd {vs : List V} {p : Addr} {o : HO} (h : Ims H vs ds) (hp : ∀ xs, H p ≠ some (.tup xs)) : Ims (upd H p o) vs ds := h.mono ((KT.refl H).upd hp)
theorem Im.upd {p : Addr} {o : HO} (h : Im H v d) (hp : ∀ xs, H p ≠ some (.tup xs)) : Im (upd H p o) v d := h.mono ((KT.refl H).upd hp)
theorem nt_lst {p : Addr} {xs : List V} (h : H p = some (.lst xs)) : ∀ ys, H p ≠ some (.tup ys) := fun ys z => by rw [h] at z; cases z
theorem nt_dK {p : Addr} {xs : List (Key × V)} (h : H p = some (.dK xs)) : ∀ ys, H p ≠ some (.tup ys) := fun ys z => by rw [h] at z; cases z
theorem nt_ins {p C dx : Addr} {xs : List (Str × V)} (h : H p = some (.ins C dx xs)) : ∀ ys, H p ≠ some (.tup ys) := fun ys z => by rw [h] at z; cases z
theorem take_fm {α β : Type} {f : α → Option β} {ds : List α} {i : Nat} {d : α} (h : ds[i]? = some d) : (ds.take (i + 1)).filterMap f = (ds.take i).filterMap f ++ (f d).toList := by
  rw [List.take_add_one, h, List.filterMap_append]
  cases q : f d <;> simp [q]
/-- [te for j in list if tt] -/
theorem lc_go {j : Nat} {tt : TT} {te : TE} {Qd : Hp → Prop} {D : Addr} {H1 : Hp} (f : PyData → Option PyData) {xs : List V} (hx : Ims H1 xs ds) (hl : ds.length ≤ 10000) (hD : H1 D = none)
    (ht : ∀ (i : Nat) d v H', ds[i]? = some d → Ex H1 H' → Im H' v d → EvT tt ((wipe σ [j]).set j (some v)) H' (f d).isSome)
    (he : ∀ (i : Nat) d v H' e, ds[i]? = some d → Ex H1 H' → Im H' v d → f d = some e → EvD te ((wipe σ [j]).set j (some v)) H' e)
    (hQ : ∀ vs H2, Ex H1 H2 → H2 D = some (.lst vs) → Ims H2 vs (ds.filterMap f) → Qd H2) :
    let Pv : Nat → Hp → Prop := fun i H' => Ex H1 H' ∧ ∃ acc, H' D = some (.lst acc) ∧ Ims H' acc ((ds.take i).filterMap f)
    Pv 0 (upd H1 D (.lst [])) ∧ (∀ i x H, xs[i]? = some x → Pv i H → gName j x (wipe σ [j]) H fun σ2 H2 => wipe σ2 [j] = wipe σ [j] ∧ tt σ2 H2 fun b H3 =>
      if b = true then te σ2 H3 fun y H4 => ∃ acc, H4 D = some (.lst acc) ∧ acc.length < sizeLine ∧ Pv (i + 1) (upd H4 D (.lst (acc ++ [y]))) else Pv (i + 1) H3) ∧ ∀ H, Pv xs.length H → Qd H := by
  intro Pv
  refine ⟨⟨Ex.new hD, [], upd_same, .nil⟩, ?_, ?_⟩
  · rintro i x H2 hi ⟨e2, acc, ha, hi2⟩
    obtain ⟨d, hd, id⟩ := (hx.ex e2).get' hi
    refine ⟨?_, ?_⟩
    · show (((σ.set j none).set j (some x)).set j none : L2.St) = σ.set j none
      rw [List.set_set, List.set_set]
    refine ht i d x H2 hd e2 id H2 (Ex.refl H2) _ fun H3 e3 => ?_
    cases q : f d with
    | none =>
      rw [if_neg (by simp)]
      refine ⟨e2.trans e3, acc, e3 _ _ ha, ?_⟩
      rw [take_fm hd, q]
      simpa using hi2.ex e3
    | some e =>
      rw [if_pos (by simp)]
      refine he i d x H2 e hd e2 id q H3 e3 _ fun y H4 e4 iy => ⟨acc, e4 _ _ (e3 _ _ ha), ?_, ?_⟩
      · have := hi2.len
        have h2 : ((ds.take i).filterMap f).length ≤ ds.length := Nat.le_trans (List.length_filterMap_le _ _) (by simp; omega)
        exact sz_lt (by omega)
      · have nl : ∀ ys, H4 D ≠ some (.tup ys) := nt_lst (e4 _ _ (e3 _ _ ha))
        refine ⟨((e2.trans e3).trans e4).mut hD, acc ++ [y], upd_same, ?_⟩
        rw [take_fm hd, q]
        exact (Ims.append (hi2.ex (e3.trans e4)) (.cons iy .nil)).upd nl
  · rintro H2 ⟨e2, acc, ha, hi2⟩
    rw [hx.len, List.take_length] at hi2
    exact hQ acc H2 e2 ha hi2
theorem evl_lcL {j : Nat} (f : PyData → Option PyData) (h1 : EvLD tl σ H ds) (hl : ds.length ≤ 10000)
    (ht : ∀ (i : Nat) d v H', ds[i]? = some d → Ex H H' → Im H' v d → EvT tt ((wipe σ [j]).set j (some v)) H' (f d).isSome)
    (he : ∀ (i : Nat) d v H' e, ds[i]? = some d → Ex H H' → Im H' v d → f d = some e → EvD te ((wipe σ [j]).set j (some v)) H' e) : EvLD (tLc (iList K tl) (gName j) tt te [j]) σ H (ds.filterMap f) := fun H1 a Q q =>
  h1 H1 a _ fun p xs H2 _ e2 hp hx => ⟨p, rfl, ⟨xs, sq_of hp⟩, fun D hD => by
    obtain ⟨g0, g1, g2⟩ := lc_go (σ := σ) (j := j) (tt := tt) (te := te) (Qd := fun H3 => Q (.ref D) H3) f hx hl hD (fun i d v H' hd e3 => ht i d v H' hd (a.trans (e2.trans e3))) (fun i d v H' e hd e3 => he i d v H' e hd (a.trans (e2.trans e3)))
      (fun vs H3 e3 hv iv => q D vs H3 (fresh_back e2 hD) (e2.trans e3) hv iv)
    exact lc_list (K := K) (a := p) (xs := xs) _ g0 (fun i H3 _ h => sq_of (h.1 _ _ hp)) g1 g2⟩
theorem evl_lcT {j : Nat} (f : PyData → Option PyData) (h1 : EvD tl σ H (.tuple ds)) (hl : ds.length ≤ 10000)
    (ht : ∀ (i : Nat) d v H', ds[i]? = some d → Ex H H' → Im H' v d → EvT tt ((wipe σ [j]).set j (some v)) H' (f d).isSome)
    (he : ∀ (i : Nat) d v H' e, ds[i]? = some d → Ex H H' → Im H' v d → f d = some e → EvD te ((wipe σ [j]).set j (some v)) H' e) : EvLD (tLc (iTup K tl) (gName j) tt te [j]) σ H (ds.filterMap f) := fun H1 a Q q =>
  h1 H1 a _ fun v H2 e2 hv => by
    obtain ⟨p, xs, rfl, hp, hx⟩ := hv.tup_
    exact ⟨p, rfl, ⟨xs, SqT.of hp⟩, fun D hD => by
      obtain ⟨g0, g1, g2⟩ := lc_go (σ := σ) (j := j) (tt := tt) (te := te) (Qd := fun H3 => Q (.ref D) H3) f hx hl hD (fun i d v H' hd e3 => ht i d v H' hd (a.trans (e2.trans e3))) (fun i d v H' e hd e3 => he i d v H' e hd (a.trans (e2.trans e3)))
        (fun vs H3 e3 hv iv => q D vs H3 (fresh_back e2 hD) (e2.trans e3) hv iv)
      exact lc_tup (K := K) (a := p) (xs := xs) _ g0 (fun i H3 _ h => SqT.of (h.1 _ _ hp)) g1 g2⟩
theorem evt_all : EvT tYes σ H true := fun H1 _ Q q => q H1 (Ex.refl H1)
/-- tuple(a new list) -/
def rTupQ (K : PySem.W.Frag) : List V → Hp → VK → Prop := fun xs H Q => ∃ p ys, xs = [V.ref p] ∧ ((SqL K H p ys ∧ ∀ l, H l = none → Q (.ref l) (upd H l (.tup ys))) ∨ (SqT K H p ys ∧ Q (.ref p) H))
theorem evd_tupL (h : EvLD te σ H ds) : EvD (tCB (rTupQ K) (tCons te tNil)) σ H (.tuple ds) := fun H1 a Q q =>
  h H1 a _ fun p vs H2 _ e2 hp iv => ⟨p, vs, rfl, .inl ⟨SqL.of hp, fun l hl => q _ _ (e2.trans (Ex.new hl)) (Im.new hl iv)⟩⟩
theorem qd_retL (h : EvLD te σ H ds) (k : ∀ p vs H1, H p = none → Ex H H1 → H1 p = some (.lst vs) → Ims H1 vs ds → D.rt (.ref p) H1) : tRet te D σ H := h H (Ex.refl H) _ k
theorem qd_setL {i : Nat} (h : EvLD te σ H ds) (k : ∀ p vs H1, H p = none → Ex H H1 → H1 p = some (.lst vs) → Ims H1 vs ds → tz D (σ.set i (some (.ref p))) H1) : tSeq (tAsg te (gName i)) tz D σ H := h H (Ex.refl H) _ k
/-- a field -/
theorem ev_fld {a C dx : Addr} {fs : List (Str × V)} {n : Str} (h : Ev ta σ H (.ref a)) (ha : H a = some (.ins C dx fs)) (c : Cls K C) (na : NoAttr K C n) (hf : fs.lookup n = some v) : Ev (tFld K ta n) σ H v := fun H1 e Q q =>
  h H1 e _ fun H2 e2 => ⟨a, C, dx, fs, v, rfl, e2 _ _ (e _ _ ha), c, na, hf, q H2 e2⟩
theorem evd_ev (h : Ev te σ H v) (hd : Im H v d) : EvD te σ H d := fun H1 e Q q => h H1 e _ fun H2 e2 => q v H2 e2 (hd.ex (e.trans e2))
/-- d.get(b, (0, ())) -/
theorem evd_get {E : Env} {th : Things} {a : Addr} {b : Str} (h : Ev td σ H (.ref a)) (ht : ThAt E H a th) (hb : EvD ty σ H (.str b)) (hx : EvD tx σ H (encTh none0)) : EvD (tDGet2 td ty tx) σ H (encTh (th b)) := fun H1 e Q q => by
  obtain ⟨kvs, hk, hd⟩ := ht
  refine h H1 e _ fun H2 e2 => ⟨a, rfl, .inl ⟨kvs, .inl (e2 _ _ (e _ _ hk))⟩, hb H2 (e.trans e2) _ fun v H3 e3 iv => hx H3 ((e.trans e2).trans e3) _ fun z H4 e4 iz => ?_⟩
  rw [iv.str_]
  refine ⟨valV kvs (Sum.inr b), DGet.k (k := Sum.inr b) (e4 _ _ (e3 _ _ (e2 _ _ (e _ _ hk)))), q _ H4 ((e2.trans e3).trans e4) ?_⟩
  exact th_get (hd.mono (KT.of (((e.trans e2).trans e3).trans e4))) z iz
/-- d[b] where it is there -/
theorem evd_dget {kvs : List (Key × V)} {a : Addr} {b : Str} (h : Ev td σ H (.ref a)) (hk : H a = some (.dK kvs)) (hb : EvD ty σ H (.str b)) (hv : valV kvs (Sum.inr b) = some v) (hd : Im H v d) : EvD (tDGet td ty) σ H d := fun H1 e Q q =>
  h H1 e _ fun H2 e2 => hb H2 (e.trans e2) _ fun u H3 e3 iv => by
    rw [iv.str_]
    refine ⟨a, v, rfl, ?_, q _ H3 (e2.trans e3) (hd.ex ((e.trans e2).trans e3))⟩
    rw [← hv]
    exact DGet.k (k := Sum.inr b) (e3 _ _ (e2 _ _ (e _ _ hk)))
/-- sorted(d) -/
def rSortD : List V → Hp → VK → Prop := fun xs H Q => ∃ (a : Addr) (kvs : List (Key × V)) (ks : List Str), xs = [V.ref a] ∧ Rd H a (.dK kvs) ∧ kvs.map (·.1) = ks.map Sum.inr ∧ ks.length < 64 ∧
    ∀ ys p, ys.Perm ks → sortedS ys = true → H p = none → Q (.ref p) (upd H p (.lst (ys.map V.str)))
theorem evl_sortD {E : Env} {th : Things} {a : Addr} (ok : EnvOk E) (h : Ev td σ H (.ref a)) (ht : ThAt E H a th) : EvLD (tCB rSortD (tCons td tNil)) σ H ((E.Bs.filter fun b => decide (th b ≠ none0)).map PyData.str) := fun H1 e Q q => by
  obtain ⟨kvs, hk, hd⟩ := ht
  refine h H1 e _ fun H2 e2 => ?_
  obtain ⟨ks, hks, _, _⟩ := th_keys hd
  have hlen := th_len ok.bl hd
  refine ⟨a, kvs, ks, rfl, .inl (e2 _ _ (e _ _ hk)), hks, ?_, fun ys p hp hs hn => ?_⟩
  · have := congrArg List.length hks
    simp only [List.length_map] at this
    omega
  · have e9 := th_sorted ok hd hks hp hs
    rw [← e9] at q
    exact q p _ _ (fresh_back e2 hn) (e2.trans (Ex.new hn)) upd_same (Ims.strs _)
end
end K16

set_option Elab.async false
set_option linter.all false
set_option maxRecDepth 100000
set_option maxHeartbeats 4000000
/-! KFrame: the methods of Frame -/
namespace K16
open PySem PySem.Spec PyProof.Rows L2 Evl
/-- a frame: called at vc, its things' dict at d -/
def FrH (K : PySem.W.Frag) (H : Hp) (f : Addr) (vc : V) (d : Addr) : Prop := ∃ dx, H f = some (.ins (CF K) dx [("called_at", vc), ("things", .ref d)])
theorem FrH.ex {K : PySem.W.Frag} {H H' : Hp} {f d : Addr} {vc : V} (e : Ex H H') (h : FrH K H f vc d) : FrH K H' f vc d := by obtain ⟨dx, h⟩ := h; exact ⟨dx, e _ _ h⟩
theorem FrH.kp {K : PySem.W.Frag} {S : List Addr} {H H' : Hp} {f d : Addr} {vc : V} (e : Kp S H H') (h : FrH K H f vc d) (n : f ∉ S) : FrH K H' f vc d := by obtain ⟨dx, h⟩ := h; exact ⟨dx, e _ _ h n⟩
theorem FrH.ne {K : PySem.W.Frag} {H : Hp} {f d a : Addr} {vc : V} {kvs : List (Key × V)} (h : FrH K H f vc d) (ha : H a = some (.dK kvs)) : f ≠ a := by
  obtain ⟨dx, h⟩ := h
  intro z
  rw [z, ha] at h
  cases h
def spFrame (K : PySem.W.Frag) : Sp := fun vs H Q _ => ∃ x dx vc, vs = [.ref x, vc] ∧ H x = some (.ins (CF K) dx []) ∧ ∀ d H', H d = none → Kp [x] H H' → H' x = some (.ins (CF K) dx [("called_at", vc), ("things", .ref d)]) → H' d = some (.dK []) → Q .non H'
def spLook (K : PySem.W.Frag) : Sp := fun vs H Q _ => ∃ E f vc d t b, vs = [.ref f, .str b] ∧ FrH K H f vc d ∧ ThAt E H d t ∧ ∀ v H', Ex H H' → Im H' v (encTh (t b)) → Q v H'
def spPut (K : PySem.W.Frag) : Sp := fun vs H Q _ => ∃ E f vc d t b v x, vs = [.ref f, .str b, v] ∧ EnvOk E ∧ FrH K H f vc d ∧ ThAt E H d t ∧ b ∈ E.Bs ∧ Im H v (encTh x) ∧ (∀ w ∈ x.2, w ∈ E.Ws) ∧ ∀ H', Kp [d] H H' → ThAt E H' d (put t b x) → Q .non H'
def spEmpty (K : PySem.W.Frag) : Sp := fun vs H Q _ => ∃ E f vc d t v bs, vs = [.ref f, v] ∧ FrH K H f vc d ∧ ThAt E H d t ∧ ((∃ l, v = .ref l ∧ H l = some (.lst (bs.map V.str))) ∨ Im H v (tstr bs)) ∧ ∀ H', Kp [d] H H' → ThAt E H' d (wipeAll t bs) → Q .non H'
def encLv (l : Leav) : PyData := .tuple [encPl l.place, .str l.box, tstr l.worths]
def encHeld (x : Str × Thing) : PyData := .tuple [.str x.1, .int x.2.1, tstr x.2.2]
def spKept (K : PySem.W.Frag) : Sp := fun vs H Q _ => ∃ E f vc d t v pl, vs = [.ref f, v] ∧ EnvOk E ∧ FrH K H f vc d ∧ ThAt E H d t ∧ Im H v (encPl pl) ∧ ∀ p us H', H p = none → Ex H H' → H' p = some (.lst us) → Ims H' us ((kept E pl t).map encLv) → Q (.ref p) H'
def spShown (K : PySem.W.Frag) : Sp := fun vs H Q _ => ∃ E f vc d t, vs = [.ref f] ∧ EnvOk E ∧ FrH K H f vc d ∧ ThAt E H d t ∧ ∀ v H', Ex H H' → Im H' v (.tuple ((shown E t).map encHeld)) → Q v H'
section
variable {P : Program} {w : World} {K : PySem.W.Frag} {mg : Str → Option Value} {base : Heap}
theorem sc_Frame_init : FnScope ["self", "called_at"] ["self", "called_at"] (defScope m_Frame_init) := ⟨rfl, rfl, rfl, by decide +kernel, rfl, by decide +kernel, by decide +kernel⟩
theorem ok_Frame (T : Fx K mg) : C8.Mak P w K mg base 1 "Frame" (CF K) (spFrame K) [] := by
  obtain ⟨fd, F⟩ := T.f_Frame_init
  refine mak_of T.mk_Frame T.g_Frame F sc_Frame_init (fun _ _ _ _ _ _ us hl => match us, hl with | [_, _], _ => rfl) (by rintro vs H Q E ⟨x, dx, vc, rfl, _⟩; rfl) fun cdv A outer s H vs Q E hr hsp => ?_
  obtain ⟨x, dx, vc, rfl, hx, k⟩ := hsp
  refine ⟨_, (pss_cons (ps_fld (pv 0) (pv 1) rfl)
    (pss_one (ps_fld (pv 0) pe_dnewK rfl))), ?_⟩
  refine ⟨_, rfl, _, rfl, x, _, dx, _, rfl, hx, T.cls_Frame, T.no_Frame_called_at, by show 0 < 1000; omega, ?_⟩
  intro d hd
  have nx : d ≠ x := fun z => by rw [z, upd_same] at hd; cases hd
  have hd0 : H d = none := by rwa [upd_ne nx] at hd
  refine ⟨_, rfl, x, _, dx, _, rfl, by rw [upd_ne (Ne.symm nx), upd_same], T.cls_Frame, T.no_Frame_things, by show 1 < 1000; omega, ?_⟩
  · skip
    refine k d _ hd0 ?_ upd_same (by rw [upd_ne nx, upd_same])
    exact (((Kp.refl H).mut (by simp)).new hd0).mut (by simp)
theorem sc_Frame_look : FnScope ["self", "box"] ["self", "box"] (defScope m_Frame_look) := ⟨rfl, rfl, rfl, by decide +kernel, rfl, by decide +kernel, by decide +kernel⟩
theorem ok_look (T : Fx K mg) : C8.Met P w K mg base 1 (CF K) "look" (spLook K) [] := by
  obtain ⟨fd, F⟩ := T.f_Frame_look
  refine met_of T.cls_Frame T.me_Frame_look F sc_Frame_look (fun _ _ _ _ _ _ us hl => match us, hl with | [_, _], _ => rfl) (by rintro vs H Q E ⟨_, _, _, _, _, _, rfl, _⟩; rfl) fun cdv A outer s H vs Q E hr hsp => ?_
  obtain ⟨E, f, vc, d, t, b, rfl, ⟨dx, hf⟩, ht, k⟩ := hsp
  have hu := hu_of hr
  refine ⟨_, (pss_one (ps_ret (pe_dget2 hu (pe_fld (pv 0) rfl) (pv 1) (pe_tup (pa_cons pe_int (pa_cons (pe_tup pa_nil) pa_nil))) ⟨rfl, rfl, rfl, rfl⟩))), ?_⟩
  exact qd_ret (evd_get (ev_fld (ev_var rfl) hf T.cls_Frame T.no_Frame_things rfl) ht (evd_var rfl (.str b)) (evd_tup (evds_cons evd_int (evds_cons (evd_tup evds_nil) evds_nil)))) k
theorem wipe_take {t : Things} {bs : List Str} {i : Nat} {b : Str} (h : bs[i]? = some b) : put (wipeAll t (bs.take i)) b none0 = wipeAll t (bs.take (i + 1)) := by
  funext c
  unfold put wipeAll
  rw [List.take_add_one, h]
  by_cases e : c = b <;> by_cases e2 : c ∈ bs.take i <;> simp [e, e2]
theorem wipe_nil (t : Things) : wipeAll t [] = t := by funext c; simp [wipeAll]
/-- one turn: the box is popped -/
theorem pop_turn (T : Fx K mg) {E : Env} {f d dx : Addr} {vc : V} {t : Things} {b : Str} {σ : L2.St} {H : Hp} {Q : VK} {j : Nat} (hs : σ[0]? = some (some (.ref f))) (h2 : σ[j]? = some (some (.str b))) (hf : H f = some (.ins (CF K) dx [("called_at", vc), ("things", .ref d)])) (ht : ThAt E H d t)
    (k : ∀ H', Kp [d] H H' → ThAt E H' d (put t b none0) → ∀ v, Q v H') : tDPop2 (tFld K (tVar 0) "things") (tVar j) (tC .non) σ H Q := by
  obtain ⟨kvs, hk, hd⟩ := ht
  refine (ev_fld (ev_var hs) hf T.cls_Frame T.no_Frame_things rfl) H (Ex.refl H) _ fun H2 e2 => ⟨d, rfl, .inl ⟨kvs, .inl (e2 _ _ hk)⟩, .str b, h2, kvs, Sum.inr b, e2 _ _ hk, rfl, fun u hu => ?_, fun hn => ?_⟩
  · exact k _ ((Kp.of e2).mut (by simp)) ⟨_, upd_same, (th_drop (hd.mono (KT.of e2))).mono ((KT.refl H2).upd (nt_dK (e2 _ _ hk)))⟩ _
  · refine k _ (Kp.of e2) ⟨kvs, e2 _ _ hk, ?_⟩ _
    rw [th_none hd hn]
    exact hd.mono (KT.of e2)
theorem sc_Frame_put : FnScope ["self", "box", "thing"] ["self", "box", "thing"] (defScope m_Frame_put) := ⟨rfl, rfl, rfl, by decide +kernel, rfl, by decide +kernel, by decide +kernel⟩
theorem put_none {t : Things} {b : Str} {x : Thing} (h : x = none0) : put t b x = put t b none0 := by rw [h]
theorem ok_put (T : Fx K mg) : C8.Met P w K mg base 1 (CF K) "put" (spPut K) [] := by
  obtain ⟨fd, F⟩ := T.f_Frame_put
  refine met_of T.cls_Frame T.me_Frame_put F sc_Frame_put (fun _ _ _ _ _ _ us hl => match us, hl with | [_, _, _], _ => rfl) (by rintro vs H Q E ⟨_, _, _, _, _, _, _, _, rfl, _⟩; rfl) fun cdv A outer s H vs Q E hr hsp => ?_
  obtain ⟨E, f, vc, d, t, b, v, x, rfl, ok, ⟨dx, hf⟩, ht, hb, iv, hw, k⟩ := hsp
  have hu := hu_of hr
  refine ⟨_, (pss_one (ps_if (pt_cmpR (op_eqD hr.units) (pv 2) (pe_tup (pa_cons pe_int (pa_cons (pe_tup pa_nil) pa_nil))) (nomark _))
    (pss_one (ps_expr (pe_dpop2 (pe_fld (pv 0) rfl) (pv 1) pe_non ⟨rfl, rfl, rfl, rfl⟩)))
    (pss_one (ps_dput hu (pe_fld (pv 0) rfl) (pv 1) (pv 2) rfl)))), ?_⟩
  have h0 : SeqAt.shaped (.tuple [.int 0, .tuple []]) = true := by decide +kernel
  refine s_if (evt_eqD (K := K) (evd_var (i := 2) rfl iv) (evd_tup (evds_cons evd_int (evds_cons (evd_tup evds_nil) evds_nil))) (shaped_th fun u hu => ok.wok u (hw u hu)) h0) (fun e H1 e1 => ?_) (fun e H1 e1 => ?_)
  · rw [eqv_th] at e
    have e := of_decide_eq_true e
    show tDPop2 (tFld K (tVar 0) "things") (tVar 1) (tC .non) [some (.ref f), some (.str b), some v] H1 _
    refine pop_turn T (dx := dx) (vc := vc) (f := f) rfl rfl (e1 _ _ hf) (ht.ex e1) fun H2 e2 ht2 _ => ?_
    exact k _ ((Kp.of e1).trans e2) (by rw [put_none e]; exact ht2)
  · rw [eqv_th] at e
    have e := of_decide_eq_false e
    obtain ⟨kvs, hk, hd⟩ := ht
    have hd1 := hd.mono (KT.of e1)
    have hz := th_len ok.bl hd
    refine ⟨v, rfl, (ev_fld (ev_var (i := 0) rfl) (e1 _ _ hf) T.cls_Frame T.no_Frame_things rfl) H1 (Ex.refl H1) _ fun H2 e2 => ⟨_, rfl, d, _, rfl, DPut.k (k := Sum.inr b) (e2 _ _ (e1 _ _ hk)) (sz_lt (by omega)), ?_⟩⟩
    refine k _ ((Kp.of (e1.trans e2)).mut (by simp)) ⟨_, upd_same, ?_⟩
    exact (th_put (hd1.mono (KT.of e2)) hb (iv.ex (e1.trans e2)) e hw).mono ((KT.refl H2).upd (nt_dK (e2 _ _ (e1 _ _ hk))))
theorem sc_Frame_empty : FnScope ["self", "boxes", "box"] ["self", "boxes"] (defScope m_Frame_empty) := ⟨rfl, rfl, rfl, by decide +kernel, rfl, by decide +kernel, by decide +kernel⟩
theorem ok_empty (T : Fx K mg) : C8.Met P w K mg base 1 (CF K) "empty" (spEmpty K) [] := by
  obtain ⟨fd, F⟩ := T.f_Frame_empty
  refine met_of T.cls_Frame T.me_Frame_empty F sc_Frame_empty (fun _ _ _ _ _ _ us hl => match us, hl with | [_, _], _ => rfl) (by rintro vs H Q E ⟨_, _, _, _, _, _, _, rfl, _⟩; rfl) fun cdv A outer s H vs Q E hr hsp => ?_
  obtain ⟨E, f, vc, d, t, v, bs, rfl, ⟨dx, hf⟩, ht, hv, k⟩ := hsp
  have hfd : f ≠ d := FrH.ne ⟨dx, hf⟩ ht.at.choose_spec
  rcases hv with ⟨l, rfl, hl⟩ | iv
  · refine ⟨_, (pss_one (ps_for PassesOwn.never rfl (pi_list (pv 1)) (pg_name (i := 2) sc_Frame_empty.nd rfl (.inl rfl))
      (pss_one (ps_expr (pe_dpop2 (pe_fld (pv 0) rfl) (pv 2) pe_non ⟨rfl, rfl, rfl, rfl⟩))))), ?_⟩
    have hld : l ≠ d := fun z => by obtain ⟨kvs, h⟩ := ht.at; rw [z, h] at hl; cases hl
    refine ⟨_, rfl, l, rfl, ⟨_, SqL.of hl⟩, for_list (K := K) (a := l) (xs := bs.map V.str) (fun i σ H' => (∃ x, σ = [some (.ref f), some (.ref l), x]) ∧ Kp [d] H H' ∧ ThAt E H' d (wipeAll t (bs.take i))) ⟨⟨_, rfl⟩, Kp.refl H, by rw [List.take_zero, wipe_nil]; exact ht⟩ (fun i σ H' _ h => SqL.of (h.2.1 _ _ hl (by simpa using hld))) ?_ ?_⟩
    · rintro i x σ H' hi ⟨⟨y, rfl⟩, e2, ht2⟩
      rw [List.getElem?_map] at hi
      cases q : bs[i]? with
      | none => rw [q] at hi; cases hi
      | some b =>
        rw [q] at hi
        obtain rfl : V.str b = x := Option.some.inj hi
        show tDPop2 (tFld K (tVar 0) "things") (tVar 2) (tC .non) [some (.ref f), some (.ref l), some (.str b)] H' _
        refine pop_turn T (dx := dx) (vc := vc) (f := f) rfl rfl (e2 _ _ hf (by simpa using hfd)) ht2 fun H2 e3 ht3 u => ?_
        rw [wipe_take q] at ht3
        exact ⟨⟨_, rfl⟩, e2.trans e3, ht3⟩
    · rintro σ H' ⟨⟨y, rfl⟩, e2, ht2⟩
      rw [List.length_map, List.take_length] at ht2
      exact k H' e2 ht2
  · refine ⟨_, (pss_one (ps_for PassesOwn.never rfl (pi_tup (pv 1)) (pg_name (i := 2) sc_Frame_empty.nd rfl (.inl rfl))
      (pss_one (ps_expr (pe_dpop2 (pe_fld (pv 0) rfl) (pv 2) pe_non ⟨rfl, rfl, rfl, rfl⟩))))), ?_⟩
    obtain ⟨l, xs, rfl, hl, hx⟩ := iv.tup_
    have := hx.strs_
    subst this
    have hld : l ≠ d := fun z => by obtain ⟨kvs, h⟩ := ht.at; rw [z, h] at hl; cases hl
    refine ⟨_, rfl, l, rfl, ⟨_, SqT.of hl⟩, for_tup (K := K) (a := l) (xs := bs.map V.str) (fun i σ H' => (∃ x, σ = [some (.ref f), some (.ref l), x]) ∧ Kp [d] H H' ∧ ThAt E H' d (wipeAll t (bs.take i))) ⟨⟨_, rfl⟩, Kp.refl H, by rw [List.take_zero, wipe_nil]; exact ht⟩ (fun i σ H' _ h => SqT.of (h.2.1 _ _ hl (by simpa using hld))) ?_ ?_⟩
    · rintro i x σ H' hi ⟨⟨y, rfl⟩, e2, ht2⟩
      rw [List.getElem?_map] at hi
      cases q : bs[i]? with
      | none => rw [q] at hi; cases hi
      | some b =>
        rw [q] at hi
        obtain rfl : V.str b = x := Option.some.inj hi
        show tDPop2 (tFld K (tVar 0) "things") (tVar 2) (tC .non) [some (.ref f), some (.ref l), some (.str b)] H' _
        refine pop_turn T (dx := dx) (vc := vc) (f := f) rfl rfl (e2 _ _ hf (by simpa using hfd)) ht2 fun H2 e3 ht3 u => ?_
        rw [wipe_take q] at ht3
        exact ⟨⟨_, rfl⟩, e2.trans e3, ht3⟩
    · rintro σ H' ⟨⟨y, rfl⟩, e2, ht2⟩
      rw [List.length_map, List.take_length] at ht2
      exact k H' e2 ht2
theorem sc_Frame_kept_here : FnScope ["self", "place", "box"] ["self", "place"] (defScope m_Frame_kept_here) := ⟨rfl, rfl, rfl, by decide +kernel, rfl, by decide +kernel, by decide +kernel⟩
theorem kept_map (E : Env) (pl : Place) (t : Things) : ((E.Bs.filter fun b => decide (t b ≠ none0)).map PyData.str).filterMap (fun d => match d with
    | .str b => if (t b).2 = [] then none else some (encLv ⟨pl, b, (t b).2⟩)
    | _ => none) = (kept E pl t).map encLv := by
  unfold kept
  induction E.Bs with
  | nil => rfl
  | cons b bs ih =>
    by_cases h : t b = none0
    · rw [List.filter_cons_of_neg (by simp [h]), ih]
      simp [h, none0]
    · rw [List.filter_cons_of_pos (by simp [h]), List.map_cons]
      by_cases h2 : (t b).2 = []
      · rw [List.filterMap_cons_none (by simp [h2]), ih, List.filterMap_cons_none (by simp [h2])]
      · rw [List.filterMap_cons_some (b := encLv ⟨pl, b, (t b).2⟩) (by simp [h2]), ih, List.filterMap_cons_some (b := ⟨pl, b, (t b).2⟩) (by simp [h2])]
        rfl
theorem ok_kept (T : Fx K mg) : C8.Met P w K mg base 1 (CF K) "kept_here" (spKept K) [] := by
  obtain ⟨fd, F⟩ := T.f_Frame_kept_here
  refine met_of T.cls_Frame T.me_Frame_kept_here F sc_Frame_kept_here (fun _ _ _ _ _ _ us hl => match us, hl with | [_, _], _ => rfl) (by rintro vs H Q E ⟨_, _, _, _, _, _, _, rfl, _⟩; rfl) fun cdv A outer s H vs Q E hr hsp => ?_
  obtain ⟨E, f, vc, d, t, v, pl, rfl, ok, ⟨dx, hf⟩, ht, iv, k⟩ := hsp
  have hu := hu_of hr
  refine ⟨_, (pss_one (ps_ret (pe_lc (own := [("box", 2)]) rfl sc_Frame_kept_here.nd (pi_list (pe_callB (call_sortedD rfl) (by rfl) T.sorted_ boot_sorted (pa_cons (pe_fld (pv 0) rfl) pa_nil))) (blkOk_by (own := [("box", 2)]) (N := ["self", "place", "box"]) (sc := defScope m_Frame_kept_here) (by decide +kernel)) (fun _ _ _ _ _ => pg_name (i := 2) sc_Frame_kept_here.nd rfl (.inl rfl)) (fun _ _ _ _ _ => by exact pts_one (pt_cmpR (op_neDK K hr.units) (pe_ix (ix_tupK K) (pe_dget hu (pe_fldK K (pv 0) rfl) (pv 2) (fun _ _ => rfl)) pe_int (fun _ _ => rfl)) (pe_tup pa_nil) (nomark _))) (fun _ _ _ _ _ => by exact (pe_tup (pa_cons (pv 1) (pa_cons (pv 2) (pa_cons (pe_ix (ix_tupK K) (pe_dget hu (pe_fldK K (pv 0) rfl) (pv 2) (fun _ _ => rfl)) pe_int (fun _ _ => rfl)) pa_nil)))))))), ?_⟩
  have hflt : ∀ (i : Nat) dd, (((E.Bs.filter fun b => decide (t b ≠ none0)).map PyData.str)[i]? = some dd) → ∃ b, dd = .str b ∧ t b ≠ none0 := fun i dd hi => by
    obtain ⟨b, hb, rfl⟩ := List.mem_map.mp (List.mem_of_getElem? hi)
    exact ⟨b, rfl, by simpa using (List.mem_filter.mp hb).2⟩
  have look : ∀ {H1 : Hp} {b : Str} {u : V}, Ex H H1 → Im H1 u (.str b) → t b ≠ none0 → EvD (tDGet (tFld K (tVar 0) "things") (tVar 2)) [some (.ref f), some v, some u] H1 (encTh (t b)) := fun {H1 b u} e1 iu hb => by
    obtain ⟨kvs, hk, hd⟩ := ht
    rcases hd.val b with ⟨h, _⟩ | ⟨_, z, hz, iz⟩
    · exact absurd h hb
    · exact evd_dget (ev_fld (ev_var (i := 0) rfl) (e1 _ _ hf) T.cls_Frame T.no_Frame_things rfl) (e1 _ _ hk) (evd_var rfl iu) hz (iz.ex e1)
  refine qd_retL (evl_lcL (j := 2) _ (evl_sortD ok (ev_fld (ev_var (i := 0) rfl) hf T.cls_Frame T.no_Frame_things rfl) ht) ?_ ?_ ?_) fun p us H1 hp e1 h1 i1 => k p us H1 hp e1 h1 (by rw [← kept_map]; exact i1)
  · rw [List.length_map]
    have := List.length_filter_le (fun b => decide (t b ≠ none0)) E.Bs
    have := ok.bl
    omega
  · intro i dd u H1 hi e1 iu
    obtain ⟨b, rfl, hb⟩ := hflt i dd hi
    refine evt_is (evt_neD (K := K) (evd_at 1 (look e1 iu hb) rfl) (evd_tup evds_nil) (shaped_strs fun x hx => ?_) shaped_nil) ?_
    · obtain ⟨kvs, hk, hd⟩ := ht
      exact ok.wok x (hd.ws b x hx)
    · rw [eqv_nil]
      cases q : (t b).2 <;> simp [q]
  · intro i dd u H1 e hi e1 iu he
    obtain ⟨b, rfl, hb⟩ := hflt i dd hi
    dsimp only at he
    split at he
    · cases he
    · cases he
      exact evd_tup (evds_cons (evd_var rfl (iv.ex e1)) (evds_cons (evd_var rfl iu) (evds_cons (evd_at 1 (look e1 iu hb) rfl) evds_nil)))
theorem sc_Frame_shown : FnScope ["self", "box"] ["self"] (defScope m_Frame_shown) := ⟨rfl, rfl, rfl, by decide +kernel, rfl, by decide +kernel, by decide +kernel⟩
theorem shown_map (E : Env) (t : Things) : ((E.Bs.filter fun b => decide (t b ≠ none0)).map PyData.str).filterMap (fun d => match d with
    | .str b => some (encHeld (b, t b))
    | _ => none) = (shown E t).map encHeld := by
  unfold shown
  induction E.Bs with
  | nil => rfl
  | cons b bs ih =>
    by_cases h : t b = none0
    · rw [List.filter_cons_of_neg (by simp [h]), ih]
      simp [h]
    · rw [List.filter_cons_of_pos (by simp [h]), List.map_cons, List.filterMap_cons_some (a := PyData.str b) (b := encHeld (b, t b)) (by rfl), ih, List.filterMap_cons_some (a := b) (b := (b, t b)) (by simp [h])]
      rfl
theorem ok_shown (T : Fx K mg) : C8.Met P w K mg base 1 (CF K) "shown" (spShown K) [] := by
  obtain ⟨fd, F⟩ := T.f_Frame_shown
  refine met_of T.cls_Frame T.me_Frame_shown F sc_Frame_shown (fun _ _ _ _ _ _ us hl => match us, hl with | [_], _ => rfl) (by rintro vs H Q E ⟨_, _, _, _, _, rfl, _⟩; rfl) fun cdv A outer s H vs Q E hr hsp => ?_
  obtain ⟨E, f, vc, d, t, rfl, ok, ⟨dx, hf⟩, ht, k⟩ := hsp
  have hu := hu_of hr
  refine ⟨_, (pss_one (ps_ret (pe_callTy call_tuple_of (by rfl) T.tuple_ boot_tuple (pa_cons (pe_lc (own := [("box", 1)]) rfl sc_Frame_shown.nd (pi_list (pe_callB (call_sortedD rfl) (by rfl) T.sorted_ boot_sorted (pa_cons (pe_fld (pv 0) rfl) pa_nil))) (blkOk_by (own := [("box", 1)]) (N := ["self", "box"]) (sc := defScope m_Frame_shown) (by decide +kernel)) (fun _ _ _ _ _ => pg_name (i := 1) sc_Frame_shown.nd rfl (.inl rfl)) (fun _ _ _ _ _ => pts_nil) (fun _ _ _ _ _ => by exact (pe_op (op_catAK K) (pe_tup (pa_cons (pv 1) pa_nil)) (pe_dget hu (pe_fldK K (pv 0) rfl) (pv 1) (fun _ _ => rfl))))) pa_nil)))), ?_⟩
  have hflt : ∀ (i : Nat) dd, (((E.Bs.filter fun b => decide (t b ≠ none0)).map PyData.str)[i]? = some dd) → ∃ b, dd = .str b ∧ t b ≠ none0 := fun i dd hi => by
    obtain ⟨b, hb, rfl⟩ := List.mem_map.mp (List.mem_of_getElem? hi)
    exact ⟨b, rfl, by simpa using (List.mem_filter.mp hb).2⟩
  have look : ∀ {H1 : Hp} {b : Str} {u : V}, Ex H H1 → Im H1 u (.str b) → t b ≠ none0 → EvD (tDGet (tFld K (tVar 0) "things") (tVar 1)) [some (.ref f), some u] H1 (encTh (t b)) := fun {H1 b u} e1 iu hb => by
    obtain ⟨kvs, hk, hd⟩ := ht
    rcases hd.val b with ⟨h, _⟩ | ⟨_, z, hz, iz⟩
    · exact absurd h hb
    · exact evd_dget (ev_fld (ev_var (i := 0) rfl) (e1 _ _ hf) T.cls_Frame T.no_Frame_things rfl) (e1 _ _ hk) (evd_var rfl iu) hz (iz.ex e1)
  refine qd_ret (evd_tupL (evl_lcL (j := 1) _ (evl_sortD ok (ev_fld (ev_var (i := 0) rfl) hf T.cls_Frame T.no_Frame_things rfl) ht) ?_ ?_ ?_)) fun u H1 e1 i1 => k u H1 e1 (by rw [← shown_map]; exact i1)
  · rw [List.length_map]
    have := List.length_filter_le (fun b => decide (t b ≠ none0)) E.Bs
    have := ok.bl
    omega
  · intro i dd u H1 hi e1 iu
    obtain ⟨b, rfl, hb⟩ := hflt i dd hi
    exact evt_all
  · intro i dd u H1 e hi e1 iu he
    obtain ⟨b, rfl, hb⟩ := hflt i dd hi
    cases he
    exact evd_cat (evd_tup (evds_cons (evd_var rfl iu) evds_nil)) (look e1 iu hb) (by simp)
end
end K16

set_option Elab.async false
set_option linter.all false
set_option maxRecDepth 100000
set_option maxHeartbeats 4000000
/-! KNames: first_name, in_record, is_answer -/
namespace K16
open PySem PySem.Spec PyProof.Rows L2 Evl
theorem spl_head : ∀ (l acc : List Nat), ∃ r, TL.spl [dot] 0 acc l = (acc ++ l.takeWhile fun c => decide (c ≠ dot)) :: r
  | [], acc => ⟨[], by simp [TL.spl]⟩
  | c :: l, acc => by
    by_cases h : c = dot
    · refine ⟨TL.spl [dot] 0 [] l, ?_⟩
      rw [TL.spl_hit (by simp [TL.pre, h])]
      simp [h]
    · obtain ⟨r, hr⟩ := spl_head l (acc ++ [c])
      refine ⟨r, ?_⟩
      show (if TL.pre [dot] (c :: l) = true then _ else TL.spl [dot] 0 (acc ++ [c]) l) = _
      rw [if_neg (by simp [TL.pre, h]), hr]
      simp [h]
theorem dot_str : (Str.ofString "." : Str) = ⟨#[dot]⟩ := by decide +kernel
theorem split_first (b : Str) : ∃ r, Txt.split b (Str.ofString ".") = firstName b :: r := by
  have hk : ((⟨#[dot]⟩ : Str).cps.all (· < 256)) = true := by decide +kernel
  have e := TL.split_spl b ⟨#[dot]⟩ (by simp [TL.tl]) (TL.kind_ok hk)
  obtain ⟨r, hr⟩ := spl_head (TL.tl b) []
  have e2 : TL.tl (⟨#[dot]⟩ : Str) = [dot] := rfl
  rw [e2, hr, List.nil_append] at e
  rw [dot_str]
  cases q : Txt.split b ⟨#[dot]⟩ with
  | nil => rw [q] at e; cases e
  | cons x r' =>
    rw [q] at e
    have e1 := (List.cons.inj e).1
    exact ⟨r', by rw [show x = firstName b from str_ext e1]⟩
def fFName : List PyData → PyData → Prop := fun ds d => ∃ b, ds = [.str b] ∧ b.length ≤ 1000 ∧ d = .str (firstName b)
def spInRec : Sp := fun vs H Q _ => ∃ b n, vs = [.str b, .str n] ∧ b.length ≤ 1000 ∧ ∀ H', Ex H H' → Q (.bl (inRecord b n)) H'
def spIsAns : Sp := fun vs H Q _ => ∃ v m : Int, vs = [.int v, .int m] ∧ ∀ H', Ex H H' → Q (.bl (decide (0 ≤ v) && decide (v < m))) H'
section
variable {K : PySem.W.Frag} {σ : L2.St} {H H' : Hp} {ta tb te tl : TE} {d e f : PyData} {ds es : List PyData} {D : Ends} {tz tu tw : TS} {t : TT}
/-- s.split('.')[0] -/
theorem evd_first {b : Str} {i : Int} (h : EvD te σ H (.str b)) (hl : b.length ≤ 1000) (hi : i = ((0 : Nat) : Int) := by rfl) :
    EvD (tOp (rIxL K) (tM1 (fun x xs H Q => ∃ a b, x = .str a ∧ xs = [.str b] ∧ (b.length == 0) = false ∧ a.length + 2 ≤ sizeLine ∧ rNewStrs (Txt.split a b) H Q) te (tC (.str "."))) (tC (.int i))) σ H (.str (firstName b)) := fun H1 a Q q =>
  h H1 a _ fun v H2 e2 iv => by
    obtain ⟨r, hr⟩ := split_first b
    refine ⟨⟨b, iv.str_⟩, b, _, iv.str_, rfl, by decide +kernel, Nat.le_trans (Nat.add_le_add_right hl 2) (by decide), fun p hp => ⟨p, _, i, .str (firstName b), rfl, rfl, SqL.of upd_same, ?_, q _ _ (e2.trans (Ex.new hp)) (.str _)⟩⟩
    rw [hr, hi]
    exact atI_nat rfl
end
section
variable {P : Program} {w : World} {K : PySem.W.Frag} {mg : Str → Option Value} {base : Heap}
theorem sc_first_name : FnScope ["box"] ["box"] (defScope s_first_name) := ⟨rfl, rfl, rfl, by decide +kernel, rfl, by decide +kernel, by decide +kernel⟩
theorem ok_first_name (T : Fx K mg) : C8.Cal P w K mg base 1 "first_name" (spD fFName) [] := by
  obtain ⟨fd, F⟩ := T.f_first_name
  refine cal_of F T.g_first_name sc_first_name (fun _ _ _ _ _ _ us hl => match us, hl with | [_], _ => rfl) (spD_len (n := 1) (by rintro _ _ ⟨b, rfl, _⟩; rfl)) fun cdv A outer s H vs Q E hr hsp => ?_
  obtain ⟨_, _, ⟨b, rfl, hl, rfl⟩, hi, k⟩ := hsp
  obtain ⟨v, rfl, iv⟩ := hi.one
  refine ⟨_, (pss_one (ps_ret (pe_ix ix_list (pe_split (pv 0) pe_str) pe_int (fun _ _ => rfl)))), ?_⟩
  exact qd_ret (evd_first (evd_var rfl iv) hl) k
theorem sc_in_record : FnScope ["box", "name"] ["box", "name"] (defScope s_in_record) := ⟨rfl, rfl, rfl, by decide +kernel, rfl, by decide +kernel, by decide +kernel⟩
theorem ok_in_record (T : Fx K mg) : C8.Cal P w K mg base 2 "in_record" spInRec [] := by
  obtain ⟨fd, F⟩ := T.f_in_record
  have c_first_name := ok_first_name (P := P) (w := w) (base := base) T
  refine cal_of F T.g_in_record sc_in_record (fun _ _ _ _ _ _ us hl => match us, hl with | [_, _], _ => rfl) (by rintro vs H Q E ⟨_, _, rfl, _⟩; rfl) fun cdv A outer s H vs Q E hr hsp => ?_
  obtain ⟨b, n, rfl, hl, k⟩ := hsp
  refine ⟨_, (pss_one (ps_ret (pe_and (pe_cmpR op_in_sign pe_str (pv 0) (by rfl)) (pe_one (pe_cmpR op_eq (C8.pe_c c_first_name hr (by omega) rfl (pa_cons (pv 0) pa_nil)) (pv 1) (nomark _)))))), ?_⟩
  have t2 : ∀ {H1 : Hp}, Ex H H1 → ∀ Q2 : VK, (∀ H2, Ex H1 H2 → Q2 (.bl (decide (firstName b = n))) H2) → tOp rEq (tCall (spD fFName) [] C8.E0 (tCons (tVar 0) tNil)) (tVar 1) (L2.start ["box", "name"] [.str b, .str n]) H1 Q2 := fun {H1} e1 Q2 q2 =>
    (evd_call (d := .str (firstName b)) (evds_cons (evd_var rfl (.str b)) evds_nil) ⟨b, rfl, hl, rfl⟩) H1 (Ex.refl H1) _ fun v H2 e2 iv => ⟨_, rfl, by
      obtain ⟨x1, x2⟩ := scal_of iv (.str n : Im H2 (.str n) (.str n)) rfl
      refine ⟨x1, ?_⟩
      rw [x2]
      exact q2 H2 e2⟩
  refine ⟨_, rfl, dot, b, congrArg V.str dot_str, rfl, decide (dot ∈ b.cps.toList), rfl, ?_⟩
  unfold inRecord at k
  by_cases h : dot ∈ b.cps.toList
  · rw [if_pos (decide_eq_true h)]
    refine t2 (Ex.refl H) _ fun H2 e2 => ?_
    have := k H2 e2
    rw [decide_eq_true h, Bool.true_and] at this
    exact this
  · rw [if_neg (by simp [h])]
    have := k H (Ex.refl H)
    rw [decide_eq_false h, Bool.false_and] at this
    exact this
theorem sc_is_answer : FnScope ["thing", "many"] ["thing", "many"] (defScope s_is_answer) := ⟨rfl, rfl, rfl, by decide +kernel, rfl, by decide +kernel, by decide +kernel⟩
theorem ok_is_answer (T : Fx K mg) : C8.Cal P w K mg base 1 "is_answer" spIsAns [] := by
  obtain ⟨fd, F⟩ := T.f_is_answer
  refine cal_of F T.g_is_answer sc_is_answer (fun _ _ _ _ _ _ us hl => match us, hl with | [_, _], _ => rfl) (by rintro vs H Q E ⟨_, _, rfl, _⟩; rfl) fun cdv A outer s H vs Q E hr hsp => ?_
  obtain ⟨v, m, rfl, k⟩ := hsp
  refine ⟨_, (pss_one (ps_ret (pe_and (pe_callB call_isi (by rfl) T.isinstance_ boot_isinstance (pa_cons (pv 0) (pa_cons (pe_bltn (v := .ty "int") (by rfl) T.int_ boot_int rfl) pa_nil))) (pe_and (pe_not (pe_callB call_isi (by rfl) T.isinstance_ boot_isinstance (pa_cons (pv 0) (pa_cons (pe_bltn (v := .ty "bool") (by rfl) T.bool_ boot_bool rfl) pa_nil)))) (pe_one (pe_chain op_le op_lt pe_int (pv 0) (pv 1))))))), ?_⟩
  refine ⟨_, rfl, _, _, .type "int", .type "int", true, rfl, .ty _, .base (.int _), kit_ty (by decide +kernel), true, rfl, ?_⟩
  refine ⟨_, rfl, _, _, .type "int", .type "bool", false, rfl, .ty _, .base (.int _), kit_ty (by decide +kernel), false, rfl, true, rfl, ?_⟩
  refine ⟨_, rfl, 0, v, rfl, rfl, decide ((0 : Int) ≤ v), rfl, ?_⟩
  have := k H (Ex.refl H)
  by_cases h : (0 : Int) ≤ v
  · rw [if_pos (decide_eq_true h)]
    rw [decide_eq_true h, Bool.true_and] at this
    exact ⟨_, rfl, v, m, rfl, rfl, this⟩
  · rw [if_neg (by simp [h])]
    rw [decide_eq_false h, Bool.false_and] at this
    exact this
end
end K16

set_option Elab.async false
set_option linter.all false
set_option maxRecDepth 100000
set_option maxHeartbeats 4000000
/-! KZip: zip of a tracked tuple and a tracked list, in a loop and in a comprehension -/
namespace K16
open PySem PySem.Spec PyProof.Rows L2 Evl
/-- the tuple at a, the list at b, item by item -/
def ItzM (a b : Addr) : It :=
  ⟨fun i H => ∃ (xs ys : List V) (x y : V), H a = some (.tup xs) ∧ H b = some (.lst ys) ∧ xs[i]? = some x ∧ ys[i]? = some y,
   fun i H v H' => ∃ p x y, v = .ref p ∧ H p = none ∧ H' = upd H p (.tup [x, y]) ∧ (∀ xs, H a = some (.tup xs) → xs[i]? = some x) ∧ (∀ ys, H b = some (.lst ys) → ys[i]? = some y),
   fun i H => ∃ xs ys : List V, H a = some (.tup xs) ∧ H b = some (.lst ys) ∧ i ≤ xs.length ∧ i ≤ ys.length ∧ (i = xs.length ∨ i = ys.length)⟩
/-- the five cells of a zip, at its turn i -/
structure ZM (z t o j k a b : Addr) (i : Nat) (h : Heap) : Prop where
  zip : IsZip h z t o .none
  its : IsTupOf2 h t (.ref j) (.ref k)
  out : ∃ x y, IsTupOf2 h o x y
  fst : h.IsTupleIter j a i
  snd : h.IsListIter k b i
theorem ZM.cell {z t o j k a b : Addr} {i : Nat} {h : Heap} (q : ZM z t o j k a b i h) {c : Addr} (hc : c ∈ [z, t, o, j, k]) : ∃ u, h.get? c = some u ∧ ∀ v, u.data ≠ .cell v := by
  simp only [List.mem_cons, List.not_mem_nil, or_false] at hc
  obtain ⟨x, y, ho⟩ := q.out
  rcases hc with rfl | rfl | rfl | rfl | rfl
  · exact ⟨_, q.zip, by intro v z; cases z⟩
  · exact ⟨_, q.its, by intro v z; cases z⟩
  · exact ⟨_, ho, by intro v z; cases z⟩
  · obtain ⟨u, h1, _, h2⟩ := q.fst
    exact ⟨u, h1, by intro v z; rw [h2] at z; cases z⟩
  · obtain ⟨u, h1, _, h2⟩ := q.snd
    exact ⟨u, h1, by intro v z; rw [h2] at z; cases z⟩
theorem turnM {P : Program} {w : World} {K : PySem.W.Frag} {es : List Expr} {kk : Nat} {tp : Pos} {z t o j k a b : Addr} (h1 : t ≠ z) (h2 : o ≠ z) (h3 : t ≠ o) (h4 : t ≠ j) (h5 : t ≠ k) (h6 : z ≠ j) (h7 : z ≠ k) (h8 : o ≠ j) (h9 : o ≠ k) (h10 : j ≠ k) :
    Turn P w K (.Tuple es kk tp) (ItzM a b) [z, t, o, j, k] z (ZM z t o j k a b) := by
  have sep : ∀ {X : Cx} {pins : List (Addr × Obj)} {H : Hp} {u u' : HO}, (∀ c ∈ [z, t, o, j, k], FpOk X pins H c) → H a = some u → H b = some u' → ZipSep2 z t o j k [j, a] [k, b] := fun {X pins H u u'} hf ha hb => by
    have na : ∀ c ∈ [z, t, o, j, k], c ≠ a := fun c hc e => by have := (hf c hc).1; rw [e, ha] at this; cases this
    have nb : ∀ c ∈ [z, t, o, j, k], c ≠ b := fun c hc e => by have := (hf c hc).1; rw [e, hb] at this; cases this
    refine { TIz := h1, TOz := h2, TITO := h3, TIi1 := h4, mem1 := by simp, zf1 := ?_, Tf1 := ?_, TIi2 := h5, mem2 := by simp, zf2 := ?_, Tf2 := ?_, sep1_2 := ?_, sep2_1 := ?_ }
    · simp only [List.mem_cons, List.not_mem_nil, or_false, not_or]; exact ⟨h6, na z (by simp)⟩
    · simp only [List.mem_cons, List.not_mem_nil, or_false, not_or]; exact ⟨h8, na o (by simp)⟩
    · simp only [List.mem_cons, List.not_mem_nil, or_false, not_or]; exact ⟨h7, nb z (by simp)⟩
    · simp only [List.mem_cons, List.not_mem_nil, or_false, not_or]; exact ⟨h9, nb o (by simp)⟩
    · simp only [List.mem_cons, List.not_mem_nil, or_false, not_or]; exact ⟨h10, nb j (by simp)⟩
    · simp only [List.mem_cons, List.not_mem_nil, or_false, not_or]; exact ⟨Ne.symm h10, na k (by simp)⟩
  have off : ∀ {c : Addr}, c ∉ [z, t, o, j, k] → c ≠ z ∧ c ≠ o ∧ c ≠ j ∧ c ≠ k := fun {c} hc => by
    simp only [List.mem_cons, List.not_mem_nil, or_false, not_or] at hc
    exact ⟨hc.1, hc.2.2.1, hc.2.2.2.1, hc.2.2.2.2⟩
  refine { mem := by simp, obj := fun i h q c hc => q.cell hc, keep := fun i h h' q kp => ?_, item := ?_, done := ?_, self := fun A i s Q E q r => wpAny_pyIter_zip q.zip r }
  · obtain ⟨x, y, ho⟩ := q.out
    exact ⟨kp z (by simp) _ q.zip, kp t (by simp) _ q.its, ⟨x, y, kp o (by simp) _ ho⟩, q.fst.at fun u => kp j (by simp) u, q.snd.at fun u => kp k (by simp) u⟩
  · intro X e1 e2 e3 calm i pins s σ H E I hf q go
    subst e1 e2 e3
    obtain ⟨xs, ys, x, y, ha, hb, hx, hy⟩ := go
    obtain ⟨us, ru, pu, _⟩ := I.tuple (.inl (.inl ha))
    obtain ⟨ws, rw', pw, _⟩ := I.list (.inl (.inl hb))
    obtain ⟨u, hu, ux⟩ := ru.get hx
    obtain ⟨u2, hu2, uy⟩ := rw'.get hy
    obtain ⟨x0, y0, ho⟩ := q.out
    have S := sep hf ha hb
    have hh : X.A.in1.handled = none := by simp [I.ok.hd calm]
    have nz : z < s.heap.objs.size := Heap.lt_size q.zip
    refine wpAny_pyNext_zipD2_item S (Draws.tuple hh j a (S.sep2_1 |> fun _ => ?_) us.toArray) (Draws.list hh k b ?_ ws.toArray) q.zip q.its ho ⟨q.fst, pu⟩ ⟨q.snd, pw.isList⟩ (i := i) ?_ ?_ fun v1 v2 h' tk p1 p2 z' o' s1 s2 pair size kp => ?_
    · intro e
      exact S.zf1 (by have := (hf j (by simp)).1; rw [← e, ha] at this; cases this)
    · intro e
      have := (hf k (by simp)).1
      rw [← e, hb] at this
      cases this
    · have := (List.getElem?_eq_some_iff.mp hu).1
      simpa using this
    · have := (List.getElem?_eq_some_iff.mp hu2).1
      simpa using this
    · have e1 : v1 = u := by
        have p1 : us.toArray[i]? = some v1 := p1
        rw [List.getElem?_toArray, hu] at p1
        exact (Option.some.inj p1).symm
      have e2 : v2 = u2 := by
        have p2 : ws.toArray[i]? = some v2 := p2
        rw [List.getElem?_toArray, hu2] at p2
        exact (Option.some.inj p2).symm
      subst e1 e2
      refine ⟨_, rfl, wpAny_letOwnedTupleGo_zip (s := { s with heap := h', toks := tk }) z' fun h'' z'' sb => ?_⟩
      have at2 : ∀ c o, c ≠ z → h'.get? c = some o → h''.get? c = some o := fun c o hc e => (sb.2 c hc).trans e
      have lay : ObjOk X.prog X.w (upd H s.heap.objs.size (.tup [x, y])) h'' s.heap.objs.size (.tup [x, y]) :=
        ⟨by show 2 ≤ sizeLine; decide, [v1, v2], .cons ux (.cons uy .nil), ⟨_, at2 _ _ (Nat.ne_of_gt nz) pair, rfl, _, rfl⟩⟩
      have I1 := I.turnedNew (t' := tk) (h' := h'') (ch := [z, t, o, j, k]) (fun c u hc e => at2 c u (off hc).1 (kp c u (off hc).1 (off hc).2.1 (off hc).2.2.1 (off hc).2.2.2 e)) hf (Nat.le_refl _) lay
      refine ⟨.ref s.heap.objs.size, _, I1, rfl, ⟨_, x, y, rfl, I.hok.fresh (Nat.le_refl _), rfl, fun l hl => ?_, fun l hl => ?_⟩, ⟨z'', ?_, ⟨v1, v2, ?_⟩, ?_, ?_⟩, fun c hc => ?_⟩
      · rw [ha] at hl
        cases hl
        exact hx
      · rw [hb] at hl
        cases hl
        exact hy
      · exact at2 _ _ h1 (kp _ _ h1 h3 h4 h5 q.its)
      · exact at2 _ _ h2 o'
      · exact s1.1.at fun u e => at2 _ _ (Ne.symm h6) e
      · exact s2.1.at fun u e => at2 _ _ (Ne.symm h7) e
      · obtain ⟨u, hu, _⟩ := q.cell hc
        rw [upd_ne (Nat.ne_of_lt (Heap.lt_size hu))]
        exact (hf c hc).1
  · intro X e1 e2 e3 calm i pins s σ H E I hf q stop
    subst e1 e2 e3
    obtain ⟨xs, ys, ha, hb, l1, l2, le⟩ := stop
    obtain ⟨us, ru, pu, _⟩ := I.tuple (.inl (.inl ha))
    obtain ⟨ws, rw', pw, _⟩ := I.list (.inl (.inl hb))
    obtain ⟨x0, y0, ho⟩ := q.out
    have S := sep hf ha hb
    have hh : X.A.in1.handled = none := by simp [I.ok.hd calm]
    have m1 := ru.length
    have m2 := rw'.length
    refine wpAny_pyNext_zipD2_end S (Draws.tuple hh j a ?_ us.toArray) (Draws.list hh k b ?_ ws.toArray) q.zip q.its ho ⟨q.fst, pu⟩ ⟨q.snd, pw.isList⟩ (i := i) ?_ ?_ ?_ fun h' tk kp => ⟨rfl, ?_⟩
    · intro e
      have := (hf j (by simp)).1
      rw [← e, ha] at this
      cases this
    · intro e
      have := (hf k (by simp)).1
      rw [← e, hb] at this
      cases this
    · simp; omega
    · simp; omega
    · simp; omega
    · exact I.turnedL (t' := tk) (h' := h') (ch := [z, t, o, j, k]) (fun c u hc e => kp c u (off hc).1 (off hc).2.1 (off hc).2.2.1 (off hc).2.2.2 e) hf
def iZipM (ta : TA) : TI := fun σ H R => ta σ H fun vs H1 => ∃ a b xs ys, vs = [.ref a, .ref b] ∧ H1 a = some (.tup xs) ∧ H1 b = some (.lst ys) ∧ R (ItzM a b) H1
theorem pi_zipM {X : Cx} {e e2 : Expr} {ta : TA} {p pos tpos : Pos} {elts : List Expr} {kk : Nat} (hg : Gl X "zip") (hm : X.mg "zip" = none) (ha : PA X [e, e2] ta)
    (st : starEach [e, e2] X.env = (false, eval e X.env) :: starEach [e2] X.env := by rfl) (pl : (backTo pos (starEach [e2] X.env)).any (·.1) = false := by rfl) :
    PI X (.Tuple elts kk tpos) (.Call (.Name "zip" p) [e, e2] [] pos) (iZipM ta) := by
  refine ⟨fun pins s σ H R I h => Call_ (ld_blt I hg hm PyProof.Rows.boot_zip (PyProof.Rows.callWith_type1 (thn (ha.run pos pins s σ H _ I h) fun us s1 q => ?_) st pl))⟩
  obtain ⟨vs, H1, I1, r1, a, b, xs, ys, rfl, qa, qb, q⟩ := q
  obtain ⟨u, u', rfl, ra, rb⟩ := vals2 r1
  cases ra
  cases rb
  obtain ⟨us, ru, pu, _⟩ := I1.tuple (.inl (.inl qa))
  obtain ⟨ws, rw', pw, _⟩ := I1.list (.inl (.inl qb))
  refine zip_begins2 (begins_tuple a us.toArray) (begins_list b ws.toArray) pu pw.isList fun h' hz ht ho hj hk size kp => wpAny_pyIter_zip hz ?_
  have new : ∀ n : Nat, s1.heap.objs.size ≤ s1.heap.objs.size + n := fun n => Nat.le_add_right _ n
  refine ⟨s1.heap.objs.size + 4, [s1.heap.objs.size + 4, s1.heap.objs.size + 2, s1.heap.objs.size + 3, s1.heap.objs.size + 0, s1.heap.objs.size + 1], _, _, H1, rfl, I1.kept (t' := s1.toks) kp, turnM (a := a) (b := b) ?_ ?_ ?_ ?_ ?_ ?_ ?_ ?_ ?_ ?_, ⟨hz, ht, ⟨_, _, ho⟩, ⟨_, hj, rfl, rfl⟩, ⟨_, hk, rfl, rfl⟩⟩, fun c hc => ?_, q⟩
  iterate 10 (show (_ : Nat) ≠ _; omega)
  have : s1.heap.objs.size ≤ c := by
    simp only [List.mem_cons, List.not_mem_nil, or_false] at hc
    rcases hc with rfl | rfl | rfl | rfl | rfl <;> exact new _
  exact I1.fpOk this (I1.hok.fresh this)
/-- the loop: both sides stand still -/
theorem for_zipM {a b : Addr} {xs ys : List V} {g : TG} {tb : TS} {D : Ends} {σ : L2.St} {H : Hp} (hl : xs.length = ys.length) (Pv : Nat → L2.St → Hp → Prop) (h0 : Pv 0 σ H) (hq : ∀ i σ H, Pv i σ H → H a = some (.tup xs) ∧ H b = some (.lst ys))
    (hs : ∀ (i : Nat) (x y : V) (p : Addr) (σ : L2.St) (H : Hp), xs[i]? = some x → ys[i]? = some y → Pv i σ H → H p = none → g (.ref p) σ (upd H p (.tup [x, y])) fun σ2 H2 => tb { D with nx := Pv (i + 1), ct := Pv (i + 1), bk := D.nx } σ2 H2) (hd : ∀ σ H, Pv xs.length σ H → D.nx σ H) :
    ∃ W : Nat → Nat → L2.St → Hp → Prop, (∃ m, W 0 m σ H) ∧ ∀ i m σ H, W i m σ H → ((ItzM a b).stop i H ∧ D.nx σ H) ∨
      ((ItzM a b).go i H ∧ ∃ N : L2.St → Hp → Prop, (∀ σ' H', N σ' H' → ∃ m', m' < m ∧ W (i + 1) m' σ' H') ∧ ∀ v H', (ItzM a b).yld i H v H' → g v σ H' fun σ2 H2 => tb { D with nx := N, ct := N, bk := D.nx } σ2 H2) := by
  refine ⟨fun i m σ H => m + i = xs.length ∧ Pv i σ H, ⟨xs.length, rfl, h0⟩, fun i m σ H ⟨hm, p⟩ => ?_⟩
  obtain ⟨qa, qb⟩ := hq i σ H p
  rcases Nat.eq_zero_or_pos m with rfl | hpos
  · have e : i = xs.length := by omega
    exact .inl ⟨⟨xs, ys, qa, qb, by omega, by omega, .inl e⟩, hd σ H (e ▸ p)⟩
  · have l1 : i < xs.length := by omega
    have l2 : i < ys.length := by omega
    refine .inr ⟨⟨xs, ys, xs[i], ys[i], qa, qb, List.getElem?_eq_getElem l1, List.getElem?_eq_getElem l2⟩, Pv (i + 1), fun σ' H' p' => ⟨m - 1, by omega, by omega, p'⟩, fun v H' y => ?_⟩
    obtain ⟨c, x, y, rfl, hc, rfl, f1, f2⟩ := y
    exact hs i x y c σ H (f1 xs qa) (f2 ys qb) p hc
end K16

set_option Elab.async false
set_option linter.all false
set_option maxRecDepth 100000
set_option maxHeartbeats 4000000
/-! KState: how a Run stands in the heap, and how it changes -/
namespace K16
open PySem PySem.Spec PyProof.Rows L2 Evl
def encOver : Option Over → PyData
  | none => .none
  | some .ended => .tuple [.str "ended"]
  | some (.fault f) => .tuple [.str "fault", .str f]
def encCp : Option Place → PyData
  | none => .none
  | some pl => encPl pl
/-- the addresses of a run: itself, its dict, its three lists; its program and its answers -/
structure RC where
  r : Addr
  dx : Addr
  ln : Addr
  ll : Addr
  lf : Addr
  vp : V
  vg : V
def rFields (c : RC) (used steps : Nat) (vo vpl : V) : List (Str × V) :=
  [("whole", c.vp), ("given", c.vg), ("used", .int used), ("steps", .int steps), ("numbers", .ref c.ln), ("leavings", .ref c.ll), ("frames", .ref c.lf), ("over_by", vo), ("place", vpl)]
def FrAt (K : PySem.W.Frag) (E : Env) (H : Hp) (x : Addr × Addr) (y : Option Place × Things) : Prop := ∃ vc, FrH K H x.1 vc x.2 ∧ Im H vc (encCp y.1) ∧ ThAt E H x.2 y.2
/-- the frames, the last called first -/
def FrsAt (K : PySem.W.Frag) (E : Env) (H : Hp) : List (Addr × Addr) → List (Option Place × Things) → Prop
  | [], [] => True
  | x :: xs, y :: ys => FrAt K E H x y ∧ FrsAt K E H xs ys
  | _, _ => False
section
variable {K : PySem.W.Frag} {E : Env} {H H' : Hp} {S : List Addr}
theorem FrAt.kp {x : Addr × Addr} {y : Option Place × Things} (h : FrAt K E H x y) (k : Kp S H H') (t : KT H H') (n1 : x.1 ∉ S) (n2 : x.2 ∉ S) : FrAt K E H' x y := by
  obtain ⟨vc, h1, h2, h3⟩ := h
  exact ⟨vc, h1.kp k n1, h2.mono t, h3.mono t fun o e => k _ o e n2⟩
theorem FrsAt.kp (k : Kp S H H') (t : KT H H') : ∀ {xs : List (Addr × Addr)} {ys : List (Option Place × Things)}, FrsAt K E H xs ys → (∀ x ∈ xs, x.1 ∉ S ∧ x.2 ∉ S) → FrsAt K E H' xs ys
  | [], [], _, _ => trivial
  | x :: xs, y :: ys, h, n => ⟨h.1.kp k t (n x (by simp)).1 (n x (by simp)).2, FrsAt.kp k t h.2 fun z hz => n z (by simp [hz])⟩
  | [], _ :: _, h, _ => h.elim
  | _ :: _, [], h, _ => h.elim
theorem FrsAt.len : ∀ {xs : List (Addr × Addr)} {ys : List (Option Place × Things)}, FrsAt K E H xs ys → xs.length = ys.length
  | [], [], _ => rfl
  | x :: xs, y :: ys, h => congrArg (· + 1) (FrsAt.len h.2)
  | [], _ :: _, h => h.elim
  | _ :: _, [], h => h.elim
theorem FrsAt.mem : ∀ {xs : List (Addr × Addr)} {ys : List (Option Place × Things)}, FrsAt K E H xs ys → ∀ x ∈ xs, ∃ y ∈ ys, FrAt K E H x y
  | [], [], _, x, hx => by simp at hx
  | x :: xs, y :: ys, h, z, hz => by
    rcases List.mem_cons.mp hz with rfl | hz
    · exact ⟨y, by simp, h.1⟩
    · obtain ⟨u, hu, q⟩ := FrsAt.mem h.2 z hz
      exact ⟨u, by simp [hu], q⟩
  | [], _ :: _, h, _, _ => h.elim
  | _ :: _, [], h, _, _ => h.elim
/-- neither a frame nor a frame's dict -/
def NoFr (K : PySem.W.Frag) (H : Hp) (b : Addr) : Prop := (∃ xs, H b = some (.lst xs)) ∨ ∃ c u n vo vpl dx, H b = some (.ins (CR K) dx (rFields c u n vo vpl))
theorem FrsAt.off {xs : List (Addr × Addr)} {ys : List (Option Place × Things)} (h : FrsAt K E H xs ys) {b : Addr} (hb : NoFr K H b) : ∀ x ∈ xs, x.1 ≠ b ∧ x.2 ≠ b := fun x hx => by
  obtain ⟨y, _, vc, ⟨dx, h1⟩, _, kvs, h2, _⟩ := h.mem x hx
  rcases hb with ⟨zs, hb⟩ | ⟨c, u, n, vo, vpl, dx2, hb⟩
  · exact ⟨fun e => (by rw [e, hb] at h1; cases h1), fun e => (by rw [e, hb] at h2; cases h2)⟩
  · refine ⟨fun e => ?_, fun e => by rw [e, hb] at h2; cases h2⟩
    rw [e, hb] at h1
    have h1 := HO.ins.inj (Option.some.inj h1)
    have := congrArg List.length h1.2.2
    simp [rFields] at this
theorem ThAt.put_other {d : Addr} {t : Things} (h : ThAt E H d t) (k : Kp S H H') (t' : KT H H') (n : d ∉ S) : ThAt E H' d t := h.mono t' fun o e => k _ o e n
end
structure RunX (K : PySem.W.Frag) (E : Env) (p : Prog) (given : List Int) (H0 : Hp) (c : RC) (fs : List (Addr × Addr)) (vo vpl : V) (H : Hp) (s : MS (full E)) : Prop where
  base : Ex H0 H
  newr : H0 c.r = none
  newn : H0 c.ln = none
  newl : H0 c.ll = none
  newf : H0 c.lf = none
  newd : ∀ x ∈ fs, H0 x.2 = none
  nl : c.ln ≠ c.ll
  nf : c.ln ≠ c.lf
  lf : c.ll ≠ c.lf
  obj : H c.r = some (.ins (CR K) c.dx (rFields c s.used s.steps vo vpl))
  prog : Im H c.vp (encProg p)
  gvn : Im H c.vg (.tuple (given.map PyData.int))
  over : Im H vo (encOver s.over)
  place : Im H vpl (encPl s.place)
  nums : H c.ln = some (.lst (s.log.1.map V.int))
  lvs : ∃ xs, H c.ll = some (.lst xs) ∧ Ims H xs (s.log.2.map encLv)
  frs : H c.lf = some (.lst (fs.reverse.map fun x => V.ref x.1))
  fr : FrsAt K E H fs s.frames
  nd : (fs.map (·.2)).Nodup
section
variable {K : PySem.W.Frag} {E : Env} {p : Prog} {given : List Int} {H0 : Hp} {c : RC} {fs : List (Addr × Addr)} {vo vpl : V} {H H' : Hp} {s : MS (full E)}
theorem RunX.rl (h : RunX K E p given H0 c fs vo vpl H s) : c.r ≠ c.ln ∧ c.r ≠ c.ll ∧ c.r ≠ c.lf := by
  obtain ⟨xs, hl, _⟩ := h.lvs
  refine ⟨fun e => ?_, fun e => ?_, fun e => ?_⟩
  · have := h.obj; rw [e, h.nums] at this; cases this
  · have := h.obj; rw [e, hl] at this; cases this
  · have := h.obj; rw [e, h.frs] at this; cases this
theorem RunX.nor (h : RunX K E p given H0 c fs vo vpl H s) : NoFr K H c.r := .inr ⟨_, _, _, _, _, _, h.obj⟩
theorem RunX.non (h : RunX K E p given H0 c fs vo vpl H s) : NoFr K H c.ln := .inl ⟨_, h.nums⟩
theorem RunX.nol (h : RunX K E p given H0 c fs vo vpl H s) : NoFr K H c.ll := by obtain ⟨xs, hl, _⟩ := h.lvs; exact .inl ⟨_, hl⟩
theorem RunX.nof (h : RunX K E p given H0 c fs vo vpl H s) : NoFr K H c.lf := .inl ⟨_, h.frs⟩
theorem RunX.ex (h : RunX K E p given H0 c fs vo vpl H s) (e : Ex H H') : RunX K E p given H0 c fs vo vpl H' s := by
  obtain ⟨xs, hl, hi⟩ := h.lvs
  exact { h with
    base := h.base.trans e, obj := e _ _ h.obj, prog := h.prog.ex e, gvn := h.gvn.ex e, over := h.over.ex e, place := h.place.ex e, nums := e _ _ h.nums,
    lvs := ⟨xs, e _ _ hl, hi.ex e⟩, frs := e _ _ h.frs, fr := h.fr.kp (S := []) (Kp.of e) (KT.of e) fun x _ => by simp }
/-- fields of the run itself -/
theorem RunX.fld (h : RunX K E p given H0 c fs vo vpl H s) {used steps : Nat} {vo' vpl' : V} {ov : Option Over} {pl : Place} (ho : Im H vo' (encOver ov)) (hp : Im H vpl' (encPl pl)) :
    RunX K E p given H0 c fs vo' vpl' (upd H c.r (.ins (CR K) c.dx (rFields c used steps vo' vpl'))) { s with used := used, steps := steps, over := ov, place := pl } := by
  obtain ⟨xs, hl, hi⟩ := h.lvs
  obtain ⟨r1, r2, r3⟩ := h.rl
  have nt := nt_ins h.obj
  have kt : KT H (upd H c.r (.ins (CR K) c.dx (rFields c used steps vo' vpl'))) := (KT.refl H).upd nt
  exact { h with
    base := h.base.mut h.newr, obj := upd_same, prog := h.prog.mono kt, gvn := h.gvn.mono kt, over := ho.mono kt, place := hp.mono kt, nums := by rw [upd_ne (Ne.symm r1)]; exact h.nums,
    lvs := ⟨xs, by rw [upd_ne (Ne.symm r2)]; exact hl, hi.mono kt⟩, frs := by rw [upd_ne (Ne.symm r3)]; exact h.frs,
    fr := h.fr.kp (S := [c.r]) ((Kp.refl H).mut (by simp)) kt fun x hx => by simpa using h.fr.off h.nor x hx }
/-- leavings are put on -/
theorem RunX.lv (h : RunX K E p given H0 c fs vo vpl H s) {xs ys : List V} {ls : List Leav} (hl : H c.ll = some (.lst xs)) (hi : Ims H xs (s.log.2.map encLv)) (hy : Ims H ys (ls.map encLv)) :
    RunX K E p given H0 c fs vo vpl (upd H c.ll (.lst (xs ++ ys))) { s with log := (s.log.1, s.log.2 ++ ls) } := by
  obtain ⟨r1, r2, r3⟩ := h.rl
  have kt : KT H (upd H c.ll (.lst (xs ++ ys))) := (KT.refl H).upd (nt_lst hl)
  exact { h with
    base := h.base.mut h.newl, obj := by rw [upd_ne r2]; exact h.obj, prog := h.prog.mono kt, gvn := h.gvn.mono kt, over := h.over.mono kt, place := h.place.mono kt, nums := by rw [upd_ne h.nl]; exact h.nums,
    lvs := ⟨_, upd_same, by rw [List.map_append]; exact (hi.append hy).mono kt⟩, frs := by rw [upd_ne (Ne.symm h.lf)]; exact h.frs,
    fr := h.fr.kp (S := [c.ll]) ((Kp.refl H).mut (by simp)) kt fun x hx => by simpa using h.fr.off h.nol x hx }
/-- a number is told -/
theorem RunX.num (h : RunX K E p given H0 c fs vo vpl H s) {n : Int} : RunX K E p given H0 c fs vo vpl (upd H c.ln (.lst (s.log.1.map V.int ++ [.int n]))) { s with log := (s.log.1 ++ [n], s.log.2) } := by
  obtain ⟨xs, hl, hi⟩ := h.lvs
  obtain ⟨r1, r2, r3⟩ := h.rl
  have kt : KT H (upd H c.ln (.lst (s.log.1.map V.int ++ [.int n]))) := (KT.refl H).upd (nt_lst h.nums)
  exact { h with
    base := h.base.mut h.newn, obj := by rw [upd_ne r1]; exact h.obj, prog := h.prog.mono kt, gvn := h.gvn.mono kt, over := h.over.mono kt, place := h.place.mono kt, nums := by rw [upd_same]; simp,
    lvs := ⟨xs, by rw [upd_ne (Ne.symm h.nl)]; exact hl, hi.mono kt⟩, frs := by rw [upd_ne (Ne.symm h.nf)]; exact h.frs,
    fr := h.fr.kp (S := [c.ln]) ((Kp.refl H).mut (by simp)) kt fun x hx => by simpa using h.fr.off h.non x hx }
/-- the things of the frame on top -/
theorem RunX.top {f d : Addr} {fs : List (Addr × Addr)} {cp : Option Place} {t t' : Things} {rest : List (Option Place × Things)} (h : RunX K E p given H0 c ((f, d) :: fs) vo vpl H s) (hs : s.frames = (cp, t) :: rest) (k : Kp [d] H H') (ht : ThAt E H' d t') :
    RunX K E p given H0 c ((f, d) :: fs) vo vpl H' { s with frames := (cp, t') :: rest } ∧ KT H H' := by
  obtain ⟨xs, hl, hi⟩ := h.lvs
  have hfr := h.fr
  rw [hs] at hfr
  obtain ⟨⟨vc, f1, f2, f3⟩, f4⟩ := hfr
  obtain ⟨kvs, hd, _⟩ := id f3
  have kt : KT H H' := k.kt fun b hb ys => by rw [List.mem_singleton.mp hb]; exact nt_dK hd ys
  have nd := h.nd
  rw [List.map_cons, List.nodup_cons] at nd
  have other : ∀ {b : Addr} {o : HO}, H b = some o → (∀ kvs, o ≠ .dK kvs) → b ∉ [d] := fun {b o} hb n z => by
    rw [List.mem_singleton.mp z, hd] at hb
    exact n kvs (Option.some.inj hb).symm
  have hdf : H0 d = none := h.newd (f, d) (by simp)
  refine ⟨{ h with
    base := fun a o e => k a o (h.base a o e) (fun z => by rw [List.mem_singleton.mp z, hdf] at e; cases e), obj := k _ _ h.obj (other h.obj (by intro _ z; cases z)), prog := h.prog.mono kt, gvn := h.gvn.mono kt, over := h.over.mono kt, place := h.place.mono kt,
    nums := k _ _ h.nums (other h.nums (by intro _ z; cases z)), lvs := ⟨xs, k _ _ hl (other hl (by intro _ z; cases z)), hi.mono kt⟩, frs := k _ _ h.frs (other h.frs (by intro _ z; cases z)),
    fr := ⟨⟨vc, f1.kp k (by simpa using f1.ne hd), f2.mono kt, ht⟩, f4.kp k kt fun x hx => ⟨?_, fun z => nd.1 (by rw [← List.mem_singleton.mp z]; exact List.mem_map.mpr ⟨x, hx, rfl⟩)⟩⟩ }, kt⟩
  obtain ⟨y, _, vc2, g1, _⟩ := f4.mem x hx
  simpa using g1.ne hd
/-- the frame on top goes -/
theorem RunX.pop {x : Addr × Addr} {fs : List (Addr × Addr)} {y : Option Place × Things} {rest : List (Option Place × Things)} (h : RunX K E p given H0 c (x :: fs) vo vpl H s) (hs : s.frames = y :: rest) :
    RunX K E p given H0 c fs vo vpl (upd H c.lf (.lst (fs.reverse.map fun x => V.ref x.1))) { s with frames := rest } := by
  obtain ⟨xs, hl, hi⟩ := h.lvs
  obtain ⟨r1, r2, r3⟩ := h.rl
  have kt : KT H (upd H c.lf (.lst (fs.reverse.map fun x => V.ref x.1))) := (KT.refl H).upd (nt_lst h.frs)
  have hfr := h.fr
  have off := h.fr.off h.nof
  rw [hs] at hfr
  have nd := h.nd
  rw [List.map_cons, List.nodup_cons] at nd
  exact { h with
    newd := fun z hz => h.newd z (by simp [hz]), base := h.base.mut h.newf, obj := by rw [upd_ne r3]; exact h.obj, prog := h.prog.mono kt, gvn := h.gvn.mono kt, over := h.over.mono kt, place := h.place.mono kt, nums := by rw [upd_ne h.nf]; exact h.nums,
    lvs := ⟨xs, by rw [upd_ne h.lf]; exact hl, hi.mono kt⟩, frs := upd_same, nd := nd.2,
    fr := FrsAt.kp (S := [c.lf]) ((Kp.refl H).mut (by simp)) kt hfr.2 fun z hz => by simpa using off z (by simp [hz]) }
/-- a frame is put on top -/
theorem RunX.push {x : Addr × Addr} {y : Option Place × Things} (h : RunX K E p given H0 c fs vo vpl H s) (hx : FrAt K E H x y) (hn : H0 x.2 = none) (hd : x.2 ∉ fs.map (·.2)) :
    RunX K E p given H0 c (x :: fs) vo vpl (upd H c.lf (.lst ((fs.reverse.map fun x => V.ref x.1) ++ [.ref x.1]))) { s with frames := y :: s.frames } := by
  obtain ⟨xs, hl, hi⟩ := h.lvs
  obtain ⟨r1, r2, r3⟩ := h.rl
  have kt : KT H (upd H c.lf (.lst ((fs.reverse.map fun x => V.ref x.1) ++ [.ref x.1]))) := (KT.refl H).upd (nt_lst h.frs)
  have off := h.fr.off h.nof
  have offx := FrsAt.off (K := K) (E := E) (xs := [x]) (ys := [y]) ⟨hx, trivial⟩ h.nof x (by simp)
  exact { h with
    newd := fun z hz => by
      rcases List.mem_cons.mp hz with rfl | hz
      · exact hn
      · exact h.newd z hz
    base := h.base.mut h.newf, obj := by rw [upd_ne r3]; exact h.obj, prog := h.prog.mono kt, gvn := h.gvn.mono kt, over := h.over.mono kt, place := h.place.mono kt, nums := by rw [upd_ne h.nf]; exact h.nums,
    lvs := ⟨xs, by rw [upd_ne h.lf]; exact hl, hi.mono kt⟩, frs := by rw [upd_same]; simp, nd := by rw [List.map_cons]; exact List.nodup_cons.mpr ⟨hd, h.nd⟩,
    fr := ⟨hx.kp (S := [c.lf]) ((Kp.refl H).mut (by simp)) kt (by simpa using offx.1) (by simpa using offx.2), h.fr.kp (S := [c.lf]) ((Kp.refl H).mut (by simp)) kt fun z hz => by simpa using off z hz⟩ }
/-- a run stands there -/
def RunAt (K : PySem.W.Frag) (E : Env) (p : Prog) (given : List Int) (H0 : Hp) (c : RC) (H : Hp) (s : MS (full E)) : Prop := ∃ fs vo vpl, RunX K E p given H0 c fs vo vpl H s
end
end K16

set_option Elab.async false
set_option linter.all false
set_option maxRecDepth 100000
set_option maxHeartbeats 4000000
/-! KRunA: the fields of a run read; leavings put on; go_back, come_to, fall -/
namespace K16
open PySem PySem.Spec PyProof.Rows L2 Evl
structure POk (p : Prog) : Prop where
  deep : ∀ nm path r, rowAt p nm path = some r → path.length ≤ 8
  shape : ∀ nm path r, rowAt p nm path = some r → SeqAt.shaped (encRow r) = true
theorem POk.word {p : Prog} (ok : POk p) {pl : Place} {o : Option Word} (h : wordAt p pl = some o) : pl.path.length ≤ 8 := by
  obtain ⟨r, hr, _⟩ := Option.bind_eq_some_iff.mp h
  exact ok.deep _ _ _ hr
theorem POk.behind {p : Prog} (ok : POk p) {pl pl' : Place} (h : behind p pl = some pl') : pl.path.length ≤ 8 := by
  obtain ⟨nm, path, n⟩ := pl
  unfold K16.behind at h
  cases path with
  | nil => simp
  | cons x ps =>
    simp only [behindG] at h
    obtain ⟨r, hr, _⟩ := Option.bind_eq_some_iff.mp h
    exact ok.deep _ _ _ hr
section
variable {K : PySem.W.Frag} {mg : Str → Option Value} {E : Env} {p : Prog} {given : List Int} {H0 : Hp} {c : RC} {fs : List (Addr × Addr)} {vo vpl : V} {H H' : Hp} {s : MS (full E)} {σ : L2.St} {ta tf tp te : TE} {D : Ends} {tz : TS}
theorem RunX.ePlace (h : RunX K E p given H0 c fs vo vpl H s) (T : Fx K mg) (ha : Ev ta σ H (.ref c.r)) : EvD (tFld K ta "place") σ H (encPl s.place) := evd_ev (ev_fld ha h.obj T.cls_Run T.no_Run_place rfl) h.place
theorem RunX.eOver (h : RunX K E p given H0 c fs vo vpl H s) (T : Fx K mg) (ha : Ev ta σ H (.ref c.r)) : EvD (tFld K ta "over_by") σ H (encOver s.over) := evd_ev (ev_fld ha h.obj T.cls_Run T.no_Run_over_by rfl) h.over
theorem RunX.eWhole (h : RunX K E p given H0 c fs vo vpl H s) (T : Fx K mg) (ha : Ev ta σ H (.ref c.r)) : EvD (tFld K ta "whole") σ H (encProg p) := evd_ev (ev_fld ha h.obj T.cls_Run T.no_Run_whole rfl) h.prog
theorem RunX.eGiven (h : RunX K E p given H0 c fs vo vpl H s) (T : Fx K mg) (ha : Ev ta σ H (.ref c.r)) : EvD (tFld K ta "given") σ H (.tuple (given.map PyData.int)) := evd_ev (ev_fld ha h.obj T.cls_Run T.no_Run_given rfl) h.gvn
theorem RunX.eUsed (h : RunX K E p given H0 c fs vo vpl H s) (T : Fx K mg) (ha : Ev ta σ H (.ref c.r)) : EvD (tFld K ta "used") σ H (.int (s.used : Nat)) := evd_ev (ev_fld ha h.obj T.cls_Run T.no_Run_used rfl) (.int _)
theorem RunX.eSteps (h : RunX K E p given H0 c fs vo vpl H s) (T : Fx K mg) (ha : Ev ta σ H (.ref c.r)) : EvD (tFld K ta "steps") σ H (.int (s.steps : Nat)) := evd_ev (ev_fld ha h.obj T.cls_Run T.no_Run_steps rfl) (.int _)
theorem RunX.eNums (h : RunX K E p given H0 c fs vo vpl H s) (T : Fx K mg) (ha : Ev ta σ H (.ref c.r)) : Ev (tFld K ta "numbers") σ H (.ref c.ln) := ev_fld ha h.obj T.cls_Run T.no_Run_numbers rfl
theorem RunX.eLvs (h : RunX K E p given H0 c fs vo vpl H s) (T : Fx K mg) (ha : Ev ta σ H (.ref c.r)) : Ev (tFld K ta "leavings") σ H (.ref c.ll) := ev_fld ha h.obj T.cls_Run T.no_Run_leavings rfl
theorem RunX.eFrs (h : RunX K E p given H0 c fs vo vpl H s) (T : Fx K mg) (ha : Ev ta σ H (.ref c.r)) : Ev (tFld K ta "frames") σ H (.ref c.lf) := ev_fld ha h.obj T.cls_Run T.no_Run_frames rfl
/-- self.leavings.extend(frame.kept_here(place)) -/
theorem RunX.sExt (h : RunX K E p given H0 c fs vo vpl H s) (T : Fx K mg) (ok : EnvOk E) (ha : Ev ta σ H (.ref c.r)) {f d : Addr} {vc : V} {t : Things} {pl : Place} (hf : Ev tf σ H (.ref f)) (hfr : FrH K H f vc d) (ht : ThAt E H d t) (hp : EvD tp σ H (encPl pl))
    (hz : s.log.2.length + (kept E pl t).length ≤ 100000)
    (k : ∀ H', RunX K E p given H0 c fs vo vpl H' { s with log := (s.log.1, s.log.2 ++ kept E pl t) } → Kp [c.ll] H H' → KT H H' → D.nx σ H') :
    tDrop (tBM K "list" rExtend (tFld K ta "leavings") (tCons (tMeth (CF K) "kept_here" (spKept K) [] C8.E0 tf (tCons tp tNil)) tNil)) D σ H := by
  refine h.eLvs T ha H (Ex.refl H) _ fun H1 e1 => ?_
  have h1 := h.ex e1
  obtain ⟨xs, hl, hi⟩ := h1.lvs
  refine ⟨.inl ⟨rfl, xs, sq_of hl⟩, hf H1 e1 _ fun H2 e2 => ?_⟩
  obtain ⟨dx, hfo⟩ := hfr
  refine ⟨f, dx, _, rfl, e2 _ _ (e1 _ _ hfo), rfl, hp H2 (e1.trans e2) _ fun v H3 e3 iv => ?_⟩
  have e123 := (e1.trans e2).trans e3
  refine ⟨E, f, vc, d, t, v, pl, rfl, ok, ⟨dx, e123 _ _ hfo⟩, ht.ex e123, iv, fun q us H4 hq e4 h4 i4 => ?_⟩
  have h14 := h1.ex ((e2.trans e3).trans e4)
  have hl4 := e4 _ _ (e3 _ _ (e2 _ _ hl))
  have hi4 := hi.ex ((e2.trans e3).trans e4)
  refine ⟨c.ll, q, xs, us, rfl, rfl, hl4, h4, sz_of ?_, ?_⟩
  · have a := hi.len
    have b := i4.len
    simp only [List.length_map] at a b
    omega
  · refine k _ (h14.lv hl4 hi4 i4) ((Kp.of (e123.trans e4)).mut (by simp)) ((KT.of (e123.trans e4)).trans ((KT.refl H4).upd (nt_lst hl4)))
/-- self.f = e -/
theorem RunX.sOver (h : RunX K E p given H0 c fs vo vpl H s) (T : Fx K mg) (ha : ∀ H1, Ev ta σ H1 (.ref c.r)) {ov : Option Over} (he : EvD te σ H (encOver ov))
    (k : ∀ H' vo', RunX K E p given H0 c fs vo' vpl H' { s with over := ov } → KT H H' → D.nx σ H') : sFld K ta te "over_by" D σ H := by
  refine he H (Ex.refl H) _ fun v H1 e1 iv => ha H1 H1 (Ex.refl H1) _ fun H2 e2 => ?_
  have h2 := h.ex (e1.trans e2)
  refine ⟨c.r, _, c.dx, _, rfl, h2.obj, T.cls_Run, T.no_Run_over_by, by show 9 < 1000; omega, ?_⟩
  exact k _ v (h2.fld (used := s.used) (steps := s.steps) (ov := ov) (pl := s.place) (iv.ex e2) h2.place) ((KT.of (e1.trans e2)).trans ((KT.refl H2).upd (nt_ins h2.obj)))
theorem RunX.sPlace (h : RunX K E p given H0 c fs vo vpl H s) (T : Fx K mg) (ha : ∀ H1, Ev ta σ H1 (.ref c.r)) {pl : Place} (he : EvD te σ H (encPl pl))
    (k : ∀ H' vpl', RunX K E p given H0 c fs vo vpl' H' { s with place := pl } → KT H H' → D.nx σ H') : sFld K ta te "place" D σ H := by
  refine he H (Ex.refl H) _ fun v H1 e1 iv => ha H1 H1 (Ex.refl H1) _ fun H2 e2 => ?_
  have h2 := h.ex (e1.trans e2)
  refine ⟨c.r, _, c.dx, _, rfl, h2.obj, T.cls_Run, T.no_Run_place, by show 9 < 1000; omega, ?_⟩
  exact k _ v (h2.fld (used := s.used) (steps := s.steps) (ov := s.over) (pl := pl) h2.over (iv.ex e2)) ((KT.of (e1.trans e2)).trans ((KT.refl H2).upd (nt_ins h2.obj)))
/-- frame.look(box) -/
theorem evd_look {f d : Addr} {vc : V} {t : Things} {b : Str} {ar : TA} (hf : Ev tf σ H (.ref f)) (hfr : FrH K H f vc d) (ht : ThAt E H d t) (hb : EvDs ar σ H [.str b]) : EvD (tMeth (CF K) "look" (spLook K) [] C8.E0 tf ar) σ H (encTh (t b)) := fun H1 e1 Q q => by
  obtain ⟨dx, hfo⟩ := hfr
  refine hf H1 e1 _ fun H2 e2 => ⟨f, dx, _, rfl, e2 _ _ (e1 _ _ hfo), rfl, hb H2 (e1.trans e2) _ fun vs H3 e3 iv => ?_⟩
  obtain ⟨u, rfl, iu⟩ := iv.one
  have e123 := (e1.trans e2).trans e3
  refine ⟨E, f, vc, d, t, b, by rw [iu.str_]; rfl, ⟨dx, e123 _ _ hfo⟩, ht.ex e123, fun v H4 e4 i4 => q v H4 ((e2.trans e3).trans e4) i4⟩
/-- frame.put(box, thing) -/
theorem sd_put {f d : Addr} {vc : V} {t : Things} {b : Str} {x : Thing} {ar : TA} (ok : EnvOk E) (hf : Ev tf σ H (.ref f)) (hfr : FrH K H f vc d) (ht : ThAt E H d t) (hb : EvDs ar σ H [.str b, encTh x]) (hbs : b ∈ E.Bs) (hw : ∀ w ∈ x.2, w ∈ E.Ws)
    (k : ∀ H', Kp [d] H H' → ThAt E H' d (put t b x) → D.nx σ H') : tDrop (tMeth (CF K) "put" (spPut K) [] C8.E0 tf ar) D σ H := by
  obtain ⟨dx, hfo⟩ := hfr
  refine hf H (Ex.refl H) _ fun H2 e2 => ⟨f, dx, _, rfl, e2 _ _ hfo, rfl, hb H2 e2 _ fun vs H3 e3 iv => ?_⟩
  obtain ⟨u, v, rfl, iu, iv⟩ := iv.two
  have e23 := e2.trans e3
  refine ⟨E, f, vc, d, t, b, v, x, by rw [iu.str_]; rfl, ok, ⟨dx, e23 _ _ hfo⟩, ht.ex e23, hbs, iv, hw, fun H4 k4 h4 => k H4 ((Kp.of e23).trans k4) h4⟩
/-- frame.empty(boxes) -/
theorem sd_empty {f d : Addr} {vc : V} {t : Things} {bs : List Str} {ar : TA} (hf : Ev tf σ H (.ref f)) (hfr : FrH K H f vc d) (ht : ThAt E H d t) (hb : EvDs ar σ H [tstr bs])
    (k : ∀ H', Kp [d] H H' → ThAt E H' d (wipeAll t bs) → D.nx σ H') : tDrop (tMeth (CF K) "empty" (spEmpty K) [] C8.E0 tf ar) D σ H := by
  obtain ⟨dx, hfo⟩ := hfr
  refine hf H (Ex.refl H) _ fun H2 e2 => ⟨f, dx, _, rfl, e2 _ _ hfo, rfl, hb H2 e2 _ fun vs H3 e3 iv => ?_⟩
  obtain ⟨u, rfl, iu⟩ := iv.one
  have e23 := e2.trans e3
  refine ⟨E, f, vc, d, t, u, bs, rfl, ⟨dx, e23 _ _ hfo⟩, ht.ex e23, .inr iu, fun H4 k4 h4 => k H4 ((Kp.of e23).trans k4) h4⟩
theorem sd_emptyL {f d l : Addr} {vc : V} {t : Things} {bs : List Str} {tb : TE} (hf : Ev tf σ H (.ref f)) (hfr : FrH K H f vc d) (ht : ThAt E H d t) (hb : Ev tb σ H (.ref l)) (hl : H l = some (.lst (bs.map V.str)))
    (k : ∀ H', Kp [d] H H' → ThAt E H' d (wipeAll t bs) → D.nx σ H') : tDrop (tMeth (CF K) "empty" (spEmpty K) [] C8.E0 tf (tCons tb tNil)) D σ H := by
  obtain ⟨dx, hfo⟩ := hfr
  refine hf H (Ex.refl H) _ fun H2 e2 => ⟨f, dx, _, rfl, e2 _ _ hfo, rfl, hb H2 e2 _ fun H3 e3 => ?_⟩
  have e23 := e2.trans e3
  refine ⟨E, f, vc, d, t, .ref l, bs, rfl, ⟨dx, e23 _ _ hfo⟩, ht.ex e23, .inl ⟨l, rfl, e23 _ _ hl⟩, fun H4 k4 h4 => k H4 ((Kp.of e23).trans k4) h4⟩
/-- Frame(called_at) -/
theorem ev_frame {te : TE} {cp : PyData} {Q : VK} (he : EvD te σ H cp) (k : ∀ f d vc H', Ex H H' → H f = none → H d = none → FrH K H' f vc d → Im H' vc cp → H' d = some (.dK []) → Q (.ref f) H') : tMake (CF K) (spFrame K) [] C8.E0 (tCons te tNil) σ H Q := by
  refine he H (Ex.refl H) _ fun vc H1 e1 ic x dx hx hdx hne => ?_
  have eX : Ex H1 (upd (upd H1 dx (.own x)) x (.ins (CF K) dx [])) := (Ex.new hdx).mut hx
  refine ⟨x, dx, vc, rfl, upd_same, fun d H2 hd kp h2 hd2 => ⟨rfl, ?_⟩⟩
  have e2 : Ex H H2 := fun a o ha => by
    have h1 := e1 a o ha
    exact kp a o (eX a o h1) (fun z => by rw [List.mem_singleton.mp z, hx] at h1; cases h1)
  have hdn : H1 d = none := fresh_back eX hd
  exact k x d vc H2 e2 (fresh_back e1 hx) (fresh_back e1 hdn) ⟨dx, h2⟩ (ic.mono fun a xs ha => kp a _ (eX a _ ha) fun z => by rw [List.mem_singleton.mp z, hx] at ha; cases ha) hd2
theorem g_two {i j : Nat} {q : Addr} {x y : V} {k : L2.St → Hp → Prop} (hq : H q = some (.tup [x, y])) (h : k ((σ.set i (some x)).set j (some y)) H) : gTup K 2 (gCons (gName i) (gCons (gName j) gNil)) (.ref q) σ H k :=
  ⟨q, _, rfl, SqT.of hq, rfl, x, _, rfl, y, _, rfl, rfl, h⟩
end
end K16

set_option Elab.async false
set_option linter.all false
set_option maxRecDepth 100000
set_option maxHeartbeats 4000000
/-! KRunB: go_back, come_to, fall -/
namespace K16
open PySem PySem.Spec PyProof.Rows L2 Evl
/-- a step of a run: from s to s', or the def is not called -/
def spOp (K : PySem.W.Frag) (op : (E : Env) → Prog → MS (full E) → Option (MS (full E))) : Sp := fun vs H Q _ => ∃ E p given H0 c s s', vs = [.ref c.r] ∧ EnvOk E ∧ POk p ∧ RunAt K E p given H0 c H s ∧ op E p s = some s' ∧ ∀ H', RunAt K E p given H0 c H' s' → KT H H' → Q .non H'
/-- a run whose place is about to be set -/
def ToPlace (K : PySem.W.Frag) (E : Env) (p : Prog) (given : List Int) (H0 : Hp) (c : RC) (H : Hp) (s : MS (full E)) (pl : Place) : Prop := ∃ fs vo vpl0, H c.r = some (.ins (CR K) c.dx (rFields c s.used s.steps vo vpl0)) ∧
  ∀ H1 vpl, Ex H H1 → Im H1 vpl (encPl pl) → RunX K E p given H0 c fs vo vpl (upd H1 c.r (.ins (CR K) c.dx (rFields c s.used s.steps vo vpl))) { s with place := pl }
theorem RunX.to {K : PySem.W.Frag} {E : Env} {p : Prog} {given : List Int} {H0 : Hp} {c : RC} {fs : List (Addr × Addr)} {vo vpl : V} {H : Hp} {s : MS (full E)} (h : RunX K E p given H0 c fs vo vpl H s) (pl : Place) : ToPlace K E p given H0 c H s pl :=
  ⟨fs, vo, vpl, h.obj, fun H1 vpl e i => (h.ex e).fld (used := s.used) (steps := s.steps) (ov := s.over) (pl := pl) (h.ex e).over i⟩
def spCome (K : PySem.W.Frag) : Sp := fun vs H Q _ => ∃ E p given H0 c s s' v pl, vs = [.ref c.r, v] ∧ EnvOk E ∧ POk p ∧ ToPlace K E p given H0 c H s pl ∧ Im H v (encPl pl) ∧ comeTo p s pl = some s' ∧ ∀ H', RunAt K E p given H0 c H' s' → KT H H' → Q .non H'
def spFall (K : PySem.W.Frag) : Sp := fun vs H Q _ => ∃ E p given H0 c s s' f, vs = [.ref c.r, .str f] ∧ EnvOk E ∧ POk p ∧ RunAt K E p given H0 c H s ∧ fall s f = some s' ∧ ∀ H', RunAt K E p given H0 c H' s' → KT H H' → Q .non H'
section
variable {K : PySem.W.Frag} {mg : Str → Option Value} {E : Env} {p : Prog} {given : List Int} {H0 : Hp} {c : RC} {fs : List (Addr × Addr)} {vo vpl : V} {H H' : Hp} {s : MS (full E)} {σ : L2.St} {ta tf tp te : TE} {D : Ends} {tz : TS}
theorem evt_eqNil {a : Addr} {xs : List V} (h : Ev ta σ H (.ref a)) (hx : H a = some (.lst xs)) : EvT (tTest (tOp rEqNil ta (tLst tNil))) σ H xs.isEmpty := fun H1 e Q q =>
  h H1 e _ fun H2 e2 => ⟨sz_of (Nat.zero_le _), fun l hl => ⟨a, l, xs, rfl, rfl, by rw [upd_ne (ne_of_none (e2 _ _ (e _ _ hx)) hl)]; exact e2 _ _ (e _ _ hx), upd_same, _, rfl, q _ (e2.trans (Ex.new hl))⟩⟩
def onStr (f : Str → Option PyData) : PyData → Option PyData
  | .str b => f b
  | _ => none
theorem fm_strs (f : Str → Option PyData) : ∀ l : List Str, (l.map PyData.str).filterMap (onStr f) = l.filterMap f
  | [] => rfl
  | b :: l => by
    have e : onStr f (.str b) = f b := rfl
    rw [List.map_cons, List.filterMap_cons, List.filterMap_cons, e, fm_strs f l]
/-- x = xs.pop() -/
theorem qd_pop {i : Nat} {l : Addr} {xs : List V} {y : V} (h : Ev ta σ H (.ref l)) (hx : H l = some (.lst (xs ++ [y]))) (k : ∀ H1, Ex H H1 → tz D (σ.set i (some y)) (upd H1 l (.lst xs))) :
    tSeq (tAsg (tBM0 K "list" rPop ta) (gName i)) tz D σ H := h H (Ex.refl H) _ fun H1 e1 =>
  ⟨.inl ⟨rfl, _, sq_of (e1 _ _ hx)⟩, l, _, y, rfl, rfl, e1 _ _ hx, by simp, by
    rw [List.dropLast_concat]
    exact k H1 e1⟩
theorem okLog_some {l l' : Log} (h : okLog l = some l') : l' = l ∧ l.1.length ≤ 100000 ∧ l.2.length ≤ 100000 := by
  unfold okLog at h
  split at h
  · next q =>
    unfold Log.ok at q
    rw [Bool.and_eq_true, decide_eq_true_eq, decide_eq_true_eq] at q
    exact ⟨(Option.some.inj h).symm, q.1, q.2⟩
  · cases h
theorem subsetB_ok {bs : List Str} (h : subsetB E bs = true) : (∀ b ∈ bs, b ∈ E.Bs) ∧ bs.length ≤ 20 := by
  unfold subsetB at h
  rw [Bool.and_eq_true, decide_eq_true_eq, List.all_eq_true] at h
  exact ⟨fun b hb => of_decide_eq_true (h.1 b hb), h.2⟩
end
theorem full_home {E : Env} {pl : Place} {rs gs : List Str} {t t' t2 : Things} {l l2 : Log} (h : (full E).home pl rs gs t t' l = some (t2, l2)) :
    (∀ b ∈ rs, b ∈ E.Bs) ∧ rs.length ≤ 20 ∧ (∀ b ∈ gs, b ∈ E.Bs) ∧ gs.length = rs.length ∧ t2 = (gs.zip (rs.map t)).foldl (fun g bt => put g bt.1 bt.2) t' ∧ l2 = (l.1, l.2 ++ kept E pl (wipeAll t rs)) ∧ l.1.length ≤ 100000 ∧ (l.2 ++ kept E pl (wipeAll t rs)).length ≤ 100000 := by
  have h : (if (subsetB E rs && (subsetB E gs && decide (gs.length = rs.length))) = true then (okLog (l.1, l.2 ++ kept E pl (wipeAll t rs))).map fun l' => ((gs.zip (rs.map t)).foldl (fun g bt => put g bt.1 bt.2) t', l') else none : Option (Things × Log)) = some (t2, l2) := h
  by_cases hsub : (subsetB E rs && (subsetB E gs && decide (gs.length = rs.length))) = true
  · rw [if_pos hsub] at h
    rw [Bool.and_eq_true, Bool.and_eq_true, decide_eq_true_eq] at hsub
    obtain ⟨a1, a2⟩ := subsetB_ok hsub.1
    obtain ⟨b1, b2⟩ := subsetB_ok hsub.2.1
    obtain ⟨lg, hlg, hq⟩ := Option.map_eq_some_iff.mp h
    obtain ⟨rfl, z1, z2⟩ := okLog_some hlg
    obtain ⟨rfl, rfl⟩ := Prod.mk.inj hq
    exact ⟨a1, a2, b1, hsub.2.2, rfl, rfl, z1, z2⟩
  · rw [if_neg hsub] at h
    cases h
section
variable {P : Program} {w : World} {K : PySem.W.Frag} {mg : Str → Option Value} {base : Heap}
theorem sc_Run_go_back : FnScope ["self", "frame", "call", "results", "handed", "box", "thing"] ["self"] (defScope m_Run_go_back) := ⟨rfl, rfl, rfl, by decide +kernel, rfl, by decide +kernel, by decide +kernel⟩
theorem ok_go_back (T : Fx K mg) : C8.Met P w K mg base 14 (CR K) "go_back" (spOp K fun _ p s => goBack p s) [] := by
  obtain ⟨fd, F⟩ := T.f_Run_go_back
  have c_word_at := ok_word_at (P := P) (w := w) (base := base) T
  have c_def_of := ok_def_of (P := P) (w := w) (base := base) T
  have c_behind := ok_behind (P := P) (w := w) (base := base) T 8
  have c_Frame_look := ok_look (P := P) (w := w) (base := base) T
  have c_Frame_put := ok_put (P := P) (w := w) (base := base) T
  have c_Frame_empty := ok_empty (P := P) (w := w) (base := base) T
  have c_Frame_kept_here := ok_kept (P := P) (w := w) (base := base) T
  refine met_of T.cls_Run T.me_Run_go_back F sc_Run_go_back (fun _ _ _ _ _ _ us hl => match us, hl with | [_], _ => rfl) (by rintro vs H Q E ⟨_, _, _, _, _, _, _, rfl, _⟩; rfl) fun cdv A outer s0 H vs Q E0 hr hsp => ?_
  obtain ⟨E, p, given, H0, c, s, s', rfl, ok, pok, ⟨fs, vo, vpl, h⟩, hop, k⟩ := hsp
  refine ⟨_, (pss_cons (ps_set (i := 1) sc_Run_go_back.nd rfl (.inr rfl) (pe_bm0 PySem.F.plainAttrs_list PySem.F.slot_list_pop PySem.F.type_list_pop mt_pop (pe_fld (pv 0) rfl)))
    (pss_one (ps_if (pt_cmpR (op_eqNil hr.units0) (pe_fld (pv 0) rfl) (pe_lst pa_nil) (nomark _))
    (pss_cons (ps_expr (pe_bm PySem.F.plainAttrs_list PySem.F.slot_list_extend PySem.F.type_list_extend mt_extend (pe_fld (pv 0) rfl) (pa_cons (C8.pe_mt c_Frame_kept_here hr (by omega) (pv 1) (pa_cons (pe_fld (pv 0) rfl) pa_nil)) pa_nil)))
    (pss_one (ps_fld (pv 0) (pe_tup (pa_cons pe_str pa_nil)) rfl)))
    (pss_cons (ps_set (i := 2) sc_Run_go_back.nd rfl (.inl rfl) (C8.pe_c c_word_at hr (by omega) rfl (pa_cons (pe_fld (pv 0) rfl) (pa_cons (pe_fld (pv 1) rfl) pa_nil))))
    (pss_cons (ps_set (i := 3) sc_Run_go_back.nd rfl (.inl rfl) (pe_ix ix_tup (C8.pe_c c_def_of hr (by omega) rfl (pa_cons (pe_fld (pv 0) rfl) (pa_cons (pe_ix ix_tup (pv 2) pe_int (fun _ _ => rfl)) pa_nil))) pe_int (fun _ _ => rfl)))
    (pss_cons (ps_setLc (i := 4) (own := [("box", 5)]) rfl sc_Run_go_back.nd rfl rfl (sw_true rfl rfl rfl (by decide +kernel)) (pi_tup (pv 3)) (blkOk_by (own := [("box", 5)]) (N := ["self", "frame", "call", "results", "handed", "box", "thing"]) (sc := defScope m_Run_go_back) (by decide +kernel)) (fun _ _ _ _ _ => pg_name (i := 5) sc_Run_go_back.nd rfl (.inl rfl)) (fun _ _ _ _ _ => pts_nil) (fun _ _ _ _ _ => by exact (C8.pe_mt c_Frame_look hr (by omega) (pv 1) (pa_cons (pv 5) pa_nil))))
    (pss_cons (ps_expr (C8.pe_mt c_Frame_empty hr (by omega) (pv 1) (pa_cons (pv 3) pa_nil)))
    (pss_cons (ps_expr (pe_bm PySem.F.plainAttrs_list PySem.F.slot_list_extend PySem.F.type_list_extend mt_extend (pe_fld (pv 0) rfl) (pa_cons (C8.pe_mt c_Frame_kept_here hr (by omega) (pv 1) (pa_cons (pe_fld (pv 0) rfl) pa_nil)) pa_nil)))
    (pss_cons (ps_for PassesOwn.never rfl (pi_zipM (by rfl) T.zip_ (pa_cons (pe_ix ix_tup (pv 2) pe_int (fun _ _ => rfl)) (pa_cons (pv 4) pa_nil))) (pg_tup rfl (pgs_cons (pg_name (i := 5) sc_Run_go_back.nd rfl (.inl rfl)) (pgs_cons (pg_name (i := 6) sc_Run_go_back.nd rfl (.inl rfl)) pgs_nil)))
    (pss_one (ps_expr (C8.pe_mt c_Frame_put hr (by omega) (pe_ix ix_list (pe_fld (pv 0) rfl) (pe_un un_neg pe_int) (fun _ _ => rfl)) (pa_cons (pv 5) (pa_cons (pv 6) pa_nil))))))
    (pss_one (ps_fld (pv 0) (C8.pe_c c_behind hr (by omega) rfl (pa_cons (pe_fld (pv 0) rfl) (pa_cons (pe_fld (pv 1) rfl) pa_nil))) rfl))))))))))), ?_⟩
  have self : ∀ {σ : L2.St} {H1 : Hp}, σ[0]? = some (some (.ref c.r)) → Ev (tVar 0) σ H1 (.ref c.r) := fun h => ev_var h
  -- the frames
  have hop : goBack p s = some s' := hop
  unfold goBack at hop
  cases hfr : s.frames with
  | nil => rw [hfr] at hop; cases hop
  | cons y rest =>
    obtain ⟨cp, (t : Things)⟩ := y
    have hfa := h.fr
    rw [hfr] at hfa hop
    cases fs with
    | nil => exact hfa.elim
    | cons x fs' =>
    obtain ⟨f, d⟩ := x
    obtain ⟨⟨vc, f1, f2, f3⟩, f4⟩ := hfa
    -- frame = self.frames.pop()
    refine qd_pop (l := c.lf) (xs := fs'.reverse.map fun x => V.ref x.1) (y := .ref f) (h.eFrs T (self rfl)) (by rw [h.frs]; simp) fun H1 e1 => ?_
    have h1 := h.ex e1
    have h2 := h1.pop hfr
    have kt2 : KT H (upd H1 c.lf (.lst (fs'.reverse.map fun x => V.ref x.1))) := (KT.of e1).trans ((KT.refl H1).upd (nt_lst h1.frs))
    have kp2 : Kp [c.lf] H (upd H1 c.lf (.lst (fs'.reverse.map fun x => V.ref x.1))) := (Kp.of e1).mut (by simp)
    have foff := h.fr.off h.nof (f, d) (by simp)
    have g1 : FrH K (upd H1 c.lf (.lst (fs'.reverse.map fun x => V.ref x.1))) f vc d := f1.kp kp2 (by simpa using foff.1)
    have g2 := f2.mono kt2
    have g3 : ThAt E (upd H1 c.lf (.lst (fs'.reverse.map fun x => V.ref x.1))) d t := f3.mono kt2 fun o e => kp2 _ o e (by simpa using foff.2)
    generalize upd H1 c.lf (.lst (fs'.reverse.map fun x => V.ref x.1)) = H2 at h2 kt2 kp2 g1 g2 g3
    clear kp2
    have hdn : H0 d = none := h.newd (f, d) (by simp)
    have hdo : ∀ x ∈ fs', x.2 ≠ d := fun x hx e => by
      have := h.nd
      rw [List.map_cons, List.nodup_cons] at this
      exact this.1 (List.mem_map.mpr ⟨x, hx, e⟩)
    clear f1 f2 f3 f4 foff h1 e1 H1
    have tst := evt_eqNil (σ := [some (.ref c.r), some (.ref f), none, none, none, none, none]) (h2.eFrs T (self rfl)) h2.frs
    cases rest with
    | nil =>
      -- the last frame: the run has ended
      obtain ⟨l, hl, rfl⟩ := Option.map_eq_some_iff.mp hop
      obtain ⟨rfl, z1, z2⟩ := okLog_some hl
      cases fs' with
      | cons _ _ => exact h2.fr.elim
      | nil =>
      refine q_yesE tst fun H3 e3 => ?_
      have h3 := h2.ex e3
      refine h3.sExt T ok (self rfl) (ev_var rfl) (g1.ex e3) (g3.ex e3) (h3.ePlace T (self rfl)) (by simpa using z2) fun H4 h4 _ kt4 => ?_
      refine h4.sOver T (fun _ => self rfl) (ov := some .ended) (evd_tup (evds_cons evd_str evds_nil)) fun H5 vo' h5 kt5 => ?_
      exact k H5 ⟨_, _, _, h5⟩ (((kt2.trans (KT.of e3)).trans kt4).trans kt5)
    | cons y2 rest' =>
      obtain ⟨cp', (t' : Things)⟩ := y2
      cases cp with
      | none => cases hop
      | some cpl =>
      cases fs' with
      | nil => exact h2.fr.elim
      | cons x2 fs2 =>
      obtain ⟨f', d'⟩ := x2
      refine q_noE (evt_no tst (by simp)) fun H3 e3 => ?_
      have h3 := h2.ex e3
      -- the call
      dsimp only at hop
      cases hw : wordAt p cpl with
      | none => rw [hw] at hop; cases hop
      | some ow =>
      cases ow with
      | none => rw [hw] at hop; cases hop
      | some wd =>
      rw [hw] at hop
      cases wd with
      | call dn args gets =>
        dsimp only at hop
        obtain ⟨D0, hD, hop⟩ := Option.bind_eq_some_iff.mp hop
        obtain ⟨⟨t2, l2⟩, hhome, hop⟩ := Option.bind_eq_some_iff.mp hop
        obtain ⟨pl2, hbe, rfl⟩ := Option.map_eq_some_iff.mp hop
        obtain ⟨r1, r2, q1, hs3, rfl, rfl, z1, z2⟩ := full_home hhome
        · skip
          have wd8 := pok.word hw
          have be8 := pok.behind hbe
          obtain ⟨dxf, hfo⟩ := g1.ex e3
          have cat : ∀ {σ : L2.St} {H4 : Hp}, σ[1]? = some (some (.ref f)) → Ex H3 H4 → EvD (tFld K (tVar 1) "called_at") σ H4 (encPl cpl) := fun hs e4 => evd_ev (ev_fld (ev_var hs) (e4 _ _ hfo) T.cls_Frame T.no_Frame_called_at rfl) ((g2.ex e3).ex e4)
          -- call = word_at(self.whole, frame.called_at)
          refine qd_set (d := encW (.call dn args gets)) (evd_call (evds_cons (h3.eWhole T (self rfl)) (evds_cons (cat rfl (Ex.refl H3)) evds_nil)) ⟨p, cpl, _, rfl, hw, by omega, rfl⟩) fun vcall H4 e4 i4 => ?_
          have h4 := h3.ex e4
          -- results = def_of(self.whole, call[1])[2]
          refine qd_set (d := tstr D0.results) (evd_at 2 (evd_call (d := encDef D0) (evds_cons (h4.eWhole T (self rfl)) (evds_cons (evd_at (d := .str dn) 1 (evd_var rfl i4) (by simp only [tlD]; rfl)) evds_nil)) ⟨p, dn, rfl, by rw [hD]⟩) rfl) fun vres H5 e5 i5 => ?_
          have h5 := h4.ex e5
          have g15 := g1.ex ((e3.trans e4).trans e5)
          have g35 := g3.ex ((e3.trans e4).trans e5)
          -- handed = [frame.look(box) for box in results]
          refine qd_setL (ds := (D0.results.map t).map encTh) ?_ fun lh vh H6 nlh e6 hlh ih => ?_
          · have e : (D0.results.map PyData.str).filterMap (onStr fun b => some (encTh (t b))) = (D0.results.map t).map encTh := by
              rw [fm_strs, List.map_map]
              exact congrFun (List.filterMap_eq_map (f := fun b => encTh (t b))) D0.results
            rw [← e]
            refine evl_lcT (j := 5) _ (evd_var rfl i5) (by rw [List.length_map]; omega) (fun i dd v H6 hi e6 iv => ?_) fun i dd v H6 e hi e6 iv he => ?_
            · obtain ⟨b, _, rfl⟩ := List.mem_map.mp (List.mem_of_getElem? hi)
              exact evt_all
            · obtain ⟨b, _, rfl⟩ := List.mem_map.mp (List.mem_of_getElem? hi)
              cases he
              exact evd_look (ev_var rfl) (g15.ex e6) (g35.ex e6) (evds_cons (evd_var rfl iv) evds_nil)
          have h6 := h5.ex e6
          have g16 := g15.ex e6
          have g36 := g35.ex e6
          obtain ⟨kvs6, hd6, _⟩ := id g36
          -- frame.empty(results)
          refine sd_empty (ev_var rfl) g16 g36 (evds_cons (evd_var rfl (i5.ex e6)) evds_nil) fun H7 k7 t7 => ?_
          have kt7 : KT H6 H7 := k7.kt fun b hb ys => by rw [List.mem_singleton.mp hb]; exact nt_dK hd6 ys
          have hdr : ∀ {b : Addr} {o : HO}, H6 b = some o → (∀ kvs, o ≠ .dK kvs) → b ∉ [d] := fun {b o} hb n z => by
            rw [List.mem_singleton.mp z, hd6] at hb
            exact n _ (Option.some.inj hb).symm
          have h7 : RunX K E p given H0 c ((f', d') :: fs2) vo vpl H7 { s with frames := (cp', t') :: rest' } := by
            obtain ⟨xs, hl, hi⟩ := h6.lvs
            exact { h6 with
              base := fun a o e => k7 a o (h6.base a o e) (fun z => by rw [List.mem_singleton.mp z, hdn] at e; cases e), obj := k7 _ _ h6.obj (hdr h6.obj (by intro _ z; cases z)), prog := h6.prog.mono kt7, gvn := h6.gvn.mono kt7, over := h6.over.mono kt7, place := h6.place.mono kt7,
              nums := k7 _ _ h6.nums (hdr h6.nums (by intro _ z; cases z)), lvs := ⟨xs, k7 _ _ hl (hdr hl (by intro _ z; cases z)), hi.mono kt7⟩, frs := k7 _ _ h6.frs (hdr h6.frs (by intro _ z; cases z)),
              fr := h6.fr.kp k7 kt7 fun x hx => ⟨by
                obtain ⟨y, _, vc2, b1, _⟩ := h6.fr.mem x hx
                simpa using b1.ne hd6, by simpa using hdo x hx⟩ }
          have g17 : FrH K H7 f vc d := g16.kp k7 (by simpa using g16.ne hd6)
          -- self.leavings.extend(frame.kept_here(self.place))
          refine h7.sExt T ok (self rfl) (ev_var rfl) g17 t7 (h7.ePlace T (self rfl)) (by simpa using z2) fun H8 h8 k8 kt8 => ?_
          have hlh7 : H7 lh = some (.lst vh) := k7 _ _ hlh (hdr hlh (by intro _ z; cases z))
          obtain ⟨xs7, hl7, _⟩ := h7.lvs
          have lhne : lh ≠ c.ll ∧ lh ≠ c.lf := by
            obtain ⟨xs, hl, _⟩ := h5.lvs
            exact ⟨fun z => (by rw [z, hl] at nlh; cases nlh), fun z => (by rw [z, h5.frs] at nlh; cases nlh)⟩
          have hlh8 : H8 lh = some (.lst vh) := k8 _ _ hlh7 (by simpa using lhne.1)
          have ih8 := (ih.mono kt7).mono kt8
          have i48 := (((i4.ex (e5.trans e6)).mono kt7).mono kt8)
          have hl48 := ih8.len
          -- for box, thing in zip(call[3], handed)
          refine (evd_at (K := K) (d := tstr gets) 3 (evd_var (i := 2) rfl i48) (by simp only [tlD]; rfl)) H8 (Ex.refl H8) _ fun vg H9 e9 ig => ?_
          obtain ⟨lg, xg, rfl, hlg9, ixg⟩ := ig.tup_
          have := ixg.strs_
          subst this
          refine ⟨_, rfl, lg, lh, gets.map V.str, vh, rfl, hlg9, e9 _ _ hlh8, ?_⟩
          have h9 := h8.ex e9
          have ih9 := ih8.ex e9
          have hlen9 : (gets.map V.str).length = vh.length := by
            rw [List.length_map] at hl48 ⊢
            rw [List.length_map] at hl48
            omega
          refine for_zipM hlen9 (fun i σ' H' => ∃ (x y : Option V), σ' = [some (.ref c.r), some (.ref f), some vcall, some vres, some (.ref lh), x, y] ∧ H' lg = some (.tup (gets.map V.str)) ∧ H' lh = some (.lst vh) ∧ Ims H' vh ((D0.results.map t).map encTh) ∧
              KT H9 H' ∧ FrH K H' f vc d ∧
              RunX K E p given H0 c ((f', d') :: fs2) vo vpl H' { s with log := (s.log.1, s.log.2 ++ kept E s.place (wipeAll t D0.results)), frames := (cp', ((gets.zip (D0.results.map t)).take i).foldl (fun g bt => put g bt.1 bt.2) t') :: rest' })
            ⟨none, none, rfl, hlg9, e9 _ _ hlh8, ih9, KT.refl H9, ?_, h9⟩ (fun i σ' H' ⟨x, y, _, a, b, _⟩ => ⟨a, b⟩) ?_ ?_
          · exact (g17.kp k8 (by simpa using (fun z : f = c.ll => by obtain ⟨dx7, g⟩ := g17; rw [z, hl7] at g; cases g))).ex e9
          · rintro i vb vt q σ' H' hvb hvt ⟨x, y, rfl, a, b, ih', kt', fh', h'⟩ hq
            have eX : Ex H' (upd H' q (.tup [vb, vt])) := Ex.new hq
            refine g_two upd_same ?_
            -- self.frames[-1].put(box, thing)
            rw [List.getElem?_map] at hvb
            cases hgi : gets[i]? with
            | none => rw [hgi] at hvb; cases hvb
            | some b1 =>
            rw [hgi] at hvb
            obtain rfl : V.str b1 = vb := Option.some.inj hvb
            obtain ⟨dth, hdth, ith⟩ := ih'.get' hvt
            rw [List.getElem?_map, List.getElem?_map] at hdth
            cases hri : D0.results[i]? with
            | none => rw [hri] at hdth; cases hdth
            | some rb =>
            rw [hri] at hdth
            obtain rfl : encTh (t rb) = dth := Option.some.inj hdth
            have h'' := h'.ex eX
            have hfa := h''.fr
            obtain ⟨⟨vc', w1, w2, w3⟩, w4⟩ := hfa
            have hzip : (gets.zip (D0.results.map t))[i]? = some (b1, t rb) := by
              rw [List.getElem?_zip_eq_some]
              exact ⟨hgi, by rw [List.getElem?_map, hri]; rfl⟩
            obtain ⟨kvsw, hdw, _⟩ := id w3
            refine sd_put (E := E) (b := b1) (x := t rb) ok (f := f') (fun H2 e2 Q2 q2 => ?_) w1 w3 (evds_cons (evd_var rfl (.str b1)) (evds_cons (evd_var rfl (ith.ex eX)) evds_nil)) (q1 b1 (List.mem_of_getElem? hgi)) ?_ fun H10 k10 t10 => ?_
            · refine (h''.eFrs T (self rfl)) H2 e2 _ fun H3 e3 => ⟨1, rfl, c.lf, _, -1, .ref f', rfl, rfl, sq_of (e3 _ _ (e2 _ _ h''.frs)), ?_, q2 H3 e3⟩
              simp only [List.reverse_cons, List.map_append]
              exact atI_last _ _
            · obtain ⟨kvs0, _, hth⟩ := g3
              exact hth.ws rb
            · obtain ⟨h10, kt10⟩ := h''.top rfl k10 t10
              refine ⟨_, _, rfl, ?_, ?_, (ih'.ex eX).mono kt10, (kt'.trans (KT.of eX)).trans kt10, ?_, ?_⟩
              · exact kt10 _ _ (eX _ _ a)
              · exact k10 _ _ (eX _ _ b) (fun z => by rw [List.mem_singleton.mp z] at b; have := eX _ _ b; rw [hdw] at this; cases this)
              · exact (fh'.ex eX).kp k10 (by simpa using (fh'.ex eX).ne hdw)
              · have ef : ((gets.zip (D0.results.map t)).take (i + 1)).foldl (fun g bt => put g bt.1 bt.2) t' = put (((gets.zip (D0.results.map t)).take i).foldl (fun g bt => put g bt.1 bt.2) t') b1 (t rb) := by
                  rw [List.take_add_one, hzip, List.foldl_append]
                  rfl
                rw [ef]
                exact h10
          · rintro σ' H' ⟨x, y, rfl, a, b, ih', kt', ⟨dxe, fh'⟩, h'⟩
            have ez : ((gets.zip (D0.results.map t)).take (gets.map V.str).length) = gets.zip (D0.results.map t) := by
              apply List.take_of_length_le
              simp [hs3]
            rw [ez] at h'
            -- self.place = behind(self.whole, frame.called_at)
            have ktA : KT H3 H' := (((((KT.of ((e4.trans e5).trans e6)).trans kt7).trans kt8).trans (KT.of e9)).trans kt')
            have ktB : KT H H' := (kt2.trans (KT.of e3)).trans ktA
            refine h'.sPlace T (fun _ => self rfl) (pl := pl2) (evd_call (evds_cons (h'.eWhole T (self rfl)) (evds_cons (evd_ev (d := encPl cpl) (ev_fld (ev_var (i := 1) rfl) fh' T.cls_Frame T.no_Frame_called_at rfl) ((g2.ex e3).mono ktA)) evds_nil)) ⟨p, cpl, pl2, rfl, hbe, be8, by omega, rfl⟩) fun H11 vpl' h11 kt11 => ?_
            exact k H11 ⟨_, _, _, h11⟩ (ktB.trans kt11)
      | _ => cases hop
end
end K16

set_option Elab.async false
set_option linter.all false
set_option maxRecDepth 100000
set_option maxHeartbeats 4000000
/-! KRunC: come_to, fall, answer, wants -/
namespace K16
open PySem PySem.Spec PyProof.Rows L2 Evl
def spAnswer (K : PySem.W.Frag) : Sp := fun vs H Q _ => ∃ E p given H0 c fs vo vpl s v m, vs = [.ref c.r, .int m] ∧ RunX K E p given H0 c fs vo vpl H s ∧ given[s.used]? = some v ∧ 0 ≤ v ∧ v < m ∧ ∀ H', RunX K E p given H0 c fs vo vpl H' { s with used := s.used + 1 } → KT H H' → Kp [c.r] H H' → Q (.int v) H'
def spWants (K : PySem.W.Frag) : Sp := fun vs H Q _ => ∃ E p given H0 c s w, vs = [.ref c.r] ∧ POk p ∧ RunAt K E p given H0 c H s ∧ wordAt p s.place = some (some w) ∧ ∀ H', Ex H H' → Q (.bl ((need w).isSome && decide (s.used = given.length))) H'
section
variable {K : PySem.W.Frag} {mg : Str → Option Value} {E : Env} {p : Prog} {given : List Int} {H0 : Hp} {c : RC} {fs : List (Addr × Addr)} {vo vpl : V} {H H' : Hp} {s s' : MS (full E)} {σ : L2.St} {ta tf tp te : TE} {D : Ends} {tz : TS}
theorem sd_op {op : (E : Env) → Prog → MS (full E) → Option (MS (full E))} {m : Str} (h : RunX K E p given H0 c fs vo vpl H s) (ha : Ev ta σ H (.ref c.r)) (ok : EnvOk E) (pok : POk p) (hop : op E p s = some s') (hm : ∀ vo vpl, (rFields c s.used s.steps vo vpl).lookup m = none)
    (k : ∀ H', RunAt K E p given H0 c H' s' → KT H H' → D.nx σ H') : tDrop (tMeth (CR K) m (spOp K op) [] C8.E0 ta tNil) D σ H := by
  refine ha H (Ex.refl H) _ fun H1 e1 => ?_
  have h1 := h.ex e1
  exact ⟨c.r, c.dx, _, rfl, h1.obj, hm _ _, E, p, given, H0, c, s, s', rfl, ok, pok, ⟨_, _, _, h1⟩, hop, fun H' r kt => k H' r ((KT.of e1).trans kt)⟩
theorem sd_come {pl : Place} (h : RunX K E p given H0 c fs vo vpl H s) (ha : Ev ta σ H (.ref c.r)) (ok : EnvOk E) (pok : POk p) (hp : EvD tp σ H (encPl pl)) (hop : comeTo p s pl = some s')
    (k : ∀ H', RunAt K E p given H0 c H' s' → KT H H' → D.nx σ H') : tDrop (tMeth (CR K) "come_to" (spCome K) [] C8.E0 ta (tCons tp tNil)) D σ H := by
  refine ha H (Ex.refl H) _ fun H1 e1 => ⟨c.r, c.dx, _, rfl, (h.ex e1).obj, rfl, hp H1 e1 _ fun v H2 e2 iv => ?_⟩
  exact ⟨E, p, given, H0, c, s, s', v, pl, rfl, ok, pok, (h.ex (e1.trans e2)).to pl, iv, hop, fun H' r kt => k H' r ((KT.of (e1.trans e2)).trans kt)⟩
theorem sd_fall {f : Str} (h : RunX K E p given H0 c fs vo vpl H s) (ha : Ev ta σ H (.ref c.r)) (ok : EnvOk E) (pok : POk p) (hp : EvD tp σ H (.str f)) (hop : fall s f = some s')
    (k : ∀ H', RunAt K E p given H0 c H' s' → KT H H' → D.nx σ H') : tDrop (tMeth (CR K) "fall" (spFall K) [] C8.E0 ta (tCons tp tNil)) D σ H := by
  refine ha H (Ex.refl H) _ fun H1 e1 => ⟨c.r, c.dx, _, rfl, (h.ex e1).obj, rfl, hp H1 e1 _ fun v H2 e2 iv => ?_⟩
  exact ⟨E, p, given, H0, c, s, s', f, by rw [iv.str_]; rfl, ok, pok, ⟨_, _, _, h.ex (e1.trans e2)⟩, hop, fun H' r kt => k H' r ((KT.of (e1.trans e2)).trans kt)⟩
def isN : PyData → Bool
  | .none => true
  | _ => false
theorem evt_none {d : PyData} (h : EvD ta σ H d) : EvT (tTest (tOp (fun x y H Q => y = .non ∧ Q (.bl (decide (x = .non))) H) ta (tC .non))) σ H (isN d) := evt_isN h (by cases d <;> rfl)
theorem evt_nnone {d : PyData} (h : EvD ta σ H d) : EvT (tTest (tOp (fun x y H Q => y = .non ∧ Q (.bl (!decide (x = .non))) H) ta (tC .non))) σ H (!isN d) :=
  evt_op h evd_non fun v u H1 _ a c Q q => by
    refine ⟨c.non_, ?_⟩
    have : (!decide (v = .non)) = !isN d := by cases a <;> simp [isN]
    rw [this]
    exact q H1 (Ex.refl H1)
theorem ev_int {i : Int} (h : EvD te σ H (.int i)) : Ev te σ H (.int i) := fun H1 e Q q => h H1 e _ fun v H2 e2 iv => by rw [iv.int_]; exact q H2 e2
theorem ev_str {x : Str} (h : EvD te σ H (.str x)) : Ev te σ H (.str x) := fun H1 e Q q => h H1 e _ fun v H2 e2 iv => by rw [iv.str_]; exact q H2 e2
end
/-- reversed(a list), item by item -/
theorem for_back {K : PySem.W.Frag} {a : Addr} {xs : List V} {g : TG} {tb : TS} {D : Ends} {σ : L2.St} {H : Hp} (Pv : Nat → L2.St → Hp → Prop) (h0 : Pv 0 σ H) (hl : ∀ i σ H, Pv i σ H → SqL K H a xs)
    (hs : ∀ (i : Nat) (x : V) (σ : L2.St) (H : Hp), xs.reverse[i]? = some x → Pv i σ H → g x σ H fun σ2 H2 => tb { D with nx := Pv (i + 1), ct := Pv (i + 1), bk := D.nx } σ2 H2) (hd : ∀ σ H, Pv xs.length σ H → D.nx σ H) :
    ∃ W : Nat → Nat → L2.St → Hp → Prop, (∃ m, W 0 m σ H) ∧ ∀ i m σ H, W i m σ H → ((Itv K a xs.length).stop i H ∧ D.nx σ H) ∨
      ((Itv K a xs.length).go i H ∧ ∃ N : L2.St → Hp → Prop, (∀ σ' H', N σ' H' → ∃ m', m' < m ∧ W (i + 1) m' σ' H') ∧ ∀ v H', (Itv K a xs.length).yld i H v H' → g v σ H' fun σ2 H2 => tb { D with nx := N, ct := N, bk := D.nx } σ2 H2) := by
  refine ⟨fun i m σ H => m + i = xs.length ∧ Pv i σ H, ⟨xs.length, rfl, h0⟩, fun i m σ H ⟨hm, p⟩ => ?_⟩
  have q := hl i σ H p
  rcases Nat.eq_zero_or_pos m with rfl | hpos
  · have e : i = xs.length := by omega
    exact .inl ⟨Nat.le_of_eq e.symm, hd σ H (e ▸ p)⟩
  · have l1 : i < xs.length := by omega
    refine .inr ⟨⟨l1, xs, xs[xs.length - 1 - i], q, List.getElem?_eq_getElem (by omega)⟩, Pv (i + 1), fun σ' H' p' => ⟨m - 1, by omega, by omega, p'⟩, fun v H' y => ?_⟩
    obtain ⟨e, y⟩ := y
    subst e
    refine hs i v σ _ ?_ p
    rw [List.getElem?_reverse l1]
    exact y xs q
section
variable {P : Program} {w : World} {K : PySem.W.Frag} {mg : Str → Option Value} {base : Heap}
theorem sc_Run_come_to : FnScope ["self", "place"] ["self", "place"] (defScope m_Run_come_to) := ⟨rfl, rfl, rfl, by decide +kernel, rfl, by decide +kernel, by decide +kernel⟩
theorem ok_come_to (T : Fx K mg) : C8.Met P w K mg base 15 (CR K) "come_to" (spCome K) [] := by
  obtain ⟨fd, F⟩ := T.f_Run_come_to
  have c_word_at := ok_word_at (P := P) (w := w) (base := base) T
  have c_Run_go_back := ok_go_back (P := P) (w := w) (base := base) T
  refine met_of T.cls_Run T.me_Run_come_to F sc_Run_come_to (fun _ _ _ _ _ _ us hl => match us, hl with | [_, _], _ => rfl) (by rintro vs H Q E ⟨_, _, _, _, _, _, _, _, _, rfl, _⟩; rfl) fun cdv A outer s0 H vs Q E0 hr hsp => ?_
  obtain ⟨E, p, given, H0, c, s, s', v, pl, rfl, ok, pok, ⟨fs, vo, vpl, hobj, hto⟩, iv, hop, k⟩ := hsp
  refine ⟨_, (pss_cons (ps_fld (pv 0) (pv 1) rfl)
    (pss_one (ps_while PassesOwn.never (PW.pt (pw_and (pt_cmpR op_isN (pe_fld (pv 0) rfl) pe_non (nomark _)) (pw_and1 (pt_cmpR op_isN (C8.pe_c c_word_at hr (by omega) rfl (pa_cons (pe_fld (pv 0) rfl) (pa_cons (pe_fld (pv 0) rfl) pa_nil))) pe_non (nomark _)))))
    (pss_one (ps_expr (C8.pe_mt0 c_Run_go_back hr (by omega) (pv 0))))))), ?_⟩
  refine ⟨v, rfl, _, rfl, c.r, _, c.dx, _, rfl, hobj, T.cls_Run, T.no_Run_place, by show 9 < 1000; omega, ?_⟩
  have h1 := hto H v (Ex.refl H) iv
  have kt1 : KT H (upd H c.r (.ins (CR K) c.dx (rFields c s.used s.steps vo v))) := (KT.refl H).upd (nt_ins hobj)
  refine s_while (fun m σ' H' => σ' = [some (.ref c.r), some v] ∧ ∃ s2, RunAt K E p given H0 c H' s2 ∧ settle p m s2 = some s' ∧ KT H H') (s.frames.length + 1) ⟨rfl, _, ⟨_, _, _, h1⟩, hop, kt1⟩ ?_
  rintro m σ' H' ⟨rfl, s2, ⟨fs2, vo2, vpl2, h2⟩, hset, kt2⟩
  cases m with
  | zero => cases hset
  | succ m =>
  have hself : ∀ {H3 : Hp}, Ev (tVar 0) [some (.ref c.r), some v] H3 (.ref c.r) := ev_var rfl
  unfold settle at hset
  cases hov : s2.over with
  | some o =>
    rw [hov] at hset
    cases hset
    have o1 := et_is (b := false) (evt_none (h2.eOver T hself)) (by rw [hov]; cases o <;> rfl)
    exact ⟨false, evt_is (et_and (b := false) o1 (fun z => nomatch z)) rfl, (fun z => nomatch z), fun _ H3 e3 => k H3 ⟨_, _, _, h2.ex e3⟩ (kt2.trans (KT.of e3))⟩
  | none =>
    rw [hov] at hset
    have o1 := et_is (b := true) (evt_none (h2.eOver T hself)) (by rw [hov]; rfl)
    cases hwa : wordAt p s2.place with
    | none => rw [hwa] at hset; cases hset
    | some o =>
    rw [hwa] at hset
    have w8 := pok.word hwa
    have o2 : EvD (tCall (spD fWordAt) [] C8.E0 (tCons (tFld K (tVar 0) "whole") (tCons (tFld K (tVar 0) "place") tNil))) [some (.ref c.r), some v] H' (encOW o) := evd_call (evds_cons (h2.eWhole T hself) (evds_cons (h2.ePlace T hself) evds_nil)) ⟨p, s2.place, o, rfl, hwa, by omega, rfl⟩
    cases o with
    | some wd =>
      cases hset
      exact ⟨false, evt_is (et_and (b := false) o1 fun _ => evt_none o2) rfl, (fun z => nomatch z), fun _ H3 e3 => k H3 ⟨_, _, _, h2.ex e3⟩ (kt2.trans (KT.of e3))⟩
    | none =>
      have hset : (goBack p s2).bind (settle p m) = some s' := hset
      obtain ⟨s3, hg, hset⟩ := Option.bind_eq_some_iff.mp hset
      refine ⟨true, evt_is (et_and (b := true) o1 fun _ => evt_none o2) rfl, fun _ H3 e3 => ⟨fun σ4 H4 => σ4 = [some (.ref c.r), some v] ∧ ∃ s2, RunAt K E p given H0 c H4 s2 ∧ settle p m s2 = some s' ∧ KT H H4, fun σ4 H4 q => ⟨m, Nat.lt_succ_self m, q⟩, ?_⟩, (fun z => nomatch z)⟩
      exact sd_op (h2.ex e3) hself ok pok hg (fun _ _ => rfl) fun H4 r4 kt4 => ⟨rfl, s3, r4, hset, (kt2.trans (KT.of e3)).trans kt4⟩
theorem sc_Run_fall : FnScope ["self", "fault", "place", "frame"] ["self", "fault"] (defScope m_Run_fall) := ⟨rfl, rfl, rfl, by decide +kernel, rfl, by decide +kernel, by decide +kernel⟩
theorem ok_fall (T : Fx K mg) : C8.Met P w K mg base 2 (CR K) "fall" (spFall K) [] := by
  obtain ⟨fd, F⟩ := T.f_Run_fall
  have c_Frame_kept_here := ok_kept (P := P) (w := w) (base := base) T
  refine met_of T.cls_Run T.me_Run_fall F sc_Run_fall (fun _ _ _ _ _ _ us hl => match us, hl with | [_, _], _ => rfl) (by rintro vs H Q E ⟨_, _, _, _, _, _, _, _, rfl, _⟩; rfl) fun cdv A outer s0 H vs Q E0 hr hsp => ?_
  obtain ⟨E, p, given, H0, c, s, s', f, rfl, ok, pok, ⟨fs, vo, vpl, h⟩, hop, k⟩ := hsp
  refine ⟨_, (pss_cons (ps_set (i := 2) sc_Run_fall.nd rfl (.inl rfl) (pe_fld (pv 0) rfl))
    (pss_cons (ps_for PassesOwn.never rfl (pi_reversed (by rfl) T.reversed_ (pa_cons (pe_fld (pv 0) rfl) pa_nil)) (pg_name (i := 3) sc_Run_fall.nd rfl (.inl rfl))
    (pss_cons (ps_expr (pe_bm PySem.F.plainAttrs_list PySem.F.slot_list_extend PySem.F.type_list_extend mt_extend (pe_fld (pv 0) rfl) (pa_cons (C8.pe_mt c_Frame_kept_here hr (by omega) (pv 3) (pa_cons (pv 2) pa_nil)) pa_nil)))
    (pss_one (ps_set (i := 2) sc_Run_fall.nd rfl (.inl rfl) (pe_fld (pv 3) rfl)))))
    (pss_one (ps_fld (pv 0) (pe_tup (pa_cons pe_str (pa_cons (pv 1) pa_nil))) rfl)))), ?_⟩
  obtain ⟨l', hlv, rfl⟩ := Option.map_eq_some_iff.mp hop
  refine qd_set (h.ePlace T (ev_var rfl)) fun vp1 H1 e1 i1 => ?_
  have h1 := h.ex e1
  refine (h1.eFrs (σ := [some (.ref c.r), some (.str f), some vp1, none]) T (ev_var rfl)) H1 (Ex.refl H1) _ fun H2 e2 => ?_
  have h2 := h1.ex e2
  have hlen := h2.fr.len
  refine ⟨c.lf, _, rfl, sq_of h2.frs, for_back (K := K) (a := c.lf) (xs := fs.reverse.map fun x => V.ref x.1) (fun i σ' H' => ∃ (pv : V) (x : Option V) (l : Log), σ' = [some (.ref c.r), some (.str f), some pv, x] ∧ KT H H' ∧ RunX K E p given H0 c fs vo vpl H' { s with log := l } ∧
      ((∃ pl, Im H' pv (encPl pl) ∧ leaveAll pl (s.frames.drop i) l = some l') ∨ (i = fs.length ∧ l = l'))) ?_ (fun i σ' H' ⟨_, _, _, _, _, q, _⟩ => SqL.of q.frs) ?_ ?_⟩
  · exact ⟨vp1, none, s.log, rfl, KT.of (e1.trans e2), h2, .inl ⟨s.place, i1.ex e2, by rw [List.drop_zero]; exact hlv⟩⟩
  · rintro i x σ' H' hi ⟨pv1, x0, l, rfl, kt, hx, hcase⟩
    rw [← List.map_reverse, List.reverse_reverse, List.getElem?_map] at hi
    cases hfi : fs[i]? with
    | none => rw [hfi] at hi; cases hi
    | some y =>
    rw [hfi] at hi
    obtain rfl : V.ref y.1 = x := Option.some.inj hi
    have hil : i < fs.length := (List.getElem?_eq_some_iff.mp hfi).1
    obtain ⟨pl, ipv, hlv2⟩ := hcase.resolve_right fun z => by omega
    have hil2 : i < s.frames.length := by rw [← hlen]; exact hil
    have edrop : s.frames.drop i = s.frames[i] :: s.frames.drop (i + 1) := List.drop_eq_getElem_cons hil2
    obtain ⟨yy, hyy⟩ : ∃ yy, s.frames[i]? = some yy := ⟨_, List.getElem?_eq_getElem hil2⟩
    -- the i-th frame
    have hat : ∀ {xs : List (Addr × Addr)} {ys : List (Option Place × Things)} {j : Nat} {x y}, FrsAt K E H' xs ys → xs[j]? = some x → ys[j]? = some y → FrAt K E H' x y := by
      intro xs
      induction xs with
      | nil => intro ys j x y _ h; simp at h
      | cons a xs ih =>
        intro ys j x y h hx hy
        cases ys with
        | nil => exact h.elim
        | cons b ys =>
          cases j with
          | zero => simp at hx hy; subst hx hy; exact h.1
          | succ j => exact ih h.2 (by simpa using hx) (by simpa using hy)
    obtain ⟨vc, w1, w2, w3⟩ := hat hx.fr hfi hyy
    obtain ⟨cp, (t : Things)⟩ := yy
    have eget : s.frames[i] = (cp, t) := by
      rw [List.getElem?_eq_getElem hil2] at hyy
      exact Option.some.inj hyy
    rw [edrop, eget] at hlv2
    unfold leaveAll at hlv2
    obtain ⟨l2, hl2, hlv3⟩ := Option.bind_eq_some_iff.mp hlv2
    obtain ⟨rfl, z1, z2⟩ := okLog_some hl2
    show tSeq (tDrop (tBM K "list" rExtend (tFld K (tVar 0) "leavings") (tCons (tMeth (CF K) "kept_here" (spKept K) [] C8.E0 (tVar 3) (tCons (tVar 2) tNil)) tNil))) (tAsg (tFld K (tVar 3) "called_at") (gName 2)) _ [some (.ref c.r), some (.str f), some pv1, some (.ref y.1)] H'
    refine hx.sExt T ok (ev_var rfl) (ev_var rfl) w1 w3 (evd_var rfl ipv) (by simpa using z2) fun H3 h3 kp3 kt3 => ?_
    obtain ⟨dxf, hfo⟩ := w1
    have hne : y.1 ≠ c.ll := by
      obtain ⟨xs, hl, _⟩ := hx.lvs
      intro z
      rw [z, hl] at hfo
      cases hfo
    refine (ev_fld (K := K) (σ := [some (.ref c.r), some (.str f), some pv1, some (.ref y.1)]) (ev_var (i := 3) rfl) (kp3 _ _ hfo (by simpa using hne)) T.cls_Frame T.no_Frame_called_at rfl) H3 (Ex.refl H3) _ fun H4 e4 => ?_
    refine ⟨vc, _, _, rfl, (kt.trans kt3).trans (KT.of e4), h3.ex e4, ?_⟩
    cases hd : s.frames.drop (i + 1) with
    | nil =>
      rw [hd] at hlv3
      right
      refine ⟨?_, Option.some.inj hlv3⟩
      have := congrArg List.length hd
      rw [List.length_drop] at this
      simp only [List.length_nil] at this
      omega
    | cons a b =>
      rw [hd] at hlv3
      cases cp with
      | none => cases hlv3
      | some cpl => exact .inl ⟨cpl, (w2.mono kt3).ex e4, hlv3⟩
  · rintro σ' H' ⟨pv1, x0, l, rfl, kt, hx, hcase⟩
    have el : l = l' := by
      rcases hcase with ⟨pl, _, hlv2⟩ | ⟨_, z⟩
      · rw [List.drop_eq_nil_of_le (by rw [← hlen]; simp)] at hlv2
        exact Option.some.inj hlv2
      · exact z
    subst el
    refine hx.sOver T (fun _ => ev_var rfl) (ov := some (.fault f)) (evd_tup (evds_cons evd_str (evds_cons (evd_var rfl (.str f)) evds_nil))) fun H5 vo' h5 kt5 => ?_
    exact k H5 ⟨_, _, _, h5⟩ (kt.trans kt5)
theorem sc_Run_answer : FnScope ["self", "many", "found"] ["self", "many"] (defScope m_Run_answer) := ⟨rfl, rfl, rfl, by decide +kernel, rfl, by decide +kernel, by decide +kernel⟩
theorem ok_answer (T : Fx K mg) : C8.Met P w K mg base 2 (CR K) "answer" (spAnswer K) [] := by
  obtain ⟨fd, F⟩ := T.f_Run_answer
  have c_is_answer := ok_is_answer (P := P) (w := w) (base := base) T
  refine met_of T.cls_Run T.me_Run_answer F sc_Run_answer (fun _ _ _ _ _ _ us hl => match us, hl with | [_, _], _ => rfl) (by rintro vs H Q E ⟨_, _, _, _, _, _, _, _, _, _, _, rfl, _⟩; rfl) fun cdv A outer s0 H vs Q E0 hr hsp => ?_
  obtain ⟨E, p, given, H0, c, fs, vo, vpl, s, v, m, rfl, h, hv, h0, hm, k⟩ := hsp
  refine ⟨_, (pss_cons (ps_set (i := 2) sc_Run_answer.nd rfl (.inl rfl) (pe_ix ix_tup (pe_fld (pv 0) rfl) (pe_fld (pv 0) rfl) (fun _ _ => rfl)))
    (pss_cons (ps_if (pt_not (pt_val (C8.pe_c c_is_answer hr (by omega) rfl (pa_cons (pv 2) (pa_cons (pv 1) pa_nil)))))
    (pss_one ps_never)
    pss_nil)
    (pss_cons (ps_fldaug (pv 0) pe_int in_add)
    (pss_one (ps_ret (pv 2)))))), ?_⟩
  refine qd_set (d := .int v) (evd_ixn (h.eGiven T (ev_var rfl)) (h.eUsed T (ev_var rfl)) (by rw [List.getElem?_map, hv]; rfl)) fun u H1 e1 iu => ?_
  have := iu.int_
  subst this
  have h1 := h.ex e1
  have tst : EvT (tNot (tTest (tCall spIsAns [] C8.E0 (tCons (tVar 2) (tCons (tVar 1) tNil))))) [some (.ref c.r), some (.int m), some (.int v)] H1 false := by
    refine et_is (et_not (a := true) (et_test (fun H2 e2 Q2 q2 => ⟨_, rfl, _, rfl, v, m, rfl, fun H3 e3 => ?_⟩))) rfl
    rw [decide_eq_true h0, decide_eq_true hm]
    exact q2 H3 e3
  refine q_no tst fun H2 e2 => ?_
  have h2 := h1.ex e2
  refine ⟨_, rfl, c.r, _, c.dx, _, _, rfl, h2.obj, T.cls_Run, T.no_Run_used, rfl, s.used, 1, rfl, rfl, _, _, h2.obj, by show 9 < 1000; omega, _, rfl, ?_⟩
  refine k _ (h2.fld (used := s.used + 1) (steps := s.steps) (ov := s.over) (pl := s.place) h2.over h2.place) ((KT.of (e1.trans e2)).trans ((KT.refl H2).upd (nt_ins h2.obj))) ((Kp.of (e1.trans e2)).mut (by simp))
theorem sc_Run_wants : FnScope ["self", "word"] ["self"] (defScope m_Run_wants) := ⟨rfl, rfl, rfl, by decide +kernel, rfl, by decide +kernel, by decide +kernel⟩
theorem need_hd (w : Word) : inV (.str (hd w)) [.str "take", .str "ask", .str "choose", .str "risk"] = (need w).isSome := by
  cases w <;> (simp only [hd, need, Option.isSome_some, Option.isSome_none]; decide +kernel)
theorem ok_wants (T : Fx K mg) : C8.Met P w K mg base 5 (CR K) "wants" (spWants K) [] := by
  obtain ⟨fd, F⟩ := T.f_Run_wants
  have c_word_at := ok_word_at (P := P) (w := w) (base := base) T
  refine met_of T.cls_Run T.me_Run_wants F sc_Run_wants (fun _ _ _ _ _ _ us hl => match us, hl with | [_], _ => rfl) (by rintro vs H Q E ⟨_, _, _, _, _, _, _, rfl, _⟩; rfl) fun cdv A outer s0 H vs Q E0 hr hsp => ?_
  obtain ⟨E, p, given, H0, c, s, wd, rfl, pok, ⟨fs, vo, vpl, h⟩, hw, k⟩ := hsp
  refine ⟨_, (pss_cons (ps_set (i := 1) sc_Run_wants.nd rfl (.inl rfl) (C8.pe_c c_word_at hr (by omega) rfl (pa_cons (pe_fld (pv 0) rfl) (pa_cons (pe_fld (pv 0) rfl) pa_nil))))
    (pss_one (ps_ret (pe_and (pe_cmpR op_in_seq (pe_ix ix_tup (pv 1) pe_int (fun _ _ => rfl)) (pe_tup (pa_cons pe_str (pa_cons pe_str (pa_cons pe_str (pa_cons pe_str pa_nil))))) (by rfl)) (pe_one (pe_cmpR op_eq (pe_fld (pv 0) rfl) (pe_callB call_len_seq (by rfl) T.len_ boot_len (pa_cons (pe_fld (pv 0) rfl) pa_nil)) (nomark _))))))), ?_⟩
  have w8 := pok.word hw
  refine qd_set (d := encW wd) (evd_call (evds_cons (h.eWhole T (ev_var rfl)) (evds_cons (h.ePlace T (ev_var rfl)) evds_nil)) ⟨p, s.place, some wd, rfl, hw, by omega, rfl⟩) fun vw H1 e1 iw => ?_
  have h1 := h.ex e1
  refine s_ret (v := .bl ((need wd).isSome && decide (s.used = given.length))) (ev_andV (a := (need wd).isSome) ?_ fun _ => ?_) fun H2 e2 => k H2 (e1.trans e2)
  · rw [← need_hd]
    exact ev_inU (ev_str (evd_at (d := .str (hd wd)) 0 (evd_var rfl iw) rfl)) (eu_tup (ea_cons ev_c (ea_cons ev_c (ea_cons ev_c (ea_cons ev_c ea_nil)))) (by decide)) rfl rfl
  · refine ev_is (ev_op (ev_int (h1.eUsed T (ev_var rfl))) (ev_int (evd_len (h1.eGiven T (ev_var rfl)))) (rv_eq rfl)) ?_
    rw [List.length_map]
    congr 1
    simp only [V.int.injEq, decide_eq_decide]
    omega
end
end K16

set_option Elab.async false
set_option linter.all false
set_option maxRecDepth 100000
set_option maxHeartbeats 4000000
/-! KSet: set(a tuple of texts), sorted of it -/
namespace K16
open PySem PySem.Spec PyProof.Rows L2 Evl
/-- an entry that is a text -/
def Tx (P : Program) (w : World) (e : Int × Value) : Prop := ∃ x tk, e.2 = Value.str x tk ∧ e.1 = (strKind P w).hash x
def txt (e : Int × Value) : Str := match e.2 with
  | .str x _ => x
  | _ => Str.empty
/-- a set of texts whose members are l; its table can be walked -/
def SetS (P : Program) (w : World) (h : Heap) (a : Addr) (l : List Str) : Prop := ∃ o es ep t, h.get? a = some o ∧ o.ExactSet ∧ o.data = .set es ep t ∧ (∀ e ∈ es.toList, Tx P w e) ∧ (es.toList.map txt).Perm l ∧ l.Nodup ∧
  es.size < scanBound ∧ t.fits es.size = true ∧ Ris t.place.toList ∧ (w.params.followText "set-order" = true ∨ t.led = true)
/-- the next text: it stays, or is put on -/
def addL (l : List Str) (x : Str) : List Str := if x ∈ l then l else x :: l
theorem addL_mem (l : List Str) (x y : Str) : y ∈ addL l x ↔ y ∈ l ∨ y = x := by
  unfold addL
  split
  · next h => exact ⟨.inl, fun z => z.elim id fun e => e ▸ h⟩
  · rw [List.mem_cons]; exact Or.comm
theorem addL_nodup {l : List Str} {x : Str} (h : l.Nodup) : (addL l x).Nodup := by
  unfold addL
  split
  · exact h
  · next q => exact List.nodup_cons.mpr ⟨q, h⟩
theorem addL_len (l : List Str) (x : Str) : (addL l x).length ≤ l.length + 1 := by
  unfold addL
  split
  · omega
  · simp
theorem fold_mem : ∀ (xs l : List Str) (y : Str), y ∈ xs.foldl addL l ↔ y ∈ l ∨ y ∈ xs
  | [], l, y => by simp
  | x :: xs, l, y => by rw [List.foldl_cons, fold_mem xs, addL_mem, List.mem_cons, or_assoc]
theorem fold_nodup : ∀ (xs l : List Str), l.Nodup → (xs.foldl addL l).Nodup
  | [], _, h => h
  | x :: xs, l, h => fold_nodup xs _ (addL_nodup h)
theorem fold_len : ∀ (xs l : List Str), (xs.foldl addL l).length ≤ l.length + xs.length
  | [], l => by simp
  | x :: xs, l => by
    have a := fold_len xs (addL l x)
    have b := addL_len l x
    rw [List.foldl_cons, List.length_cons]
    omega
section
variable {P : Program} {w : World} {A : Around} {E : Value → Shared → Prop} {s : Shared} {a : Addr} {l : List Str}
theorem Tx.elems {es : List (Int × Value)} (g : ∀ e ∈ es, Tx P w e) : ElemsOf (strKind P w) es := fun e he => by
  obtain ⟨x, tk, h1, h2⟩ := g e he
  exact ⟨⟨x, by rw [h1]; exact strKind_is P w x tk, h2⟩, by rw [h1]; rfl⟩
theorem Tx.is {e : Int × Value} (g : Tx P w e) (x : Str) : (strKind P w).is x e.2 = true ↔ txt e = x := by
  obtain ⟨y, tk, h1, _⟩ := g
  unfold txt
  rw [h1]
  constructor
  · intro q
    obtain ⟨t, e⟩ := Value.isStrOf_shape (x := x) (v := .str y tk) q
    cases e
    rfl
  · rintro rfl
    exact strKind_is P w y tk
theorem SetS.keep {h h' : Heap} (R : SetS P w h a l) (k : ∀ o, h.get? a = some o → h'.get? a = some o) : SetS P w h' a l := by
  obtain ⟨o, es, ep, t, ho, r⟩ := R
  exact ⟨o, es, ep, t, k o ho, r⟩
/-- entries and table as they are stored -/
structure Sto (P : Program) (w : World) (l : List Str) (es : Array (Int × Value)) (t : SetTable) : Prop where
  tx : ∀ e ∈ es.toList, Tx P w e
  mem : (es.toList.map txt).Perm l
  few : es.size < scanBound
  fit : t.fits es.size = true
  ris : Ris t.place.toList
  led : w.params.followText "set-order" = true ∨ t.led = true
theorem Sto.at {h h' : Heap} {o : Obj} {es : Array (Int × Value)} {t : SetTable} {ep : Nat} (S : Sto P w l es t) (nd : l.Nodup) (ho : h.get? a = some { o with data := .set es ep t }) (hex : o.ExactSet) : SetS P w h a l :=
  ⟨_, es, ep, t, ho, hex, rfl, S.tx, S.mem, nd, S.few, S.fit, S.ris, S.led⟩
theorem put_at {h : Heap} {o : Obj} {es es' : Array (Int × Value)} {ep : Nat} {t t' : SetTable} (ho : h.get? a = some o) (hd : o.data = .set es ep t) : (h.update a (Obj.putSet es' t')).get? a = some { o with data := .set es' (ep + 1) t' } := by
  have e := putSet_of es' t' hd
  have q := Heap.get?_update_self (Obj.putSet es' t') ho (by rw [e]; rfl)
  rwa [e] at q
/-- what follows when a new text is laid into the table -/
theorem lay_tail {g : Bool → Sem Unit} (hg : ∀ (b : Bool) (u : Shared) (R : Unit → Shared → Prop), R () u → wpAny (model P w) A (g b) R E u) {o : Obj} {es es1 : Array (Int × Value)} {ep : Nat} {t t2 : SetTable} {wd : Bool} {R : Option Bool → Shared → Prop}
    (ho : s.heap.get? a = some o) (hex : o.ExactSet) (hd : o.data = .set es ep t) (S : Sto P w l es1 t2) (nd : l.Nodup) (k : ∀ h', Heap.SameBut a s.heap h' → SetS P w h' a l → R (some true) { s with heap := h' }) :
    wpAny (model P w) A (storeSet a es1 t2 >>= fun _ => if (!wd && t2.tooFull) = true then
      (g (relayAll t2 es1 (SetTable.grown es1.size)).2.2 >>= fun _ => storeSet a (relayAll t2 es1 (SetTable.grown es1.size)).1 (relayAll t2 es1 (SetTable.grown es1.size)).2.1 >>= fun _ => pure (some true)) else pure (some true)) R E s := by
  have ho1 := put_at (es' := es1) (t' := t2) ho hd
  have sb := Heap.SameBut.update s.heap a (Obj.putSet es1 t2)
  refine wpAny_bind (wpAny_storeSet_of ho hd ?_ (fits_of_scanBound S.few))
  by_cases full : (!wd && t2.tooFull) = true
  · rw [if_pos full]
    have f1 := relayAll_perm t2 es1 (SetTable.grown es1.size)
    have f2 := relayAll_fits t2 es1 (SetTable.grown es1.size)
    have f3 := relayAll_ris t2 es1 (SetTable.grown es1.size)
    have f4 := relayAll_led t2 es1 (SetTable.grown es1.size)
    generalize relayAll t2 es1 (SetTable.grown es1.size) = r at f1 f2 f3 f4
    obtain ⟨es2, t3, gv⟩ := r
    dsimp only at f1 f2 f3 f4 ⊢
    have sz : es2.size = es1.size := by
      have := f1.length_eq
      simpa using this
    have S2 : Sto P w l es2 t3 := ⟨fun e he => S.tx e (f1.mem_iff.mp he), (f1.map txt).trans S.mem, by rw [sz]; exact S.few, f2, f3, S.led.imp id fun q => by rw [f4]; exact q⟩
    refine wpAny_bind (hg _ _ _ (wpAny_bind (wpAny_storeSet_of ho1 rfl ?_ (fits_of_scanBound S2.few))))
    exact wpAny_pure (k _ (sb.trans (Heap.SameBut.update _ a _)) (S2.at (h' := s.heap) nd (put_at ho1 rfl) hex))
  · rw [if_neg full]
    exact wpAny_pure (k _ sb (S.at (h' := s.heap) nd ho1 hex))
/-- one text more -/
theorem add_text {x : Str} {tk : Tok} {Q : Bool → Shared → Prop} (R : SetS P w s.heap a l) (room : l.length + 1 < scanBound) (k : ∀ b h', Heap.SameBut a s.heap h' → SetS P w h' a (addL l x) → Q b { s with heap := h' }) :
    wpAny (model P w) A (setAddHashed a (.str x tk) ((strKind P w).hash x)) Q E s := by
  obtain ⟨o, es, ep, t, ho, hex, hd, g, pm, nd, few, fit, ris, led⟩ := R
  have self : (strKind P w).is x (.str x tk) = true := strKind_is P w x tk
  have el := Tx.elems g
  have scan : (Value.str x tk).scannable = true := rfl
  unfold setAddHashed setAddHashedIn
  refine wpAny_holding (wpAny_bind (wpAny_setState_of ho hd fit ?_))
  dsimp only
  rw [byScan_of scan few el]
  simp only [↓reduceIte]
  unfold setAddByScan
  refine wpAny_bind (wpAny_bind (wpAny_rule (wpAny_bind (wpAny_setScan_of self ho hd fit el ?_))))
  have isx : ∀ e ∈ es.toList, ((strKind P w).is x e.2 = true ↔ txt e = x) := fun e he => (g e he).is x
  cases hf : List.findIdx? (fun e => (strKind P w).is x e.2) es.toList with
  | some j =>
    dsimp only
    obtain ⟨hj, pj, _⟩ := List.findIdx?_eq_some_iff_getElem.mp hf
    have hx : x ∈ l := pm.mem_iff.mp (List.mem_map.mpr ⟨es.toList[j], List.getElem_mem hj, (isx _ (List.getElem_mem hj)).mp pj⟩)
    have e : addL l x = l := if_pos hx
    refine wpAny_pure (wpAny_pure (k false s.heap (Heap.SameBut.refl a s.heap) ?_))
    rw [e]
    exact ⟨o, es, ep, t, ho, hex, hd, g, pm, nd, few, fit, ris, led⟩
  | none =>
    dsimp only
    have hx : x ∉ l := fun z => by
      obtain ⟨e, he, q⟩ := List.mem_map.mp (pm.mem_iff.mpr z)
      have c := List.findIdx?_eq_none_iff.mp hf e he
      rw [(isx e he).mpr q] at c
      cases c
    have e : addL l x = x :: l := if_neg hx
    rw [e] at k
    have f1 := layNew_perm t es ((strKind P w).hash x) (.str x tk)
    have f2 := layNew_fits t es ((strKind P w).hash x) (.str x tk)
    have f3 := layNew_ris t es ((strKind P w).hash x) (.str x tk) ris
    have f4 := layNew_led t es ((strKind P w).hash x) (.str x tk)
    generalize layNew t es ((strKind P w).hash x) (.str x tk) = r at f1 f2 f3 f4
    obtain ⟨es1, t1, wd, gv⟩ := r
    dsimp only at f1 f2 f3 f4 ⊢
    rw [Array.toList_push] at f1
    have len : es.size = l.length := by
      have := pm.length_eq
      simpa using this
    have len1 : es1.size = l.length + 1 := by
      have := f1.length_eq
      simp at this
      omega
    have mk : ∀ t2 : SetTable, t2.fits es1.size = true → Ris t2.place.toList → (w.params.followText "set-order" = true ∨ t2.led = true) → Sto P w (x :: l) es1 t2 := fun t2 a1 a2 a3 =>
      ⟨fun e he => by
        rcases List.mem_append.mp (f1.mem_iff.mp he) with q | q
        · exact g e q
        · rw [List.mem_singleton.mp q]; exact ⟨x, tk, rfl, rfl⟩, by
        have q := f1.map txt
        rw [List.map_append] at q
        exact (q.trans (List.perm_append_singleton _ _)).trans (pm.cons x), by rw [len1]; exact room, a1, a2, a3⟩
    have led1 : w.params.followText "set-order" = true ∨ t1.led = true := led.imp id fun q => by rw [f4]; exact q
    have nd1 : (x :: l).Nodup := List.nodup_cons.mpr ⟨hx, nd⟩
    have fin : ∀ h', Heap.SameBut a s.heap h' → SetS P w h' a (x :: l) → Q true { s with heap := h' } := fun h' sb r => k true h' sb r
    refine wpAny_bind (show wpAny _ _ (match gv with | true => rule "set.scan.the-table-gave-way" | false => pure ()) _ _ _ from ?_)
    have gate : ∀ (b : Bool) (u : Shared) (R : Unit → Shared → Prop), R () u → wpAny (model P w) A (match b with | true => rule "set.scan.the-table-gave-way" | false => pure ()) R E u := fun b u R q => by
      cases b
      · exact wpAny_pure q
      · exact wpAny_rule q
    refine gate _ _ _ ?_
    by_cases pl : t1.plain = true
    · rw [if_pos pl]
      refine wpAny_bind ?_
      rw [hashByValue_scannable 8 scan]
      refine wpAny_pure ?_
      refine lay_tail (es1 := es1) (l := x :: l) gate ho hex hd (mk _ ?_ ?_ ?_) nd1 fun h' sb r => ?_
      · first | exact f2 | (split <;> first | exact f2 | exact SetTable.fits_plain_off f2)
      · first | exact f3 | (split <;> exact f3)
      · first | exact led1 | (split <;> exact led1)
      · exact wpAny_pure (fin h' sb r)
    · rw [if_neg pl]
      refine wpAny_bind (wpAny_pure ?_)
      simp only [↓reduceIte]
      refine lay_tail (es1 := es1) (l := x :: l) gate ho hex hd (mk _ f2 f3 led1) nd1 fun h' sb r => ?_
      exact wpAny_pure (fin h' sb r)
/-- the loop of set.update over a walk of texts -/
theorem upd_loop {I : Addr} {fp wr : List Addr} {G : Array GenState → Array GenState → Prop} {n : Nat} {Pv : Nat → Value → Prop} {St : Nat → Shared → Prop} {R : Result → Shared → Prop} (W : WalksS P w A.in1 I fp wr G n Pv St) (b : Addr) (nb : b ∉ fp)
    (xs : List Str) (hn : n = xs.length) (few : xs.length + 1 < scanBound) (val : ∀ i v, Pv i v → ∃ x t, xs[i]? = some x ∧ v = .str x t) (fin : ∀ s0 s', Moved (b :: wr) G s0 s' → SetS P w s'.heap b (xs.foldl addL []) → s0 = s → R (.ok (.ret .none)) s') :
    ∀ (m i : Nat) (s1 : Shared), m + i = n → St i s1 → Moved (b :: wr) G s s1 → SetS P w s1.heap b ((xs.take i).foldl addL []) → codeAny (model P w) A (.builtin "set.update.loop" ⟨[.ref b, .ref I], []⟩) R s1
  | 0, i, s1, hm, st, mv, hS => by
    have hi : i = n := by omega
    have all : xs.take i = xs := List.take_of_length_le (by omega)
    rw [all] at hS
    refine codeAny_builtin F.entry_set_update_loop ?_
    rw [Around.under_plainId F.plain_set_update_loop _]
    subst hi
    show wpAny _ A.in1 (pyNext (.ref I) >>= _) _ _ s1
    refine wpAny_bind (W.done s1 _ _ st fun s2 hm2 => ?_)
    have hm3 := hm2.mono fun c hc => List.mem_cons_of_mem b hc
    exact wpAny_pure (fin s s2 (Moved.trans W.gtrans mv hm3) (hS.keep fun o e => hm2.heap b o (fun z => nb (W.sub _ z)) e) rfl)
  | m + 1, i, s1, hm, st, mv, hS => by
    refine codeAny_builtin F.entry_set_update_loop ?_
    rw [Around.under_plainId F.plain_set_update_loop _]
    show wpAny _ A.in1 (pyNext (.ref I) >>= _) _ _ s1
    refine wpAny_bind (W.item i s1 _ _ (by omega) st fun v s2 pv st2 hm2 => ?_)
    obtain ⟨x, t, hx, rfl⟩ := val i v pv
    have hS2 := hS.keep fun o e => hm2.heap b o (fun z => nb (W.sub _ z)) e
    have len : ((xs.take i).foldl addL []).length ≤ xs.length := by
      have a1 := fold_len (xs.take i) []
      have a2 := List.length_take_le i xs
      simp only [List.length_nil] at a1
      have a3 := List.length_take_le' i xs
      omega
    show wpAny _ A.in1 (holding [Value.str x t] (setAdd b (.str x t)) >>= _) _ _ s2
    refine wpAny_bind (wpAny_holding ?_)
    unfold setAdd
    refine wpAny_holding (wpAny_bind ((strKind P w).pyHash (k := x) (strKind_is _ _ _ _) ?_))
    refine add_text (s := { s2 with toks := s2.toks + 1 }) hS2 (by omega) fun bb h' sb hS3 => wpAny_pure ⟨plainId_quiet F.plain_set_update_loop _, ?_⟩
    have stp : (xs.take (i + 1)).foldl addL [] = addL ((xs.take i).foldl addL []) x := by
      rw [List.take_add_one, hx, List.foldl_append]
      rfl
    refine upd_loop W b nb xs hn few val fin m (i + 1) _ (by omega) (W.frame _ s2 _ _ st2 (Nat.le_succ _) fun c hc o e => ?_) (Moved.trans W.gtrans mv ((hm2.mono fun c hc => List.mem_cons_of_mem b hc).then_heap (Nat.le_succ _) fun c o hc e => ?_)) (by rw [stp]; exact hS3)
    · rw [sb.2 c (fun z : c = b => nb (by rw [← z]; exact hc))]
      exact e
    · rw [sb.2 c (fun z : c = b => hc (by rw [z]; exact List.mem_cons_self))]
      exact e
/-- the new set, empty -/
abbrev set0 (w : World) : Obj := { cls := .type "set", dict := none, data := .set #[] 0 (.fresh 0 0 (!w.params.followText "set-order")) }
theorem set0_at {h : Heap} (ho : h.get? a = some (set0 w)) : SetS P w h a [] := by
  refine ⟨_, #[], 0, _, ho, ⟨rfl, rfl, rfl⟩, rfl, (fun e he => by simp at he), by simp, List.nodup_nil, by decide, by rfl, List.Pairwise.nil, ?_⟩
  show _ ∨ (!w.params.followText "set-order") = true
  cases w.params.followText "set-order" <;> simp
/-- set(t), t a tuple of texts -/
theorem set_of_tup {c : Addr} {items : Array Value} (xs : List Str) {Q : Value → Shared → Prop} (hh : A.handled = none) (hc : s.heap.IsTuple c items) (hx : StrsAre items.toList xs) (few : xs.length + 1 < scanBound)
    (k : ∀ h' tk, SetS P w h' s.heap.objs.size (xs.foldl addL []) → (∀ b o, s.heap.get? b = some o → h'.get? b = some o) → Q (.ref s.heap.objs.size) { s with heap := h', toks := tk }) : wpAny (model P w) A (call (.type "set") [.ref c]) Q E s := by
  have len : items.size = xs.length := by
    have q := hx.length
    simpa using q
  obtain ⟨cc, tl, hmro⟩ := F.called_set.mro
  have m1 := F.called_set.made
  have m2 := F.called_set.sub
  have m3 := F.called_set.notType
  have m4 := F.called_set.canCreate
  have m5 := F.typeCall_set_1 (.ref c)
  refine wpAny_call (codeAny_of_tree (show wpAny _ _ (callAny (.type "set") _) _ _ _ from wpAny_pure ⟨Code.quiet_builtin _ (by decide +kernel), codeAny_builtin F.entry_type_call ?_⟩))
  rw [Around.under_plain (weight_type_call_type "set" [.ref c] []) rfl]
  repeat (any_goals (first | assumption | wp_step))
  refine codeAny_mono (code_set_led1 (.ref c) (E := E) (Q₁ := fun ob s1 => ob = .ref s.heap.objs.size ∧ s1 = { s with heap := s.heap.push (set0 w) }) ⟨rfl, rfl⟩) fun r s1 hr => ?_
  cases r with
  | error e => exact hr
  | ok fl =>
  cases fl with
  | ret ob =>
    obtain ⟨rfl, rfl⟩ := hr
    have o0 : (s.heap.push (set0 w)).get? s.heap.objs.size = some (set0 w) := Heap.get?_push_size _ rfl
    have ty : Shared.TypeIs { s with heap := s.heap.push (set0 w) } (.ref s.heap.objs.size) "set" := ⟨_, o0, rfl⟩
    have i1 := F.called_set.init.lookup
    have i2 := F.called_set.init.bind (.ref s.heap.objs.size)
    repeat (any_goals (first | assumption | wp_step))
    refine codeAny_mono (codeAny_call_builtin (R := wants (fun r s2 => r = .none ∧ ∃ h' tk, s2 = { s with heap := h', toks := tk } ∧ SetS P w h' s.heap.objs.size (xs.foldl addL []) ∧ (∀ b o, s.heap.get? b = some o → h'.get? b = some o)) E)
      F.called_set.init.plain F.entry_set_init (check_set_init_1 ty ?_)) fun r2 s2 hr2 => ?_
    · obtain ⟨ot, hot, hcl, nt, hdt⟩ := id hc
      have hot' : (s.heap.push (set0 w)).get? c = some ot := Heap.get?_push_of_some _ hot
      have tup1 : (s.heap.push (set0 w)).IsTuple c items := ⟨_, hot', hcl, nt, hdt⟩
      have n1 := F.sub_tuple_set
      have n2 := F.sub_tuple_frozenset
      have n3 : (Value.type "tuple" == Value.type "dict") = false := by decide
      obtain ⟨ocls, odict, odata, oslots⟩ := ot
      simp only at hcl hdt
      subst hcl; subst hdt
      unfold Builtin.«set.__init__» noKeywords Builtin.Frozenset.updateFrom
      generalize hPI : pyIter = PI
      wp_walk
      subst hPI
      refine wpAny_pyIter_tuple tup1 (wpAny_bind (wpAny_runValue ?_))
      have lt : c < s.heap.objs.size := Heap.lt_size hot
      have h3 : A.in1.in1.in1.handled = none := by simp [hh]
      have z1 : (s.heap.push (set0 w)).objs.size = s.heap.objs.size + 1 := Heap.size_push ..
      have ne1 : c ≠ (s.heap.push (set0 w)).objs.size := by rw [z1]; exact Nat.ne_of_lt (Nat.lt_succ_of_lt lt)
      have nb : s.heap.objs.size ∉ [(s.heap.push (set0 w)).objs.size, c] := by
        rw [z1]
        simp only [List.mem_cons, List.not_mem_nil, or_false, not_or]
        exact ⟨Nat.ne_of_lt (Nat.lt_succ_self _), Nat.ne_of_gt lt⟩
      have val : ∀ (i : Nat) (v : Value), items[i]? = some v → ∃ x t, xs[i]? = some x ∧ v = .str x t := fun i v hv => by
        have : ∀ {us : List Value} {ss : List Str}, StrsAre us ss → ∀ (i : Nat) (v : Value), us[i]? = some v → ∃ x t, ss[i]? = some x ∧ v = .str x t := by
          intro us ss hs
          induction hs with
          | nil => intro i v h; simp at h
          | cons x t _ ih =>
            intro i v h
            cases i with
            | zero => simp at h; exact ⟨x, t, rfl, h.symm⟩
            | succ i => simpa using ih i v (by simpa using h)
        exact this hx i v (by rw [Array.getElem?_toList]; exact hv)
      refine upd_loop ((Walks.tuple h3 _ c ne1 items).toS) s.heap.objs.size nb xs len few val (fun s0 s' hm hS e0 => ?_) items.size 0 _ (by omega) ⟨⟨_, Heap.get?_push_size _ rfl, rfl, rfl⟩, tup1.push _⟩ (Moved.refl fun _ => rfl) ?_
      · subst e0
        obtain ⟨h', g2, d', tk', os'⟩ := s'
        have a1 : g2 = s.gens := hm.gens
        have a2 : d' = s.drawn := hm.drawn
        have a3 : os' = s.os := hm.os
        subst a1; subst a2; subst a3
        show wpAny _ _ _ _ _ _
        refine wpAny_pure (show wpAny _ _ (ret Value.none) _ _ _ from wpAny_pure ⟨rfl, h', tk', rfl, hS, fun b o e => hm.heap b o ?_ (Heap.get?_push_of_some _ (Heap.get?_push_of_some _ e))⟩)
        have b0 : b < s.heap.objs.size := Heap.lt_size e
        simp only [List.mem_cons, List.not_mem_nil, or_false, not_or]
        exact ⟨Nat.ne_of_lt b0, by rw [z1]; exact Nat.ne_of_lt (Nat.lt_succ_of_lt b0)⟩
      · exact set0_at (Heap.get?_push_of_some _ o0)
    · cases r2 with
      | error e => exact hr2
      | ok fl2 =>
      cases fl2 with
      | ret r =>
        obtain ⟨rfl, h', tk, rfl, hS, hk⟩ := hr2
        repeat (any_goals (first | assumption | wp_step))
        exact k h' tk hS hk
      | _ => exact hr2.elim
  | _ => exact hr.elim
/-- sorted(a set of texts) -/
theorem sort_set {Q : Value → Shared → Prop} (R : SetS P w s.heap a l) (hh : A.handled = none) (few : l.length < 64)
    (k : ∀ s' p (out : Array Value) (n : Nat) (ys : List Str), (∀ b o, s.heap.get? b = some o → s'.heap.get? b = some o) → s'.gens = s.gens → s'.os = s.os → s.heap.objs.size ≤ p → s'.heap.get? p = some (seqObj "list" out n) →
      StrsAre out.toList ys → ys.Perm l → sortedS ys = true → Q (.ref p) s') : wpAny (model P w) A (call (.builtin "sorted") [.ref a]) Q E s := by
  obtain ⟨o, es, ep, t, ho, hex, hd, g, pm, nd, fb, fit, ris, led⟩ := R
  refine Calls.call_function_entry kind_sorted plain_sorted entry_sorted (args_sorted1 _) ?_
  unfold Builtin.«sorted»
  refine wpAny_bind (m := checkCount "sorted" 1 1 _) (wpAny_pure (wpAny_bind (collect_set (A := A.in1) hh ⟨o, ho, hex.1, hd⟩ fit fb ris led fun s1 vs k1 hz g1 o1 vp => ?_)))
  have all : ∀ v ∈ vs, ∃ x t, v = Value.str x t := fun v hv => by
    obtain ⟨e, he, q⟩ := List.mem_map.mp (vp.mem_iff.mp hv)
    obtain ⟨x, tk, h1, _⟩ := g e he
    exact ⟨x, tk, by rw [← q]; exact h1⟩
  have hS := strsAre_map vs all
  have pl : (vs.map strOf).Perm l := by
    have q := vp.map strOf
    rw [List.map_map] at q
    refine q.trans (List.Perm.trans (List.Perm.of_eq ?_) pm)
    refine List.map_congr_left fun e he => ?_
    obtain ⟨x, tk, h1, _⟩ := g e he
    show strOf e.2 = txt e
    unfold txt
    rw [h1]
    rfl
  have lv : vs.length = l.length := by
    have q := pl.length_eq
    simpa using q
  refine wpAny_bind (wpAny_newList ?_ (by rw [lv, sizeLine_eq]; omega))
  have hoL : (s1.heap.push (seqObj "list" vs.toArray 0)).get? s1.heap.objs.size = some (seqObj "list" vs.toArray 0) := Heap.get?_push_size _ rfl
  refine wpAny_bind (wpAny_holding (wpAny_call_entry slot_list_sort ⟨_, hoL, rfl⟩ entry_list_sort (list_sort_treeK strKind_oneLt (s := { s1 with heap := s1.heap.push (seqObj "list" vs.toArray 0) }) hoL hS.keysOf (fun v₁ v₂ rest e => keyKind_strs (by rw [← e]; exact hS)) (by rw [lv]; exact few) fun st' hp hs => ⟨_, rfl, ?_⟩) (args_list_sort _)))
  obtain ⟨ys, g1', g2, g3⟩ := sorted_out_str hS hp hs
  obtain ⟨e', he'⟩ := sortedHeap_at (vs := vs) (out := (arrOf st').map (·.2)) hoL
  refine wpAny_pure ⟨_, rfl, k _ s1.heap.objs.size ((arrOf st').map (·.2)) e' ys (fun b u e => ?_) g1 o1 hz he' g1' (g2.trans pl) g3⟩
  have q := k1 b u e
  have lt := Heap.lt_size q
  show (sortedHeap (s1.heap.push (seqObj "list" vs.toArray 0)) s1.heap.objs.size vs _).get? b = some u
  rw [sortedHeap_old (Nat.ne_of_lt lt) (by rw [size_push']; exact Nat.lt_succ_of_lt lt)]
  exact Heap.get?_push_of_some _ q
end
/-- the set of texts at a -/
def SetSO (P : Program) (w : World) (a : Addr) (l : List Str) : HO := .ext fun h => SetS P w h a l
/-- set(t) -/
def rSetT (P : Program) (w : World) (K : PySem.W.Frag) : List V → Hp → VK → Prop := fun xs H Q => ∃ (a : Addr) (ss : List Str), xs = [V.ref a] ∧ SqT K H a (ss.map V.str) ∧ ss.length ≤ 1000 ∧ ∀ p, H p = none → Q (.ref p) (upd H p (SetSO P w p (ss.foldl addL [])))
/-- sorted(s) -/
def rSortT (P : Program) (w : World) : List V → Hp → VK → Prop := fun xs H Q => ∃ (a : Addr) (l : List Str), xs = [V.ref a] ∧ H a = some (SetSO P w a l) ∧ l.length < 64 ∧ ∀ ys p, ys.Perm l → sortedS ys = true → H p = none → Q (.ref p) (upd H p (.lst (ys.map V.str)))
section
variable {X : Cx}
theorem call_setT (calm : X.calm = true) : CallR X (.type "set") (rSetT X.prog X.w X.K) := by
  intro pins s σ H xs us Q I r h
  obtain ⟨a, ss, rfl, ha, few, q⟩ := h
  obtain ⟨u, rfl, rx⟩ := vals1 r
  cases rx
  obtain ⟨its, rv, pt, _⟩ := I.tuple ha
  refine set_of_tup ss (I.ok.hd calm) pt rv.strs (Nat.lt_of_le_of_lt (Nat.succ_le_succ few) (by decide)) fun h' tk hS hk => ?_
  refine ⟨.ref s.heap.objs.size, upd H s.heap.objs.size (SetSO X.prog X.w s.heap.objs.size (ss.foldl addL [])), I.laid (t' := tk) hk (Nat.le_refl _) ⟨hS, ?_, fun h1 h2 p kp => SetS.keep p kp⟩, rfl, q _ (I.hok.fresh (Nat.le_refl _))⟩
  obtain ⟨o, _, _, _, ho, _⟩ := hS
  exact ⟨o, ho⟩
theorem call_sortT (calm : X.calm = true) : CallR X (.builtin "sorted") (rSortT X.prog X.w) := by
  intro pins s σ H xs us Q I r h
  obtain ⟨a, l, rfl, ha, few, q⟩ := h
  obtain ⟨u, rfl, rx⟩ := vals1 r
  cases rx
  have R : SetS X.prog X.w s.heap a l := (I.hok a _ ha).1
  refine sort_set R (I.ok.hd calm) few fun s' p out n ys k1 k2 k3 hp hn st pm so => ?_
  have lz : (ys.map V.str).length ≤ sizeLine := by
    rw [List.length_map, pm.length_eq]
    exact sz_of (by omega)
  have fresh : H p = none := I.hok.fresh hp
  have lay : ObjOk X.prog X.w (upd H p (.lst (ys.map V.str))) s'.heap p (.lst (ys.map V.str)) := ⟨lz, out.toList, n, vals_of_strs st, hn⟩
  obtain ⟨h2, g2, d2, t2, o2⟩ := s'
  have k2 : g2 = s.gens := k2
  have k3 : o2 = s.os := k3
  subst k2; subst k3
  exact ⟨.ref p, _, I.call (ch := []) (Un.laid k1 hp fresh) (I.hok.laid k1 hp lay) I.bare (fun _ z => nomatch z), rfl, q ys p pm so fresh⟩
end
end K16

set_option Elab.async false
set_option linter.all false
set_option maxRecDepth 100000
set_option maxHeartbeats 4000000
/-! KBoth: both -/
namespace K16
open PySem PySem.Spec PyProof.Rows L2 Evl
def fBoth : List PyData → PyData → Prop := fun ds d => ∃ E a b, ds = [tstr a, tstr b] ∧ EnvOk E ∧ worthsOk E a b = true ∧ d = tstr (both E a b)
section
variable {K : PySem.W.Frag} {P : Program} {w : World} {σ : L2.St} {H : Hp} {te : TE}
theorem worths_in {E : Env} {a b : List Str} (h : worthsOk E a b = true) : (∀ x ∈ a, x ∈ E.Ws) ∧ (∀ x ∈ b, x ∈ E.Ws) ∧ a.length + b.length < 60 := by
  unfold worthsOk at h
  rw [Bool.and_eq_true, Bool.and_eq_true, List.all_eq_true, List.all_eq_true, decide_eq_true_eq] at h
  exact ⟨fun x hx => of_decide_eq_true (h.1 x hx), fun x hx => of_decide_eq_true (h.2.1 x hx), h.2.2⟩
/-- tuple(sorted(set(t))), t a tuple of worths -/
theorem evd_tss {E : Env} {a b : List Str} (ok : EnvOk E) (hw : worthsOk E a b = true) (h : EvD te σ H (tstr (a ++ b))) : EvD (tCB (rTupQ K) (tCons (tCB (rSortT P w) (tCons (tCB (rSetT P w K) (tCons te tNil)) tNil)) tNil)) σ H (tstr (both E a b)) := fun H1 e1 Q q =>
  h H1 e1 _ fun v H2 e2 iv => by
    obtain ⟨c, xs, rfl, hc, hx⟩ := iv.tup_
    have := hx.strs_
    subst this
    obtain ⟨wa, wb, few⟩ := worths_in hw
    have ln := fold_len (a ++ b) []
    simp only [List.length_append, List.length_nil, Nat.zero_add] at ln
    refine ⟨c, a ++ b, rfl, SqT.of hc, by rw [List.length_append]; omega, fun p hp => ⟨p, _, rfl, upd_same, by omega, fun ys r pm so hr => ?_⟩⟩
    have hy : ys = both E a b := by
      refine eq_of_inc (sorted_inc so (pm.nodup_iff.mpr (fold_nodup _ _ List.nodup_nil))) (ok.ws.filter _) fun x => ?_
      unfold both
      rw [pm.mem_iff, fold_mem, List.mem_filter, List.mem_append, decide_eq_true_eq]
      constructor
      · rintro (z | z)
        · cases z
        · exact ⟨z.elim (wa x) (wb x), z⟩
      · exact fun z => .inr z.2
    refine ⟨r, ys.map V.str, rfl, .inl ⟨SqL.of upd_same, fun l hl => q _ _ ((e2.trans (Ex.new hp)).trans ((Ex.new hr).trans (Ex.new hl))) ?_⟩⟩
    rw [hy]
    exact .tup upd_same (Ims.strs _)
end
section
variable {P : Program} {w : World} {K : PySem.W.Frag} {mg : Str → Option Value} {base : Heap}
theorem sc_both : FnScope ["ones", "others"] ["ones", "others"] (defScope s_both) := ⟨rfl, rfl, rfl, by decide +kernel, rfl, by decide +kernel, by decide +kernel⟩
theorem ok_both (T : Fx K mg) : C8.Cal P w K mg base 1 "both" (spD fBoth) [] := by
  obtain ⟨fd, F⟩ := T.f_both
  refine cal_of F T.g_both sc_both (fun _ _ _ _ _ _ us hl => match us, hl with | [_, _], _ => rfl) (spD_len (n := 2) (by rintro _ _ ⟨E, a, b, rfl, _⟩; rfl)) fun cdv A outer s H vs Q E0 hr hsp => ?_
  obtain ⟨_, _, ⟨E, a, b, rfl, ok, hw, rfl⟩, hi, k⟩ := hsp
  obtain ⟨va, vb, rfl, ia, ib⟩ := hi.two
  refine ⟨_, (pss_one (ps_ret (pe_callTy call_tuple_of (by rfl) T.tuple_ boot_tuple (pa_cons (pe_callB (call_sortT rfl) (by rfl) T.sorted_ boot_sorted (pa_cons (pe_callTy (call_setT rfl) (by rfl) T.set_ boot_set (pa_cons (pe_op op_catA (pv 0) (pv 1)) pa_nil)) pa_nil)) pa_nil)))), ?_⟩
  have few := (worths_in hw).2.2
  refine qd_ret (evd_tss (P := P) (w := w) (E := E) ok hw ?_) k
  have := evd_cat (K := K) (evd_var (i := 0) (σ := L2.start ["ones", "others"] [va, vb]) rfl ia) (evd_var (i := 1) rfl ib) (by simp; omega)
  rw [← List.map_append] at this
  exact this
end
end K16

set_option Elab.async false
set_option linter.all false
set_option maxRecDepth 100000
set_option maxHeartbeats 4000000
/-! KRunD: take_away, change -/
namespace K16
open PySem PySem.Spec PyProof.Rows L2 Evl
/-- a frame on top, a word that works on what it holds; what the word does -/
def spTake (K : PySem.W.Frag) : Sp := fun vs H Q _ => ∃ E p given H0 c f d fs vo vpl s w v cp t rest t' l, vs = [.ref c.r, .ref f, v] ∧ EnvOk E ∧ RunX K E p given H0 c ((f, d) :: fs) vo vpl H s ∧ Im H v (encW w) ∧
  ((∃ x, w = .wipe x) ∨ (∃ r, w = .clear r) ∨ ∃ bs, w = .drop bs) ∧ s.frames = (cp, t) :: rest ∧ (full E).plain s.place w none t s.log = some (t', l) ∧ ∀ H', RunAt K E p given H0 c H' { s with frames := (cp, t') :: rest, log := l } → KT H H' → Q .non H'
/-- the answer that a word is given, the run behind it -/
def Ans {E : Env} (given : List Int) (s : MS (full E)) (w : Word) (a : Option Int) (s1 : MS (full E)) : Prop :=
  (need w = none ∧ a = none ∧ s1 = s) ∨ ∃ m v, need w = some m ∧ given[s.used]? = some v ∧ 0 ≤ v ∧ v < (m : Int) ∧ a = some v ∧ s1 = { s with used := s.used + 1 }
def spChange (K : PySem.W.Frag) : Sp := fun vs H Q _ => ∃ E p given H0 c s s1 a w v cp t rest t' l, vs = [.ref c.r, v] ∧ EnvOk E ∧ RunAt K E p given H0 c H s ∧ Im H v (encW w) ∧
  Ans given s w a s1 ∧ s.frames = (cp, t) :: rest ∧ (full E).plain s.place w a t s.log = some (t', l) ∧ ∀ H', RunAt K E p given H0 c H' { s1 with frames := (cp, t') :: rest, log := l } → KT H H' → Q .non H'
theorem full_plain {E : Env} {pl : Place} {w : Word} {a : Option Int} {t t' : Things} {l l' : Log} (h : (full E).plain pl w a t l = some (t', l')) :
    boxesOk E w = true ∧ plainT E w a t = some t' ∧ l' = plainL E pl w t l ∧ l'.1.length ≤ 100000 ∧ l'.2.length ≤ 100000 := by
  have h : (if boxesOk E w = true then (plainT E w a t).bind fun t' => (okLog (plainL E pl w t l)).map fun l' => (t', l') else none : Option (Things × Log)) = some (t', l') := h
  by_cases hb : boxesOk E w = true
  · rw [if_pos hb] at h
    obtain ⟨t2, h1, h2⟩ := Option.bind_eq_some_iff.mp h
    obtain ⟨l2, h3, h4⟩ := Option.map_eq_some_iff.mp h2
    obtain ⟨rfl, rfl⟩ := Prod.mk.inj h4
    obtain ⟨h5, z1, z2⟩ := okLog_some h3
    exact ⟨hb, h1, h5, h5 ▸ z1, h5 ▸ z2⟩
  · rw [if_neg hb] at h
    cases h
theorem ex_kp {H0 H H' : Hp} {d : Addr} (e : Ex H0 H) (k : Kp [d] H H') (n : H0 d = none) : Ex H0 H' := fun a o h => k a o (e a o h) fun z => by rw [List.mem_singleton.mp z, n] at h; cases h
section
variable {K : PySem.W.Frag} {mg : Str → Option Value} {E : Env} {p : Prog} {given : List Int} {H0 : Hp} {c : RC} {fs : List (Addr × Addr)} {vo vpl : V} {H H' : Hp} {s : MS (full E)} {σ : L2.St} {ta tf tp te : TE} {D : Ends} {tz : TS}
/-- self.answer(m), as a value -/
theorem RunX.eAns (h : RunX K E p given H0 c fs vo vpl H s) {tn : TE} {v m : Int} {Q : VK} (ha : Ev ta σ H (.ref c.r)) (hn : EvD tn σ H (.int m)) (hv : given[s.used]? = some v) (h0 : 0 ≤ v) (hm : v < m)
    (k : ∀ H', RunX K E p given H0 c fs vo vpl H' { s with used := s.used + 1 } → KT H H' → Kp [c.r] H H' → Q (.int v) H') : tMeth (CR K) "answer" (spAnswer K) [] C8.E0 ta (tCons tn tNil) σ H Q := by
  refine ha H (Ex.refl H) _ fun H1 e1 => ⟨c.r, c.dx, _, rfl, (h.ex e1).obj, rfl, hn H1 e1 _ fun u H2 e2 iu => ?_⟩
  exact ⟨E, p, given, H0, c, fs, vo, vpl, s, v, m, by rw [iu.int_]; rfl, h.ex (e1.trans e2), hv, h0, hm, fun H' r kt kp => k H' r ((KT.of (e1.trans e2)).trans kt) ((Kp.of (e1.trans e2)).trans kp)⟩
/-- self.frames[-1] -/
theorem RunX.eTop {x : Addr × Addr} {i : Int} (h : RunX K E p given H0 c (x :: fs) vo vpl H s) (T : Fx K mg) (ha : Ev ta σ H (.ref c.r)) : Ev (tOp (rIxL K) (tFld K ta "frames") (tUn (rU fun i => .int (-i)) (tC (.int 1)))) σ H (.ref x.1) := fun H2 e2 Q2 q2 =>
  (h.eFrs T ha) H2 e2 _ fun H3 e3 => ⟨1, rfl, c.lf, _, -1, .ref x.1, rfl, rfl, sq_of (e3 _ _ (e2 _ _ h.frs)), by
    simp only [List.reverse_cons, List.map_append]
    exact atI_last _ _, q2 H3 e3⟩
theorem q_seq {tu : TS} (h : tu { D with nx := tz D } σ H) : tSeq tu tz D σ H := h
theorem sd_set {i : Nat} {d : PyData} (h : EvD te σ H d) (k : ∀ v H1, Ex H H1 → Im H1 v d → D.nx (σ.set i (some v)) H1) : tAsg te (gName i) D σ H := h.go fun v H1 e1 i1 => k v H1 e1 i1
theorem sd_setL {i : Nat} {ds : List PyData} (h : EvLD te σ H ds) (k : ∀ p vs H1, H p = none → Ex H H1 → H1 p = some (.lst vs) → Ims H1 vs ds → D.nx (σ.set i (some (.ref p))) H1) : tAsg te (gName i) D σ H := h H (Ex.refl H) _ k
theorem qd_frame {i : Nat} {cp : PyData} (he : EvD te σ H cp) (k : ∀ f d vc H', Ex H H' → H f = none → H d = none → FrH K H' f vc d → Im H' vc cp → H' d = some (.dK []) → tz D (σ.set i (some (.ref f))) H') :
    tSeq (tAsg (tMake (CF K) (spFrame K) [] C8.E0 (tCons te tNil)) (gName i)) tz D σ H := ev_frame (Q := fun v H' => tz D (σ.set i (some v)) H') he k
/-- list(d) -/
def rLstD : List V → Hp → VK → Prop := fun xs H Q => ∃ (a : Addr) (kvs : List (Key × V)), xs = [V.ref a] ∧ Rd H a (.dK kvs) ∧ ∀ p, H p = none → Q (.ref p) (upd H p (.lst (kvs.map fun kv => kV kv.1)))
theorem evl_lstD {d : Addr} {kvs : List (Key × V)} {ks : List Str} (h : Ev te σ H (.ref d)) (hk : H d = some (.dK kvs)) (hks : kvs.map (·.1) = ks.map Sum.inr) : EvLD (tCB rLstD (tCons te tNil)) σ H (ks.map PyData.str) := fun H1 e Q q =>
  h H1 e _ fun H2 e2 => ⟨d, kvs, rfl, .inl (e2 _ _ (e _ _ hk)), fun l hl => by
    have e3 : kvs.map (fun kv => kV kv.1) = ks.map V.str := by
      have : kvs.map (fun kv => kV kv.1) = (kvs.map (·.1)).map kV := by rw [List.map_map]; rfl
      rw [this, hks, List.map_map]
      rfl
    rw [e3]
    exact q l _ _ (fresh_back e2 hl) (e2.trans (Ex.new hl)) upd_same (Ims.strs _)⟩
/-- list(a tuple) -/
def rLstT (K : PySem.W.Frag) : List V → Hp → VK → Prop := fun xs H Q => ∃ p ys, xs = [V.ref p] ∧ (SqL K H p ys ∨ SqT K H p ys) ∧ ∀ l, H l = none → Q (.ref l) (upd H l (.lst ys))
theorem evl_lstT {ds : List PyData} (h : EvD te σ H (.tuple ds)) : EvLD (tCB (rLstT K) (tCons te tNil)) σ H ds := fun H1 e Q q =>
  h H1 e _ fun v H2 e2 iv => by
    obtain ⟨a, xs, rfl, ha, hx⟩ := iv.tup_
    exact ⟨a, xs, rfl, .inr (SqT.of ha), fun l hl => q l _ _ (fresh_back e2 hl) (e2.trans (Ex.new hl)) upd_same (hx.ex (Ex.new hl))⟩
theorem th_bs {kvs : List (Key × V)} {t : Things} (h : ThD E H kvs t) {b : Str} (hb : t b ≠ none0) : b ∈ E.Bs := by
  rcases h.val b with ⟨h1, _⟩ | ⟨_, v, h2, _⟩
  · exact absurd h1 hb
  · obtain ⟨b', hb', e⟩ := h.keys _ (valV_in h2)
    rw [Sum.inr.inj e]
    exact hb'
theorem clear_eq {t : Things} {ks : List Str} {r : Str} (h : ∀ b, t b ≠ none0 → b ∈ ks) : wipeAll t (ks.filter fun b => inRecord b r) = fun c => if inRecord c r = true then none0 else t c := by
  funext c
  unfold wipeAll
  by_cases hc : inRecord c r = true
  · rw [if_pos hc]
    by_cases hk : c ∈ ks
    · rw [if_pos (List.mem_filter.mpr ⟨hk, hc⟩)]
    · rw [if_neg (fun z => hk (List.mem_filter.mp z).1 : ¬ c ∈ ks.filter fun b => inRecord b r)]
      exact Classical.byContradiction fun z => hk (h c z)
  · rw [if_neg hc, if_neg (fun z => hc (List.mem_filter.mp z).2 : ¬ c ∈ ks.filter fun b => inRecord b r)]
theorem drop_fold (t : Things) : ∀ (bs : List Str) (g : Things), (bs.foldl (fun g b => put g b (t b)) g) = fun c => if c ∈ bs then t c else g c
  | [], g => by funext c; simp
  | b :: bs, g => by
    rw [List.foldl_cons, drop_fold t bs]
    funext c
    unfold put
    by_cases h1 : c ∈ bs <;> by_cases h2 : c = b <;> simp [h1, h2]
end
section
variable {P : Program} {w : World} {K : PySem.W.Frag} {mg : Str → Option Value} {base : Heap}
theorem sc_Run_take_away : FnScope ["self", "frame", "word", "boxes", "dropped", "box"] ["self", "frame", "word"] (defScope m_Run_take_away) := ⟨rfl, rfl, rfl, by decide +kernel, rfl, by decide +kernel, by decide +kernel⟩
theorem ok_take_away (T : Fx K mg) : C8.Met P w K mg base 3 (CR K) "take_away" (spTake K) [] := by
  obtain ⟨fd, F⟩ := T.f_Run_take_away
  have c_in_record := ok_in_record (P := P) (w := w) (base := base) T
  have c_Frame := ok_Frame (P := P) (w := w) (base := base) T
  have c_Frame_look := ok_look (P := P) (w := w) (base := base) T
  have c_Frame_put := ok_put (P := P) (w := w) (base := base) T
  have c_Frame_empty := ok_empty (P := P) (w := w) (base := base) T
  have c_Frame_kept_here := ok_kept (P := P) (w := w) (base := base) T
  refine met_of T.cls_Run T.me_Run_take_away F sc_Run_take_away (fun _ _ _ _ _ _ us hl => match us, hl with | [_, _, _], _ => rfl) (by rintro vs H Q E ⟨_, _, _, _, _, _, _, _, _, _, _, _, _, _, _, _, _, _, rfl, _⟩; rfl) fun cdv A outer s0 H vs Q E0 hr hsp => ?_
  obtain ⟨E, p, given, H0, c, f, d, fs, vo, vpl, s, wd, v, cp, t, rest, t', l, rfl, ok, h, iv, hw, hfr, hpl, k⟩ := hsp
  refine ⟨_, (pss_cons (ps_set (i := 3) sc_Run_take_away.nd rfl (.inl rfl) (pe_lst (pa_cons (pe_ix ix_tup (pv 2) pe_int (fun _ _ => rfl)) pa_nil)))
    (pss_cons (ps_if (pt_cmpR op_eq (pe_ix ix_tup (pv 2) pe_int (fun _ _ => rfl)) pe_str (nomark _))
    (pss_one (ps_setLc (i := 3) (own := [("box", 5)]) rfl sc_Run_take_away.nd rfl rfl (sw_true rfl rfl rfl (by decide +kernel)) (pi_list (pe_callTy (call_listD rfl) (by rfl) T.list_ boot_list (pa_cons (pe_fld (pv 1) rfl) pa_nil))) (blkOk_by (own := [("box", 5)]) (N := ["self", "frame", "word", "boxes", "dropped", "box"]) (sc := defScope m_Run_take_away) (by decide +kernel)) (fun _ _ _ _ _ => pg_name (i := 5) sc_Run_take_away.nd rfl (.inl rfl)) (fun _ _ _ _ _ => by exact pts_one (pt_val (C8.pe_c c_in_record hr (by omega) rfl (pa_cons (pv 5) (pa_cons (pe_ix (ix_tupK K) (pv 2) pe_int (fun _ _ => rfl)) pa_nil))))) (fun _ _ _ _ _ => by exact (pv 5))))
    (pss_one (ps_if (pt_cmpR op_eq (pe_ix ix_tup (pv 2) pe_int (fun _ _ => rfl)) pe_str (nomark _))
    (pss_cons (ps_set (i := 3) sc_Run_take_away.nd rfl (.inl rfl) (pe_callTy call_list_of (by rfl) T.list_ boot_list (pa_cons (pe_ix ix_tup (pv 2) pe_int (fun _ _ => rfl)) pa_nil)))
    (pss_cons (ps_set (i := 4) sc_Run_take_away.nd rfl (.inl rfl) (C8.pe_mk c_Frame hr (by omega) rfl (pa_cons pe_non pa_nil)))
    (pss_cons (ps_for PassesOwn.never rfl (pi_list (pv 3)) (pg_name (i := 5) sc_Run_take_away.nd rfl (.inl rfl))
    (pss_one (ps_expr (C8.pe_mt c_Frame_put hr (by omega) (pv 4) (pa_cons (pv 5) (pa_cons (C8.pe_mt c_Frame_look hr (by omega) (pv 1) (pa_cons (pv 5) pa_nil)) pa_nil))))))
    (pss_one (ps_expr (pe_bm PySem.F.plainAttrs_list PySem.F.slot_list_extend PySem.F.type_list_extend mt_extend (pe_fld (pv 0) rfl) (pa_cons (C8.pe_mt c_Frame_kept_here hr (by omega) (pv 4) (pa_cons (pe_fld (pv 0) rfl) pa_nil)) pa_nil)))))))
    pss_nil)))
    (pss_one (ps_expr (C8.pe_mt c_Frame_empty hr (by omega) (pv 1) (pa_cons (pv 3) pa_nil)))))), ?_⟩
  obtain ⟨hbx, hpt, rfl, z1, z2⟩ := full_plain hpl
  have hfa := h.fr
  rw [hfr] at hfa
  obtain ⟨⟨vc, f1, f2, f3⟩, f4⟩ := hfa
  -- how all ways end
  have fin : ∀ {H2 : Hp} {l : Addr} {bs : List Str} {x y : Option V} {t2 : Things} {s2 : MS (full E)}, KT H H2 → RunX K E p given H0 c ((f, d) :: fs) vo vpl H2 s2 → s2.frames = (cp, t) :: rest → H2 l = some (.lst (bs.map V.str)) → wipeAll t bs = t2 →
      (∀ H', RunAt K E p given H0 c H' { s2 with frames := (cp, t2) :: rest } → KT H H' → Q .non H') → tDrop (tMeth (CF K) "empty" (spEmpty K) [] C8.E0 (tVar 1) (tCons (tVar 3) tNil)) { nx := fun _ H' => Q .non H', rt := Q } [some (.ref c.r), some (.ref f), some v, some (.ref l), x, y] H2 := fun {H2 l bs x y t2 s2} kt h2 hs2 hl he kk => by
    have hfa := h2.fr
    rw [hs2] at hfa
    obtain ⟨⟨vc, g1, g2, g3⟩, g4⟩ := hfa
    refine sd_emptyL (ev_var rfl) g1 g3 (ev_var rfl) hl fun H3 k3 t3 => ?_
    rw [he] at t3
    obtain ⟨h3, kt3⟩ := h2.top hs2 k3 t3
    exact kk H3 ⟨_, _, _, h3⟩ (kt.trans kt3)
  rcases hw with ⟨x, rfl⟩ | ⟨r, rfl⟩ | ⟨bs, rfl⟩
  · -- wipe
    refine qd_lst (ds := [.str x]) (evds_cons (evd_at 1 (evd_var rfl iv) (by simp only [tlD]; rfl)) evds_nil) (by simp) fun l0 vs H1 nl e1 hl i1 => ?_
    obtain ⟨u, rfl, iu⟩ := i1.one
    have := iu.str_
    subst this
    refine q_seq (q_noE (evt_hd0 (evd_var rfl (iv.ex e1)) (by simp only [hd]; decide +kernel)) fun H2 e2 => ?_)
    refine q_noE (evt_hd0 (evd_var rfl (iv.ex (e1.trans e2))) (by simp only [hd]; decide +kernel)) fun H3 e3 => ?_
    have e123 := (e1.trans e2).trans e3
    have hpt : some (wipeAll t [x]) = some t' := hpt
    exact fin (KT.of e123) (h.ex e123) hfr (bs := [x]) (e3 _ _ (e2 _ _ hl)) (Option.some.inj hpt) k
  · -- clear
    refine qd_lst (ds := [.str r]) (evds_cons (evd_at 1 (evd_var rfl iv) (by simp only [tlD]; rfl)) evds_nil) (by simp) fun l0 vs H1 nl e1 hl i1 => ?_
    refine q_seq (q_yesE (evt_hd1 (evd_var rfl (iv.ex e1)) rfl) fun H2 e2 => ?_)
    have e12 := e1.trans e2
    have g3 := f3.ex e12
    obtain ⟨dxf, hfo⟩ := f1.ex e12
    obtain ⟨kvs, hk, hth⟩ := id g3
    obtain ⟨ks, hks, hnd, hmem⟩ := th_keys hth
    have hkl : ks.length ≤ 20 := by
      have a := th_len ok.bl hth
      have b := congrArg List.length hks
      simp only [List.length_map] at b
      omega
    refine sd_setL (ds := (ks.filter fun b => inRecord b r).map PyData.str) ?_ fun l1 v1 H3 nl1 e3 hl1 i1 => ?_
    · have e : (ks.map PyData.str).filterMap (onStr fun b => if inRecord b r = true then some (.str b) else none) = (ks.filter fun b => inRecord b r).map PyData.str := by
        rw [fm_strs]
        induction ks with
        | nil => rfl
        | cons b bs ih =>
          clear hks hnd hmem hkl
          rw [List.filterMap_cons, List.filter_cons]
          have ih : ∀ bs : List Str, bs.filterMap (fun b => if inRecord b r = true then some (PyData.str b) else none) = (bs.filter fun b => inRecord b r).map PyData.str := by
            intro bs
            induction bs with
            | nil => rfl
            | cons b bs ih => rw [List.filterMap_cons, List.filter_cons]; cases inRecord b r <;> simp [ih]
          cases inRecord b r <;> simp [ih]
      rw [← e]
      refine evl_lcL (j := 5) _ (evl_lstD (ev_fld (ev_var (i := 1) rfl) hfo T.cls_Frame T.no_Frame_things rfl) hk hks) (by rw [List.length_map]; omega) (fun i dd u H3 hi e3 iu => ?_) fun i dd u H3 e hi e3 iu he => ?_
      · obtain ⟨b, hb, rfl⟩ := List.mem_map.mp (List.mem_of_getElem? hi)
        have hb2 := ok.bok b ((hmem b).mp hb).1
        refine evt_is (et_test (b := inRecord b r) fun H4 e4 Q4 q4 => ?_) (by simp only [onStr]; cases inRecord b r <;> rfl)
        refine ⟨u, rfl, ?_⟩
        refine (evd_at (K := K) (d := .str r) 1 (evd_var (i := 2) (σ := [some (.ref c.r), some (.ref f), some v, some (.ref l0), none, some u]) rfl (iv.ex ((e12.trans e3).trans e4))) (by simp only [tlD]; rfl)) H4 (Ex.refl H4) _ fun u2 H5 e5 i5 => ?_
        exact ⟨b, r, by rw [iu.str_, i5.str_]; rfl, hb2.2, fun H6 e6 => q4 H6 (e5.trans e6)⟩
      · obtain ⟨b, hb, rfl⟩ := List.mem_map.mp (List.mem_of_getElem? hi)
        simp only [onStr] at he
        split at he
        · cases he
          exact evd_var rfl iu
        · cases he
    · have := i1.strs_
      subst this
      have e123 := e12.trans e3
      have hpt : some (fun c => if inRecord c r = true then none0 else t c) = some t' := hpt
      refine fin (KT.of e123) (h.ex e123) hfr hl1 ((clear_eq fun b hb => (hmem b).mpr ⟨th_bs hth hb, hb⟩).trans (Option.some.inj hpt)) k
  · -- drop
    have hbs : (bs.all (fun b => decide (b ∈ E.Bs)) && decide (bs.length ≤ 20)) = true := hbx
    rw [Bool.and_eq_true, decide_eq_true_eq, List.all_eq_true] at hbs
    obtain ⟨hb1, hb2⟩ := hbs
    have hb1 : ∀ b ∈ bs, b ∈ E.Bs := fun b hb => of_decide_eq_true (hb1 b hb)
    refine qd_lst (ds := [tstr bs]) (evds_cons (evd_at 1 (evd_var rfl iv) (by simp only [tlD]; rfl)) evds_nil) (by simp) fun l0 vs H1 nl e1 hl i1 => ?_
    refine q_seq (q_noE (evt_hd0 (evd_var rfl (iv.ex e1)) (by simp only [hd]; decide +kernel)) fun H2 e2 => ?_)
    refine q_yesE (evt_hd1 (evd_var rfl (iv.ex (e1.trans e2))) rfl) fun H3 e3 => ?_
    have e123 := (e1.trans e2).trans e3
    refine qd_setL (evl_lstT (ds := bs.map PyData.str) (evd_at 1 (evd_var rfl (iv.ex e123)) (by simp only [tlD]; rfl))) fun l1 v1 H4 nl1 e4 hl1 i1 => ?_
    have := i1.strs_
    subst this
    have e14 := e123.trans e4
    refine qd_frame (K := K) (cp := .none) evd_non fun fd dd vcd H5 e5 nfd ndd g1 g2 hdd => ?_
    have h5 := h.ex (e14.trans e5)
    refine q_seq (s_forLn (K := K) (a := l1) (xs := bs.map V.str) (ev_var rfl) (SqL.of (e5 _ _ hl1)) (fun i σ' H' => (∃ x, σ' = [some (.ref c.r), some (.ref f), some v, some (.ref l1), some (.ref fd), x]) ∧ Ex H4 H' ∧ FrH K H' fd vcd dd ∧ ThAt E H' dd ((bs.take i).foldl (fun g b => put g b (t b)) empty0))
      (fun H6 e6 => ⟨⟨_, rfl⟩, e5.trans e6, g1.ex e6, ⟨[], e6 _ _ hdd, th_empty⟩⟩) (fun i σ' H' _ q => SqL.of (q.2.1 _ _ hl1)) ?_ ?_)
    · rintro i x σ' H' hi ⟨⟨y, rfl⟩, e6, g6, t6⟩
      rw [List.getElem?_map] at hi
      cases hbi : bs[i]? with
      | none => rw [hbi] at hi; cases hi
      | some b =>
      rw [hbi] at hi
      obtain rfl : V.str b = x := Option.some.inj hi
      have e16 := e14.trans e6
      refine sd_put (E := E) (b := b) (x := t b) ok (ev_var rfl) g6 t6 (evds_cons (evd_var rfl (.str b)) (evds_cons (evd_look (ev_var rfl) (f1.ex e16) (f3.ex e16) (evds_cons (evd_var rfl (.str b)) evds_nil)) evds_nil)) (hb1 b (List.mem_of_getElem? hbi)) ?_ fun H7 k7 t7 => ?_
      · obtain ⟨kvs0, _, hth⟩ := f3
        exact hth.ws b
      · obtain ⟨kvs6, hd6, _⟩ := id t6
        refine ⟨⟨_, rfl⟩, ex_kp e6 k7 ndd, g6.kp k7 (by simpa using g6.ne hd6), ?_⟩
        rw [List.take_add_one, hbi, List.foldl_append]
        exact t7
    · rintro σ' H' ⟨⟨y, rfl⟩, e6, g6, t6⟩
      rw [List.length_map, List.take_length, drop_fold] at t6
      have h6 := h.ex (e14.trans e6)
      refine h6.sExt T ok (ev_var rfl) (ev_var rfl) g6 t6 (h6.ePlace T (ev_var rfl)) (by
        have : (plainL E s.place (.drop bs) t s.log).2.length ≤ 100000 := z2
        simp only [plainL, List.length_append] at this
        exact this) fun H7 h7 kp7 kt7 => ?_
      have hl7 : H7 l1 = some (.lst (bs.map V.str)) := kp7 _ _ (e6 _ _ hl1) (by
        obtain ⟨xs, hq, _⟩ := (h.ex e123).lvs
        simp only [List.mem_singleton]
        intro z
        rw [z, hq] at nl1
        cases nl1)
      have hpt : some (wipeAll t bs) = some t' := hpt
      exact fin ((KT.of (e14.trans e6)).trans kt7) h7 hfr hl7 (Option.some.inj hpt) k
end
end K16

set_option Elab.async false
set_option linter.all false
set_option maxRecDepth 100000
set_option maxHeartbeats 4000000
/-! KRunE: change (printed by gen_change.py) -/
namespace K16
open PySem PySem.Spec PyProof.Rows L2 Evl
theorem Fx.vNUMBERS {K : PySem.W.Frag} {mg : Str → Option Value} (T : Fx K mg) : ∃ u, mg "NUMBERS" = some u ∧ RelV (.int 10000) u := by obtain ⟨t, h⟩ := T.NUMBERS; exact ⟨_, h, t, rfl⟩
theorem Fx.vREST {K : PySem.W.Frag} {mg : Str → Option Value} (T : Fx K mg) : ∃ u, mg "REST" = some u ∧ RelV (.int 10007) u := by obtain ⟨t, h⟩ := T.REST; exact ⟨_, h, t, rfl⟩
section
variable {σ : L2.St} {H : Hp} {ta tb te : TE} {D : Ends} {tz : TS} {v : V}
theorem evd_I {C : Int → Int → Prop} {g : Int → Int → Int} {i j : Int} (h1 : EvD ta σ H (.int i)) (h2 : EvD tb σ H (.int j)) (hc : C i j) : EvD (tOp (rI C fun i j => .int (g i j)) ta tb) σ H (.int (g i j)) :=
  evd_op h1 h2 fun v u H1 _ a b Q q => ⟨i, j, a.int_, b.int_, hc, q _ H1 (Ex.refl H1) (.int _)⟩
theorem qe_set {i : Nat} (h : Ev te σ H v) (k : ∀ H1, Ex H H1 → tz D (σ.set i (some v)) H1) : tSeq (tAsg te (gName i)) tz D σ H := h H (Ex.refl H) _ fun H1 e1 => k H1 e1
end
section
variable {P : Program} {w : World} {K : PySem.W.Frag} {mg : Str → Option Value} {base : Heap}
theorem sc_Run_change : FnScope ["self", "word", "frame", "one", "ones", "other", "others"] ["self", "word"] (defScope m_Run_change) := ⟨rfl, rfl, rfl, by decide +kernel, rfl, by decide +kernel, by decide +kernel⟩
theorem ok_change (T : Fx K mg) : C8.Met P w K mg base 4 (CR K) "change" (spChange K) [] := by
  obtain ⟨fd, F⟩ := T.f_Run_change
  have c_both := ok_both (P := P) (w := w) (base := base) T
  have c_Run_answer := ok_answer (P := P) (w := w) (base := base) T
  have c_Run_take_away := ok_take_away (P := P) (w := w) (base := base) T
  have c_Frame_look := ok_look (P := P) (w := w) (base := base) T
  have c_Frame_put := ok_put (P := P) (w := w) (base := base) T
  refine met_of T.cls_Run T.me_Run_change F sc_Run_change (fun _ _ _ _ _ _ us hl => match us, hl with | [_, _], _ => rfl) (by rintro vs H Q E ⟨_, _, _, _, _, _, _, _, _, _, _, _, _, _, _, rfl, _⟩; rfl) fun cdv A outer s0 H vs Q E0 hr hsp => ?_
  obtain ⟨E, p, given, H0, c, s, s1, a, wd, v, cp, t, rest, t', l, rfl, ok, ⟨fs, vo, vpl, h⟩, iv, hans, hfr, hpl, k⟩ := hsp
  refine ⟨_, (pss_cons (ps_set (i := 2) sc_Run_change.nd rfl (.inl rfl) (pe_ix ix_list (pe_fld (pv 0) rfl) (pe_un un_neg pe_int) (fun _ _ => rfl)))
  (pss_one (ps_if (pt_cmpR op_eq (pe_ix ix_tup (pv 1) pe_int (fun _ _ => rfl)) pe_str (nomark _))
  (pss_one (ps_expr (C8.pe_mt c_Frame_put hr (by omega) (pv 2) (pa_cons (pe_ix ix_tup (pv 1) pe_int (fun _ _ => rfl)) (pa_cons (pe_tup (pa_cons (C8.pe_mt c_Run_answer hr (by omega) (pv 0) (pa_cons (C8.pe_gc (v := .int 10000) rfl T.vNUMBERS) pa_nil)) (pa_cons (pe_tup (pa_cons (pe_ix ix_tup (pv 1) pe_int (fun _ _ => rfl)) pa_nil)) pa_nil))) pa_nil)))))
  (pss_one (ps_if (pt_cmpR op_eq (pe_ix ix_tup (pv 1) pe_int (fun _ _ => rfl)) pe_str (nomark _))
  (pss_one (ps_expr (C8.pe_mt c_Frame_put hr (by omega) (pv 2) (pa_cons (pe_ix ix_tup (pv 1) pe_int (fun _ _ => rfl)) (pa_cons (pe_tup (pa_cons (C8.pe_mt c_Run_answer hr (by omega) (pv 0) (pa_cons (C8.pe_gc (v := .int 10000) rfl T.vNUMBERS) pa_nil)) (pa_cons (pe_tup pa_nil) pa_nil))) pa_nil)))))
  (pss_one (ps_if (pt_cmpR op_eq (pe_ix ix_tup (pv 1) pe_int (fun _ _ => rfl)) pe_str (nomark _))
  (pss_one (ps_expr (C8.pe_mt c_Frame_put hr (by omega) (pv 2) (pa_cons (pe_ix ix_tup (pv 1) pe_int (fun _ _ => rfl)) (pa_cons (pe_tup (pa_cons (pe_ix ix_tup (pv 1) pe_int (fun _ _ => rfl)) (pa_cons (pe_tup pa_nil) pa_nil))) pa_nil)))))
  (pss_one (ps_if (pt_cmpR op_eq (pe_ix ix_tup (pv 1) pe_int (fun _ _ => rfl)) pe_str (nomark _))
  (pss_one (ps_expr (C8.pe_mt c_Frame_put hr (by omega) (pv 2) (pa_cons (pe_ix ix_tup (pv 1) pe_int (fun _ _ => rfl)) (pa_cons (C8.pe_mt c_Frame_look hr (by omega) (pv 2) (pa_cons (pe_ix ix_tup (pv 1) pe_int (fun _ _ => rfl)) pa_nil)) pa_nil)))))
  (pss_one (ps_if (pt_cmpR op_eq (pe_ix ix_tup (pv 1) pe_int (fun _ _ => rfl)) pe_str (nomark _))
  (pss_cons (ps_asg (C8.pe_mt c_Frame_look hr (by omega) (pv 2) (pa_cons (pe_ix ix_tup (pv 1) pe_int (fun _ _ => rfl)) pa_nil)) (pg_tup rfl (pgs_cons (pg_name (i := 3) sc_Run_change.nd rfl (.inl rfl)) (pgs_cons (pg_name (i := 4) sc_Run_change.nd rfl (.inl rfl)) pgs_nil))))
  (pss_cons (ps_asg (C8.pe_mt c_Frame_look hr (by omega) (pv 2) (pa_cons (pe_ix ix_tup (pv 1) pe_int (fun _ _ => rfl)) pa_nil)) (pg_tup rfl (pgs_cons (pg_name (i := 5) sc_Run_change.nd rfl (.inl rfl)) (pgs_cons (pg_name (i := 6) sc_Run_change.nd rfl (.inl rfl)) pgs_nil))))
  (pss_one (ps_expr (C8.pe_mt c_Frame_put hr (by omega) (pv 2) (pa_cons (pe_ix ix_tup (pv 1) pe_int (fun _ _ => rfl)) (pa_cons (pe_tup (pa_cons (pe_op op_mod (pe_op op_add (pv 3) (pe_op op_mul pe_int (pv 5))) (C8.pe_gc (v := .int 10007) rfl T.vREST)) (pa_cons (C8.pe_c c_both hr (by omega) rfl (pa_cons (pv 4) (pa_cons (pv 6) pa_nil))) pa_nil))) pa_nil)))))))
  (pss_one (ps_if (pt_cmpR op_eq (pe_ix ix_tup (pv 1) pe_int (fun _ _ => rfl)) pe_str (nomark _))
  (pss_one (ps_expr (C8.pe_mt c_Frame_put hr (by omega) (pv 2) (pa_cons (pe_ix ix_tup (pv 1) pe_int (fun _ _ => rfl)) (pa_cons (pe_tup (pa_cons (pe_op op_mod (pe_ix ix_tup (C8.pe_mt c_Frame_look hr (by omega) (pv 2) (pa_cons (pe_ix ix_tup (pv 1) pe_int (fun _ _ => rfl)) pa_nil)) pe_int (fun _ _ => rfl)) pe_int) (pa_cons (pe_tup pa_nil) pa_nil))) pa_nil)))))
  (pss_one (ps_if (pt_cmpR op_eq (pe_ix ix_tup (pv 1) pe_int (fun _ _ => rfl)) pe_str (nomark _))
  (pss_one (ps_expr (pe_bm PySem.F.plainAttrs_list PySem.F.slot_list_append PySem.F.type_list_append mt_append (pe_fld (pv 0) rfl) (pa_cons (pe_ix ix_tup (C8.pe_mt c_Frame_look hr (by omega) (pv 2) (pa_cons (pe_ix ix_tup (pv 1) pe_int (fun _ _ => rfl)) pa_nil)) pe_int (fun _ _ => rfl)) pa_nil))))
  (pss_one (ps_expr (C8.pe_mt c_Run_take_away hr (by omega) (pv 0) (pa_cons (pv 2) (pa_cons (pv 1) pa_nil)))))))))))))))))))), ?_⟩
  obtain ⟨hbx, hpt, rfl, z1, z2⟩ := full_plain hpl
  have hfa := h.fr
  rw [hfr] at hfa
  cases fs with
  | nil => exact hfa.elim
  | cons x fs' =>
  obtain ⟨f, d⟩ := x
  clear hfa
  have top : ∀ {H2 : Hp} {u st : Nat}, RunX K E p given H0 c ((f, d) :: fs') vo vpl H2 { s with used := u, steps := st } → FrAt K E H2 (f, d) (cp, t) := fun {H2 u st} h2 => by
    have hfa := h2.fr
    dsimp only at hfa
    rw [hfr] at hfa
    exact hfa.1
  refine qe_set (h.eTop (i := 1) T (ev_var rfl)) fun H1 e1 => ?_
  cases wd with
  | take x u0 =>
    refine q_yesE (evt_hd1 (evd_var rfl (iv.ex e1)) rfl) fun H9 f9 => ?_
    have e9 : Ex H H9 := (e1.trans f9)
    have h9 := h.ex e9
    have iw := iv.ex e9
    obtain ⟨vc9, g1, g2, g3⟩ := top h9
    have hth : ∀ b, ∀ u ∈ (t b).2, u ∈ E.Ws := by obtain ⟨kvs, _, hth⟩ := g3; exact hth.ws
    have hbx : (decide (x ∈ E.Bs) && decide (u0 ∈ E.Ws)) = true := hbx
    rw [Bool.and_eq_true, decide_eq_true_eq, decide_eq_true_eq] at hbx
    obtain ⟨hx, hu0⟩ := hbx
    obtain ⟨m, u, hm, hu, h0, h1, rfl, rfl⟩ : ∃ m u, need (.take x u0) = some m ∧ given[s.used]? = some u ∧ 0 ≤ u ∧ u < (m : Int) ∧ a = some u ∧ s1 = { s with used := s.used + 1 } := by
      rcases hans with ⟨h1, _⟩ | h1
      · cases h1
      · exact h1
    have hpt : some (put t x (u, [u0])) = some t' := hpt
    have hpt := Option.some.inj hpt
    subst hpt
    have hm : 10000 = m := Option.some.inj hm
    subst hm
    obtain ⟨dx9, hfo⟩ := g1
    refine ⟨.ref f, rfl, f, dx9, _, rfl, hfo, rfl, ?_⟩
    have e10 := Ex.refl H9
    refine ((evd_at (d := .str x) 1 (evd_var rfl iw) (by simp only [tlD]; rfl)) : EvD _ [some (.ref c.r), some v, some (.ref f), none, none, none, none] H9 _) H9 e10 _ fun v1 H11 e11 i11 => ?_
    have e19 := e10.trans e11
    refine (h9.ex e19).eAns (ev_var (i := 0) (σ := [some (.ref c.r), some v, some (.ref f), none, none, none, none]) rfl) (evd_int (i := 10000)) hu h0 h1 fun H12 h12 kt12 kp12 => ?_
    have iw12 := (iw.ex e19).mono kt12
    refine (evd_tup (evds_cons (evd_at (d := .str u0) 2 (evd_var rfl iw12) (by simp only [tlD]; rfl)) evds_nil) : EvD _ [some (.ref c.r), some v, some (.ref f), none, none, none, none] H12 (tstr [u0])) H12 (Ex.refl H12) _ fun v5 H13 e13 i13 => ⟨sz_of (by simp), fun q hq => ?_⟩
    have eN : Ex H13 (upd H13 q (.tup [.int u, v5])) := Ex.new hq
    have h14 := (h12.ex e13).ex eN
    obtain ⟨vc14, w1, w2, w3⟩ := top h14
    refine ⟨E, f, vc14, d, t, x, .ref q, (u, [u0]), by rw [((i11.mono kt12).ex (e13.trans eN)).str_]; rfl, ok, w1, w3, hx, .tup upd_same (.cons (.int _) (.cons (i13.ex eN) .nil)), ?_, fun H15 k15 t15 => ?_⟩
    · intro z hz; rw [List.mem_singleton.mp hz]; exact hu0
    · obtain ⟨h15, kt15⟩ := h14.top hfr k15 t15
      exact k H15 ⟨_, _, _, h15⟩ (((((KT.of (e9.trans e19)).trans kt12).trans (KT.of e13)).trans (KT.of eN)).trans kt15)
  | ask x =>
    refine q_noE (evt_hd0 (evd_var rfl (iv.ex e1)) (by simp only [hd]; decide +kernel)) fun H2 f2 => ?_
    refine q_yesE (evt_hd1 (evd_var rfl (iv.ex (e1.trans f2))) rfl) fun H9 f9 => ?_
    have e9 : Ex H H9 := ((e1.trans f2).trans f9)
    have h9 := h.ex e9
    have iw := iv.ex e9
    obtain ⟨vc9, g1, g2, g3⟩ := top h9
    have hth : ∀ b, ∀ u ∈ (t b).2, u ∈ E.Ws := by obtain ⟨kvs, _, hth⟩ := g3; exact hth.ws
    have hx : x ∈ E.Bs := of_decide_eq_true hbx
    obtain ⟨m, u, hm, hu, h0, h1, rfl, rfl⟩ : ∃ m u, need (.ask x) = some m ∧ given[s.used]? = some u ∧ 0 ≤ u ∧ u < (m : Int) ∧ a = some u ∧ s1 = { s with used := s.used + 1 } := by
      rcases hans with ⟨h1, _⟩ | h1
      · cases h1
      · exact h1
    have hpt : some (put t x (u, [])) = some t' := hpt
    have hpt := Option.some.inj hpt
    subst hpt
    have hm : 10000 = m := Option.some.inj hm
    subst hm
    obtain ⟨dx9, hfo⟩ := g1
    refine ⟨.ref f, rfl, f, dx9, _, rfl, hfo, rfl, ?_⟩
    have e10 := Ex.refl H9
    refine ((evd_at (d := .str x) 1 (evd_var rfl iw) (by simp only [tlD]; rfl)) : EvD _ [some (.ref c.r), some v, some (.ref f), none, none, none, none] H9 _) H9 e10 _ fun v1 H11 e11 i11 => ?_
    have e19 := e10.trans e11
    refine (h9.ex e19).eAns (ev_var (i := 0) (σ := [some (.ref c.r), some v, some (.ref f), none, none, none, none]) rfl) (evd_int (i := 10000)) hu h0 h1 fun H12 h12 kt12 kp12 => ?_
    have iw12 := (iw.ex e19).mono kt12
    refine (evd_tup evds_nil : EvD _ [some (.ref c.r), some v, some (.ref f), none, none, none, none] H12 (tstr [])) H12 (Ex.refl H12) _ fun v5 H13 e13 i13 => ⟨sz_of (by simp), fun q hq => ?_⟩
    have eN : Ex H13 (upd H13 q (.tup [.int u, v5])) := Ex.new hq
    have h14 := (h12.ex e13).ex eN
    obtain ⟨vc14, w1, w2, w3⟩ := top h14
    refine ⟨E, f, vc14, d, t, x, .ref q, (u, []), by rw [((i11.mono kt12).ex (e13.trans eN)).str_]; rfl, ok, w1, w3, hx, .tup upd_same (.cons (.int _) (.cons (i13.ex eN) .nil)), ?_, fun H15 k15 t15 => ?_⟩
    · intro z hz; cases hz
    · obtain ⟨h15, kt15⟩ := h14.top hfr k15 t15
      exact k H15 ⟨_, _, _, h15⟩ (((((KT.of (e9.trans e19)).trans kt12).trans (KT.of e13)).trans (KT.of eN)).trans kt15)
  | num x n =>
    refine q_noE (evt_hd0 (evd_var rfl (iv.ex e1)) (by simp only [hd]; decide +kernel)) fun H2 f2 => ?_
    refine q_noE (evt_hd0 (evd_var rfl (iv.ex (e1.trans f2))) (by simp only [hd]; decide +kernel)) fun H3 f3 => ?_
    refine q_yesE (evt_hd1 (evd_var rfl (iv.ex ((e1.trans f2).trans f3))) rfl) fun H9 f9 => ?_
    have e9 : Ex H H9 := (((e1.trans f2).trans f3).trans f9)
    have h9 := h.ex e9
    have iw := iv.ex e9
    obtain ⟨vc9, g1, g2, g3⟩ := top h9
    have hth : ∀ b, ∀ u ∈ (t b).2, u ∈ E.Ws := by obtain ⟨kvs, _, hth⟩ := g3; exact hth.ws
    have hx : x ∈ E.Bs := of_decide_eq_true hbx
    obtain ⟨rfl, rfl⟩ : a = none ∧ s = s1 := by
      rcases hans with ⟨_, h1, h2⟩ | ⟨m, _, h1, _⟩
      · exact ⟨h1, h2.symm⟩
      · cases h1
    have hpt : some (put t x (n, [])) = some t' := hpt
    have hpt := Option.some.inj hpt
    subst hpt
    refine sd_put (E := E) (b := x) (x := (n, [])) ok (ev_var rfl) g1 g3 (evds_cons (evd_at (d := .str x) 1 (evd_var rfl iw) (by simp only [tlD]; rfl)) (evds_cons (evd_tup (evds_cons (evd_at (d := .int n) 2 (evd_var rfl iw) (by simp only [tlD]; rfl)) (evds_cons (evd_tup evds_nil) evds_nil))) evds_nil)) hx (by intro z hz; cases hz) fun H10 k10 t10 => ?_
    obtain ⟨h10, kt10⟩ := h9.top hfr k10 t10
    exact k H10 ⟨_, _, _, h10⟩ ((KT.of e9).trans kt10)
  | copy x y =>
    refine q_noE (evt_hd0 (evd_var rfl (iv.ex e1)) (by simp only [hd]; decide +kernel)) fun H2 f2 => ?_
    refine q_noE (evt_hd0 (evd_var rfl (iv.ex (e1.trans f2))) (by simp only [hd]; decide +kernel)) fun H3 f3 => ?_
    refine q_noE (evt_hd0 (evd_var rfl (iv.ex ((e1.trans f2).trans f3))) (by simp only [hd]; decide +kernel)) fun H4 f4 => ?_
    refine q_yesE (evt_hd1 (evd_var rfl (iv.ex (((e1.trans f2).trans f3).trans f4))) rfl) fun H9 f9 => ?_
    have e9 : Ex H H9 := ((((e1.trans f2).trans f3).trans f4).trans f9)
    have h9 := h.ex e9
    have iw := iv.ex e9
    obtain ⟨vc9, g1, g2, g3⟩ := top h9
    have hth : ∀ b, ∀ u ∈ (t b).2, u ∈ E.Ws := by obtain ⟨kvs, _, hth⟩ := g3; exact hth.ws
    have hbx : (decide (x ∈ E.Bs) && decide (y ∈ E.Bs)) = true := hbx
    rw [Bool.and_eq_true, decide_eq_true_eq, decide_eq_true_eq] at hbx
    obtain ⟨hx, hy⟩ := hbx
    obtain ⟨rfl, rfl⟩ : a = none ∧ s = s1 := by
      rcases hans with ⟨_, h1, h2⟩ | ⟨m, _, h1, _⟩
      · exact ⟨h1, h2.symm⟩
      · cases h1
    have hpt : some (put t x (t y)) = some t' := hpt
    have hpt := Option.some.inj hpt
    subst hpt
    refine sd_put (E := E) (b := x) (x := t y) ok (ev_var rfl) g1 g3 (evds_cons (evd_at (d := .str x) 1 (evd_var rfl iw) (by simp only [tlD]; rfl)) (evds_cons (evd_look (ev_var rfl) g1 g3 (evds_cons (evd_at (d := .str y) 2 (evd_var rfl iw) (by simp only [tlD]; rfl)) evds_nil)) evds_nil)) hx (hth y) fun H10 k10 t10 => ?_
    obtain ⟨h10, kt10⟩ := h9.top hfr k10 t10
    exact k H10 ⟨_, _, _, h10⟩ ((KT.of e9).trans kt10)
  | mix x y z =>
    refine q_noE (evt_hd0 (evd_var rfl (iv.ex e1)) (by simp only [hd]; decide +kernel)) fun H2 f2 => ?_
    refine q_noE (evt_hd0 (evd_var rfl (iv.ex (e1.trans f2))) (by simp only [hd]; decide +kernel)) fun H3 f3 => ?_
    refine q_noE (evt_hd0 (evd_var rfl (iv.ex ((e1.trans f2).trans f3))) (by simp only [hd]; decide +kernel)) fun H4 f4 => ?_
    refine q_noE (evt_hd0 (evd_var rfl (iv.ex (((e1.trans f2).trans f3).trans f4))) (by simp only [hd]; decide +kernel)) fun H5 f5 => ?_
    refine q_yesE (evt_hd1 (evd_var rfl (iv.ex ((((e1.trans f2).trans f3).trans f4).trans f5))) rfl) fun H9 f9 => ?_
    have e9 : Ex H H9 := (((((e1.trans f2).trans f3).trans f4).trans f5).trans f9)
    have h9 := h.ex e9
    have iw := iv.ex e9
    obtain ⟨vc9, g1, g2, g3⟩ := top h9
    have hth : ∀ b, ∀ u ∈ (t b).2, u ∈ E.Ws := by obtain ⟨kvs, _, hth⟩ := g3; exact hth.ws
    have hbx : (decide (x ∈ E.Bs) && (decide (y ∈ E.Bs) && decide (z ∈ E.Bs))) = true := hbx
    rw [Bool.and_eq_true, decide_eq_true_eq] at hbx
    have hx := hbx.1
    obtain ⟨rfl, rfl⟩ : a = none ∧ s = s1 := by
      rcases hans with ⟨_, h1, h2⟩ | ⟨m, _, h1, _⟩
      · exact ⟨h1, h2.symm⟩
      · cases h1
    have hpt : (if worthsOk E (t y).2 (t z).2 then some (put t x (((t y).1 + 2 * (t z).1) % 10007, both E (t y).2 (t z).2)) else none) = some t' := hpt
    have hwo : worthsOk E (t y).2 (t z).2 = true := by
      cases q : worthsOk E (t y).2 (t z).2 with
      | true => rfl
      | false => rw [q] at hpt; cases hpt
    rw [if_pos hwo] at hpt
    have hpt := Option.some.inj hpt
    subst hpt
    refine qd_two (evd_look (ev_var rfl) g1 g3 (evds_cons (evd_at (d := .str y) 2 (evd_var rfl iw) (by simp only [tlD]; rfl)) evds_nil)) fun v3 v4 H10 e10 i3 i4 => ?_
    refine qd_two (evd_look (ev_var rfl) (g1.ex e10) (g3.ex e10) (evds_cons (evd_at (d := .str z) 3 (evd_var rfl (iw.ex e10)) (by simp only [tlD]; rfl)) evds_nil)) fun v5 v6 H11 e11 i5 i6 => ?_
    have e19 := e10.trans e11
    refine sd_put (E := E) (b := x) (x := (((t y).1 + 2 * (t z).1) % 10007, both E (t y).2 (t z).2)) ok (ev_var rfl) (g1.ex e19) (g3.ex e19) (evds_cons (evd_at (d := .str x) 1 (evd_var rfl (iw.ex e19)) (by simp only [tlD]; rfl)) (evds_cons (evd_tup (evds_cons (evd_I (evd_add (evd_var rfl (i3.ex e11)) (evd_I evd_int (evd_var rfl i5) (.inl ⟨by decide, by decide⟩))) (evd_int (i := 10007)) (by decide)) (evds_cons (evd_call (evds_cons (evd_var rfl (i4.ex e11)) (evds_cons (evd_var rfl i6) evds_nil)) ⟨E, _, _, rfl, ok, hwo, rfl⟩) evds_nil))) evds_nil)) hx (fun u hu => (List.mem_filter.mp hu).1) fun H12 k12 t12 => ?_
    obtain ⟨h12, kt12⟩ := (h9.ex e19).top hfr k12 t12
    exact k H12 ⟨_, _, _, h12⟩ ((KT.of (e9.trans e19)).trans kt12)
  | opn x y =>
    refine q_noE (evt_hd0 (evd_var rfl (iv.ex e1)) (by simp only [hd]; decide +kernel)) fun H2 f2 => ?_
    refine q_noE (evt_hd0 (evd_var rfl (iv.ex (e1.trans f2))) (by simp only [hd]; decide +kernel)) fun H3 f3 => ?_
    refine q_noE (evt_hd0 (evd_var rfl (iv.ex ((e1.trans f2).trans f3))) (by simp only [hd]; decide +kernel)) fun H4 f4 => ?_
    refine q_noE (evt_hd0 (evd_var rfl (iv.ex (((e1.trans f2).trans f3).trans f4))) (by simp only [hd]; decide +kernel)) fun H5 f5 => ?_
    refine q_noE (evt_hd0 (evd_var rfl (iv.ex ((((e1.trans f2).trans f3).trans f4).trans f5))) (by simp only [hd]; decide +kernel)) fun H6 f6 => ?_
    refine q_yesE (evt_hd1 (evd_var rfl (iv.ex (((((e1.trans f2).trans f3).trans f4).trans f5).trans f6))) rfl) fun H9 f9 => ?_
    have e9 : Ex H H9 := ((((((e1.trans f2).trans f3).trans f4).trans f5).trans f6).trans f9)
    have h9 := h.ex e9
    have iw := iv.ex e9
    obtain ⟨vc9, g1, g2, g3⟩ := top h9
    have hth : ∀ b, ∀ u ∈ (t b).2, u ∈ E.Ws := by obtain ⟨kvs, _, hth⟩ := g3; exact hth.ws
    have hbx : (decide (x ∈ E.Bs) && decide (y ∈ E.Bs)) = true := hbx
    rw [Bool.and_eq_true, decide_eq_true_eq, decide_eq_true_eq] at hbx
    obtain ⟨hx, hy⟩ := hbx
    obtain ⟨rfl, rfl⟩ : a = none ∧ s = s1 := by
      rcases hans with ⟨_, h1, h2⟩ | ⟨m, _, h1, _⟩
      · exact ⟨h1, h2.symm⟩
      · cases h1
    have hpt : some (put t x ((t y).1 % 2, [])) = some t' := hpt
    have hpt := Option.some.inj hpt
    subst hpt
    refine sd_put (E := E) (b := x) (x := ((t y).1 % 2, [])) ok (ev_var rfl) g1 g3 (evds_cons (evd_at (d := .str x) 1 (evd_var rfl iw) (by simp only [tlD]; rfl)) (evds_cons (evd_tup (evds_cons (evd_I (evd_at 0 (evd_look (ev_var rfl) g1 g3 (evds_cons (evd_at (d := .str y) 2 (evd_var rfl iw) (by simp only [tlD]; rfl)) evds_nil)) rfl) (evd_int (i := 2)) (by decide)) (evds_cons (evd_tup evds_nil) evds_nil))) evds_nil)) hx (by intro z hz; cases hz) fun H10 k10 t10 => ?_
    obtain ⟨h10, kt10⟩ := h9.top hfr k10 t10
    exact k H10 ⟨_, _, _, h10⟩ ((KT.of e9).trans kt10)
  | tell x =>
    refine q_noE (evt_hd0 (evd_var rfl (iv.ex e1)) (by simp only [hd]; decide +kernel)) fun H2 f2 => ?_
    refine q_noE (evt_hd0 (evd_var rfl (iv.ex (e1.trans f2))) (by simp only [hd]; decide +kernel)) fun H3 f3 => ?_
    refine q_noE (evt_hd0 (evd_var rfl (iv.ex ((e1.trans f2).trans f3))) (by simp only [hd]; decide +kernel)) fun H4 f4 => ?_
    refine q_noE (evt_hd0 (evd_var rfl (iv.ex (((e1.trans f2).trans f3).trans f4))) (by simp only [hd]; decide +kernel)) fun H5 f5 => ?_
    refine q_noE (evt_hd0 (evd_var rfl (iv.ex ((((e1.trans f2).trans f3).trans f4).trans f5))) (by simp only [hd]; decide +kernel)) fun H6 f6 => ?_
    refine q_noE (evt_hd0 (evd_var rfl (iv.ex (((((e1.trans f2).trans f3).trans f4).trans f5).trans f6))) (by simp only [hd]; decide +kernel)) fun H7 f7 => ?_
    refine q_yesE (evt_hd1 (evd_var rfl (iv.ex ((((((e1.trans f2).trans f3).trans f4).trans f5).trans f6).trans f7))) rfl) fun H9 f9 => ?_
    have e9 : Ex H H9 := (((((((e1.trans f2).trans f3).trans f4).trans f5).trans f6).trans f7).trans f9)
    have h9 := h.ex e9
    have iw := iv.ex e9
    obtain ⟨vc9, g1, g2, g3⟩ := top h9
    have hth : ∀ b, ∀ u ∈ (t b).2, u ∈ E.Ws := by obtain ⟨kvs, _, hth⟩ := g3; exact hth.ws
    obtain ⟨rfl, rfl⟩ : a = none ∧ s = s1 := by
      rcases hans with ⟨_, h1, h2⟩ | ⟨m, _, h1, _⟩
      · exact ⟨h1, h2.symm⟩
      · cases h1
    have hpt : some t = some t' := hpt
    have hpt := Option.some.inj hpt
    subst hpt
    refine sd_app (ev_fld (ev_var rfl) h9.obj T.cls_Run T.no_Run_numbers rfl) h9.nums (evd_at (d := .int (t x).1) 0 (evd_look (ev_var rfl) g1 g3 (evds_cons (evd_at (d := .str x) 1 (evd_var rfl iw) (by simp only [tlD]; rfl)) evds_nil)) rfl) ?_ fun u H10 e10 iu => ?_
    · have : (s.log.1 ++ [(t x).1]).length ≤ 100000 := z1
      simp only [List.length_append, List.length_cons, List.length_nil] at this
      rw [List.length_map]
      omega
    · have := iu.int_
      subst this
      have h10 := (h9.ex e10).num (n := (t x).1)
      have he : ({ s with log := (s.log.1 ++ [(t x).1], s.log.2) } : MS (full E)) = { s with frames := (cp, t) :: rest, log := plainL E s.place (.tell x) t s.log } := by
        rw [← hfr]
        rfl
      rw [he] at h10
      exact k _ ⟨_, _, _, h10⟩ ((KT.of (e9.trans e10)).trans ((KT.refl H10).upd (nt_lst (h9.ex e10).nums)))
  | wipe x =>
    refine q_noE (evt_hd0 (evd_var rfl (iv.ex e1)) (by simp only [hd]; decide +kernel)) fun H2 f2 => ?_
    refine q_noE (evt_hd0 (evd_var rfl (iv.ex (e1.trans f2))) (by simp only [hd]; decide +kernel)) fun H3 f3 => ?_
    refine q_noE (evt_hd0 (evd_var rfl (iv.ex ((e1.trans f2).trans f3))) (by simp only [hd]; decide +kernel)) fun H4 f4 => ?_
    refine q_noE (evt_hd0 (evd_var rfl (iv.ex (((e1.trans f2).trans f3).trans f4))) (by simp only [hd]; decide +kernel)) fun H5 f5 => ?_
    refine q_noE (evt_hd0 (evd_var rfl (iv.ex ((((e1.trans f2).trans f3).trans f4).trans f5))) (by simp only [hd]; decide +kernel)) fun H6 f6 => ?_
    refine q_noE (evt_hd0 (evd_var rfl (iv.ex (((((e1.trans f2).trans f3).trans f4).trans f5).trans f6))) (by simp only [hd]; decide +kernel)) fun H7 f7 => ?_
    refine q_noE (evt_hd0 (evd_var rfl (iv.ex ((((((e1.trans f2).trans f3).trans f4).trans f5).trans f6).trans f7))) (by simp only [hd]; decide +kernel)) fun H8 f8 => ?_
    have e9 : Ex H H8 := (((((((e1.trans f2).trans f3).trans f4).trans f5).trans f6).trans f7).trans f8)
    have h9 := h.ex e9
    obtain ⟨rfl, rfl⟩ : a = none ∧ s = s1 := by
      rcases hans with ⟨_, h1, h2⟩ | ⟨m, _, h1, _⟩
      · exact ⟨h1, h2.symm⟩
      · cases h1
    have f9 := Ex.refl H8
    refine ⟨.ref c.r, rfl, c.r, c.dx, _, rfl, h9.obj, rfl, .ref f, rfl, v, rfl, ?_⟩
    exact ⟨E, p, given, H0, c, f, d, fs', vo, vpl, s, _, v, cp, t, rest, t', _, rfl, ok, h9.ex f9, iv.ex (e9.trans f9), .inl ⟨_, rfl⟩, hfr, hpl, fun H10 r10 kt10 => k H10 r10 ((KT.of (e9.trans f9)).trans kt10)⟩
  | clear r =>
    refine q_noE (evt_hd0 (evd_var rfl (iv.ex e1)) (by simp only [hd]; decide +kernel)) fun H2 f2 => ?_
    refine q_noE (evt_hd0 (evd_var rfl (iv.ex (e1.trans f2))) (by simp only [hd]; decide +kernel)) fun H3 f3 => ?_
    refine q_noE (evt_hd0 (evd_var rfl (iv.ex ((e1.trans f2).trans f3))) (by simp only [hd]; decide +kernel)) fun H4 f4 => ?_
    refine q_noE (evt_hd0 (evd_var rfl (iv.ex (((e1.trans f2).trans f3).trans f4))) (by simp only [hd]; decide +kernel)) fun H5 f5 => ?_
    refine q_noE (evt_hd0 (evd_var rfl (iv.ex ((((e1.trans f2).trans f3).trans f4).trans f5))) (by simp only [hd]; decide +kernel)) fun H6 f6 => ?_
    refine q_noE (evt_hd0 (evd_var rfl (iv.ex (((((e1.trans f2).trans f3).trans f4).trans f5).trans f6))) (by simp only [hd]; decide +kernel)) fun H7 f7 => ?_
    refine q_noE (evt_hd0 (evd_var rfl (iv.ex ((((((e1.trans f2).trans f3).trans f4).trans f5).trans f6).trans f7))) (by simp only [hd]; decide +kernel)) fun H8 f8 => ?_
    have e9 : Ex H H8 := (((((((e1.trans f2).trans f3).trans f4).trans f5).trans f6).trans f7).trans f8)
    have h9 := h.ex e9
    obtain ⟨rfl, rfl⟩ : a = none ∧ s = s1 := by
      rcases hans with ⟨_, h1, h2⟩ | ⟨m, _, h1, _⟩
      · exact ⟨h1, h2.symm⟩
      · cases h1
    have f9 := Ex.refl H8
    refine ⟨.ref c.r, rfl, c.r, c.dx, _, rfl, h9.obj, rfl, .ref f, rfl, v, rfl, ?_⟩
    exact ⟨E, p, given, H0, c, f, d, fs', vo, vpl, s, _, v, cp, t, rest, t', _, rfl, ok, h9.ex f9, iv.ex (e9.trans f9), .inr (.inl ⟨_, rfl⟩), hfr, hpl, fun H10 r10 kt10 => k H10 r10 ((KT.of (e9.trans f9)).trans kt10)⟩
  | drop bs =>
    refine q_noE (evt_hd0 (evd_var rfl (iv.ex e1)) (by simp only [hd]; decide +kernel)) fun H2 f2 => ?_
    refine q_noE (evt_hd0 (evd_var rfl (iv.ex (e1.trans f2))) (by simp only [hd]; decide +kernel)) fun H3 f3 => ?_
    refine q_noE (evt_hd0 (evd_var rfl (iv.ex ((e1.trans f2).trans f3))) (by simp only [hd]; decide +kernel)) fun H4 f4 => ?_
    refine q_noE (evt_hd0 (evd_var rfl (iv.ex (((e1.trans f2).trans f3).trans f4))) (by simp only [hd]; decide +kernel)) fun H5 f5 => ?_
    refine q_noE (evt_hd0 (evd_var rfl (iv.ex ((((e1.trans f2).trans f3).trans f4).trans f5))) (by simp only [hd]; decide +kernel)) fun H6 f6 => ?_
    refine q_noE (evt_hd0 (evd_var rfl (iv.ex (((((e1.trans f2).trans f3).trans f4).trans f5).trans f6))) (by simp only [hd]; decide +kernel)) fun H7 f7 => ?_
    refine q_noE (evt_hd0 (evd_var rfl (iv.ex ((((((e1.trans f2).trans f3).trans f4).trans f5).trans f6).trans f7))) (by simp only [hd]; decide +kernel)) fun H8 f8 => ?_
    have e9 : Ex H H8 := (((((((e1.trans f2).trans f3).trans f4).trans f5).trans f6).trans f7).trans f8)
    have h9 := h.ex e9
    obtain ⟨rfl, rfl⟩ : a = none ∧ s = s1 := by
      rcases hans with ⟨_, h1, h2⟩ | ⟨m, _, h1, _⟩
      · exact ⟨h1, h2.symm⟩
      · cases h1
    have f9 := Ex.refl H8
    refine ⟨.ref c.r, rfl, c.r, c.dx, _, rfl, h9.obj, rfl, .ref f, rfl, v, rfl, ?_⟩
    exact ⟨E, p, given, H0, c, f, d, fs', vo, vpl, s, _, v, cp, t, rest, t', _, rfl, ok, h9.ex f9, iv.ex (e9.trans f9), .inr (.inr ⟨_, rfl⟩), hfr, hpl, fun H10 r10 kt10 => k H10 r10 ((KT.of (e9.trans f9)).trans kt10)⟩
  | _ => cases hpt
end
end K16

set_option Elab.async false
set_option linter.all false
set_option maxRecDepth 100000
set_option maxHeartbeats 4000000
/-! KRunF: call, lead, step -/
namespace K16
open PySem PySem.Spec PyProof.Rows L2 Evl
def spCall (K : PySem.W.Frag) : Sp := fun vs H Q _ => ∃ E p given H0 c s w v s', vs = [.ref c.r, v] ∧ EnvOk E ∧ POk p ∧ RunAt K E p given H0 c H s ∧ Im H v (encW w) ∧ (∃ d a g, w = .call d a g) ∧ stepW p s w none = some s' ∧ ∀ H', RunAt K E p given H0 c H' s' → KT H H' → Q .non H'
/-- does the word lead, so answered -/
def leads : Word → Option Int → Bool
  | .choose _, _ => true
  | .loop _, _ => true
  | .out _, _ => true
  | .call _ _ _, _ => true
  | .fault _, _ => true
  | .back, _ => true
  | .risk _, a => decide (a = some 1)
  | _, _ => false
/-- the run behind lead, where it does not lead -/
def held {E : Env} (s s1 : MS (full E)) : Word → MS (full E)
  | .risk _ => s1
  | _ => s
def spLead (K : PySem.W.Frag) : Sp := fun vs H Q _ => ∃ E p given H0 c s s1 a w v, vs = [.ref c.r, v] ∧ EnvOk E ∧ POk p ∧ RunAt K E p given H0 c H s ∧ Im H v (encW w) ∧ wordAt p s.place = some (some w) ∧ Ans given s w a s1 ∧
  (leads w a = true → ∃ s', stepW p s1 w a = some s' ∧ ∀ H', RunAt K E p given H0 c H' s' → KT H H' → Q (.bl true) H') ∧
  (leads w a = false → ∀ H', RunAt K E p given H0 c H' (held s s1 w) → KT H H' → Q (.bl false) H')
theorem full_hand {E : Env} {args ps : List Str} {t fr t' : Things} (h : (full E).hand args ps t = some (fr, t')) :
    (∀ b ∈ args, b ∈ E.Bs) ∧ (∀ b ∈ ps, b ∈ E.Bs) ∧ args.length = ps.length ∧ args.length ≤ 20 ∧ fr = (args.zip ps).foldl (fun fr ap => put fr ap.2 (t ap.1)) empty0 ∧ t' = wipeAll t args := by
  have h : (if (subsetB E args && (subsetB E ps && decide (args.length = ps.length))) = true then some ((args.zip ps).foldl (fun fr ap => put fr ap.2 (t ap.1)) empty0, wipeAll t args) else none : Option (Things × Things)) = some (fr, t') := h
  by_cases hb : (subsetB E args && (subsetB E ps && decide (args.length = ps.length))) = true
  · rw [if_pos hb] at h
    rw [Bool.and_eq_true, Bool.and_eq_true, decide_eq_true_eq] at hb
    obtain ⟨a1, a2⟩ := subsetB_ok hb.1
    obtain ⟨b1, b2⟩ := subsetB_ok hb.2.1
    obtain ⟨rfl, rfl⟩ := Prod.mk.inj (Option.some.inj h)
    exact ⟨a1, b1, hb.2.2, a2, rfl, rfl⟩
  · rw [if_neg hb] at h
    cases h
section
variable {P : Program} {w : World} {K : PySem.W.Frag} {mg : Str → Option Value} {base : Heap}
theorem sc_Run_call : FnScope ["self", "word", "frame", "fresh", "box", "param"] ["self", "word"] (defScope m_Run_call) := ⟨rfl, rfl, rfl, by decide +kernel, rfl, by decide +kernel, by decide +kernel⟩
theorem ok_call (T : Fx K mg) : C8.Met P w K mg base 16 (CR K) "call" (spCall K) [] := by
  obtain ⟨fd, F⟩ := T.f_Run_call
  have c_def_of := ok_def_of (P := P) (w := w) (base := base) T
  have c_first_place := ok_first_place (P := P) (w := w) (base := base) T
  have c_Frame := ok_Frame (P := P) (w := w) (base := base) T
  have c_Frame_look := ok_look (P := P) (w := w) (base := base) T
  have c_Frame_put := ok_put (P := P) (w := w) (base := base) T
  have c_Frame_empty := ok_empty (P := P) (w := w) (base := base) T
  have c_Run_come_to := ok_come_to (P := P) (w := w) (base := base) T
  refine met_of T.cls_Run T.me_Run_call F sc_Run_call (fun _ _ _ _ _ _ us hl => match us, hl with | [_, _], _ => rfl) (by rintro vs H Q E ⟨_, _, _, _, _, _, _, _, _, rfl, _⟩; rfl) fun cdv A outer s0 H vs Q E0 hr hsp => ?_
  obtain ⟨E, p, given, H0, c, s, wd, v, s', rfl, ok, pok, ⟨fs, vo, vpl, h⟩, iv, ⟨dn, args, gets, rfl⟩, hop, k⟩ := hsp
  refine ⟨_, (pss_cons (ps_set (i := 2) sc_Run_call.nd rfl (.inl rfl) (pe_ix ix_list (pe_fld (pv 0) rfl) (pe_un un_neg pe_int) (fun _ _ => rfl)))
    (pss_cons (ps_set (i := 3) sc_Run_call.nd rfl (.inl rfl) (C8.pe_mk c_Frame hr (by omega) rfl (pa_cons (pe_fld (pv 0) rfl) pa_nil)))
    (pss_cons (ps_for PassesOwn.never rfl (RZ.pi_zipA (by rfl) T.zip_ (pa_cons (pe_ix ix_tup (pv 1) pe_int (fun _ _ => rfl)) (pa_cons (pe_ix ix_tup (C8.pe_c c_def_of hr (by omega) rfl (pa_cons (pe_fld (pv 0) rfl) (pa_cons (pe_ix ix_tup (pv 1) pe_int (fun _ _ => rfl)) pa_nil))) pe_int (fun _ _ => rfl)) pa_nil))) (pg_tup rfl (pgs_cons (pg_name (i := 4) sc_Run_call.nd rfl (.inl rfl)) (pgs_cons (pg_name (i := 5) sc_Run_call.nd rfl (.inl rfl)) pgs_nil)))
    (pss_one (ps_expr (C8.pe_mt c_Frame_put hr (by omega) (pv 3) (pa_cons (pv 5) (pa_cons (C8.pe_mt c_Frame_look hr (by omega) (pv 2) (pa_cons (pv 4) pa_nil)) pa_nil))))))
    (pss_cons (ps_expr (C8.pe_mt c_Frame_empty hr (by omega) (pv 2) (pa_cons (pe_ix ix_tup (pv 1) pe_int (fun _ _ => rfl)) pa_nil)))
    (pss_cons (ps_expr (pe_bm PySem.F.plainAttrs_list PySem.F.slot_list_append PySem.F.type_list_append mt_append (pe_fld (pv 0) rfl) (pa_cons (pv 3) pa_nil)))
    (pss_one (ps_expr (C8.pe_mt c_Run_come_to hr (by omega) (pv 0) (pa_cons (C8.pe_c c_first_place hr (by omega) rfl (pa_cons (pe_fld (pv 0) rfl) (pa_cons (pe_ix ix_tup (pv 1) pe_int (fun _ _ => rfl)) pa_nil))) pa_nil))))))))), ?_⟩
  unfold stepW at hop
  obtain ⟨D0, hD, hop⟩ := Option.bind_eq_some_iff.mp hop
  cases hfr : s.frames with
  | nil => rw [hfr] at hop; cases hop
  | cons y rest =>
  obtain ⟨cp, (t : Things)⟩ := y
  rw [hfr] at hop
  dsimp only at hop
  by_cases hlong : 1000 ≤ rest.length
  · rw [if_pos hlong] at hop; cases hop
  rw [if_neg hlong] at hop
  obtain ⟨⟨(fr : Things), (t' : Things)⟩, hh, hop⟩ := Option.bind_eq_some_iff.mp hop
  obtain ⟨a1, a2, a3, a4, rfl, rfl⟩ := full_hand hh
  have hfa := h.fr
  rw [hfr] at hfa
  cases fs with
  | nil => exact hfa.elim
  | cons x fs' =>
  obtain ⟨f, d⟩ := x
  obtain ⟨⟨vc, f1, f2, f3⟩, f4⟩ := hfa
  obtain ⟨kvs0, hd0, hth0⟩ := id f3
  refine qe_set (h.eTop (i := 1) T (ev_var rfl)) fun H1 e1 => ?_
  have h1 := h.ex e1
  refine qd_frame (h1.ePlace T (ev_var rfl)) fun fd dd vcd H2 e2 nfd ndd g1 g2 hdd => ?_
  have e12 := e1.trans e2
  have h2 := h.ex e12
  -- for box, param in zip(word[2], def_of(self.whole, word[1])[1])
  refine (evd_at (K := K) (d := tstr args) 2 (evd_var (i := 1) (σ := [some (.ref c.r), some v, some (.ref f), some (.ref fd), none, none]) rfl (iv.ex e12)) (by simp only [tlD]; rfl)) H2 (Ex.refl H2) _ fun va H3 e3 ia => ?_
  have h3 := h2.ex e3
  refine (evd_at (K := K) (d := tstr D0.params) 1 (evd_call (E := C8.E0) (d := encDef D0) (evds_cons (h3.eWhole T (ev_var (i := 0) (σ := [some (.ref c.r), some v, some (.ref f), some (.ref fd), none, none]) rfl)) (evds_cons (evd_at (d := .str dn) 1 (evd_var (i := 1) rfl (iv.ex (e12.trans e3))) (by simp only [tlD]; rfl)) evds_nil)) ⟨p, dn, rfl, by rw [hD]⟩) rfl) H3 (Ex.refl H3) _ fun vp H4 e4 ip => ?_
  obtain ⟨la, xa, rfl, hla, ixa⟩ := (ia.ex e4).tup_
  obtain ⟨lp, xp, rfl, hlp, ixp⟩ := ip.tup_
  have := ixa.strs_
  subst this
  have := ixp.strs_
  subst this
  have e24 := e3.trans e4
  have h4 := h2.ex e24
  have e14 := e12.trans e24
  refine ⟨la, lp, _, _, rfl, .inr ⟨SqT.of hla, SqT.of hlp, RZ.for_zipT (K := K) (xs := args.map V.str) (ys := D0.params.map V.str) (by simp [a3]) (fun i σ' H' => ∃ x y, σ' = [some (.ref c.r), some v, some (.ref f), some (.ref fd), x, y] ∧ Ex H1 H' ∧ H' la = some (.tup (args.map V.str)) ∧ H' lp = some (.tup (D0.params.map V.str)) ∧ FrH K H' fd vcd dd ∧ Im H' vcd (encPl s.place) ∧
      ThAt E H' dd (((args.zip D0.params).take i).foldl (fun fr ap => put fr ap.2 (t ap.1)) empty0)) ⟨none, none, rfl, e2.trans e24, hla, hlp, g1.ex e24, g2.ex e24, ⟨[], e24 _ _ hdd, th_empty⟩⟩ (fun i σ' H' ⟨_, _, _, _, a, b, _⟩ => ⟨SqT.of a, SqT.of b⟩) ?_ ?_⟩⟩
  · rintro i xa xp q σ' H' hxa hxp ⟨x, y, rfl, e5, b1, b2, b3, b4, b5⟩ hq
    rw [List.getElem?_map] at hxa hxp
    cases ha : args[i]? with
    | none => rw [ha] at hxa; cases hxa
    | some ab =>
    cases hp : D0.params[i]? with
    | none => rw [hp] at hxp; cases hxp
    | some pb =>
    rw [ha] at hxa
    rw [hp] at hxp
    obtain rfl : V.str ab = xa := Option.some.inj hxa
    obtain rfl : V.str pb = xp := Option.some.inj hxp
    have eX : Ex H' (upd H' q (.tup [.str ab, .str pb])) := Ex.new hq
    refine g_two upd_same ?_
    have e6 := e5.trans eX
    have hz : (args.zip D0.params)[i]? = some (ab, pb) := by
      rw [List.getElem?_zip_eq_some]
      exact ⟨ha, hp⟩
    refine sd_put (E := E) (b := pb) (x := t ab) ok (ev_var rfl) (b3.ex eX) (b5.ex eX) (evds_cons (evd_var rfl (.str pb)) (evds_cons (evd_look (ev_var rfl) ((f1.ex e1).ex e6) ((f3.ex e1).ex e6) (evds_cons (evd_var rfl (.str ab)) evds_nil)) evds_nil)) (a2 pb (List.mem_of_getElem? hp)) (hth0.ws ab) fun H7 k7 t7 => ?_
    obtain ⟨kvs6, hd6, _⟩ := b5.ex eX
    have kt7 : KT (upd H' q (.tup [.str ab, .str pb])) H7 := k7.kt fun b hb ys => by rw [List.mem_singleton.mp hb]; exact nt_dK hd6 ys
    refine ⟨_, _, rfl, ex_kp e6 k7 ndd, kt7 _ _ (eX _ _ b1), kt7 _ _ (eX _ _ b2), (b3.ex eX).kp k7 (by simpa using (b3.ex eX).ne hd6), (b4.ex eX).mono kt7, ?_⟩
    rw [List.take_add_one, hz, List.foldl_append]
    exact t7
  · rintro σ' H' ⟨x, y, rfl, e5, b1, b2, b3, b4, b5⟩
    have ez : (args.zip D0.params).take (args.map V.str).length = args.zip D0.params := by
      apply List.take_of_length_le
      simp [a3]
    rw [ez] at b5
    have h5 := h1.ex e5
    have iv5 := iv.ex (e1.trans e5)
    refine q_seq (sd_empty (ev_var rfl) ((f1.ex e1).ex e5) ((f3.ex e1).ex e5) (evds_cons (evd_at (d := tstr args) 2 (evd_var rfl iv5) (by simp only [tlD]; rfl)) evds_nil) fun H6 k6 t6 => ?_)
    obtain ⟨h6, kt6⟩ := h5.top hfr k6 t6
    obtain ⟨kvs5, hd5, _⟩ := id b5
    have nd : dd ≠ d := fun z => by rw [z, e1 _ _ hd0] at ndd; cases ndd
    have hdk : H' d = some (.dK kvs0) := e5 _ _ (e1 _ _ hd0)
    have b36 := b3.kp k6 (by simpa using b3.ne hdk)
    have b46 := b4.mono kt6
    have b56 : ThAt E H6 dd _ := b5.mono kt6 fun o e => k6 _ o e (by simpa using nd)
    have h06 : H0 dd = none := by
      cases q : H0 dd with
      | none => rfl
      | some o => rw [h1.base _ _ q] at ndd; cases ndd
    -- self.frames.append(fresh)
    refine q_seq (s_app (xs := (((f, d) :: fs').reverse.map fun x => V.ref x.1)) (l := c.lf) h6.frs (h6.eFrs T (ev_var rfl)) (ev_var (v := .ref fd) rfl) ?_ fun H7 e7 => ?_)
    · have := f4.len
      simp only [List.length_map, List.length_reverse, List.length_cons]
      omega
    · have h7 := (h6.ex e7).push (x := (fd, dd)) (y := (some s.place, (args.zip D0.params).foldl (fun fr ap => put fr ap.2 (t ap.1)) empty0)) ⟨vcd, b36.ex e7, b46.ex e7, b56.ex e7⟩ h06 (by
        rw [List.map_cons, List.mem_cons, not_or]
        refine ⟨nd, fun m => ?_⟩
        obtain ⟨z, hz, e⟩ := List.mem_map.mp m
        obtain ⟨yy, _, vcz, _, _, kz, hkz, _⟩ := h1.fr.mem z (by simp [hz])
        rw [e, ndd] at hkz
        cases hkz)
      refine sd_come h7 (ev_var rfl) ok pok (evd_call (evds_cons (h7.eWhole T (ev_var rfl)) (evds_cons (evd_at (d := .str dn) 1 (evd_var rfl ((iv5.mono kt6).mono ((KT.of e7).trans ((KT.refl H7).upd (nt_lst (e7 _ _ h6.frs)))))) (by simp only [tlD]; rfl)) evds_nil)) ⟨_, dn, rfl, rfl⟩) hop fun H8 r8 kt8 => ?_
      exact k H8 r8 ((((KT.of (e1.trans e5)).trans kt6).trans ((KT.of e7).trans ((KT.refl H7).upd (nt_lst (e7 _ _ h6.frs))))).trans kt8)
end
end K16

set_option Elab.async false
set_option linter.all false
set_option maxRecDepth 100000
set_option maxHeartbeats 4000000
/-! KRunG: lead, step -/
namespace K16
open PySem PySem.Spec PyProof.Rows L2 Evl
theorem POk.sh {p : Prog} (ok : POk p) {pl : Place} {w : Word} (h : wordAt p pl = some (some w)) : ∀ r ∈ rowsIn w, SeqAt.shaped (encRow r) = true := fun r hr => by
  obtain ⟨row, h1, h2⟩ := Option.bind_eq_some_iff.mp h
  unfold wordR at h2
  split at h2
  · cases h2
  obtain ⟨w', h3, h4⟩ := Option.map_eq_some_iff.mp h2
  obtain rfl : w' = w := Option.some.inj h4
  obtain ⟨i, hi⟩ := List.mem_iff_getElem?.mp hr
  refine ok.shape pl.nm ((pl.at_, i) :: pl.path) r ?_
  obtain ⟨R, h5, h6⟩ := Option.bind_eq_some_iff.mp h1
  unfold rowAt
  rw [h5, Option.bind_some]
  show (rowP R pl.path).bind _ = _
  rw [h6, Option.bind_some, h3, Option.bind_some]
  exact hi
def spStep (K : PySem.W.Frag) : Sp := fun vs H Q _ => ∃ E p given H0 c s s', vs = [.ref c.r] ∧ EnvOk E ∧ POk p ∧ RunAt K E p given H0 c H s ∧ step p given s = some s' ∧ ∀ H', RunAt K E p given H0 c H' s' → KT H H' → Q .non H'
theorem step_ways {E : Env} {p : Prog} {given : List Int} {s s' : MS (full E)} (h : step p given s = some s') : ∃ w a s1 s2, wordAt p s.place = some (some w) ∧ Ans given s w a s1 ∧ stepW p s1 w a = some s2 ∧ s' = tick s2 := by
  unfold step at h
  cases hw : wordAt p s.place with
  | none => rw [hw] at h; cases h
  | some o =>
  cases o with
  | none => rw [hw] at h; cases h
  | some w =>
  rw [hw] at h
  dsimp only at h
  cases hn : need w with
  | none =>
    rw [hn] at h
    obtain ⟨s2, h1, rfl⟩ := Option.map_eq_some_iff.mp h
    exact ⟨w, none, s, s2, rfl, .inl ⟨hn, rfl, rfl⟩, h1, rfl⟩
  | some m =>
    rw [hn] at h
    obtain ⟨s2, h1, rfl⟩ := Option.map_eq_some_iff.mp h
    obtain ⟨v, hv, h1⟩ := Option.bind_eq_some_iff.mp h1
    split at h1
    · next q => exact ⟨w, some v, _, s2, rfl, .inr ⟨m, v, hn, hv, q.1, q.2, rfl, rfl⟩, h1, rfl⟩
    · cases h1
section
variable {P : Program} {w : World} {K : PySem.W.Frag} {mg : Str → Option Value} {base : Heap}
theorem sc_Run_lead : FnScope ["self", "word"] ["self", "word"] (defScope m_Run_lead) := ⟨rfl, rfl, rfl, by decide +kernel, rfl, by decide +kernel, by decide +kernel⟩
theorem ok_lead (T : Fx K mg) : C8.Met P w K mg base 17 (CR K) "lead" (spLead K) [] := by
  obtain ⟨fd, F⟩ := T.f_Run_lead
  have c_inside := ok_inside (P := P) (w := w) (base := base) T
  have c_out_of := ok_out_of (P := P) (w := w) (base := base) T
  have c_Run_answer := ok_answer (P := P) (w := w) (base := base) T
  have c_Run_come_to := ok_come_to (P := P) (w := w) (base := base) T
  have c_Run_call := ok_call (P := P) (w := w) (base := base) T
  have c_Run_fall := ok_fall (P := P) (w := w) (base := base) T
  have c_Run_go_back := ok_go_back (P := P) (w := w) (base := base) T
  refine met_of T.cls_Run T.me_Run_lead F sc_Run_lead (fun _ _ _ _ _ _ us hl => match us, hl with | [_, _], _ => rfl) (by rintro vs H Q E ⟨_, _, _, _, _, _, _, _, _, _, rfl, _⟩; rfl) fun cdv A outer s0 H vs Q E0 hr hsp => ?_
  obtain ⟨E, p, given, H0, c, s, s1, a, wd, v, rfl, ok, pok, ⟨fs, vo, vpl, h⟩, iv, hw, hans, k1, k0⟩ := hsp
  refine ⟨_, (pss_cons (ps_if (pt_cmpR op_eq (pe_ix ix_tup (pv 1) pe_int (fun _ _ => rfl)) pe_str (nomark _))
    (pss_one (ps_expr (C8.pe_mt c_Run_come_to hr (by omega) (pv 0) (pa_cons (C8.pe_c c_inside hr (by omega) rfl (pa_cons (pe_fld (pv 0) rfl) (pa_cons (pe_fld (pv 0) rfl) (pa_cons (C8.pe_mt c_Run_answer hr (by omega) (pv 0) (pa_cons (pe_callB call_len_seq (by rfl) T.len_ boot_len (pa_cons (pe_ix ix_tup (pv 1) pe_int (fun _ _ => rfl)) pa_nil)) pa_nil)) pa_nil)))) pa_nil))))
    (pss_one (ps_if (pt_cmpR op_eq (pe_ix ix_tup (pv 1) pe_int (fun _ _ => rfl)) pe_str (nomark _))
    (pss_one (ps_expr (C8.pe_mt c_Run_come_to hr (by omega) (pv 0) (pa_cons (C8.pe_c c_inside hr (by omega) rfl (pa_cons (pe_fld (pv 0) rfl) (pa_cons (pe_fld (pv 0) rfl) (pa_cons pe_int pa_nil)))) pa_nil))))
    (pss_one (ps_if (pt_cmpR op_eq (pe_ix ix_tup (pv 1) pe_int (fun _ _ => rfl)) pe_str (nomark _))
    (pss_one (ps_expr (C8.pe_mt c_Run_come_to hr (by omega) (pv 0) (pa_cons (C8.pe_c c_out_of hr (by omega) rfl (pa_cons (pe_fld (pv 0) rfl) (pa_cons (pe_fld (pv 0) rfl) (pa_cons (pe_ix ix_tup (pv 1) pe_int (fun _ _ => rfl)) pa_nil)))) pa_nil))))
    (pss_one (ps_if (pt_cmpR op_eq (pe_ix ix_tup (pv 1) pe_int (fun _ _ => rfl)) pe_str (nomark _))
    (pss_one (ps_expr (C8.pe_mt c_Run_call hr (by omega) (pv 0) (pa_cons (pv 1) pa_nil))))
    (pss_one (ps_if (PW.pt (pw_or (pt_cmpR op_eq (pe_ix ix_tup (pv 1) pe_int (fun _ _ => rfl)) pe_str (nomark _)) (pw_or1 (PW.pt (pw_and (pt_cmpR op_eq (pe_ix ix_tup (pv 1) pe_int (fun _ _ => rfl)) pe_str (nomark _)) (pw_and1 (pt_cmpR op_eq (C8.pe_mt c_Run_answer hr (by omega) (pv 0) (pa_cons pe_int pa_nil)) pe_int (nomark _))))))))
    (pss_one (ps_expr (C8.pe_mt c_Run_fall hr (by omega) (pv 0) (pa_cons (pe_ix ix_tup (pv 1) pe_int (fun _ _ => rfl)) pa_nil))))
    (pss_one (ps_if (pt_cmpR op_eq (pe_ix ix_tup (pv 1) pe_int (fun _ _ => rfl)) pe_str (nomark _))
    (pss_cons (ps_expr (C8.pe_mt0 c_Run_go_back hr (by omega) (pv 0)))
    (pss_one (ps_if (pt_cmpR op_isN (pe_fld (pv 0) rfl) pe_non (nomark _))
    (pss_one (ps_expr (C8.pe_mt c_Run_come_to hr (by omega) (pv 0) (pa_cons (pe_fld (pv 0) rfl) pa_nil))))
    pss_nil)))
    (pss_one (ps_ret pe_bl)))))))))))))
    (pss_one (ps_ret pe_bl))), ?_⟩
  have w8 := pok.word hw
  have sh := pok.sh hw
  have noA : need wd = none → a = none ∧ s = s1 := fun hn => by
    rcases hans with ⟨_, h1, h2⟩ | ⟨m, _, h1, _⟩
    · exact ⟨h1, h2.symm⟩
    · rw [hn] at h1; cases h1
  have yesA : ∀ m, need wd = some m → ∃ u, given[s.used]? = some u ∧ 0 ≤ u ∧ u < (m : Int) ∧ a = some u ∧ s1 = { s with used := s.used + 1 } := fun m hn => by
    rcases hans with ⟨h1, _⟩ | ⟨m', u, h1, h2, h3, h4, h5, h6⟩
    · rw [hn] at h1; cases h1
    · rw [hn] at h1; cases h1; exact ⟨u, h2, h3, h4, h5, h6⟩
  have hself : ∀ {H3 : Hp}, Ev (tVar 0) [some (.ref c.r), some v] H3 (.ref c.r) := ev_var rfl
  have fin : ∀ {H3 : Hp}, (∃ s', stepW p s1 wd a = some s' ∧ RunAt K E p given H0 c H3 s' ∧ leads wd a = true) → KT H H3 → tRet (tC (.bl true)) { nx := fun _ H' => Q .non H', rt := Q } [some (.ref c.r), some v] H3 := fun {H3} ⟨s', h1, h2, h3⟩ kt => by
    obtain ⟨s2, h4, kk⟩ := k1 h3
    rw [h1] at h4
    cases h4
    exact s_ret ev_c fun H4 e4 => kk H4 (by obtain ⟨f2, vo2, vp2, hx⟩ := h2; exact ⟨_, _, _, hx.ex e4⟩) (kt.trans (KT.of e4))
  by_cases c1 : hd wd = "choose"
  · obtain ⟨rs, rfl⟩ := hd_choose c1
    obtain ⟨u, hu, h0, hm, rfl, rfl⟩ := yesA _ rfl
    obtain ⟨s', hs', kk⟩ := k1 rfl
    have hs2 := hs'
    unfold stepW at hs2
    rw [Option.bind_some] at hs2
    obtain ⟨pl', hin, hcome⟩ := Option.bind_eq_some_iff.mp hs2
    refine q_seq (q_yesE (evt_hd1 (evd_var rfl iv) c1) fun H1 e1 => ?_)
    have h1 := h.ex e1
    refine ⟨.ref c.r, rfl, c.r, c.dx, _, rfl, h1.obj, rfl, ?_⟩
    unfold tCons tCall
    dsimp only
    refine (h1.eWhole T (ta := tVar 0) (σ := [some (.ref c.r), some v]) hself) H1 (Ex.refl H1) _ fun v1 H2 e2 i1 => ?_
    refine ((h1.ex e2).ePlace T (ta := tVar 0) (σ := [some (.ref c.r), some v]) hself) H2 (Ex.refl H2) _ fun v2 H3 e3 i2 => ?_
    have h3 := h1.ex (e2.trans e3)
    refine h3.eAns (σ := [some (.ref c.r), some v]) hself (evd_len (evd_at (d := .tuple (encRs rs)) 1 (evd_var (i := 1) (σ := [some (.ref c.r), some v]) rfl (iv.ex (e1.trans (e2.trans e3)))) (by simp only [tlD]; rfl))) hu h0 (by rw [encRs_map, List.length_map]; exact hm) fun H4 h4 kt4 kp4 => ?_
    have hc : u = ((u.toNat : Nat) : Int) := by omega
    refine ⟨[encProg p, encPl s.place, .int u], encPl pl', ⟨p, s.place, u.toNat, pl', by rw [← hc], hin, w8, fun w' hw' => by rw [hw] at hw'; cases hw'; exact sh, rfl⟩, .cons ((i1.ex e3).mono kt4) (.cons (i2.mono kt4) (.cons (.int u) .nil)), fun v5 H5 e5 i5 => ?_⟩
    refine ⟨E, p, given, H0, c, _, s', v5, pl', rfl, ok, pok, (h4.ex e5).to pl', i5, hcome, fun H6 r6 kt6 => ?_⟩
    exact fin ⟨s', hs', r6, rfl⟩ ((((KT.of (e1.trans (e2.trans e3))).trans kt4).trans (KT.of e5)).trans kt6)
  refine q_seq ?_
  refine q_noE (evt_hd0 (evd_var rfl iv) c1) fun H1 e1 => ?_
  have h1 := h.ex e1
  by_cases c2 : hd wd = "loop"
  · obtain ⟨r, rfl⟩ := hd_loop c2
    obtain ⟨rfl, rfl⟩ := noA rfl
    obtain ⟨s', hs', kk⟩ := k1 rfl
    have hs2 := hs'
    unfold stepW at hs2
    obtain ⟨pl', hin, hcome⟩ := Option.bind_eq_some_iff.mp hs2
    refine q_yesE (evt_hd1 (evd_var rfl (iv.ex e1)) c2) fun H2 e2 => ?_
    have h2 := h1.ex e2
    refine sd_come h2 hself ok pok (evd_call (evds_cons (h2.eWhole T hself) (evds_cons (h2.ePlace T hself) (evds_cons evd_int evds_nil))) ⟨p, s.place, 0, pl', rfl, hin, w8, fun w' hw' => by rw [hw] at hw'; cases hw'; exact sh, rfl⟩) hcome fun H3 r3 kt3 => ?_
    exact fin ⟨s', hs', r3, rfl⟩ ((KT.of (e1.trans e2)).trans kt3)
  refine q_noE (evt_hd0 (evd_var rfl (iv.ex e1)) c2) fun H2 e2 => ?_
  have e12 := e1.trans e2
  have h2 := h.ex e12
  by_cases c3 : hd wd = "out"
  · obtain ⟨n, rfl⟩ : ∃ n, wd = .out n := by
      cases wd <;> first | exact ⟨_, rfl⟩ | (simp only [hd] at c3; exact absurd c3 (by decide +kernel))
    obtain ⟨rfl, rfl⟩ := noA rfl
    obtain ⟨s', hs', kk⟩ := k1 rfl
    have hs2 := hs'
    unfold stepW at hs2
    dsimp only at hs2
    by_cases hn0 : n = 0
    · rw [if_pos hn0] at hs2; cases hs2
    rw [if_neg hn0] at hs2
    obtain ⟨pl', hin, hcome⟩ := Option.bind_eq_some_iff.mp hs2
    refine q_yesE (evt_hd1 (evd_var rfl (iv.ex e12)) c3) fun H3 e3 => ?_
    have h3 := h2.ex e3
    refine sd_come h3 hself ok pok (evd_call (evds_cons (h3.eWhole T hself) (evds_cons (h3.ePlace T hself) (evds_cons (evd_at (d := .int n) 1 (evd_var rfl (iv.ex (e12.trans e3))) (by simp only [tlD]; rfl)) evds_nil))) ⟨p, s.place, n, pl', rfl, hin, by omega, w8, rfl⟩) hcome fun H4 r4 kt4 => ?_
    exact fin ⟨s', hs', r4, rfl⟩ ((KT.of (e12.trans e3)).trans kt4)
  refine q_noE (evt_hd0 (evd_var rfl (iv.ex e12)) c3) fun H3 e3 => ?_
  have e13 := e12.trans e3
  have h3 := h.ex e13
  by_cases c4 : hd wd = "call"
  · obtain ⟨dn, ar, gt, rfl⟩ : ∃ d a g, wd = .call d a g := by
      cases wd <;> first | exact ⟨_, _, _, rfl⟩ | (simp only [hd] at c4; exact absurd c4 (by decide +kernel))
    obtain ⟨rfl, rfl⟩ := noA rfl
    obtain ⟨s', hs', kk⟩ := k1 rfl
    refine q_yesE (evt_hd1 (evd_var rfl (iv.ex e13)) c4) fun H4 e4 => ?_
    have h4 := h3.ex e4
    refine ⟨.ref c.r, rfl, c.r, c.dx, _, rfl, h4.obj, rfl, v, rfl, ?_⟩
    exact ⟨E, p, given, H0, c, s, _, v, s', rfl, ok, pok, ⟨_, _, _, h4⟩, iv.ex (e13.trans e4), ⟨_, _, _, rfl⟩, hs', fun H5 r5 kt5 => fin ⟨s', hs', r5, rfl⟩ ((KT.of (e13.trans e4)).trans kt5)⟩
  refine q_noE (evt_hd0 (evd_var rfl (iv.ex e13)) c4) fun H4 e4 => ?_
  have e14 := e13.trans e4
  have h4 := h.ex e14
  by_cases c5 : hd wd = "fault"
  · obtain ⟨f, rfl⟩ : ∃ f, wd = .fault f := by
      cases wd <;> first | exact ⟨_, rfl⟩ | (simp only [hd] at c5; exact absurd c5 (by decide +kernel))
    obtain ⟨rfl, rfl⟩ := noA rfl
    obtain ⟨s', hs', kk⟩ := k1 rfl
    refine q_yesE (et_is (et_or (b := false) (evt_hd1 (evd_var rfl (iv.ex e14)) c5) (fun z => nomatch z)) rfl) fun H5 e5 => ?_
    have h5 := h4.ex e5
    refine sd_fall h5 hself ok pok (evd_at (d := .str f) 1 (evd_var rfl (iv.ex (e14.trans e5))) (by simp only [tlD]; rfl)) hs' fun H6 r6 kt6 => ?_
    exact fin ⟨s', hs', r6, rfl⟩ ((KT.of (e14.trans e5)).trans kt6)
  by_cases c6 : hd wd = "risk"
  · obtain ⟨f, rfl⟩ : ∃ f, wd = .risk f := by
      cases wd <;> first | exact ⟨_, rfl⟩ | (simp only [hd] at c6; exact absurd c6 (by decide +kernel))
    obtain ⟨u, hu, h0, hm, rfl, rfl⟩ := yesA _ rfl
    refine (evt_hd0 (K := K) (i := 0) (z := "fault") (w := .risk f) (evd_var (i := 1) (σ := [some (.ref c.r), some v]) rfl (iv.ex e14)) c5) H4 (Ex.refl H4) _ fun H5 e5 => ?_
    refine (evt_hd1 (K := K) (i := 0) (z := "risk") (w := .risk f) (evd_var (i := 1) (σ := [some (.ref c.r), some v]) rfl (iv.ex (e14.trans e5))) c6) H5 (Ex.refl H5) _ fun H6 e6 => ?_
    have e16 := (e14.trans e5).trans e6
    have h6 := h.ex e16
    refine h6.eAns (σ := [some (.ref c.r), some v]) hself (evd_int (i := 2)) hu h0 hm fun H7 h7 kt7 kp7 => ?_
    have kt17 := (KT.of e16).trans kt7
    refine ⟨rfl, _, rfl, ?_⟩
    dsimp only
    by_cases hu1 : u = 1
    · subst hu1
      rw [if_pos (by decide)]
      obtain ⟨s', hs', kk⟩ := k1 rfl
      have hs2 := hs'
      unfold stepW at hs2
      dsimp only [Option.bind_some] at hs2
      rw [if_pos rfl] at hs2
      refine sd_fall h7 hself ok pok (evd_at (d := .str f) 1 (evd_var rfl (iv.mono kt17)) (by simp only [tlD]; rfl)) hs2 fun H8 r8 kt8 => ?_
      exact fin ⟨s', hs', r8, rfl⟩ (kt17.trans kt8)
    · have kk := k0 (by simp [leads, hu1])
      rw [if_neg (by simp [hu1])]
      refine q_noE (evt_hd0 (evd_var rfl (iv.mono kt17)) (by simp only [hd]; decide +kernel)) fun H8 e8 => ?_
      exact s_ret ev_c fun H9 e9 => kk H9 ⟨_, _, _, h7.ex (e8.trans e9)⟩ (kt17.trans (KT.of (e8.trans e9)))
  refine q_noE (et_is (et_or (b := false) (evt_hd0 (evd_var rfl (iv.ex e14)) c5) fun _ => et_is (et_and (b := false) (evt_hd0 (evd_var rfl (iv.ex e14)) c6) (fun z => nomatch z)) rfl) rfl) fun H5 e5 => ?_
  have e15 := e14.trans e5
  have h5 := h.ex e15
  by_cases c7 : hd wd = "back"
  · obtain rfl : wd = .back := by
      cases wd <;> first | rfl | (simp only [hd] at c7; exact absurd c7 (by decide +kernel))
    obtain ⟨rfl, rfl⟩ := noA rfl
    obtain ⟨s', hs', kk⟩ := k1 rfl
    have hs2 := hs'
    unfold stepW at hs2
    obtain ⟨s2, hg, hs3⟩ := Option.bind_eq_some_iff.mp hs2
    refine q_yesE (evt_hd1 (evd_var rfl (iv.ex e15)) c7) fun H6 e6 => ?_
    have h6 := h5.ex e6
    refine q_seq (sd_op (op := fun _ p s => goBack p s) h6 hself ok pok hg (fun _ _ => rfl) fun H7 r7 kt7 => ?_)
    obtain ⟨fs7, vo7, vpl7, h7⟩ := r7
    have kt17 := (KT.of (e15.trans e6)).trans kt7
    cases hov : s2.over with
    | some o =>
      rw [hov] at hs3
      have hs3 : some s2 = some s' := hs3
      cases hs3
      refine q_noE (et_is (b := false) (evt_none (h7.eOver T hself)) (by rw [hov]; cases o <;> rfl)) fun H8 e8 => ?_
      exact fin ⟨_, hs', ⟨_, _, _, h7.ex e8⟩, rfl⟩ (kt17.trans (KT.of e8))
    | none =>
      rw [hov] at hs3
      have hs3 : comeTo p s2 s2.place = some s' := hs3
      refine q_yesE (et_is (b := true) (evt_none (h7.eOver T hself)) (by rw [hov]; rfl)) fun H8 e8 => ?_
      have h8 := h7.ex e8
      refine sd_come h8 hself ok pok (h8.ePlace T hself) hs3 fun H9 r9 kt9 => ?_
      exact fin ⟨s', hs', r9, rfl⟩ ((kt17.trans (KT.of e8)).trans kt9)
  · refine q_noE (evt_hd0 (evd_var rfl (iv.ex e15)) c7) fun H6 e6 => ?_
    have hl : leads wd a = false := by
      cases wd <;> first | rfl | exact absurd rfl c1 | exact absurd rfl c2 | exact absurd rfl c3 | exact absurd rfl c4 | exact absurd rfl c5 | exact absurd rfl c6 | exact absurd rfl c7
    refine s_ret ev_c fun H7 e7 => k0 hl H7 ?_ (KT.of (e15.trans (e6.trans e7)))
    have hm : held s s1 wd = s := by
      cases wd <;> first | rfl | exact absurd rfl c6
    rw [hm]
    exact ⟨_, _, _, h.ex (e15.trans (e6.trans e7))⟩
end
end K16

set_option Elab.async false
set_option linter.all false
set_option maxRecDepth 100000
set_option maxHeartbeats 4000000
/-! KRunH: step, the making of a Run, run -/
namespace K16
open PySem PySem.Spec PyProof.Rows L2 Evl
def encRes : Res → PyData
  | .ended n t l => .tuple [.str "ended", .int n, .tuple (t.map PyData.int), .tuple (l.map encLv)]
  | .fault f n t l => .tuple [.str "fault", .str f, .int n, .tuple (t.map PyData.int), .tuple (l.map encLv)]
  | .on pl n t l h => .tuple [.str "on", encPl pl, .int n, .tuple (t.map PyData.int), .tuple (l.map encLv), .tuple (h.map encHeld)]
def fRun : List PyData → PyData → Prop := fun ds d => ∃ E p given most r, ds = [encProg p, .tuple (given.map PyData.int), .int (most : Nat)] ∧ EnvOk E ∧ POk p ∧ runM E p given most = some r ∧ d = encRes r
def spRunI (K : PySem.W.Frag) : Sp := fun vs H Q _ => ∃ E p given H0 x dx vp vg s', vs = [.ref x, vp, vg] ∧ EnvOk E ∧ POk p ∧ Ex H0 H ∧ H0 x = none ∧ H x = some (.ins (CR K) dx []) ∧ Im H vp (encProg p) ∧ Im H vg (.tuple (given.map PyData.int)) ∧
  start (A := full E) p empty0 ([], []) = some s' ∧ ∀ H' c, c.r = x → RunAt K E p given H0 c H' s' → Q .non H'
section
variable {K : PySem.W.Frag} {mg : Str → Option Value} {E : Env} {p : Prog} {given : List Int} {H0 : Hp} {c : RC} {fs : List (Addr × Addr)} {vo vpl : V} {H H' : Hp} {s : MS (full E)} {σ : L2.St} {ta tf tp te : TE} {D : Ends} {tz : TS}
/-- self.steps += 1 -/
theorem RunX.sTick (h : RunX K E p given H0 c fs vo vpl H s) (T : Fx K mg) (ha : Ev ta σ H (.ref c.r)) (k : ∀ H', RunX K E p given H0 c fs vo vpl H' (tick s) → KT H H' → D.nx σ H') : sFldAug K ta (tC (.int 1)) rAdd "steps" D σ H := by
  refine ha H (Ex.refl H) _ fun H1 e1 => ?_
  have h1 := h.ex e1
  refine ⟨c.r, _, c.dx, _, _, rfl, h1.obj, T.cls_Run, T.no_Run_steps, rfl, s.steps, 1, rfl, rfl, _, _, h1.obj, by show 9 < 1000; omega, ?_⟩
  exact k _ (h1.fld (used := s.used) (steps := s.steps + 1) (ov := s.over) (pl := s.place) h1.over h1.place) ((KT.of e1).trans ((KT.refl H1).upd (nt_ins h1.obj)))
theorem lead_plain {E : Env} {p : Prog} {given : List Int} {s s1 s2 : MS (full E)} {w : Word} {a : Option Int} (hl : leads w a = false) (h : stepW p s1 w a = some s2) (hA : Ans given s w a s1) :
    (∃ f, w = .risk f ∧ (behind p s1.place).bind (comeTo p s1) = some s2) ∨ (hd w ≠ "risk" ∧ ∃ cp t rest t' l, s.frames = (cp, t) :: rest ∧ (full E).plain s.place w a t s.log = some (t', l) ∧ (behind p s.place).bind (comeTo p { s1 with frames := (cp, t') :: rest, log := l }) = some s2) := by
  have go : ∀ (hn : hd w ≠ "risk"), (s1.frames = [] → stepW p s1 w a = none) → (∀ cp t rest, s1.frames = (cp, t) :: rest → stepW p s1 w a = ((full E).plain s1.place w a t s1.log).bind fun (t', l) => (behind p s1.place).bind (comeTo p { s1 with frames := (cp, t') :: rest, log := l })) →
      ((∃ f, w = .risk f ∧ (behind p s1.place).bind (comeTo p s1) = some s2) ∨ (hd w ≠ "risk" ∧ ∃ cp t rest t' l, s.frames = (cp, t) :: rest ∧ (full E).plain s.place w a t s.log = some (t', l) ∧ (behind p s.place).bind (comeTo p { s1 with frames := (cp, t') :: rest, log := l }) = some s2)) := fun hn z1 z2 => by
    have same : s1.frames = s.frames ∧ s1.place = s.place ∧ s1.log = s.log := by
      rcases hA with ⟨_, _, rfl⟩ | ⟨_, _, _, _, _, _, _, rfl⟩ <;> exact ⟨rfl, rfl, rfl⟩
    cases hf : s1.frames with
    | nil => rw [z1 hf] at h; cases h
    | cons y rest =>
    obtain ⟨cp, t⟩ := y
    rw [z2 cp t rest hf, same.2.1, same.2.2] at h
    obtain ⟨⟨t', l⟩, h1, h2⟩ := Option.bind_eq_some_iff.mp h
    exact Or.inr ⟨hn, cp, t, rest, t', l, same.1.symm.trans hf, h1, h2⟩
  cases w with
  | risk f =>
    left
    refine ⟨f, rfl, ?_⟩
    rcases hA with ⟨h1, _⟩ | ⟨_, v, _, _, _, _, rfl, _⟩
    · cases h1
    · have h : (if v = 1 then fall s1 f else (behind p s1.place).bind (comeTo p s1)) = some s2 := h
      have hv : v ≠ 1 := by simpa [leads] using hl
      rw [if_neg hv] at h
      exact h
  | choose _ => cases hl
  | loop _ => cases hl
  | out _ => cases hl
  | call _ _ _ => cases hl
  | fault _ => cases hl
  | back => cases hl
  | _ => exact go (by simp only [hd]; decide +kernel) (fun hf => by unfold stepW; dsimp only; rw [hf]) (fun cp t rest hf => by unfold stepW; dsimp only; rw [hf])
end
section
variable {P : Program} {w : World} {K : PySem.W.Frag} {mg : Str → Option Value} {base : Heap}
theorem sc_Run_step : FnScope ["self", "word"] ["self"] (defScope m_Run_step) := ⟨rfl, rfl, rfl, by decide +kernel, rfl, by decide +kernel, by decide +kernel⟩
theorem ok_step (T : Fx K mg) : C8.Met P w K mg base 18 (CR K) "step" (spStep K) [] := by
  obtain ⟨fd, F⟩ := T.f_Run_step
  have c_word_at := ok_word_at (P := P) (w := w) (base := base) T
  have c_behind := ok_behind (P := P) (w := w) (base := base) T 8
  have c_Run_lead := ok_lead (P := P) (w := w) (base := base) T
  have c_Run_change := ok_change (P := P) (w := w) (base := base) T
  have c_Run_come_to := ok_come_to (P := P) (w := w) (base := base) T
  refine met_of T.cls_Run T.me_Run_step F sc_Run_step (fun _ _ _ _ _ _ us hl => match us, hl with | [_], _ => rfl) (by rintro vs H Q E ⟨_, _, _, _, _, _, _, rfl, _⟩; rfl) fun cdv A outer s0 H vs Q E0 hr hsp => ?_
  obtain ⟨E, p, given, H0, c, s, s', rfl, ok, pok, ⟨fs, vo, vpl, h⟩, hop, k⟩ := hsp
  refine ⟨_, (pss_cons (ps_set (i := 1) sc_Run_step.nd rfl (.inl rfl) (C8.pe_c c_word_at hr (by omega) rfl (pa_cons (pe_fld (pv 0) rfl) (pa_cons (pe_fld (pv 0) rfl) pa_nil))))
    (pss_cons (ps_if (pt_not (pt_val (C8.pe_mt c_Run_lead hr (by omega) (pv 0) (pa_cons (pv 1) pa_nil))))
    (pss_cons (ps_if (pt_cmpR op_ne (pe_ix ix_tup (pv 1) pe_int (fun _ _ => rfl)) pe_str (nomark _))
    (pss_one (ps_expr (C8.pe_mt c_Run_change hr (by omega) (pv 0) (pa_cons (pv 1) pa_nil))))
    pss_nil)
    (pss_one (ps_expr (C8.pe_mt c_Run_come_to hr (by omega) (pv 0) (pa_cons (C8.pe_c c_behind hr (by omega) rfl (pa_cons (pe_fld (pv 0) rfl) (pa_cons (pe_fld (pv 0) rfl) pa_nil))) pa_nil)))))
    pss_nil)
    (pss_one (ps_fldaug (pv 0) pe_int in_add)))), ?_⟩
  obtain ⟨wd, a, s1, s2, hw, hA, hs2, rfl⟩ := step_ways hop
  have w8 := pok.word hw
  refine qd_set (d := encW wd) (evd_call (evds_cons (h.eWhole T (ev_var rfl)) (evds_cons (h.ePlace T (ev_var rfl)) evds_nil)) ⟨p, s.place, some wd, rfl, hw, by omega, rfl⟩) fun vw H1 e1 iw => ?_
  have h1 := h.ex e1
  have hself : ∀ {H3 : Hp}, Ev (tVar 0) [some (.ref c.r), some vw] H3 (.ref c.r) := ev_var rfl
  -- the end
  have fin : ∀ {H3 : Hp}, RunAt K E p given H0 c H3 s2 → KT H H3 → sFldAug K (tVar 0) (tC (.int 1)) rAdd "steps" { nx := fun _ H' => Q .non H', rt := Q } [some (.ref c.r), some vw] H3 := fun {H3} ⟨f2, vo2, vp2, h3⟩ kt => by
    exact h3.sTick T hself fun H4 h4 kt4 => k H4 ⟨_, _, _, h4⟩ (kt.trans kt4)
  refine q_seq ?_
  refine ⟨.ref c.r, rfl, c.r, c.dx, _, rfl, h1.obj, rfl, vw, rfl, ?_⟩
  refine ⟨E, p, given, H0, c, s, s1, a, wd, vw, rfl, ok, pok, ⟨_, _, _, h1⟩, iw, hw, hA, fun hl => ⟨s2, hs2, fun H2 r2 kt2 => ?_⟩, fun hl H2 r2 kt2 => ?_⟩
  · exact ⟨_, rfl, fin r2 ((KT.of e1).trans kt2)⟩
  · refine ⟨_, rfl, ?_⟩
    show tSeq (tIfS _ _ tNext) _ _ _ H2
    have iw2 := iw.mono kt2
    have kt02 := (KT.of e1).trans kt2
    rcases lead_plain hl hs2 hA with ⟨f, rfl, hb⟩ | ⟨hn, cp, t, rest, t', l, hfr, hpl, hb⟩
    · obtain ⟨pl', hbe, hco⟩ := Option.bind_eq_some_iff.mp hb
      obtain ⟨fs2, vo2, vp2, h2⟩ := r2
      have be8 := pok.behind hbe
      refine q_no (evt_no (evt_ne (evd_at (K := K) (d := .str "risk") 0 (evd_var (i := 1) (σ := [some (.ref c.r), some vw]) rfl iw2) rfl) evd_str rfl) (by decide +kernel)) fun H3 e3 => ?_
      have h3 := h2.ex e3
      refine sd_come h3 hself ok pok (evd_call (evds_cons (h3.eWhole T hself) (evds_cons (h3.ePlace T hself) evds_nil)) ⟨p, _, pl', rfl, hbe, be8, by omega, rfl⟩) hco fun H4 r4 kt4 => ?_
      exact fin r4 ((kt02.trans (KT.of e3)).trans kt4)
    · obtain ⟨pl', hbe, hco⟩ := Option.bind_eq_some_iff.mp hb
      have be8 := pok.behind hbe
      have hh : held s s1 wd = s := by
        cases wd <;> first | rfl | exact absurd rfl hn
      rw [hh] at r2
      refine q_yes (evt_yes (evt_ne (evd_at (K := K) (d := .str (hd wd)) 0 (evd_var (i := 1) (σ := [some (.ref c.r), some vw]) rfl iw2) rfl) evd_str rfl) (by simp [eqD, hn])) fun H3 e3 => ?_
      obtain ⟨fs2, vo2, vp2, h2⟩ := r2
      have h3 := h2.ex e3
      refine ⟨.ref c.r, rfl, c.r, c.dx, _, rfl, h3.obj, rfl, vw, rfl, ?_⟩
      refine ⟨E, p, given, H0, c, s, s1, a, wd, vw, cp, t, rest, t', l, rfl, ok, ⟨_, _, _, h3⟩, iw2.ex e3, hA, hfr, hpl, fun H4 r4 kt4 => ?_⟩
      obtain ⟨fs4, vo4, vp4, h4⟩ := r4
      have pl_eq : s1.place = s.place := by rcases hA with ⟨_, _, rfl⟩ | ⟨_, _, _, _, _, _, _, rfl⟩ <;> rfl
      refine sd_come h4 hself ok pok (evd_call (evds_cons (h4.eWhole T hself) (evds_cons (h4.ePlace T hself) evds_nil)) ⟨p, s1.place, pl', rfl, by rw [pl_eq]; exact hbe, by rw [pl_eq]; exact be8, by omega, rfl⟩) hco fun H5 r5 kt5 => ?_
      exact fin r5 (((kt02.trans (KT.of e3)).trans kt4).trans kt5)
theorem sc_Run_init : FnScope ["self", "program", "answers"] ["self", "program", "answers"] (defScope m_Run_init) := ⟨rfl, rfl, rfl, by decide +kernel, rfl, by decide +kernel, by decide +kernel⟩
theorem ok_Run (T : Fx K mg) : C8.Mak P w K mg base 16 "Run" (CR K) (spRunI K) [] := by
  obtain ⟨fd, F⟩ := T.f_Run_init
  have c_Frame := ok_Frame (P := P) (w := w) (base := base) T
  have c_first_place := ok_first_place (P := P) (w := w) (base := base) T
  have c_Run_come_to := ok_come_to (P := P) (w := w) (base := base) T
  refine mak_of T.mk_Run T.g_Run F sc_Run_init (fun _ _ _ _ _ _ us hl => match us, hl with | [_, _, _], _ => rfl) (by rintro vs H Q E ⟨_, _, _, _, _, _, _, _, _, rfl, _⟩; rfl) fun cdv A outer s0 H vs Q E0 hr hsp => ?_
  obtain ⟨E, p, given, H0, x, dx, vp, vg, s', rfl, ok, pok, e0, nx, hx, ip, ig, hst, k⟩ := hsp
  refine ⟨_, (pss_cons (ps_fld (pv 0) (pv 1) rfl)
    (pss_cons (ps_fld (pv 0) (pv 2) rfl)
    (pss_cons (ps_fld (pv 0) pe_int rfl)
    (pss_cons (ps_fld (pv 0) pe_int rfl)
    (pss_cons (ps_fld (pv 0) (pe_lst pa_nil) rfl)
    (pss_cons (ps_fld (pv 0) (pe_lst pa_nil) rfl)
    (pss_cons (ps_fld (pv 0) (pe_lst (pa_cons (C8.pe_mk c_Frame hr (by omega) rfl (pa_cons pe_non pa_nil)) pa_nil)) rfl)
    (pss_cons (ps_fld (pv 0) pe_non rfl)
    (pss_cons (ps_fld (pv 0) pe_non rfl)
    (pss_one (ps_expr (C8.pe_mt c_Run_come_to hr (by omega) (pv 0) (pa_cons (C8.pe_c c_first_place hr (by omega) rfl (pa_cons (pv 1) (pa_cons pe_str pa_nil))) pa_nil))))))))))))), ?_⟩
  have na := fun n (h : NoAttr K (CR K) n) => h
  -- one field more
  have st : ∀ {n : Str} {te : TE} {v : V} {fl fl' : List (Str × V)} {H1 : Hp} {tz : TS} {D : Ends}, NoAttr K (CR K) n → fl.length < 1000 → putF n v fl = fl' → H1 x = some (.ins (CR K) dx fl) → (∀ Q : VK, Q v H1 → te [some (.ref x), some vp, some vg] H1 Q) → tz D [some (.ref x), some vp, some vg] (upd H1 x (.ins (CR K) dx fl')) → tSeq (sFld K (tVar 0) te n) tz D [some (.ref x), some vp, some vg] H1 :=
    fun {n te v fl fl' H1 tz D} hn hl hp hx1 he kk => he _ ⟨_, rfl, x, _, dx, fl, rfl, hx1, T.cls_Run, hn, hl, by rw [hp]; exact kk⟩
  have stL : ∀ {n : Str} {fl : List (Str × V)} {H1 : Hp} {tz : TS} {D : Ends}, NoAttr K (CR K) n → fl.length < 1000 → H1 x = some (.ins (CR K) dx fl) → (∀ l, H1 l = none → tz D [some (.ref x), some vp, some vg] (upd (upd H1 l (.lst [])) x (.ins (CR K) dx (putF n (.ref l) fl)))) → tSeq (sFld K (tVar 0) (tLst tNil) n) tz D [some (.ref x), some vp, some vg] H1 :=
    fun {n fl H1 tz D} hn hl hx1 kk => ⟨sz_of (by simp), fun l hl1 => ⟨_, rfl, x, _, dx, fl, rfl, by rw [upd_ne (ne_of_none hx1 hl1)]; exact hx1, T.cls_Run, hn, hl, kk l hl1⟩⟩
  have stF : ∀ {fl : List (Str × V)} {H3 : Hp} {tz : TS} {D : Ends}, H3 x = some (.ins (CR K) dx fl) → fl.length < 1000 → (∀ f d vc H4 lf, Ex H3 H4 → H3 f = none → H3 d = none → FrH K H4 f vc d → Im H4 vc .none → H4 d = some (.dK []) → H4 lf = none →
      tz D [some (.ref x), some vp, some vg] (upd (upd H4 lf (.lst [.ref f])) x (.ins (CR K) dx (putF "frames" (.ref lf) fl)))) →
      tSeq (sFld K (tVar 0) (tLst (tCons (tMake (CF K) (spFrame K) [] C8.E0 (tCons (tC .non) tNil)) tNil)) "frames") tz D [some (.ref x), some vp, some vg] H3 := by
    intro fl H3 tz D hx3 hl kk
    unfold tSeq sFld tLst tCons
    refine ev_frame (K := K) (σ := [some (.ref x), some vp, some vg]) (te := tC .non) (cp := .none) (H := H3) evd_non fun f d vc H4 e4 nf nd g1 g2 g3 => ⟨sz_of (by simp), fun lf nlf => ?_⟩
    have hx4 := e4 _ _ hx3
    exact ⟨_, rfl, x, _, dx, _, rfl, Ex.new nlf _ _ hx4, T.cls_Run, T.no_Run_frames, hl, kk f d vc H4 lf e4 nf nd g1 g2 g3 nlf⟩
  refine st (v := vp) (fl' := [("whole", vp)]) T.no_Run_whole (by simp) rfl hx (fun Q q => ⟨_, rfl, q⟩) ?_
  refine st (v := vg) (fl' := [("whole", vp), ("given", vg)]) T.no_Run_given (by simp) rfl upd_same (fun Q q => ⟨_, rfl, q⟩) ?_
  rw [upd_upd]
  refine st (v := .int 0) (fl' := [("whole", vp), ("given", vg), ("used", .int 0)]) T.no_Run_used (by simp) rfl upd_same (fun Q q => q) ?_
  rw [upd_upd]
  refine st (v := .int 0) (fl' := [("whole", vp), ("given", vg), ("used", .int 0), ("steps", .int 0)]) T.no_Run_steps (by simp) rfl upd_same (fun Q q => q) ?_
  rw [upd_upd]
  generalize hf4 : [(("whole" : Str), vp), ("given", vg), ("used", V.int 0), ("steps", V.int 0)] = f4
  have k1 : Kp [x] H (upd H x (.ins (CR K) dx f4)) := (Kp.refl H).mut (by simp)
  have hx1 : (upd H x (.ins (CR K) dx f4)) x = some (.ins (CR K) dx f4) := upd_same
  generalize upd H x (.ins (CR K) dx f4) = H1 at k1 hx1
  subst hf4
  refine stL T.no_Run_numbers (by simp) hx1 fun ln nln => ?_
  have nln0 : ln ≠ x := fun z => by rw [z, hx1] at nln; cases nln
  have k2 : Kp [x] H (upd (upd H1 ln (.lst [])) x (.ins (CR K) dx (putF "numbers" (.ref ln) [("whole", vp), ("given", vg), ("used", .int 0), ("steps", .int 0)]))) := (k1.trans (Kp.of (Ex.new nln))).mut (by simp)
  have hln2 : (upd (upd H1 ln (.lst [])) x (.ins (CR K) dx (putF "numbers" (.ref ln) [("whole", vp), ("given", vg), ("used", .int 0), ("steps", .int 0)]))) ln = some (.lst []) := by rw [upd_ne nln0, upd_same]
  have hx2 : (upd (upd H1 ln (.lst [])) x (.ins (CR K) dx (putF "numbers" (.ref ln) [("whole", vp), ("given", vg), ("used", .int 0), ("steps", .int 0)]))) x = some (.ins (CR K) dx [("whole", vp), ("given", vg), ("used", .int 0), ("steps", .int 0), ("numbers", .ref ln)]) := upd_same
  have hnl : H ln = none := by
    cases q : H ln with
    | none => rfl
    | some o => rw [k1 _ _ q (by simpa using nln0)] at nln; cases nln
  generalize upd (upd H1 ln (.lst [])) x (.ins (CR K) dx (putF "numbers" (.ref ln) [("whole", vp), ("given", vg), ("used", .int 0), ("steps", .int 0)])) = H2 at k2 hln2 hx2
  refine stL T.no_Run_leavings (by simp) hx2 fun ll nll => ?_
  have nll0 : ll ≠ x := fun z => by rw [z, hx2] at nll; cases nll
  have nll1 : ll ≠ ln := fun z => by rw [z, hln2] at nll; cases nll
  have hll0 : H ll = none := by
    cases q : H ll with
    | none => rfl
    | some o => rw [k2 _ _ q (by simpa using nll0)] at nll; cases nll
  generalize hf6 : putF "leavings" (V.ref ll) [("whole", vp), ("given", vg), ("used", .int 0), ("steps", .int 0), ("numbers", .ref ln)] = f6
  have k3 : Kp [x] H (upd (upd H2 ll (.lst [])) x (.ins (CR K) dx f6)) := (k2.trans (Kp.of (Ex.new nll))).mut (by simp)
  have hln3 : (upd (upd H2 ll (.lst [])) x (.ins (CR K) dx f6)) ln = some (.lst []) := by rw [upd_ne nln0, upd_ne (Ne.symm nll1)]; exact hln2
  have hll3 : (upd (upd H2 ll (.lst [])) x (.ins (CR K) dx f6)) ll = some (.lst []) := by rw [upd_ne nll0, upd_same]
  have hx3 : (upd (upd H2 ll (.lst [])) x (.ins (CR K) dx f6)) x = some (.ins (CR K) dx f6) := upd_same
  generalize upd (upd H2 ll (.lst [])) x (.ins (CR K) dx f6) = H3 at k3 hln3 hll3 hx3
  subst hf6
  -- self.frames = [Frame(None)]
  refine stF hx3 (by show 6 < 1000; omega) fun f d vc H4 lf e4 nf nd g1 g2 g3 nlf => ?_
  have hx4 := e4 _ _ hx3
  have nlf0 : lf ≠ x := fun z => by rw [z, hx4] at nlf; cases nlf
  have eN : Ex H4 (upd H4 lf (.lst [.ref f])) := Ex.new nlf
  have hlf0 : H lf = none := by
    cases q : H lf with
    | none => rfl
    | some o => rw [e4 _ _ (k3 _ _ q (by simpa using nlf0))] at nlf; cases nlf
  have hfx : f ≠ x := fun z => by rw [z, hx3] at nf; cases nf
  have hdx : d ≠ x := fun z => by rw [z, hx3] at nd; cases nd
  have hd0 : H d = none := by
    cases q : H d with
    | none => rfl
    | some o => rw [k3 _ _ q (by simpa using hdx)] at nd; cases nd
  have back0 : ∀ {b : Addr}, H b = none → H0 b = none := fun {b} hb => fresh_back e0 hb
  generalize hf7 : putF "frames" (V.ref lf) _ = f7
  have k5 : Kp [x] H (upd (upd H4 lf (.lst [.ref f])) x (.ins (CR K) dx f7)) := (k3.trans (Kp.of (e4.trans eN))).mut (by simp)
  have hln5 : (upd (upd H4 lf (.lst [.ref f])) x (.ins (CR K) dx f7)) ln = some (.lst []) := by rw [upd_ne nln0]; exact eN _ _ (e4 _ _ hln3)
  have hll5 : (upd (upd H4 lf (.lst [.ref f])) x (.ins (CR K) dx f7)) ll = some (.lst []) := by rw [upd_ne nll0]; exact eN _ _ (e4 _ _ hll3)
  have hlf5 : (upd (upd H4 lf (.lst [.ref f])) x (.ins (CR K) dx f7)) lf = some (.lst [.ref f]) := by rw [upd_ne nlf0, upd_same]
  have hx5 : (upd (upd H4 lf (.lst [.ref f])) x (.ins (CR K) dx f7)) x = some (.ins (CR K) dx f7) := upd_same
  have gf5 : FrH K (upd (upd H4 lf (.lst [.ref f])) x (.ins (CR K) dx f7)) f vc d := by
    obtain ⟨dxf, hfo⟩ := g1
    exact ⟨dxf, by rw [upd_ne hfx]; exact eN _ _ hfo⟩
  have gd5 : (upd (upd H4 lf (.lst [.ref f])) x (.ins (CR K) dx f7)) d = some (.dK []) := by rw [upd_ne hdx]; exact eN _ _ g3
  have gc5 : Im (upd (upd H4 lf (.lst [.ref f])) x (.ins (CR K) dx f7)) vc .none := by
    rw [g2.non_]; exact .non
  have nlfs : lf ≠ ln ∧ lf ≠ ll := ⟨fun z => (by rw [z, e4 _ _ hln3] at nlf; cases nlf), fun z => (by rw [z, e4 _ _ hll3] at nlf; cases nlf)⟩
  generalize upd (upd H4 lf (.lst [.ref f])) x (.ins (CR K) dx f7) = H5 at k5 hln5 hll5 hlf5 hx5 gf5 gd5 gc5
  have hf7 : f7 = [(("whole" : Str), vp), ("given", vg), ("used", .int 0), ("steps", .int 0), ("numbers", .ref ln), ("leavings", .ref ll), ("frames", .ref lf)] := hf7.symm
  subst hf7
  refine st (v := .non) (fl' := [("whole", vp), ("given", vg), ("used", .int 0), ("steps", .int 0), ("numbers", .ref ln), ("leavings", .ref ll), ("frames", .ref lf), ("over_by", .non)]) T.no_Run_over_by (by simp) rfl hx5 (fun Q q => q) ?_
  refine st (v := .non) (fl' := rFields ⟨x, dx, ln, ll, lf, vp, vg⟩ 0 0 .non .non) T.no_Run_place (by simp) rfl upd_same (fun Q q => q) ?_
  rw [upd_upd]
  have k6 : Kp [x] H (upd H5 x (.ins (CR K) dx (rFields ⟨x, dx, ln, ll, lf, vp, vg⟩ 0 0 .non .non))) := k5.mut (by simp)
  have kt6 : KT H (upd H5 x (.ins (CR K) dx (rFields ⟨x, dx, ln, ll, lf, vp, vg⟩ 0 0 .non .non))) := k6.kt fun b hb xs => by rw [List.mem_singleton.mp hb, hx]; intro z; cases z
  have hx6 : (upd H5 x (.ins (CR K) dx (rFields ⟨x, dx, ln, ll, lf, vp, vg⟩ 0 0 .non .non))) x = _ := upd_same
  have o6 : ∀ b, b ≠ x → (upd H5 x (.ins (CR K) dx (rFields ⟨x, dx, ln, ll, lf, vp, vg⟩ 0 0 .non .non))) b = H5 b := fun b hb => upd_ne hb
  generalize upd H5 x (.ins (CR K) dx (rFields ⟨x, dx, ln, ll, lf, vp, vg⟩ 0 0 .non .non)) = H6 at k6 kt6 hx6 o6
  -- self.come_to(first_place(program, ''))
  refine ⟨.ref x, rfl, x, dx, _, rfl, hx6, rfl, ?_⟩
  refine (evd_call (E := C8.E0) (σ := [some (.ref x), some vp, some vg]) (g := fFirst) (d := encPl ⟨Str.empty, [], 0⟩) (evds_cons (evd_var (i := 1) rfl (ip.mono kt6)) (evds_cons (evd_str (x := Str.empty)) evds_nil)) ⟨_, Str.empty, rfl, rfl⟩) H6 (Ex.refl H6) _ fun v7 H7 e7 i7 => ?_
  refine ⟨E, p, given, H0, ⟨x, dx, ln, ll, lf, vp, vg⟩, { used := 0, steps := 0, place := ⟨Str.empty, [], 0⟩, frames := [(none, empty0)], log := ([], []), over := none }, s', v7, ⟨Str.empty, [], 0⟩, rfl, ok, pok, ⟨[(f, d)], .non, .non, e7 _ _ hx6, fun H8 vpl e8 i8 => ?_⟩, i7, hst, fun H' r _ => k H' _ rfl r⟩
  have e68 : Ex H6 H8 := e7.trans e8
  have nx8 : H8 x = some _ := e68 _ _ hx6
  have up : ∀ {b : Addr} {o : HO}, b ≠ x → H5 b = some o → (upd H8 x (.ins (CR K) dx (rFields ⟨x, dx, ln, ll, lf, vp, vg⟩ 0 0 .non vpl))) b = some o := fun {b o} hb h5 => by rw [upd_ne hb]; exact e68 _ _ ((o6 b hb).trans h5)
  have kt8 : KT H (upd H8 x (.ins (CR K) dx (rFields ⟨x, dx, ln, ll, lf, vp, vg⟩ 0 0 .non vpl))) := (kt6.trans (KT.of e68)).trans ((KT.refl H8).upd (nt_ins nx8))
  obtain ⟨dxf, hfo⟩ := gf5
  exact { base := fun a o ha => (k6.trans (Kp.of e68)).mut (p := x) (by simp) a o (e0 a o ha) (fun z => by rw [List.mem_singleton.mp z, nx] at ha; cases ha),
          newr := nx, newn := back0 hnl, newl := back0 hll0, newf := back0 hlf0, newd := fun z hz => by rw [List.mem_singleton.mp hz]; exact back0 hd0,
          nl := Ne.symm nll1, nf := Ne.symm nlfs.1, lf := Ne.symm nlfs.2, obj := upd_same, prog := ip.mono kt8, gvn := ig.mono kt8, over := .non, place := i8.mono ((KT.refl H8).upd (nt_ins nx8)),
          nums := up nln0 hln5, lvs := ⟨[], up nll0 hll5, .nil⟩, frs := up nlf0 hlf5, fr := ⟨⟨vc, ⟨dxf, up hfx hfo⟩, by rw [gc5.non_]; exact .non, [], up hdx gd5, th_empty⟩, trivial⟩, nd := by simp }
end
end K16

set_option Elab.async false
set_option linter.all false
set_option maxRecDepth 100000
set_option maxHeartbeats 4000000
/-! KRunI: run -/
namespace K16
open PySem PySem.Spec PyProof.Rows L2 Evl
section
variable {A : Alg} {p : Prog} {given : List Int}
theorem goBack_steps {s s' : MS A} (h : goBack p s = some s') : s'.steps = s.steps ∧ s'.used = s.used := by
  unfold goBack at h
  split at h
  · cases h
  · obtain ⟨l, _, rfl⟩ := Option.map_eq_some_iff.mp h
    exact ⟨rfl, rfl⟩
  · split at h
    · cases h
    · split at h
      · obtain ⟨D, _, h⟩ := Option.bind_eq_some_iff.mp h
        obtain ⟨⟨t2, l⟩, _, h⟩ := Option.bind_eq_some_iff.mp h
        obtain ⟨pl, _, rfl⟩ := Option.map_eq_some_iff.mp h
        exact ⟨rfl, rfl⟩
      · cases h
theorem settle_steps : ∀ (k : Nat) {s s' : MS A}, settle p k s = some s' → s'.steps = s.steps ∧ s'.used = s.used
  | 0, s, s', h => by cases h
  | k + 1, s, s', h => by
    unfold settle at h
    split at h
    · cases h; exact ⟨rfl, rfl⟩
    · split at h
      · cases h
      · cases h; exact ⟨rfl, rfl⟩
      · obtain ⟨s2, h1, h2⟩ := Option.bind_eq_some_iff.mp h
        have a := goBack_steps h1
        have b := settle_steps k h2
        exact ⟨b.1.trans a.1, b.2.trans a.2⟩
theorem comeTo_steps {s s' : MS A} {pl : Place} (h : comeTo p s pl = some s') : s'.steps = s.steps ∧ s'.used = s.used := by
  have q := settle_steps _ h
  exact q
theorem fall_steps {s s' : MS A} {f : Str} (h : fall s f = some s') : s'.steps = s.steps ∧ s'.used = s.used := by
  obtain ⟨l, _, rfl⟩ := Option.map_eq_some_iff.mp h
  exact ⟨rfl, rfl⟩
theorem stepW_steps {s s' : MS A} {w : Word} {a : Option Int} (h : stepW p s w a = some s') : s'.steps = s.steps ∧ s'.used = s.used := by
  unfold stepW at h
  split at h
  · obtain ⟨v, _, h⟩ := Option.bind_eq_some_iff.mp h
    obtain ⟨pl, _, h⟩ := Option.bind_eq_some_iff.mp h
    exact comeTo_steps h
  · obtain ⟨pl, _, h⟩ := Option.bind_eq_some_iff.mp h
    exact comeTo_steps h
  · split at h
    · cases h
    · obtain ⟨pl, _, h⟩ := Option.bind_eq_some_iff.mp h
      exact comeTo_steps h
  · obtain ⟨D, _, h⟩ := Option.bind_eq_some_iff.mp h
    split at h
    · cases h
    · split at h
      · cases h
      · obtain ⟨⟨fr, t'⟩, _, h⟩ := Option.bind_eq_some_iff.mp h
        dsimp only at h
        have q := comeTo_steps h
        exact q
  · exact fall_steps h
  · obtain ⟨v, _, h⟩ := Option.bind_eq_some_iff.mp h
    split at h
    · exact fall_steps h
    · obtain ⟨pl, _, h⟩ := Option.bind_eq_some_iff.mp h
      exact comeTo_steps h
  · obtain ⟨s2, h1, h⟩ := Option.bind_eq_some_iff.mp h
    have a := goBack_steps h1
    split at h
    · cases h; exact a
    · have b := comeTo_steps h
      exact ⟨b.1.trans a.1, b.2.trans a.2⟩
  · split at h
    · cases h
    · obtain ⟨⟨t', l⟩, _, h⟩ := Option.bind_eq_some_iff.mp h
      obtain ⟨pl, _, h⟩ := Option.bind_eq_some_iff.mp h
      have q := comeTo_steps h
      exact q
end
theorem step_steps {E : Env} {p : Prog} {given : List Int} {s s' : MS (full E)} (h : step p given s = some s') : s'.steps = s.steps + 1 := by
  obtain ⟨w, a, s1, s2, _, hA, h2, rfl⟩ := step_ways h
  have := (stepW_steps h2).1
  show s2.steps + 1 = s.steps + 1
  rw [this]
  rcases hA with ⟨_, _, rfl⟩ | ⟨_, _, _, _, _, _, _, rfl⟩ <;> rfl
theorem start_steps {A : Alg} {p : Prog} {t0 : A.T} {l0 : A.L} {s : MS A} (h : start p t0 l0 = some s) : s.steps = 0 ∧ s.used = 0 := comeTo_steps h
section
variable {K : PySem.W.Frag} {mg : Str → Option Value} {E : Env} {p : Prog} {given : List Int} {H0 : Hp} {c : RC} {fs : List (Addr × Addr)} {vo vpl : V} {H H' : Hp} {s : MS (full E)} {σ : L2.St} {ta tf tp te : TE} {D : Ends} {tz : TS}
/-- tuple(a list that stands) -/
theorem evd_tupR {l : Addr} {vs : List V} {ds : List PyData} (h : Ev te σ H (.ref l)) (hl : H l = some (.lst vs)) (hi : Ims H vs ds) : EvD (tCB (rTupQ K) (tCons te tNil)) σ H (.tuple ds) := fun H1 a Q q =>
  h H1 a _ fun H2 e2 => ⟨l, vs, rfl, .inl ⟨SqL.of (e2 _ _ (a _ _ hl)), fun r hr => q _ _ (e2.trans (Ex.new hr)) (Im.new hr (hi.ex (a.trans e2)))⟩⟩
theorem evd_shown {f d : Addr} {vc : V} {t : Things} (ok : EnvOk E) (hf : Ev tf σ H (.ref f)) (hfr : FrH K H f vc d) (ht : ThAt E H d t) : EvD (tMeth (CF K) "shown" (spShown K) [] C8.E0 tf tNil) σ H (.tuple ((shown E t).map encHeld)) := fun H1 e1 Q q => by
  obtain ⟨dx, hfo⟩ := hfr
  refine hf H1 e1 _ fun H2 e2 => ⟨f, dx, _, rfl, e2 _ _ (e1 _ _ hfo), rfl, ?_⟩
  exact ⟨E, f, vc, d, t, rfl, ok, ⟨dx, e2 _ _ (e1 _ _ hfo)⟩, ht.ex (e1.trans e2), fun v H3 e3 i3 => q v H3 (e2.trans e3) i3⟩
theorem RunX.eWants (h : RunX K E p given H0 c fs vo vpl H s) (pok : POk p) (ha : Ev ta σ H (.ref c.r)) {w : Word} (hw : wordAt p s.place = some (some w)) : Ev (tMeth (CR K) "wants" (spWants K) [] C8.E0 ta tNil) σ H (.bl ((need w).isSome && decide (s.used = given.length))) := fun H1 e1 Q q =>
  ha H1 e1 _ fun H2 e2 => ⟨c.r, c.dx, _, rfl, (h.ex (e1.trans e2)).obj, rfl, E, p, given, H0, c, s, w, rfl, pok, ⟨_, _, _, h.ex (e1.trans e2)⟩, hw, fun H3 e3 => q H3 (e2.trans e3)⟩
end
section
variable {P : Program} {w : World} {K : PySem.W.Frag} {mg : Str → Option Value} {base : Heap}
theorem sc_run : FnScope ["program", "answers", "most", "one", "told"] ["program", "answers", "most"] (defScope s_run) := ⟨rfl, rfl, rfl, by decide +kernel, rfl, by decide +kernel, by decide +kernel⟩
theorem ok_run (T : Fx K mg) : C8.Cal P w K mg base 19 "run" (spD fRun) [] := by
  obtain ⟨fd, F⟩ := T.f_run
  have c_Run := ok_Run (P := P) (w := w) (base := base) T
  have c_Run_wants := ok_wants (P := P) (w := w) (base := base) T
  have c_Run_step := ok_step (P := P) (w := w) (base := base) T
  have c_Frame_shown := ok_shown (P := P) (w := w) (base := base) T
  refine cal_of F T.g_run sc_run (fun _ _ _ _ _ _ us hl => match us, hl with | [_, _, _], _ => rfl) (spD_len (n := 3) (by rintro _ _ ⟨E, p, g, m, r, rfl, _⟩; rfl)) fun cdv A outer s0 H vs Q E0 hr hsp => ?_
  obtain ⟨_, _, ⟨E, p, given, most, r, rfl, ok, pok, hrun, rfl⟩, hi, k⟩ := hsp
  obtain ⟨vp, vg, vm, rfl, ip, ig, im⟩ := hi.three
  have := im.int_
  subst this
  refine ⟨_, (pss_cons (ps_set (i := 3) sc_run.nd rfl (.inl rfl) (C8.pe_mk c_Run hr (by omega) rfl (pa_cons (pv 0) (pa_cons (pv 1) pa_nil))))
    (pss_cons (ps_while PassesOwn.never (PW.pt (pw_and (pt_cmpR op_isN (pe_fld (pv 3) rfl) pe_non (nomark _)) (pw_and (pt_cmpR op_lt (pe_fld (pv 3) rfl) (pv 2) (nomark _)) (pw_and1 (pt_not (pt_val (C8.pe_mt0 c_Run_wants hr (by omega) (pv 3))))))))
    (pss_one (ps_expr (C8.pe_mt0 c_Run_step hr (by omega) (pv 3)))))
    (pss_cons (ps_set (i := 4) sc_run.nd rfl (.inl rfl) (pe_tup (pa_cons (pe_fld (pv 3) rfl) (pa_cons (pe_callTy call_tuple_of (by rfl) T.tuple_ boot_tuple (pa_cons (pe_fld (pv 3) rfl) pa_nil)) (pa_cons (pe_callTy call_tuple_of (by rfl) T.tuple_ boot_tuple (pa_cons (pe_fld (pv 3) rfl) pa_nil)) pa_nil)))))
    (pss_cons (ps_if (pt_cmpR op_notN (pe_fld (pv 3) rfl) pe_non (nomark _))
    (pss_one (ps_ret (pe_op op_catA (pe_fld (pv 3) rfl) (pv 4))))
    pss_nil)
    (pss_one (ps_ret (pe_op op_catA (pe_op op_catA (pe_tup (pa_cons pe_str (pa_cons (pe_fld (pv 3) rfl) pa_nil))) (pv 4)) (pe_tup (pa_cons (C8.pe_mt0 c_Frame_shown hr (by omega) (pe_ix ix_list (pe_fld (pv 3) rfl) (pe_un un_neg pe_int) (fun _ _ => rfl))) pa_nil))))))))), ?_⟩
  obtain ⟨s1, hst, hrun⟩ := Option.bind_eq_some_iff.mp hrun
  obtain ⟨sf, hruns, htold⟩ := Option.bind_eq_some_iff.mp hrun
  -- one = Run(program, answers)
  refine ⟨vp, rfl, vg, rfl, fun x dx nx ndx hne => ?_⟩
  have eX : Ex H (upd (upd H dx (.own x)) x (.ins (CR K) dx [])) := (Ex.new ndx).mut nx
  refine ⟨E, p, given, H, x, dx, vp, vg, s1, rfl, ok, pok, eX, nx, upd_same, ip.ex eX, ig.ex eX, hst, fun H1 c hc r1 => ⟨rfl, ?_⟩⟩
  subst hc
  obtain ⟨fs1, vo1, vpl1, h1⟩ := r1
  refine s_while (D := _) (fun m σ' H' => σ' = [some vp, some vg, some (.int most), some (.ref c.r), none] ∧ ∃ s2, RunAt K E p given H c H' s2 ∧ runs p given m s2 = some sf ∧ s2.steps + m = most) most ⟨rfl, s1, ⟨_, _, _, h1⟩, hruns, by rw [(start_steps hst).1]; omega⟩ ?_
  rintro m σ' H' ⟨rfl, s2, ⟨fs2, vo2, vpl2, h2⟩, hr2, hm⟩
  have hself : ∀ {H3 : Hp}, Ev (tVar 3) [some vp, some vg, some (.int most), some (.ref c.r), none] H3 (.ref c.r) := ev_var rfl
  -- what is told
  have fin : s2 = sf → ∀ H3, Ex H' H3 → tSeq (tAsg (tTup (tCons (tFld K (tVar 3) "steps") (tCons (tCB (rTupQ K) (tCons (tFld K (tVar 3) "numbers") tNil)) (tCons (tCB (rTupQ K) (tCons (tFld K (tVar 3) "leavings") tNil)) tNil)))) (gName 4)) (tSeq (tIfS (tTest (tOp (fun x y H Q => y = .non ∧ Q (.bl (!decide (x = .non))) H) (tFld K (tVar 3) "over_by") (tC .non))) (tRet (tOp (rCatA K) (tFld K (tVar 3) "over_by") (tVar 4))) tNext)
      (tRet (tOp (rCatA K) (tOp (rCatA K) (tTup (tCons (tC (.str "on")) (tCons (tFld K (tVar 3) "place") tNil))) (tVar 4)) (tTup (tCons (tMeth (CF K) "shown" (spShown K) [] C8.E0 (tOp (rIxL K) (tFld K (tVar 3) "frames") (tUn (rU fun i => .int (-i)) (tC (.int 1)))) tNil) tNil))))) { nx := fun _ H' => Q .non H', rt := Q } [some vp, some vg, some (.int most), some (.ref c.r), none] H3 := by
    intro hsf H3 e3
    subst hsf
    have h3 := h2.ex e3
    obtain ⟨xs, hl, hil⟩ := h3.lvs
    refine qd_set (evd_tup (evds_cons (h3.eSteps T hself) (evds_cons (evd_tupR (h3.eNums T hself) h3.nums (Ims.ints _)) (evds_cons (evd_tupR (h3.eLvs T hself) hl hil) evds_nil)))) fun vt H4 e4 it => ?_
    have h4 := h3.ex e4
    have hself4 : ∀ {H3 : Hp}, Ev (tVar 3) [some vp, some vg, some (.int most), some (.ref c.r), some vt] H3 (.ref c.r) := ev_var rfl
    unfold told at htold
    cases hov : s2.over with
    | some o =>
      refine q_yes (et_is (evt_nnone (h4.eOver T hself4)) (by rw [hov]; cases o <;> rfl)) fun H5 e5 => ?_
      have h5 := h4.ex e5
      have hov5 := h5.eOver T (σ := [some vp, some vg, some (.int most), some (.ref c.r), some vt]) hself4
      rw [hov] at hov5 htold
      cases o with
      | ended =>
        obtain rfl := Option.some.inj htold
        exact qd_ret (evd_cat hov5 (evd_var rfl (it.ex e5)) (by simp)) fun v H6 e6 i6 => k v H6 (h5.base.trans e6) i6
      | fault f =>
        obtain rfl := Option.some.inj htold
        exact qd_ret (evd_cat hov5 (evd_var rfl (it.ex e5)) (by simp)) fun v H6 e6 i6 => k v H6 (h5.base.trans e6) i6
    | none =>
      refine q_no (et_is (evt_nnone (h4.eOver T hself4)) (by rw [hov]; rfl)) fun H5 e5 => ?_
      have h5 := h4.ex e5
      rw [hov] at htold
      have hfa := h5.fr
      cases hfr : s2.frames with
      | nil => rw [hfr] at htold; cases htold
      | cons y rest =>
      obtain ⟨cp, (t : Things)⟩ := y
      rw [hfr] at htold hfa
      obtain rfl := Option.some.inj htold
      cases fs2 with
      | nil => exact hfa.elim
      | cons x2 fs3 =>
      obtain ⟨⟨vc, g1, g2, g3⟩, _⟩ := hfa
      exact qd_ret (evd_cat (evd_cat (evd_tup (evds_cons evd_str (evds_cons (h5.ePlace T hself4) evds_nil))) (evd_var rfl (it.ex e5)) (by simp)) (evd_tup (evds_cons (evd_shown ok (h5.eTop (i := 1) T hself4) g1 g3) evds_nil)) (by simp)) fun v H6 e6 i6 => k v H6 (h5.base.trans e6) i6
  have o0 := evt_none (h2.eOver T (σ := [some vp, some vg, some (.int most), some (.ref c.r), none]) hself)
  cases hov : s2.over with
  | some o =>
    have e : s2 = sf := by
      cases m with
      | zero => exact Option.some.inj hr2
      | succ m =>
        unfold runs at hr2
        rw [hov] at hr2
        exact Option.some.inj hr2
    have o1 := et_is (b := false) o0 (by rw [hov]; cases o <;> rfl)
    exact ⟨false, et_is (et_and (b := false) o1 (fun z => nomatch z)) rfl, (fun z => nomatch z), fun _ H3 e3 => fin e H3 e3⟩
  | none =>
  have o1 := et_is (b := true) o0 (by rw [hov]; rfl)
  have l1 := evt_lt (h2.eSteps T (σ := [some vp, some vg, some (.int most), some (.ref c.r), none]) hself) (evd_var (i := 2) rfl (.int (most : Int)))
  cases m with
  | zero =>
    refine ⟨false, et_is (et_and (b := false) o1 fun _ => et_is (et_and (b := false) (et_is (b := false) l1 (decide_eq_false (by omega))) (fun z => nomatch z)) rfl) rfl, (fun z => nomatch z), fun _ H3 e3 => fin (Option.some.inj hr2) H3 e3⟩
  | succ m =>
  have l2 := et_is (b := true) l1 (decide_eq_true (by omega))
  unfold runs at hr2
  rw [hov] at hr2
  cases hw : wordAt p s2.place with
  | none => rw [hw] at hr2; cases hr2
  | some o =>
  cases o with
  | none => rw [hw] at hr2; cases hr2
  | some wd =>
  rw [hw] at hr2
  have hr2 : (if (need wd).isSome ∧ s2.used = given.length then some s2 else (step p given s2).bind (runs p given m)) = some sf := hr2
  have ws := et_not (et_test (h2.eWants pok (σ := [some vp, some vg, some (.int most), some (.ref c.r), none]) hself hw))
  by_cases hc : (need wd).isSome ∧ s2.used = given.length
  · rw [if_pos hc] at hr2
    refine ⟨false, et_is (et_and (b := false) o1 fun _ => et_is (et_and (b := false) l2 fun _ => et_is ws (by rw [hc.1, decide_eq_true hc.2]; rfl)) rfl) rfl, (fun z => nomatch z), fun _ H3 e3 => fin (Option.some.inj hr2) H3 e3⟩
  · rw [if_neg hc] at hr2
    obtain ⟨s3, hs3, hr3⟩ := Option.bind_eq_some_iff.mp hr2
    refine ⟨true, et_is (et_and (b := true) o1 fun _ => et_is (et_and (b := true) l2 fun _ => et_is ws ?_) rfl) rfl, fun _ H3 e3 => ⟨fun σ4 H4 => σ4 = [some vp, some vg, some (.int most), some (.ref c.r), none] ∧ ∃ s2, RunAt K E p given H c H4 s2 ∧ runs p given m s2 = some sf ∧ s2.steps + m = most, fun σ4 H4 q => ⟨m, Nat.lt_succ_self m, q⟩, ?_⟩, (fun z => nomatch z)⟩
    · cases q : (need wd).isSome with
      | false => rfl
      | true =>
        have : ¬ s2.used = given.length := fun z => hc ⟨q, z⟩
        rw [decide_eq_false this]
        rfl
    · have h3 := h2.ex e3
      refine ⟨.ref c.r, rfl, c.r, c.dx, _, rfl, h3.obj, rfl, ?_⟩
      exact ⟨E, p, given, H, c, s2, s3, rfl, ok, pok, ⟨_, _, _, h3⟩, hs3, fun H4 r4 kt4 => ⟨rfl, s3, r4, hr3, by rw [step_steps hs3]; omega⟩⟩
end
end K16

set_option Elab.async false
set_option linter.all false
set_option maxRecDepth 100000
set_option maxHeartbeats 2000000
/-! KSim: names called otherwise; a step of one machine is a step of another (plain) -/
namespace K16
open PySem
section
variable (β δ : Str → Str)
mutual
def renW : Word → Word
  | .take x w => .take (β x) (β w) | .ask x => .ask (β x) | .num x n => .num (β x) n | .copy x y => .copy (β x) (β y) | .mix x y z => .mix (β x) (β y) (β z) | .opn x y => .opn (β x) (β y)
  | .tell x => .tell (β x) | .wipe x => .wipe (β x) | .clear r => .clear (β r) | .drop bs => .drop (bs.map β)
  | .choose rows => .choose (renRs rows) | .loop row => .loop (renR row) | .out n => .out n
  | .risk f => .risk (β f) | .fault f => .fault (β f) | .call d a g => .call (δ d) (a.map β) (g.map β) | .back => .back
def renR : List Word → List Word
  | [] => []
  | w :: r => renW w :: renR r
def renRs : List (List Word) → List (List Word)
  | [] => []
  | r :: rs => renR r :: renRs rs
end
def renD (D : Def) : Def := ⟨δ D.name, D.params.map β, D.results.map β, renR β δ D.row⟩
def renP (p : Prog) : Prog := ⟨p.defs.map (renD β δ), renR β δ p.main⟩
def renPl (pl : Place) : Place := ⟨δ pl.nm, pl.path, pl.at_⟩
theorem renR_map : ∀ r : Row, renR β δ r = r.map (renW β δ)
  | [] => by simp [renR]
  | w :: r => by simp [renR, renR_map r]
theorem renRs_map : ∀ r : List Row, renRs β δ r = r.map (renR β δ)
  | [] => by simp [renRs]
  | w :: r => by simp [renRs, renRs_map r]
theorem renR_get (r : Row) (n : Nat) : (renR β δ r)[n]? = r[n]?.map (renW β δ) := by rw [renR_map, List.getElem?_map]
theorem renR_len (r : Row) : (renR β δ r).length = r.length := by rw [renR_map, List.length_map]
theorem renR_nil (r : Row) : renR β δ r = [] ↔ r = [] := by rw [renR_map, List.map_eq_nil_iff]
theorem rowsIn_ren (w : Word) : rowsIn (renW β δ w) = (rowsIn w).map (renR β δ) := by
  cases w <;> simp [renW, rowsIn, renRs_map]
theorem isLoop_ren (w : Word) : isLoop (renW β δ w) = isLoop w := by cases w <;> rfl
theorem need_ren (w : Word) : need (renW β δ w) = need w := by cases w <;> simp [renW, need, renRs_map]
variable (hd : ∀ a b, δ a = δ b → a = b) (h0 : δ Str.empty = Str.empty)
theorem rowP_ren (R : Row) : ∀ ps, rowP (renR β δ R) ps = (rowP R ps).map (renR β δ)
  | [] => rfl
  | (n, c) :: ps => by
    show (rowP (renR β δ R) ps).bind _ = ((rowP R ps).bind _).map _
    rw [rowP_ren R ps]
    cases rowP R ps with
    | none => rfl
    | some r =>
      simp only [Option.map_some, Option.bind_some, renR_get]
      cases r[n]? with
      | none => rfl
      | some w => simp only [Option.map_some, Option.bind_some, rowsIn_ren, List.getElem?_map]
include hd in
theorem defOf_ren (p : Prog) (d : Str) : defOf (renP β δ p) (δ d) = (defOf p d).map (renD β δ) := by
  unfold defOf renP
  simp only
  induction p.defs with
  | nil => rfl
  | cons D ds ih =>
    rw [List.map_cons, List.find?_cons, List.find?_cons]
    by_cases h : D.name = d
    · have h' : (renD β δ D).name = δ d := by rw [← h]; rfl
      simp [h, h']
    · have h' : ¬ (renD β δ D).name = δ d := fun z => h (hd _ _ z)
      simp [h, h', ih]
include hd h0 in
theorem rowOf_ren (p : Prog) (nm : Str) : rowOf (renP β δ p) (δ nm) = (rowOf p nm).map (renR β δ) := by
  unfold rowOf
  by_cases h : nm = Str.empty
  · rw [if_pos h, if_pos (by rw [h]; exact h0)]
    rfl
  · rw [if_neg h, if_neg fun z => h (hd _ _ (z.trans h0.symm)), defOf_ren β δ hd]
    cases defOf p nm <;> rfl
include hd h0 in
theorem rowAt_ren (p : Prog) (nm : Str) (ps : List (Nat × Nat)) : rowAt (renP β δ p) (δ nm) ps = (rowAt p nm ps).map (renR β δ) := by
  unfold rowAt
  rw [rowOf_ren β δ hd h0]
  cases rowOf p nm with
  | none => rfl
  | some R => exact rowP_ren β δ R ps
theorem wordR_ren (r : Row) (n : Nat) : wordR (renR β δ r) n = (wordR r n).map (Option.map (renW β δ)) := by
  unfold wordR
  rw [renR_len, renR_get]
  split
  · rfl
  · cases r[n]? <;> rfl
include hd h0 in
theorem wordAt_ren (p : Prog) (pl : Place) : wordAt (renP β δ p) (renPl δ pl) = (wordAt p pl).map (Option.map (renW β δ)) := by
  unfold wordAt
  show (rowAt (renP β δ p) (δ pl.nm) pl.path).bind _ = _
  rw [rowAt_ren β δ hd h0]
  cases rowAt p pl.nm pl.path with
  | none => rfl
  | some r => exact wordR_ren β δ r pl.at_
include hd h0 in
theorem behindG_ren (p : Prog) (nm : Str) : ∀ (ps : List (Nat × Nat)) (n : Nat), behindG (renP β δ p) (δ nm) ps n = (behindG p nm ps n).map (renPl δ)
  | [], n => by
    simp only [behindG]
    rw [rowAt_ren β δ hd h0]
    cases rowAt p nm [] <;> rfl
  | (m, c) :: ps, n => by
    simp only [behindG]
    rw [rowAt_ren β δ hd h0]
    cases rowAt p nm ((m, c) :: ps) with
    | none => rfl
    | some r =>
      simp only [Option.map_some, Option.bind_some, renR_len]
      by_cases h : n + 1 < r.length
      · rw [if_pos h, if_pos h]
        rfl
      · rw [if_neg h, if_neg h]
        have e := wordAt_ren β δ hd h0 p ⟨nm, ps, m⟩
        have e : wordAt (renP β δ p) ⟨δ nm, ps, m⟩ = _ := e
        rw [e]
        cases wordAt p ⟨nm, ps, m⟩ with
        | none => rfl
        | some o =>
          cases o with
          | none => rfl
          | some w =>
            simp only [Option.map_some, isLoop_ren]
            cases isLoop w with
            | true => rfl
            | false => exact behindG_ren p nm ps m
include hd h0 in
theorem behind_ren (p : Prog) (pl : Place) : behind (renP β δ p) (renPl δ pl) = (behind p pl).map (renPl δ) := behindG_ren β δ hd h0 p pl.nm pl.path pl.at_
include hd h0 in
theorem inside_ren (p : Prog) (pl : Place) (c : Nat) : inside (renP β δ p) (renPl δ pl) c = (inside p pl c).map (renPl δ) := by
  unfold inside
  rw [wordAt_ren β δ hd h0]
  cases wordAt p pl with
  | none => rfl
  | some o =>
    cases o with
    | none => rfl
    | some w =>
      simp only [Option.map_some, rowsIn_ren, List.getElem?_map, isLoop_ren]
      cases (rowsIn w)[c]? with
      | none => rfl
      | some r =>
        simp only [Option.map_some, Option.bind_some]
        by_cases hr : r = []
        · subst hr
          simp only [renR, ne_eq, not_true_eq_false, if_false]
          cases isLoop w with
          | true => rfl
          | false => exact behind_ren β δ hd h0 p pl
        · have e : renR β δ r ≠ [] := fun z => hr ((renR_nil β δ r).mp z)
          rw [if_pos e, if_pos hr]
          rfl
include hd h0 in
theorem outG_ren (p : Prog) (nm : Str) : ∀ (ps : List (Nat × Nat)) (m n : Nat), outG (renP β δ p) (δ nm) ps m n = (outG p nm ps m n).map (renPl δ)
  | ps, m, n => by
    have e : wordAt (renP β δ p) ⟨δ nm, ps, m⟩ = _ := wordAt_ren β δ hd h0 p ⟨nm, ps, m⟩
    cases ps with
    | nil =>
      unfold outG
      rw [e]
      cases wordAt p ⟨nm, [], m⟩ with
      | none => rfl
      | some o =>
        cases o with
        | none => rfl
        | some w =>
          simp only [Option.map_some, isLoop_ren]
          generalize (if isLoop w = true then n - 1 else n) = k
          by_cases hk : k = 0
          · rw [if_pos hk, if_pos hk]
            exact behindG_ren β δ hd h0 p nm [] m
          · rw [if_neg hk, if_neg hk]
            rfl
    | cons x ps =>
      obtain ⟨m', c'⟩ := x
      unfold outG
      rw [e]
      cases wordAt p ⟨nm, (m', c') :: ps, m⟩ with
      | none => rfl
      | some o =>
        cases o with
        | none => rfl
        | some w =>
          simp only [Option.map_some, isLoop_ren]
          generalize (if isLoop w = true then n - 1 else n) = k
          by_cases hk : k = 0
          · rw [if_pos hk, if_pos hk]
            exact behindG_ren β δ hd h0 p nm _ m
          · rw [if_neg hk, if_neg hk]
            exact outG_ren p nm ps m' _
include hd h0 in
theorem outOf_ren (p : Prog) (pl : Place) (n : Nat) : outOf (renP β δ p) (renPl δ pl) n = (outOf p pl n).map (renPl δ) := by
  unfold outOf
  show (match pl.path with | [] => none | (m, _) :: ps => outG (renP β δ p) (δ pl.nm) ps m n) = _
  cases pl.path with
  | nil => rfl
  | cons x ps => exact outG_ren β δ hd h0 p pl.nm ps x.1 n
end
mutual
theorem renW_id : ∀ w : Word, renW id id w = w
  | .take _ _ | .ask _ | .num _ _ | .copy _ _ | .mix _ _ _ | .opn _ _ | .tell _ | .wipe _ | .clear _ | .out _ | .risk _ | .fault _ | .back => by simp [renW]
  | .drop _ | .call _ _ _ => by simp [renW]
  | .choose rows => by simp only [renW]; rw [renRs_id rows]
  | .loop row => by simp only [renW]; rw [renR_id row]
theorem renR_id : ∀ r : List Word, renR id id r = r
  | [] => by simp [renR]
  | w :: r => by simp only [renR]; rw [renW_id w, renR_id r]
theorem renRs_id : ∀ r : List (List Word), renRs id id r = r
  | [] => by simp [renRs]
  | r :: rs => by simp only [renRs]; rw [renR_id r, renRs_id rs]
end
theorem renP_id (p : Prog) : renP id id p = p := by
  unfold renP
  rw [renR_id]
  have : p.defs.map (renD id id) = p.defs := by
    rw [show p.defs.map (renD id id) = p.defs.map id from List.map_congr_left fun D _ => by unfold renD; rw [renR_id]; simp]
    simp
  rw [this]
/-! ### a step here is a step there -/
def isPlain : Word → Bool
  | .choose _ => false | .loop _ => false | .out _ => false | .call _ _ _ => false | .fault _ => false | .risk _ => false | .back => false
  | _ => true
def renO (β : Str → Str) : Over → Over
  | .ended => .ended
  | .fault f => .fault (β f)
def RFr {A A' : Alg} (δ : Str → Str) (RT : A.T → A'.T → Prop) : List (Option Place × A.T) → List (Option Place × A'.T) → Prop
  | [], [] => True
  | (cp, t) :: xs, (cp', t') :: ys => cp' = cp.map (renPl δ) ∧ RT t t' ∧ RFr δ RT xs ys
  | _, _ => False
structure SimS {A A' : Alg} (β δ : Str → Str) (RT : A.T → A'.T → Prop) (RL : A.L → A'.L → Prop) (s : MS A) (s' : MS A') : Prop where
  used : s'.used = s.used
  steps : s'.steps = s.steps
  place : s'.place = renPl δ s.place
  over : s'.over = s.over.map (renO β)
  fr : RFr δ RT s.frames s'.frames
  lg : RL s.log s'.log
/-- what the algebras must keep; WOK: the words of the program, COK: its calls -/
structure AlgRel (A A' : Alg) (β δ : Str → Str) (RT : A.T → A'.T → Prop) (RL : A.L → A'.L → Prop) (WOK : Word → Prop) (COK : List Str → List Str → Prop) (RA : Word → Option Int → Option Int → Prop) : Prop where
  plain : ∀ pl w a a' t t' l l' r, WOK w → RA w a a' → RT t t' → RL l l' → A.plain pl w a t l = some r → ∃ r', A'.plain (renPl δ pl) (renW β δ w) a' t' l' = some r' ∧ RT r.1 r'.1 ∧ RL r.2 r'.2
  hand : ∀ args ps t t' r, COK args ps → RT t t' → A.hand args ps t = some r → ∃ r', A'.hand (args.map β) (ps.map β) t' = some r' ∧ RT r.1 r'.1 ∧ RT r.2 r'.2
  home : ∀ pl rs gs t t' u u' l l' r, COK gs rs → RT t t' → RT u u' → RL l l' → A.home pl rs gs t u l = some r → ∃ r', A'.home (renPl δ pl) (rs.map β) (gs.map β) t' u' l' = some r' ∧ RT r.1 r'.1 ∧ RL r.2 r'.2
  leave : ∀ pl t t' l l' r, RT t t' → RL l l' → A.leave pl t l = some r → ∃ r', A'.leave (renPl δ pl) t' l' = some r' ∧ RL r r'
section
variable {A A' : Alg} {β δ : Str → Str} {RT : A.T → A'.T → Prop} {RL : A.L → A'.L → Prop} {WOK : Word → Prop} {COK : List Str → List Str → Prop} {RA : Word → Option Int → Option Int → Prop} {p : Prog}
variable (R : AlgRel A A' β δ RT RL WOK COK RA) (hd : ∀ a b, δ a = δ b → a = b) (h0 : δ Str.empty = Str.empty)
  (hc : ∀ pl d a g D, wordAt p pl = some (some (.call d a g)) → defOf p d = some D → COK a D.params ∧ COK g D.results) (hw : ∀ pl w, wordAt p pl = some (some w) → WOK w)
theorem RFr.len : ∀ {xs : List (Option Place × A.T)} {ys : List (Option Place × A'.T)}, RFr δ RT xs ys → ys.length = xs.length
  | [], [], _ => rfl
  | (cp, t) :: xs, (cp', t') :: ys, h => congrArg (· + 1) (RFr.len h.2.2)
  | [], _ :: _, h => h.elim
  | (_, _) :: _, [], h => h.elim
include R hd h0 hc in
theorem sim_back {s s2 : MS A} {s' : MS A'} (S : SimS β δ RT RL s s') (h : goBack p s = some s2) : ∃ s2', goBack (renP β δ p) s' = some s2' ∧ SimS β δ RT RL s2 s2' := by
  have hf := S.fr
  unfold goBack at h ⊢
  cases e1 : s.frames with
  | nil => rw [e1] at h; cases h
  | cons x xs =>
    obtain ⟨cp, t⟩ := x
    rw [e1] at h hf
    cases e2 : s'.frames with
    | nil => rw [e2] at hf; exact hf.elim
    | cons y ys =>
      obtain ⟨cp', t'⟩ := y
      rw [e2] at hf
      obtain ⟨rfl, ht, hf⟩ := hf
      cases xs with
      | nil =>
        cases ys with
        | cons _ _ => exact hf.elim
        | nil =>
          obtain ⟨l, hl, rfl⟩ := Option.map_eq_some_iff.mp h
          obtain ⟨l', hl', rl⟩ := R.leave _ _ _ _ _ _ ht S.lg hl
          refine ⟨{ s' with frames := [], log := l', over := some .ended }, ?_, ⟨S.used, S.steps, S.place, rfl, trivial, rl⟩⟩
          dsimp only
          rw [S.place, hl', ← S.place]
          rfl
      | cons x2 xs =>
        obtain ⟨cp2, t2⟩ := x2
        cases ys with
        | nil => exact hf.elim
        | cons y2 ys =>
          obtain ⟨cp2', t2'⟩ := y2
          obtain ⟨rfl, ht2, hf⟩ := hf
          cases cp with
          | none => cases h
          | some c =>
            dsimp only [Option.map_some] at h ⊢
            rw [wordAt_ren β δ hd h0]
            cases ew : wordAt p c with
            | none => rw [ew] at h; cases h
            | some o =>
              cases o with
              | none => rw [ew] at h; cases h
              | some w =>
                rw [ew] at h
                cases w with
                | call d a g =>
                  dsimp only at h
                  obtain ⟨D, hD, h⟩ := Option.bind_eq_some_iff.mp h
                  obtain ⟨⟨u, l⟩, hh, h⟩ := Option.bind_eq_some_iff.mp h
                  obtain ⟨pl, hb, rfl⟩ := Option.map_eq_some_iff.mp h
                  obtain ⟨⟨u', l'⟩, hh', ru, rl⟩ := R.home _ _ _ _ _ _ _ _ _ _ (hc c d a g D ew hD).2 ht ht2 S.lg hh
                  refine ⟨{ s' with frames := (cp2.map (renPl δ), u') :: ys, log := l', place := renPl δ pl }, ?_, ⟨S.used, S.steps, rfl, S.over, ⟨rfl, ru, hf⟩, rl⟩⟩
                  simp only [Option.map_some, renW]
                  rw [defOf_ren β δ hd, hD]
                  simp only [Option.map_some, Option.bind_some, renD]
                  rw [S.place, hh']
                  simp only [Option.bind_some]
                  rw [behind_ren β δ hd h0, hb]
                  rfl
                | _ => cases h
include R hd h0 hc in
theorem sim_settle : ∀ (k : Nat) {s s2 : MS A} {s' : MS A'}, SimS β δ RT RL s s' → settle p k s = some s2 → ∃ s2', settle (renP β δ p) k s' = some s2' ∧ SimS β δ RT RL s2 s2'
  | 0, _, _, _, _, h => by cases h
  | k + 1, s, s2, s', S, h => by
    unfold settle at h ⊢
    rw [S.over]
    cases ho : s.over with
    | some o =>
      rw [ho] at h
      obtain rfl : s = s2 := Option.some.inj h
      exact ⟨s', rfl, S⟩
    | none =>
      rw [ho] at h
      dsimp only [Option.map_none] at h ⊢
      rw [S.place, wordAt_ren β δ hd h0]
      cases ew : wordAt p s.place with
      | none => rw [ew] at h; cases h
      | some o =>
        rw [ew] at h
        cases o with
        | some w =>
          obtain rfl : s = s2 := Option.some.inj h
          exact ⟨s', rfl, S⟩
        | none =>
          have h : (goBack p s).bind (settle p k) = some s2 := h
          obtain ⟨s3, h1, h2⟩ := Option.bind_eq_some_iff.mp h
          obtain ⟨s3', h1', S3⟩ := sim_back R hd h0 hc S h1
          obtain ⟨s2', h2', S2⟩ := sim_settle k S3 h2
          refine ⟨s2', ?_, S2⟩
          show (goBack (renP β δ p) s').bind _ = _
          rw [h1']
          exact h2'
include R hd h0 hc in
theorem sim_come {s s2 : MS A} {s' : MS A'} {pl : Place} (S : SimS β δ RT RL s s') (h : comeTo p s pl = some s2) : ∃ s2', comeTo (renP β δ p) s' (renPl δ pl) = some s2' ∧ SimS β δ RT RL s2 s2' := by
  unfold comeTo at h ⊢
  rw [RFr.len S.fr]
  exact sim_settle R hd h0 hc _ (s := { s with place := pl }) (s' := { s' with place := renPl δ pl }) ⟨S.used, S.steps, rfl, S.over, S.fr, S.lg⟩ h
include R in
theorem sim_leaveAll : ∀ {xs : List (Option Place × A.T)} {ys : List (Option Place × A'.T)} {pl : Place} {l l2 : A.L} {l' : A'.L}, RFr δ RT xs ys → RL l l' → leaveAll pl xs l = some l2 → ∃ l2', leaveAll (renPl δ pl) ys l' = some l2' ∧ RL l2 l2'
  | [], [], pl, l, l2, l', _, rl, h => ⟨l', rfl, by cases h; exact rl⟩
  | (cp, t) :: xs, (cp', t') :: ys, pl, l, l2, l', hf, rl, h => by
    obtain ⟨rfl, ht, hf⟩ := hf
    unfold leaveAll at h ⊢
    obtain ⟨l3, h1, h2⟩ := Option.bind_eq_some_iff.mp h
    obtain ⟨l3', h1', rl3⟩ := R.leave _ _ _ _ _ _ ht rl h1
    rw [h1']
    simp only [Option.bind_some]
    cases xs with
    | nil =>
      cases ys with
      | nil => exact ⟨l3', rfl, by cases h2; exact rl3⟩
      | cons _ _ => exact hf.elim
    | cons x xs =>
      cases ys with
      | nil => exact hf.elim
      | cons y ys =>
        cases cp with
        | none => cases h2
        | some c => exact sim_leaveAll hf rl3 h2
  | [], _ :: _, _, _, _, _, hf, _, _ => hf.elim
  | (_, _) :: _, [], _, _, _, _, hf, _, _ => hf.elim
include R in
theorem sim_fall {s s2 : MS A} {s' : MS A'} {f : Str} (S : SimS β δ RT RL s s') (h : fall s f = some s2) : ∃ s2', fall s' (β f) = some s2' ∧ SimS β δ RT RL s2 s2' := by
  unfold fall at h ⊢
  obtain ⟨l, hl, rfl⟩ := Option.map_eq_some_iff.mp h
  obtain ⟨l', hl', rl⟩ := sim_leaveAll R S.fr S.lg hl
  rw [S.place, hl']
  exact ⟨_, rfl, ⟨S.used, S.steps, rfl, rfl, S.fr, rl⟩⟩
include R hd h0 hc hw in
theorem sim_step {s s2 : MS A} {s' : MS A'} {w : Word} {a a' : Option Int} (S : SimS β δ RT RL s s') (hat : wordAt p s.place = some (some w)) (ra : RA w a a') (same : isPlain w = false → a' = a) (h : stepW p s w a = some s2) :
    ∃ s2', stepW (renP β δ p) s' (renW β δ w) a' = some s2' ∧ SimS β δ RT RL s2 s2' := by
  have come : ∀ {o : Option Place} {s2 : MS A}, o.bind (comeTo p s) = some s2 → ∃ s2', (o.map (renPl δ)).bind (comeTo (renP β δ p) s') = some s2' ∧ SimS β δ RT RL s2 s2' := fun {o s2} h => by
    obtain ⟨pl, rfl, h⟩ := Option.bind_eq_some_iff.mp h
    exact sim_come R hd h0 hc S h
  have plainCase : isPlain w = true → (∀ {B : Alg} (q : Prog) (u : MS B) (b : Option Int) (v : Word), isPlain v = true → stepW q u v b = match u.frames with | [] => none | (cp, t) :: rest => (B.plain u.place v b t u.log).bind fun (t', l) => (behind q u.place).bind (comeTo q { u with frames := (cp, t') :: rest, log := l })) →
      ∃ s2', stepW (renP β δ p) s' (renW β δ w) a' = some s2' ∧ SimS β δ RT RL s2 s2' := fun hp he => by
    have hp' : isPlain (renW β δ w) = true := by cases w <;> first | rfl | cases hp
    rw [he _ _ _ _ hp] at h
    rw [he _ _ _ _ hp']
    have hf := S.fr
    cases e1 : s.frames with
    | nil => rw [e1] at h; cases h
    | cons x xs =>
      obtain ⟨cp, t⟩ := x
      rw [e1] at h hf
      cases e2 : s'.frames with
      | nil => rw [e2] at hf; exact hf.elim
      | cons y ys =>
        obtain ⟨cp', t'⟩ := y
        rw [e2] at hf
        obtain ⟨rfl, ht, hf⟩ := hf
        obtain ⟨⟨t2, l2⟩, h1, h2⟩ := Option.bind_eq_some_iff.mp h
        obtain ⟨pl, hb, h3⟩ := Option.bind_eq_some_iff.mp h2
        obtain ⟨⟨t2', l2'⟩, h1', rt, rl⟩ := R.plain _ w _ _ _ _ _ _ _ (hw _ _ hat) ra ht S.lg h1
        obtain ⟨s2', h3', S2⟩ := sim_come R hd h0 hc (s := { s with frames := (cp, t2) :: xs, log := l2 }) (s' := { s' with frames := (cp.map (renPl δ), t2') :: ys, log := l2' }) ⟨S.used, S.steps, S.place, S.over, ⟨rfl, rt, hf⟩, rl⟩ h3
        refine ⟨s2', ?_, S2⟩
        dsimp only
        rw [S.place, h1']
        simp only [Option.bind_some]
        rw [behind_ren β δ hd h0, hb]
        rw [← S.place] at *
        exact h3'
  have stepPlain : ∀ {B : Alg} (q : Prog) (u : MS B) (b : Option Int) (v : Word), isPlain v = true → stepW q u v b = match u.frames with | [] => none | (cp, t) :: rest => (B.plain u.place v b t u.log).bind fun (t', l) => (behind q u.place).bind (comeTo q { u with frames := (cp, t') :: rest, log := l }) := fun {B} q u b v hv => by
    cases v <;> first | rfl | cases hv
  cases w with
  | choose rows =>
    have e := same rfl
    subst e
    obtain ⟨v, rfl, h⟩ := Option.bind_eq_some_iff.mp h
    have := come h
    show ∃ s2', (inside (renP β δ p) s'.place v.toNat).bind (comeTo (renP β δ p) s') = some s2' ∧ _
    rw [S.place, inside_ren β δ hd h0]
    exact this
  | loop row =>
    have h : (inside p s.place 0).bind (comeTo p s) = some s2 := h
    have := come h
    show ∃ s2', (inside (renP β δ p) s'.place 0).bind (comeTo (renP β δ p) s') = some s2' ∧ _
    rw [S.place, inside_ren β δ hd h0]
    exact this
  | out n =>
    have h : (if n = 0 then none else (outOf p s.place n).bind (comeTo p s)) = some s2 := h
    show ∃ s2', (if n = 0 then none else (outOf (renP β δ p) s'.place n).bind (comeTo (renP β δ p) s')) = some s2' ∧ _
    by_cases hn : n = 0
    · rw [if_pos hn] at h; cases h
    rw [if_neg hn] at h ⊢
    have := come h
    rw [S.place, outOf_ren β δ hd h0]
    exact this
  | call d ar g =>
    unfold stepW at h ⊢
    simp only [renW]
    obtain ⟨D, hD, h⟩ := Option.bind_eq_some_iff.mp h
    rw [defOf_ren β δ hd, hD]
    simp only [Option.map_some, Option.bind_some, renD]
    have hf := S.fr
    cases e1 : s.frames with
    | nil => rw [e1] at h; cases h
    | cons x xs =>
      obtain ⟨cp, t⟩ := x
      rw [e1] at h hf
      cases e2 : s'.frames with
      | nil => rw [e2] at hf; exact hf.elim
      | cons y ys =>
        obtain ⟨cp', t'⟩ := y
        rw [e2] at hf
        obtain ⟨rfl, ht, hf⟩ := hf
        dsimp only at h ⊢
        rw [RFr.len hf]
        by_cases hl : 1000 ≤ xs.length
        · rw [if_pos hl] at h; cases h
        rw [if_neg hl] at h ⊢
        obtain ⟨⟨fr, t2⟩, h1, h2⟩ := Option.bind_eq_some_iff.mp h
        obtain ⟨⟨fr', t2'⟩, h1', r1, r2⟩ := R.hand _ _ _ _ _ (hc _ _ _ _ _ hat hD).1 ht h1
        obtain ⟨s2', h2', S2⟩ := sim_come R hd h0 hc (s := { s with frames := (some s.place, fr) :: (cp, t2) :: xs }) (s' := { s' with frames := (some s'.place, fr') :: (cp.map (renPl δ), t2') :: ys }) ⟨S.used, S.steps, S.place, S.over, ⟨by rw [S.place]; rfl, r1, rfl, r2, hf⟩, S.lg⟩ h2
        refine ⟨s2', ?_, S2⟩
        rw [h1']
        exact h2'
  | fault f => exact sim_fall R S h
  | risk f =>
    have e := same rfl
    subst e
    obtain ⟨v, rfl, h⟩ := Option.bind_eq_some_iff.mp h
    show ∃ s2', (if v = 1 then fall s' (β f) else (behind (renP β δ p) s'.place).bind (comeTo (renP β δ p) s')) = some s2' ∧ _
    have h : (if v = 1 then fall s f else (behind p s.place).bind (comeTo p s)) = some s2 := h
    by_cases hv : v = 1
    · rw [if_pos hv] at h ⊢
      exact sim_fall R S h
    · rw [if_neg hv] at h ⊢
      have := come h
      rw [S.place, behind_ren β δ hd h0]
      exact this
  | back =>
    obtain ⟨s3, h1, h2⟩ := Option.bind_eq_some_iff.mp h
    obtain ⟨s3', h1', S3⟩ := sim_back R hd h0 hc S h1
    show ∃ s2', ((goBack (renP β δ p) s').bind fun u => if u.over.isSome then some u else comeTo (renP β δ p) u u.place) = some s2' ∧ _
    rw [h1']
    simp only [Option.bind_some]
    rw [S3.over]
    cases ho : s3.over with
    | some o =>
      rw [ho] at h2
      obtain rfl : s3 = s2 := Option.some.inj h2
      exact ⟨s3', rfl, S3⟩
    | none =>
      rw [ho] at h2
      have h2 : comeTo p s3 s3.place = some s2 := h2
      obtain ⟨s2', h2', S2⟩ := sim_come R hd h0 hc S3 h2
      refine ⟨s2', ?_, S2⟩
      show comeTo (renP β δ p) s3' s3'.place = some s2'
      rw [S3.place]
      exact h2'
  | _ => exact plainCase rfl stepPlain
end
end K16

set_option Elab.async false
set_option linter.all false
set_option maxRecDepth 100000
set_option maxHeartbeats 2000000
/-! KWf: well-formed programs; the control of a run always goes on (plain) -/
namespace K16
open PySem
def chk (n : Nat) : Option Nat := if n ≤ 4000 then some n else none
def bump (w : Word) (n : Nat) : Nat := match w with
  | .tell _ => n + 1
  | .drop _ => n + 1
  | _ => n
/-- control alone: nothing is held, the calls of leaving and telling are counted -/
@[reducible] def ctl : Alg where
  T := Unit
  L := Nat
  plain := fun _ w _ _ n => if isPlain w then (chk (bump w n)).map fun n => ((), n) else none
  hand := fun _ _ _ => some ((), ())
  home := fun _ _ _ _ _ n => (chk (n + 1)).map fun n => ((), n)
  leave := fun _ _ n => chk (n + 1)
def noDot (b : Str) : Prop := dot ∉ b.cps.toList
/-- a def's name, its parameters, its results -/
abbrev Sig := Str × List Str × List Str
def sub (E : Env) (bs : List Str) : Prop := (∀ b ∈ bs, b ∈ E.Bs) ∧ bs.length ≤ 20
mutual
def okW (E : Env) (sg : List Sig) : Nat → Nat → Word → Prop
  | k, l, .choose rows => 0 < k ∧ rows ≠ [] ∧ (rows.length ≤ 8 ∧ ∀ r ∈ rows, r.length ≤ 50) ∧ okRs E sg (k - 1) l rows
  | k, l, .loop row => (0 < k ∧ row.length ≤ 50) ∧ okR E sg (k - 1) (l + 1) row
  | _, l, .out n => 1 ≤ n ∧ n ≤ l
  | _, _, .call d a g => ∃ q ∈ sg, q.1 = d ∧ a.length = q.2.1.length ∧ g.length = q.2.2.length ∧ sub E a ∧ sub E g
  | _, _, .risk f => noDot f ∧ PyData.strOk f = true
  | _, _, .fault f => noDot f ∧ PyData.strOk f = true
  | _, _, .clear r => noDot r ∧ PyData.strOk r = true
  | _, _, .back => True
  | _, _, .take x w => x ∈ E.Bs ∧ w ∈ E.Ws
  | _, _, .ask x => x ∈ E.Bs
  | _, _, .num x _ => x ∈ E.Bs
  | _, _, .copy x y => x ∈ E.Bs ∧ y ∈ E.Bs
  | _, _, .mix x y z => x ∈ E.Bs ∧ y ∈ E.Bs ∧ z ∈ E.Bs
  | _, _, .opn x y => x ∈ E.Bs ∧ y ∈ E.Bs
  | _, _, .tell x => x ∈ E.Bs
  | _, _, .wipe x => x ∈ E.Bs
  | _, _, .drop bs => sub E bs
def okR (E : Env) (sg : List Sig) : Nat → Nat → List Word → Prop
  | _, _, [] => True
  | k, l, w :: r => okW E sg k l w ∧ okR E sg k l r
def okRs (E : Env) (sg : List Sig) : Nat → Nat → List (List Word) → Prop
  | _, _, [] => True
  | k, l, r :: rs => okR E sg k l r ∧ okRs E sg k l rs
end
section
variable {E : Env} {sg sg' : List Sig}
theorem okR_mem : ∀ {k l : Nat} {r : Row} {w : Word}, okR E sg k l r → w ∈ r → okW E sg k l w
  | k, l, v :: r, w, h, hw => by
    simp only [okR] at h
    rcases List.mem_cons.mp hw with rfl | hw
    · exact h.1
    · exact okR_mem h.2 hw
theorem okRs_mem : ∀ {k l : Nat} {rs : List Row} {r : Row}, okRs E sg k l rs → r ∈ rs → okR E sg k l r
  | k, l, q :: rs, r, h, hr => by
    simp only [okRs] at h
    rcases List.mem_cons.mp hr with rfl | hr
    · exact h.1
    · exact okRs_mem h.2 hr
theorem okR_app {k l : Nat} : ∀ {r q : Row}, okR E sg k l r → okR E sg k l q → okR E sg k l (r ++ q)
  | [], q, _, h => h
  | w :: r, q, h, h' => by
    simp only [okR, List.cons_append] at h ⊢
    exact ⟨h.1, okR_app h.2 h'⟩
theorem okRs_of {k l : Nat} : ∀ {rs : List Row}, (∀ r ∈ rs, okR E sg k l r) → okRs E sg k l rs
  | [], _ => by simp [okRs]
  | r :: rs, h => by
    simp only [okRs]
    exact ⟨h r (by simp), okRs_of fun q hq => h q (by simp [hq])⟩
mutual
theorem okW_mono (hs : ∀ q ∈ sg, q ∈ sg') : ∀ {w : Word} {k k' l : Nat}, k ≤ k' → okW E sg k l w → okW E sg' k' l w
  | .choose rows, k, k', l, hk, h => by
    simp only [okW] at h ⊢
    exact ⟨by omega, h.2.1, h.2.2.1, okRs_mono hs (by omega) h.2.2.2⟩
  | .loop row, k, k', l, hk, h => by
    simp only [okW] at h ⊢
    exact ⟨⟨by omega, h.1.2⟩, okR_mono hs (by omega) h.2⟩
  | .call d a g, k, k', l, hk, h => by
    simp only [okW] at h ⊢
    obtain ⟨q, hq, r⟩ := h
    exact ⟨q, hs q hq, r⟩
  | .out n, k, k', l, hk, h => by simp only [okW] at h ⊢; exact h
  | .risk f, k, k', l, hk, h => by simp only [okW] at h ⊢; exact h
  | .fault f, k, k', l, hk, h => by simp only [okW] at h ⊢; exact h
  | .clear f, k, k', l, hk, h => by simp only [okW] at h ⊢; exact h
  | .back, k, k', l, hk, h => by simp only [okW]
  | .take x w, k, k', l, hk, h => by simp only [okW] at h ⊢; exact h
  | .ask x, k, k', l, hk, h => by simp only [okW] at h ⊢; exact h
  | .num x n, k, k', l, hk, h => by simp only [okW] at h ⊢; exact h
  | .copy x y, k, k', l, hk, h => by simp only [okW] at h ⊢; exact h
  | .mix x y z, k, k', l, hk, h => by simp only [okW] at h ⊢; exact h
  | .opn x y, k, k', l, hk, h => by simp only [okW] at h ⊢; exact h
  | .tell x, k, k', l, hk, h => by simp only [okW] at h ⊢; exact h
  | .wipe x, k, k', l, hk, h => by simp only [okW] at h ⊢; exact h
  | .drop bs, k, k', l, hk, h => by simp only [okW] at h ⊢; exact h
theorem okR_mono (hs : ∀ q ∈ sg, q ∈ sg') : ∀ {r : List Word} {k k' l : Nat}, k ≤ k' → okR E sg k l r → okR E sg' k' l r
  | [], k, k', l, _, _ => by simp only [okR]
  | w :: r, k, k', l, hk, h => by
    simp only [okR] at h ⊢
    exact ⟨okW_mono hs hk h.1, okR_mono hs hk h.2⟩
theorem okRs_mono (hs : ∀ q ∈ sg, q ∈ sg') : ∀ {rs : List (List Word)} {k k' l : Nat}, k ≤ k' → okRs E sg k l rs → okRs E sg' k' l rs
  | [], k, k', l, _, _ => by simp only [okRs]
  | r :: rs, k, k', l, hk, h => by
    simp only [okRs] at h ⊢
    exact ⟨okR_mono hs hk h.1, okRs_mono hs hk h.2⟩
end
theorem rowsIn_ok {k l : Nat} {w : Word} (h : okW E sg k l w) : ∀ r ∈ rowsIn w, (0 < k ∧ r.length ≤ 50) ∧ okR E sg (k - 1) (l + if isLoop w then 1 else 0) r := by
  cases w with
  | choose rows =>
    simp only [okW] at h
    intro r hr
    exact ⟨⟨h.1, h.2.2.1.2 r hr⟩, okRs_mem h.2.2.2 hr⟩
  | loop row =>
    simp only [okW] at h
    intro r hr
    rw [List.mem_singleton.mp hr]
    exact h
  | _ => intro r hr; cases hr
end
def sigs (p : Prog) : List Sig := p.defs.map fun D => (D.name, D.params, D.results)
structure ProgOk (E : Env) (p : Prog) : Prop where
  rows : ∀ D ∈ p.defs, okR E (sigs p) 3 0 D.row
  main : okR E (sigs p) 3 0 p.main
  short : p.main.length ≤ 50 ∧ ∀ D ∈ p.defs, D.row.length ≤ 50
  few : p.defs.length ≤ 20
  par : ∀ D ∈ p.defs, sub E D.params ∧ sub E D.results
  names : (p.defs.map (·.name)).Nodup
  good : ∀ D ∈ p.defs, D.name ≠ Str.empty ∧ noDot D.name ∧ PyData.strOk D.name = true
section
variable {E : Env} {p : Prog}
/-- how many loops stand around the place -/
def loopsOn (p : Prog) (nm : Str) : List (Nat × Nat) → Nat
  | [] => 0
  | (n, _) :: ps => loopsOn p nm ps + match wordAt p ⟨nm, ps, n⟩ with
    | some (some w) => if isLoop w then 1 else 0
    | _ => 0
theorem defOf_mem {d : Str} {D : Def} (h : defOf p d = some D) : D ∈ p.defs ∧ D.name = d := by
  unfold defOf at h
  exact ⟨List.mem_of_find?_eq_some h, by simpa using List.find?_some h⟩
theorem rowOf_ok (ok : ProgOk E p) {nm : Str} {R : Row} (h : rowOf p nm = some R) : okR E (sigs p) 3 0 R ∧ R.length ≤ 50 := by
  unfold rowOf at h
  split at h
  · cases h; exact ⟨ok.main, ok.short.1⟩
  · obtain ⟨D, hD, rfl⟩ := Option.map_eq_some_iff.mp h
    exact ⟨ok.rows D (defOf_mem hD).1, ok.short.2 D (defOf_mem hD).1⟩
theorem rowAt_step {nm : Str} {n c : Nat} {ps : List (Nat × Nat)} {r : Row} (h : rowAt p nm ((n, c) :: ps) = some r) : ∃ r0 w, rowAt p nm ps = some r0 ∧ r0[n]? = some w ∧ (rowsIn w)[c]? = some r ∧ wordAt p ⟨nm, ps, n⟩ = some (some w) := by
  unfold rowAt at h ⊢
  obtain ⟨R, hR, h⟩ := Option.bind_eq_some_iff.mp h
  have h : (rowP R ps).bind _ = some r := h
  obtain ⟨r0, h0, h⟩ := Option.bind_eq_some_iff.mp h
  obtain ⟨w, hw, h⟩ := Option.bind_eq_some_iff.mp h
  refine ⟨r0, w, by rw [hR, Option.bind_some]; exact h0, hw, h, ?_⟩
  unfold wordAt rowAt
  rw [hR, Option.bind_some, h0, Option.bind_some]
  unfold wordR
  have : n ≠ r0.length := by
    have := (List.getElem?_eq_some_iff.mp hw).1
    omega
  rw [if_neg this]
  show (r0[n]?).map some = _
  rw [hw]
  rfl
theorem rowAt_ok (ok : ProgOk E p) {nm : Str} : ∀ {ps : List (Nat × Nat)} {r : Row}, rowAt p nm ps = some r → (ps.length ≤ 3 ∧ r.length ≤ 50) ∧ okR E (sigs p) (3 - ps.length) (loopsOn p nm ps) r
  | [], r, h => by
    obtain ⟨R, hR, h⟩ := Option.bind_eq_some_iff.mp h
    cases h
    exact ⟨⟨by simp, (rowOf_ok ok hR).2⟩, (rowOf_ok ok hR).1⟩
  | (n, c) :: ps, r, h => by
    obtain ⟨r0, w, h0, hw, hc, hat⟩ := rowAt_step h
    obtain ⟨i1, i2⟩ := rowAt_ok ok h0
    obtain ⟨j1, j2⟩ := rowsIn_ok (okR_mem i2 (List.mem_of_getElem? hw)) r (List.mem_of_getElem? hc)
    refine ⟨⟨by simp only [List.length_cons]; have := i1.1; have := j1.1; omega, j1.2⟩, ?_⟩
    simp only [loopsOn, hat, List.length_cons]
    have : 3 - (ps.length + 1) = 3 - ps.length - 1 := by omega
    rw [this]
    exact j2
theorem word_ok (ok : ProgOk E p) {pl : Place} {w : Word} (h : wordAt p pl = some (some w)) : ∃ r, rowAt p pl.nm pl.path = some r ∧ r[pl.at_]? = some w ∧ okW E (sigs p) (3 - pl.path.length) (loopsOn p pl.nm pl.path) w := by
  obtain ⟨r, hr, h⟩ := Option.bind_eq_some_iff.mp h
  unfold wordR at h
  split at h
  · cases h
  · obtain ⟨w', hw, e⟩ := Option.map_eq_some_iff.mp h
    obtain rfl := Option.some.inj e
    exact ⟨r, hr, hw, okR_mem (rowAt_ok ok hr).2 (List.mem_of_getElem? hw)⟩
/-- a place of the program, or a row's end -/
def Valid (p : Prog) (pl : Place) : Prop := ∃ o, wordAt p pl = some o
theorem valid_of {nm : Str} {ps : List (Nat × Nat)} {r : Row} {n : Nat} (h : rowAt p nm ps = some r) (hn : n ≤ r.length) : Valid p ⟨nm, ps, n⟩ := by
  unfold Valid wordAt
  show ∃ o, (rowAt p nm ps).bind _ = some o
  rw [h, Option.bind_some]
  unfold wordR
  by_cases e : n = r.length
  · exact ⟨none, if_pos e⟩
  · rw [if_neg e]
    have : n < r.length := by omega
    exact ⟨some r[n], by show (r[n]?).map some = _; rw [List.getElem?_eq_getElem this]; rfl⟩
theorem behindG_ok {nm : Str} : ∀ {ps : List (Nat × Nat)} {r : Row} {n : Nat}, rowAt p nm ps = some r → n < r.length → ∃ pl, behindG p nm ps n = some pl ∧ Valid p pl
  | [], r, n, h, hn => ⟨⟨nm, [], n + 1⟩, by simp [behindG, h], valid_of h hn⟩
  | (m, c) :: ps, r, n, h, hn => by
    obtain ⟨r0, w, h0, hw, hc, hat⟩ := rowAt_step h
    simp only [behindG, h, Option.bind_some]
    by_cases e : n + 1 < r.length
    · rw [if_pos e]
      exact ⟨_, rfl, valid_of h (Nat.le_of_lt e)⟩
    · rw [if_neg e, hat]
      dsimp only
      have hm : m < r0.length := (List.getElem?_eq_some_iff.mp hw).1
      cases isLoop w with
      | true => exact ⟨_, rfl, _, hat⟩
      | false => exact behindG_ok h0 hm
theorem behind_ok (ok : ProgOk E p) {pl : Place} {w : Word} (h : wordAt p pl = some (some w)) : ∃ pl', behind p pl = some pl' ∧ Valid p pl' := by
  obtain ⟨r, hr, hw, _⟩ := word_ok ok h
  exact behindG_ok hr (List.getElem?_eq_some_iff.mp hw).1
theorem inside_ok (ok : ProgOk E p) {pl : Place} {w : Word} {c : Nat} (h : wordAt p pl = some (some w)) (hc : c < (rowsIn w).length) : ∃ pl', inside p pl c = some pl' ∧ Valid p pl' := by
  obtain ⟨r, hr, hw, _⟩ := word_ok ok h
  unfold inside
  rw [h]
  dsimp only
  rw [List.getElem?_eq_getElem hc, Option.bind_some]
  by_cases e : (rowsIn w)[c] = []
  · rw [if_neg (by simp [e])]
    cases isLoop w with
    | true => exact ⟨pl, rfl, _, h⟩
    | false => exact behind_ok ok h
  · rw [if_pos e]
    refine ⟨_, rfl, valid_of (r := (rowsIn w)[c]) ?_ (Nat.zero_le _)⟩
    unfold rowAt at hr ⊢
    obtain ⟨R, hR, hr⟩ := Option.bind_eq_some_iff.mp hr
    rw [hR, Option.bind_some]
    show (rowP R pl.path).bind _ = _
    rw [hr, Option.bind_some, hw, Option.bind_some, List.getElem?_eq_getElem hc]
theorem outG_ok (ok : ProgOk E p) {nm : Str} : ∀ {ps : List (Nat × Nat)} {m n : Nat} {w : Word}, wordAt p ⟨nm, ps, m⟩ = some (some w) → 1 ≤ n → n ≤ loopsOn p nm ps + (if isLoop w then 1 else 0) → ∃ pl, outG p nm ps m n = some pl ∧ Valid p pl
  | [], m, n, w, h, h1, hn => by
    obtain ⟨r, hr, hw, _⟩ := word_ok ok h
    unfold outG
    rw [h]
    dsimp only
    simp only [loopsOn] at hn
    have : (if isLoop w = true then n - 1 else n) = 0 := by
      cases e : isLoop w <;> simp [e] at hn ⊢ <;> omega
    rw [if_pos this]
    exact behindG_ok hr (List.getElem?_eq_some_iff.mp hw).1
  | (m', c') :: ps, m, n, w, h, h1, hn => by
    obtain ⟨r, hr, hw, _⟩ := word_ok ok h
    have hr : rowAt p nm ((m', c') :: ps) = some r := hr
    obtain ⟨r0, w0, h0, hw0, hc0, hat⟩ := rowAt_step hr
    unfold outG
    rw [h]
    dsimp only
    simp only [loopsOn, hat] at hn
    by_cases e : (if isLoop w = true then n - 1 else n) = 0
    · rw [if_pos e]
      exact behindG_ok hr (List.getElem?_eq_some_iff.mp hw).1
    · rw [if_neg e]
      refine outG_ok ok hat (by omega) ?_
      cases q : isLoop w <;> simp [q] at e hn ⊢ <;> omega
theorem outOf_ok (ok : ProgOk E p) {pl : Place} {n : Nat} (h : wordAt p pl = some (some (.out n))) : n ≠ 0 ∧ ∃ pl', outOf p pl n = some pl' ∧ Valid p pl' := by
  obtain ⟨nm, path, at_⟩ := pl
  obtain ⟨r, hr, hw, hk⟩ := word_ok ok h
  simp only [okW] at hk
  refine ⟨by omega, ?_⟩
  unfold outOf
  cases path with
  | nil =>
    simp only [loopsOn] at hk
    omega
  | cons x ps =>
    obtain ⟨m, c⟩ := x
    have hr : rowAt p nm ((m, c) :: ps) = some r := hr
    obtain ⟨r0, w0, h0, hw0, hc0, hat⟩ := rowAt_step hr
    simp only [loopsOn, hat] at hk
    exact outG_ok ok hat hk.1 hk.2
/-! ### states -/
/-- each frame but the first was called at a call -/
def Chain (p : Prog) : List (Option Place × Unit) → Prop
  | [] => True
  | [_] => True
  | (cp, _) :: x :: xs => (∃ c d a g, cp = some c ∧ wordAt p c = some (some (.call d a g))) ∧ Chain p (x :: xs)
theorem Chain.tail {x : Option Place × Unit} {xs : List (Option Place × Unit)} (h : Chain p (x :: xs)) : Chain p xs := by
  cases xs with
  | nil => trivial
  | cons y ys => exact h.2
theorem sig_def (ok : ProgOk E p) {d : Str} {q : Sig} (h : q ∈ sigs p) (e : q.1 = d) : ∃ D, defOf p d = some D ∧ q = (D.name, D.params, D.results) := by
  obtain ⟨D, hD, rfl⟩ := List.mem_map.mp h
  have e : D.name = d := e
  subst e
  refine ⟨D, ?_, rfl⟩
  have nd := ok.names
  unfold defOf
  generalize p.defs = ds at hD nd
  induction ds with
  | nil => cases hD
  | cons D' ds ih =>
    rw [List.map_cons, List.nodup_cons] at nd
    rw [List.find?_cons]
    rcases List.mem_cons.mp hD with rfl | hD
    · simp
    · have : D'.name ≠ D.name := fun z => nd.1 (List.mem_map.mpr ⟨D, hD, z.symm⟩)
      simp [this, ih hD nd.2]
theorem call_def (ok : ProgOk E p) {pl : Place} {d : Str} {a g : List Str} (h : wordAt p pl = some (some (.call d a g))) : ∃ D, defOf p d = some D ∧ a.length = D.params.length ∧ g.length = D.results.length ∧ sub E a ∧ sub E g ∧ sub E D.params ∧ sub E D.results := by
  obtain ⟨r, hr, hw, hk⟩ := word_ok ok h
  simp only [okW] at hk
  obtain ⟨q, hq, e, l1, l2, s1, s2⟩ := hk
  obtain ⟨D, hD, rfl⟩ := sig_def ok hq e
  have := ok.par D (defOf_mem hD).1
  exact ⟨D, hD, l1, l2, s1, s2, this.1, this.2⟩
/-- what holds between the words -/
structure Go (p : Prog) (s : MS ctl) (B : Nat) : Prop where
  chain : Chain p s.frames
  some_ : s.over = none → s.frames ≠ []
  here : s.over = none → ∃ w, wordAt p s.place = some (some w)
  count : s.log + s.frames.length ≤ B
theorem back_ok (ok : ProgOk E p) {s : MS ctl} {B : Nat} (hc : Chain p s.frames) (hn : s.frames ≠ []) (ho : s.over = none) (hb : s.log + s.frames.length ≤ B) (hB : B ≤ 4000) :
    ∃ s', goBack p s = some s' ∧ Chain p s'.frames ∧ s'.log + s'.frames.length ≤ B ∧ s'.frames.length + 1 = s.frames.length ∧ ((s'.over = none ∧ s'.frames ≠ [] ∧ Valid p s'.place) ∨ (s'.over ≠ none ∧ s'.frames = [])) := by
  unfold goBack
  cases e : s.frames with
  | nil => exact absurd e hn
  | cons x xs =>
    obtain ⟨cp, ⟨⟩⟩ := x
    rw [e] at hc hb
    simp only [List.length_cons] at hb
    have hchk : chk (s.log + 1) = some (s.log + 1) := if_pos (by omega)
    cases xs with
    | nil =>
      refine ⟨{ s with frames := [], log := s.log + 1, over := some .ended }, by dsimp only; rw [hchk]; rfl, trivial, ?_, rfl, .inr ⟨by simp, rfl⟩⟩
      simp at hb ⊢
      omega
    | cons y ys =>
      obtain ⟨cp', ⟨⟩⟩ := y
      obtain ⟨⟨c, d, a, g, rfl, hw⟩, hc⟩ := hc
      obtain ⟨D, hD, _⟩ := call_def ok hw
      obtain ⟨pl, hbe, hv⟩ := behind_ok ok hw
      dsimp only
      rw [hw]
      dsimp only
      rw [hD, Option.bind_some, hchk, Option.map_some, Option.bind_some, hbe, Option.map_some]
      refine ⟨_, rfl, hc, ?_, rfl, .inl ⟨ho, by simp, hv⟩⟩
      simp only [List.length_cons] at hb ⊢
      omega
theorem settle_ok (ok : ProgOk E p) {B : Nat} (hB : B ≤ 4000) : ∀ (k : Nat) {s : MS ctl}, s.frames.length + 1 ≤ k → Chain p s.frames → s.log + s.frames.length ≤ B → (s.over = none → s.frames ≠ [] ∧ Valid p s.place) → ∃ s', settle p k s = some s' ∧ Go p s' B ∧ s'.frames.length ≤ s.frames.length
  | 0, s, h, _, _, _ => by omega
  | k + 1, s, h, hc, hb, hv => by
    unfold settle
    cases ho : s.over with
    | some o => exact ⟨s, rfl, ⟨hc, fun z => (by rw [ho] at z; cases z), fun z => (by rw [ho] at z; cases z), hb⟩, Nat.le_refl _⟩
    | none =>
      obtain ⟨hn, o, ho2⟩ := hv ho
      rw [ho2]
      cases o with
      | some w => exact ⟨s, rfl, ⟨hc, fun _ => hn, fun _ => ⟨w, ho2⟩, hb⟩, Nat.le_refl _⟩
      | none =>
        obtain ⟨s1, h1, c1, b1, l1, v1⟩ := back_ok ok hc hn ho hb hB
        obtain ⟨s2, h2, g2, l2⟩ := settle_ok ok hB k (s := s1) (by omega) c1 b1 (fun z => by
          rcases v1 with ⟨_, a, b⟩ | ⟨a, _⟩
          · exact ⟨a, b⟩
          · exact absurd z a)
        refine ⟨s2, ?_, g2, by omega⟩
        show (goBack p s).bind _ = _
        rw [h1]
        exact h2
theorem come_ok (ok : ProgOk E p) {B : Nat} (hB : B ≤ 4000) {s : MS ctl} {pl : Place} (hc : Chain p s.frames) (hn : s.frames ≠ []) (hb : s.log + s.frames.length ≤ B) (hv : Valid p pl) : ∃ s', comeTo p s pl = some s' ∧ Go p s' B ∧ s'.frames.length ≤ s.frames.length :=
  settle_ok ok hB _ (s := { s with place := pl }) (Nat.le_refl _) hc hb fun _ => ⟨hn, hv⟩
theorem leaveAll_ok {B : Nat} (hB : B ≤ 4000) : ∀ {xs : List (Option Place × Unit)} {pl : Place} {n : Nat}, Chain p xs → n + xs.length ≤ B → ∃ m, leaveAll (A := ctl) pl xs n = some m ∧ m ≤ n + xs.length
  | [], pl, n, _, _ => ⟨n, rfl, by simp⟩
  | (cp, ⟨⟩) :: xs, pl, n, hc, h => by
    simp only [List.length_cons] at h
    have hchk : chk (n + 1) = some (n + 1) := if_pos (by omega)
    unfold leaveAll
    dsimp only
    rw [hchk, Option.bind_some]
    cases xs with
    | nil => exact ⟨n + 1, rfl, by simp⟩
    | cons y ys =>
      obtain ⟨⟨c, d, a, g, rfl, _⟩, hc⟩ := hc
      obtain ⟨m, hm, l⟩ := leaveAll_ok hB (xs := y :: ys) (pl := c) (n := n + 1) hc (by omega)
      exact ⟨m, hm, by simp only [List.length_cons] at l ⊢; omega⟩
theorem stepW_plain {A : Alg} (q : Prog) (u : MS A) (b : Option Int) (v : Word) (hv : isPlain v = true) : stepW q u v b = match u.frames with
    | [] => none
    | (cp, t) :: rest => (A.plain u.place v b t u.log).bind fun (t', l) => (behind q u.place).bind (comeTo q { u with frames := (cp, t') :: rest, log := l }) := by
  cases v <;> first | rfl | cases hv
theorem step_ok (ok : ProgOk E p) {B : Nat} (hB : B + 2 ≤ 2000) {s : MS ctl} {w : Word} {a : Option Int} (G : Go p s B) (ho : s.over = none) (hw : wordAt p s.place = some (some w)) (hf : s.frames.length ≤ 900)
    (ha : ∀ m, need w = some m → ∃ v, a = some v ∧ 0 ≤ v ∧ v < (m : Int)) : ∃ s', stepW p s w a = some s' ∧ (s'.over = none → Go p s' (B + 2)) ∧ s'.frames.length ≤ s.frames.length + 1 := by
  have hn := G.some_ ho
  have hb := G.count
  have mono : ∀ {s' : MS ctl}, Go p s' B → Go p s' (B + 2) := fun g => ⟨g.chain, g.some_, g.here, Nat.le_trans g.count (by omega)⟩
  have come : ∀ {pl : Place}, Valid p pl → ∃ s', comeTo p s pl = some s' ∧ (s'.over = none → Go p s' (B + 2)) ∧ s'.frames.length ≤ s.frames.length + 1 := fun hv => by
    obtain ⟨s', h1, h2, h3⟩ := come_ok ok (B := B) (by omega) G.chain hn hb hv
    exact ⟨s', h1, fun _ => mono h2, by omega⟩
  have plainCase : isPlain w = true → ∃ s', stepW p s w a = some s' ∧ (s'.over = none → Go p s' (B + 2)) ∧ s'.frames.length ≤ s.frames.length + 1 := fun hp => by
    rw [stepW_plain _ _ _ _ hp]
    cases e : s.frames with
    | nil => exact absurd e hn
    | cons x xs =>
      obtain ⟨cp, ⟨⟩⟩ := x
      have hch := G.chain
      rw [e] at hch hb
      simp only [List.length_cons] at hb
      have bl : bump w s.log ≤ s.log + 1 := by cases w <;> simp [bump]
      have hchk : chk (bump w s.log) = some (bump w s.log) := if_pos (by omega)
      dsimp only
      rw [if_pos hp, hchk, Option.map_some, Option.bind_some]
      obtain ⟨pl, hbe, hv⟩ := behind_ok ok hw
      dsimp only
      rw [hbe, Option.bind_some]
      obtain ⟨s', h1, h2, h3⟩ := come_ok ok (B := B + 2) (by omega) (s := { s with frames := (cp, ()) :: xs, log := bump w s.log }) hch (by simp) (by simp only [List.length_cons] at hb ⊢; omega) hv
      exact ⟨s', h1, fun _ => h2, by simp only [List.length_cons] at h3 ⊢; omega⟩
  have fallCase : ∀ f, ∃ s', fall s f = some s' ∧ (s'.over = none → Go p s' (B + 2)) ∧ s'.frames.length ≤ s.frames.length + 1 := fun f => by
    obtain ⟨m, hm, _⟩ := leaveAll_ok (B := B) (by omega) (pl := s.place) G.chain hb
    unfold fall
    rw [hm]
    exact ⟨_, rfl, fun z => (by cases z), Nat.le_succ _⟩
  cases w with
  | choose rows =>
    obtain ⟨v, rfl, h0, hm⟩ := ha _ rfl
    obtain ⟨pl, hin, hv⟩ := inside_ok ok hw (c := v.toNat) (by show v.toNat < rows.length; omega)
    obtain ⟨s', h⟩ := come hv
    refine ⟨s', ?_, h.2⟩
    show (inside p s.place v.toNat).bind _ = _
    rw [hin]
    exact h.1
  | loop row =>
    obtain ⟨pl, hin, hv⟩ := inside_ok ok hw (c := 0) (by simp [rowsIn])
    obtain ⟨s', h⟩ := come hv
    refine ⟨s', ?_, h.2⟩
    show (inside p s.place 0).bind _ = _
    rw [hin]
    exact h.1
  | out n =>
    obtain ⟨h0, pl, hin, hv⟩ := outOf_ok ok hw
    obtain ⟨s', h⟩ := come hv
    refine ⟨s', ?_, h.2⟩
    show (if n = 0 then none else (outOf p s.place n).bind _) = _
    rw [if_neg h0, hin]
    exact h.1
  | call d ar g =>
    obtain ⟨D, hD, _⟩ := call_def ok hw
    show ∃ s', (defOf p d).bind _ = some s' ∧ _
    rw [hD, Option.bind_some]
    have hch := G.chain
    cases e : s.frames with
    | nil => exact absurd e hn
    | cons x xs =>
      obtain ⟨cp, ⟨⟩⟩ := x
      rw [e] at hch hb hf
      dsimp only
      rw [if_neg (by simp only [List.length_cons] at hf; omega), Option.bind_some]
      dsimp only
      have hv : Valid p ⟨d, [], 0⟩ := by
        refine valid_of (r := D.row) ?_ (Nat.zero_le _)
        unfold rowAt rowOf
        rw [if_neg ((defOf_mem hD).2 ▸ (ok.good D (defOf_mem hD).1).1), hD]
        rfl
      obtain ⟨s', h1, h2, h3⟩ := come_ok ok (B := B + 2) (by omega) (s := { s with frames := (some s.place, ()) :: (cp, ()) :: xs }) ⟨⟨s.place, d, ar, g, rfl, hw⟩, hch⟩ (by simp) (by simp only [List.length_cons] at hb ⊢; omega) hv
      exact ⟨s', h1, fun _ => h2, by simp only [List.length_cons] at h3 ⊢; omega⟩
  | fault f => exact fallCase f
  | risk f =>
    obtain ⟨v, rfl, h0, hm⟩ := ha _ rfl
    show ∃ s', (if v = 1 then fall s f else (behind p s.place).bind (comeTo p s)) = some s' ∧ _
    by_cases hv : v = 1
    · rw [if_pos hv]
      exact fallCase f
    · rw [if_neg hv]
      obtain ⟨pl, hbe, hvl⟩ := behind_ok ok hw
      rw [hbe]
      exact come hvl
  | back =>
    obtain ⟨s1, h1, c1, b1, l1, v1⟩ := back_ok ok G.chain hn ho hb (by omega)
    show ∃ s', ((goBack p s).bind fun u => if u.over.isSome then some u else comeTo p u u.place) = some s' ∧ _
    rw [h1, Option.bind_some]
    rcases v1 with ⟨a1, a2, a3⟩ | ⟨a1, a2⟩
    · rw [a1]
      obtain ⟨s', h2, g2, l2⟩ := come_ok ok (B := B) (by omega) c1 a2 b1 a3
      exact ⟨s', h2, fun _ => mono g2, by omega⟩
    · cases q : s1.over with
      | none => exact absurd q a1
      | some o => exact ⟨s1, rfl, fun z => absurd z (by rw [q]; simp), by omega⟩
  | _ => exact plainCase rfl
theorem start_ok (ok : ProgOk E p) : ∃ s, start (A := ctl) p () 0 = some s ∧ Go p s 1 := by
  have hv : Valid p ⟨Str.empty, [], 0⟩ := valid_of (r := p.main) (by unfold rowAt rowOf; rw [if_pos rfl]; rfl) (Nat.zero_le _)
  obtain ⟨s, h1, h2, _⟩ := come_ok ok (B := 1) (by omega) (s := ({ used := 0, steps := 0, place := ⟨Str.empty, [], 0⟩, frames := [(none, ())], log := 0, over := none } : MS ctl)) trivial (by simp) (by simp) hv
  exact ⟨s, h1, h2⟩
end
end K16

set_option Elab.async false
set_option linter.all false
set_option maxRecDepth 100000
set_option maxHeartbeats 2000000
/-! KInst: control lifts to the full machine; other numbers; other names (plain) -/
namespace K16
open PySem
/-! ### boxes called otherwise -/
def flatL (l : List Nat) : List Nat := l.flatMap fun c => if c = dot then [dot, 97] else [c]
def box (b : Str) : Str := ⟨(97 :: flatL b.cps.toList).toArray⟩
def dnm (d : Str) : Str := if d = Str.empty then Str.empty else ⟨(97 :: d.cps.toList).toArray⟩
theorem flatL_cons (c : Nat) (l : List Nat) : flatL (c :: l) = (if c = dot then [dot, 97] else [c]) ++ flatL l := rfl
theorem flatL_inj : ∀ {a b : List Nat}, flatL a = flatL b → a = b
  | [], [], _ => rfl
  | [], c :: b, h => by rw [flatL_cons] at h; simp only [flatL, List.flatMap_nil] at h; split at h <;> cases h
  | c :: a, [], h => by rw [flatL_cons] at h; simp only [flatL, List.flatMap_nil] at h; split at h <;> cases h
  | c :: a, d :: b, h => by
    rw [flatL_cons, flatL_cons] at h
    by_cases hc : c = dot <;> by_cases hd : d = dot
    · rw [if_pos hc, if_pos hd] at h
      simp only [List.cons_append, List.nil_append, List.cons.injEq, true_and] at h
      rw [hc, hd, flatL_inj h]
    · rw [if_pos hc, if_neg hd] at h
      simp only [List.cons_append, List.nil_append, List.cons.injEq] at h
      exact absurd h.1.symm hd
    · rw [if_neg hc, if_pos hd] at h
      simp only [List.cons_append, List.nil_append, List.cons.injEq] at h
      exact absurd h.1 hc
    · rw [if_neg hc, if_neg hd] at h
      simp only [List.cons_append, List.nil_append, List.cons.injEq] at h
      rw [h.1, flatL_inj h.2]
theorem box_inj {a b : Str} (h : box a = box b) : a = b := by
  have := congrArg (fun x : Str => x.cps.toList) h
  simp only [box, List.cons.injEq, true_and] at this
  exact str_ext (flatL_inj this)
theorem dnm_inj (a b : Str) (h : dnm a = dnm b) : a = b := by
  unfold dnm at h
  split at h <;> split at h
  · next x y => rw [x, y]
  · have := congrArg (fun x : Str => x.cps.toList) h; simp [Str.empty] at this
  · have := congrArg (fun x : Str => x.cps.toList) h; simp [Str.empty] at this
  · have := congrArg (fun x : Str => x.cps.toList) h
    simp only [List.cons.injEq, true_and] at this
    exact str_ext this
theorem flatL_lt : ∀ {a b : List Nat}, a < b → flatL a < flatL b
  | [], [], h => absurd h (List.lt_irrefl _)
  | [], c :: b, _ => by rw [flatL_cons]; simp only [flatL, List.flatMap_nil]; split <;> simp
  | c :: a, [], h => by cases h
  | c :: a, d :: b, h => by
    rw [flatL_cons, flatL_cons]
    rw [List.cons_lt_cons_iff] at h
    rcases h with h | ⟨rfl, h⟩
    · by_cases hc : c = dot <;> by_cases hd : d = dot
      · omega
      · rw [if_pos hc, if_neg hd]
        simp only [List.cons_append, List.nil_append, List.cons_lt_cons_iff]
        exact .inl (by omega)
      · rw [if_neg hc, if_pos hd]
        simp only [List.cons_append, List.nil_append, List.cons_lt_cons_iff]
        exact .inl (by omega)
      · rw [if_neg hc, if_neg hd]
        simp only [List.cons_append, List.nil_append, List.cons_lt_cons_iff]
        exact .inl h
    · have ih := flatL_lt h
      by_cases hc : c = dot
      · rw [if_pos hc]
        simp only [List.cons_append, List.nil_append, List.cons_lt_cons_iff]
        exact .inr ⟨trivial, .inr ⟨trivial, ih⟩⟩
      · rw [if_neg hc]
        simp only [List.cons_append, List.nil_append, List.cons_lt_cons_iff]
        exact .inr ⟨trivial, ih⟩
theorem box_lt {a b : Str} (h : ltS a b) : ltS (box a) (box b) := by
  unfold ltS box
  show 97 :: flatL a.cps.toList < 97 :: flatL b.cps.toList
  rw [List.cons_lt_cons_iff]
  exact .inr ⟨rfl, flatL_lt h⟩
theorem flatL_nodot : ∀ {l : List Nat}, dot ∉ l → flatL l = l
  | [], _ => rfl
  | c :: l, h => by
    rw [flatL_cons, if_neg fun z => h (by simp [z]), flatL_nodot fun z => h (List.mem_cons_of_mem _ z)]
    rfl
theorem dot_flatL : ∀ {l : List Nat}, dot ∈ flatL l ↔ dot ∈ l
  | [] => by simp [flatL]
  | c :: l => by
    rw [flatL_cons, List.mem_append, dot_flatL, List.mem_cons]
    by_cases hc : c = dot
    · simp [hc]
    · rw [if_neg hc]
      simp
theorem first_flatL : ∀ {l : List Nat}, (flatL l).takeWhile (fun c => decide (c ≠ dot)) = l.takeWhile fun c => decide (c ≠ dot)
  | [] => rfl
  | c :: l => by
    rw [flatL_cons]
    by_cases hc : c = dot
    · rw [if_pos hc]
      simp [hc]
    · rw [if_neg hc]
      show (c :: flatL l).takeWhile _ = (c :: l).takeWhile _
      rw [List.takeWhile_cons_of_pos (by simp [hc]), List.takeWhile_cons_of_pos (by simp [hc]), first_flatL]
theorem inRecord_box {b r : Str} (hr : noDot r) : inRecord (box b) (box r) = inRecord b r := by
  unfold inRecord
  have e1 : (dot ∈ (box b).cps.toList) ↔ dot ∈ b.cps.toList := by
    show dot ∈ 97 :: flatL b.cps.toList ↔ _
    rw [List.mem_cons, dot_flatL]
    simp [dot]
  have e2 : (firstName (box b) = box r) ↔ firstName b = r := by
    have ef : (firstName (box b)).cps.toList = 97 :: (b.cps.toList.takeWhile fun c => decide (c ≠ dot)) := by
      unfold firstName box
      simp only []
      rw [List.takeWhile_cons_of_pos (by decide), first_flatL]
    have er : (box r).cps.toList = 97 :: r.cps.toList := by
      show 97 :: flatL r.cps.toList = _
      rw [flatL_nodot hr]
    constructor
    · intro h
      have : (firstName (box b)).cps.toList = (box r).cps.toList := by rw [h]
      rw [ef, er] at this
      exact str_ext (List.cons.inj this).2
    · intro h
      apply str_ext
      rw [ef, er, ← h]
      rfl
  rw [decide_eq_decide.mpr e1, decide_eq_decide.mpr e2]
def renE (E : Env) : Env := ⟨E.Bs.map box, E.Ws.map box⟩
theorem mem_box {l : List Str} {b : Str} : box b ∈ l.map box ↔ b ∈ l := by
  rw [List.mem_map]
  exact ⟨fun ⟨c, hc, e⟩ => box_inj e ▸ hc, fun h => ⟨b, h, rfl⟩⟩
/-! ### control -> full -/
def RT1 (E : Env) (_ : Unit) (t : Things) : Prop := ∀ b, (∀ w ∈ (t b).2, w ∈ E.Ws) ∧ (t b).2.length ≤ 20
def RL1 (n : Nat) (l : Log) : Prop := n ≤ 4000 ∧ l.1.length ≤ n ∧ l.2.length ≤ 20 * n
def WOK (E : Env) (w : Word) : Prop := ∃ sg k l, okW E sg k l w
def COK (E : Env) (a ps : List Str) : Prop := a.length = ps.length ∧ sub E a ∧ sub E ps
section
variable {E : Env}
theorem sub_ok {bs : List Str} (h : sub E bs) : subsetB E bs = true := by
  unfold subsetB
  rw [Bool.and_eq_true, List.all_eq_true, decide_eq_true_eq]
  exact ⟨fun b hb => decide_eq_true (h.1 b hb), h.2⟩
theorem sub_get {bs : List Str} (h : subsetB E bs = true) : sub E bs := by
  unfold subsetB at h
  rw [Bool.and_eq_true, List.all_eq_true, decide_eq_true_eq] at h
  exact ⟨fun b hb => of_decide_eq_true (h.1 b hb), h.2⟩
theorem kept_len (ok : EnvOk E) (pl : Place) (t : Things) : (kept E pl t).length ≤ 20 := Nat.le_trans (List.length_filterMap_le _ _) ok.bl
theorem okLog_of {l : Log} (h1 : l.1.length ≤ 100000) (h2 : l.2.length ≤ 100000) : okLog l = some l := by
  unfold okLog Log.ok
  rw [if_pos]
  rw [Bool.and_eq_true, decide_eq_true_eq, decide_eq_true_eq]
  exact ⟨h1, h2⟩
theorem boxes_of {w : Word} (h : WOK E w) : boxesOk E w = true := by
  obtain ⟨sg, k, l, h⟩ := h
  cases w <;> simp only [okW] at h <;> simp only [boxesOk, Bool.and_eq_true, decide_eq_true_eq] <;> first | exact h | (obtain ⟨a, b⟩ := h; exact ⟨List.all_eq_true.mpr fun x hx => decide_eq_true (a x hx), b⟩) | rfl | trivial
theorem chk_some {n m : Nat} (h : chk n = some m) : m = n ∧ n ≤ 4000 := by
  unfold chk at h
  split at h
  · next q => exact ⟨(Option.some.inj h).symm, q⟩
  · cases h
theorem RT1.put {t : Things} (h : RT1 E () t) {x : Str} {v : Thing} (hv : (∀ w ∈ v.2, w ∈ E.Ws) ∧ v.2.length ≤ 20) : RT1 E () (put t x v) := fun b => by
  unfold K16.put
  split
  · exact hv
  · exact h b
theorem RT1.wipe {t : Things} (h : RT1 E () t) (bs : List Str) : RT1 E () (wipeAll t bs) := fun b => by
  unfold wipeAll
  split
  · exact ⟨fun w hw => (by cases hw), by simp [none0]⟩
  · exact h b
theorem RT1.fold {t : Things} (h : RT1 E () t) : ∀ (l : List (Str × Thing)), (∀ x ∈ l, (∀ w ∈ x.2.2, w ∈ E.Ws) ∧ x.2.2.length ≤ 20) → ∀ g, RT1 E () g → RT1 E () (l.foldl (fun g bt => K16.put g bt.1 bt.2) g)
  | [], _, g, hg => hg
  | x :: l, hl, g, hg => RT1.fold h l (fun y hy => hl y (by simp [hy])) _ (hg.put (hl x (by simp)))
theorem lift_rel (ok : EnvOk E) : AlgRel ctl (full E) id id (RT1 E) RL1 (WOK E) (COK E) (fun w _ a' => (need w).isSome → a'.isSome) where
  plain := by
    intro pl w a a' t t' l l' r hw ha ht hl h
    have h : (if isPlain w then (chk (bump w l)).map fun n => ((), n) else none : Option (Unit × Nat)) = some r := h
    by_cases hp : isPlain w = true
    · rw [if_pos hp] at h
      obtain ⟨n, hn, rfl⟩ := Option.map_eq_some_iff.mp h
      obtain ⟨rfl, hn4⟩ := chk_some hn
      rw [renW_id]
      obtain ⟨l0, l1, l2⟩ := hl
      have pt : ∃ t2, plainT E w a' t' = some t2 ∧ RT1 E () t2 := by
        cases w with
        | take x u =>
          obtain ⟨v, rfl⟩ := Option.isSome_iff_exists.mp (ha rfl)
          obtain ⟨sg, k, q, hw⟩ := hw
          simp only [okW] at hw
          exact ⟨_, rfl, ht.put ⟨fun z hz => (by rw [List.mem_singleton.mp hz]; exact hw.2), by simp⟩⟩
        | ask x =>
          obtain ⟨v, rfl⟩ := Option.isSome_iff_exists.mp (ha rfl)
          exact ⟨_, rfl, ht.put ⟨fun z hz => (by cases hz), by simp⟩⟩
        | num x n => exact ⟨_, rfl, ht.put ⟨fun z hz => (by cases hz), by simp⟩⟩
        | copy x y => exact ⟨_, rfl, ht.put (ht y)⟩
        | mix x y z =>
          have wo : worthsOk E (t' y).2 (t' z).2 = true := by
            unfold worthsOk
            rw [Bool.and_eq_true, Bool.and_eq_true, List.all_eq_true, List.all_eq_true, decide_eq_true_eq]
            exact ⟨fun u hu => decide_eq_true ((ht y).1 u hu), fun u hu => decide_eq_true ((ht z).1 u hu), by have := (ht y).2; have := (ht z).2; omega⟩
          refine ⟨put t' x (((t' y).1 + 2 * (t' z).1) % 10007, both E (t' y).2 (t' z).2), by unfold plainT; dsimp only; rw [if_pos wo], ht.put ⟨fun u hu => (List.mem_filter.mp hu).1, ?_⟩⟩
          exact Nat.le_trans (List.length_filter_le _ _) ok.wl
        | opn x y => exact ⟨_, rfl, ht.put ⟨fun z hz => (by cases hz), by simp⟩⟩
        | tell x => exact ⟨_, rfl, ht⟩
        | wipe x => exact ⟨_, rfl, ht.wipe _⟩
        | clear r =>
          refine ⟨_, rfl, fun b => ?_⟩
          by_cases q : inRecord b r = true
          · rw [if_pos q]; exact ⟨fun w hw => (by cases hw), by simp [none0]⟩
          · rw [if_neg q]; exact ht b
        | drop bs => exact ⟨_, rfl, ht.wipe _⟩
        | _ => cases hp
      obtain ⟨t2, e2, r2⟩ := pt
      have lg : (plainL E pl w t' l').1.length ≤ bump w l ∧ (plainL E pl w t' l').2.length ≤ 20 * bump w l := by
        cases w <;> simp only [plainL, bump] <;> first | exact ⟨l1, l2⟩ | skip
        · exact ⟨by simp; omega, by omega⟩
        · have := kept_len ok pl (fun c => if c ∈ ‹List Str› then t' c else none0)
          exact ⟨by omega, by simp only [List.length_append]; omega⟩
      refine ⟨(t2, plainL E pl w t' l'), ?_, r2, ⟨hn4, lg⟩⟩
      show (if boxesOk E w = true then (plainT E w a' t').bind fun t' => (okLog (plainL E pl w _ l')).map fun l' => (t', l') else none) = _
      rw [if_pos (boxes_of hw), e2, Option.bind_some, okLog_of (by omega) (by omega)]
      rfl
    · rw [if_neg hp] at h
      cases h
  hand := by
    intro args ps t t' r hc ht h
    obtain ⟨h1, h2, h3⟩ := hc
    have z : RT1 E () empty0 := fun b => ⟨fun w hw => (by cases hw), by simp [empty0, none0]⟩
    refine ⟨((args.zip ps).foldl (fun fr ap => put fr ap.2 (t' ap.1)) empty0, wipeAll t' args), ?_, ?_, ht.wipe _⟩
    · show (if (subsetB E (args.map id) && (subsetB E (ps.map id) && decide ((args.map id).length = (ps.map id).length))) = true then _ else none) = _
      simp only [List.map_id]
      rw [if_pos (by rw [sub_ok h2, sub_ok h3, decide_eq_true h1]; rfl)]
    · have := RT1.fold (E := E) z ((args.zip ps).map fun ap => (ap.2, t' ap.1)) (fun x hx => by obtain ⟨ap, _, rfl⟩ := List.mem_map.mp hx; exact ht _) empty0 z
      rw [List.foldl_map] at this
      exact this
  home := by
    intro pl rs gs t t' u u' l l' r hc ht hu hl h
    obtain ⟨n, hn, rfl⟩ := Option.map_eq_some_iff.mp h
    obtain ⟨rfl, hn4⟩ := chk_some hn
    obtain ⟨h1, h2, h3⟩ := hc
    obtain ⟨l0, l1, l2⟩ := hl
    have kl := kept_len ok pl (wipeAll t' rs)
    refine ⟨((gs.zip (rs.map t')).foldl (fun g bt => put g bt.1 bt.2) u', (l'.1, l'.2 ++ kept E pl (wipeAll t' rs))), ?_, ?_, hn4, by show l'.1.length ≤ l + 1; omega, by show (l'.2 ++ _).length ≤ 20 * (l + 1); simp only [List.length_append]; omega⟩
    · show (if (subsetB E (rs.map id) && (subsetB E (gs.map id) && decide ((gs.map id).length = (rs.map id).length))) = true then _ else none) = _
      simp only [List.map_id]
      rw [if_pos (by rw [sub_ok h3, sub_ok h2, decide_eq_true h1]; rfl)]
      show (okLog _).map _ = _
      rw [okLog_of (by dsimp only; omega) (by simp only [List.length_append]; have := kept_len ok (renPl id pl) (wipeAll t' rs); omega)]
      rfl
    · exact RT1.fold (E := E) hu _ (fun x hx => by
        obtain ⟨b, hb⟩ := List.mem_map.mp (List.of_mem_zip hx).2
        have q := ht b
        rw [hb.2] at q
        exact q) u' hu
  leave := by
    intro pl t t' l l' r ht hl h
    obtain ⟨rfl, hn4⟩ := chk_some h
    obtain ⟨l0, l1, l2⟩ := hl
    have kl := kept_len ok pl t'
    refine ⟨(l'.1, l'.2 ++ kept E pl t'), ?_, hn4, by show l'.1.length ≤ l + 1; omega, by show (l'.2 ++ _).length ≤ 20 * (l + 1); simp only [List.length_append]; omega⟩
    show okLog _ = _
    exact okLog_of (by dsimp only; omega) (by simp only [List.length_append]; have := kept_len ok (renPl id pl) t'; omega)
/-! ### other numbers -/
def RT3 (t t' : Things) : Prop := ∀ b, (t' b).2 = (t b).2
def RL3 (l l' : Log) : Prop := l'.2 = l.2 ∧ l'.1.length = l.1.length
theorem RT3.kept {t t' : Things} (h : RT3 t t') (pl : Place) : kept E pl t' = kept E pl t := by
  unfold K16.kept
  congr 1
  funext b
  rw [h b]
theorem RT3.put {t t' : Things} (h : RT3 t t') (x : Str) {v v' : Thing} (hv : v'.2 = v.2) : RT3 (put t x v) (put t' x v') := fun b => by
  unfold K16.put
  split
  · exact hv
  · exact h b
theorem RT3.wipe {t t' : Things} (h : RT3 t t') (bs : List Str) : RT3 (wipeAll t bs) (wipeAll t' bs) := fun b => by
  unfold wipeAll
  split
  · rfl
  · exact h b
theorem RL3.ok {l l' : Log} (h : RL3 l l') {r : Log} (q : okLog l = some r) : okLog l' = some l' ∧ r = l := by
  unfold okLog Log.ok at q ⊢
  rw [h.1, h.2]
  split at q
  · next z => rw [if_pos z]; exact ⟨rfl, (Option.some.inj q).symm⟩
  · cases q
theorem worthsOk_same {a b a' b' : List Str} (h1 : a' = a) (h2 : b' = b) : worthsOk E a' b' = worthsOk E a b := by rw [h1, h2]
theorem number_rel : AlgRel (full E) (full E) id id RT3 RL3 (fun _ => True) (fun _ _ => True) (fun _ a a' => a.isSome = a'.isSome) where
  plain := by
    intro pl w a a' t t' l l' r _ ha ht hl h
    rw [renW_id]
    have h : (if boxesOk E w = true then (plainT E w a t).bind fun t2 => (okLog (plainL E pl w t l)).map fun l2 => (t2, l2) else none : Option (Things × Log)) = some r := h
    show ∃ r', (if boxesOk E w = true then (plainT E w a' t').bind fun t2 => (okLog (plainL E (renPl id pl) w t' l')).map fun l2 => (t2, l2) else none : Option (Things × Log)) = some r' ∧ _
    by_cases hb : boxesOk E w = true
    · rw [if_pos hb] at h ⊢
      obtain ⟨t2, e2, h⟩ := Option.bind_eq_some_iff.mp h
      obtain ⟨l2, e3, rfl⟩ := Option.map_eq_some_iff.mp h
      have rl : RL3 (plainL E pl w t l) (plainL E (renPl id pl) w t' l') := by
        cases w with
        | tell x => exact ⟨hl.1, by simp [plainL, hl.2]⟩
        | drop bs =>
          refine ⟨?_, hl.2⟩
          show l'.2 ++ _ = l.2 ++ _
          rw [hl.1]
          congr 1
          exact RT3.kept (fun b => by by_cases q : b ∈ bs <;> simp only [q, if_true, if_false]; exact ht b) pl
        | _ => exact hl
      obtain ⟨e4, rfl⟩ := rl.ok e3
      have pt : ∃ t2', plainT E w a' t' = some t2' ∧ RT3 t2 t2' := by
        cases w with
        | take x u =>
          obtain ⟨v, rfl, rfl⟩ := Option.map_eq_some_iff.mp e2
          obtain ⟨v', rfl⟩ := Option.isSome_iff_exists.mp ha.symm
          exact ⟨_, rfl, ht.put x rfl⟩
        | ask x =>
          obtain ⟨v, rfl, rfl⟩ := Option.map_eq_some_iff.mp e2
          obtain ⟨v', rfl⟩ := Option.isSome_iff_exists.mp ha.symm
          exact ⟨_, rfl, ht.put x rfl⟩
        | num x n => cases e2; exact ⟨_, rfl, ht.put x rfl⟩
        | copy x y => cases e2; exact ⟨_, rfl, ht.put x (ht y)⟩
        | mix x y z =>
          unfold plainT at e2 ⊢
          dsimp only at e2 ⊢
          rw [worthsOk_same (ht y) (ht z)]
          split at e2
          · next q =>
            cases e2
            rw [if_pos q]
            exact ⟨_, rfl, ht.put x (by dsimp only; rw [ht y, ht z])⟩
          · cases e2
        | opn x y => cases e2; exact ⟨_, rfl, ht.put x rfl⟩
        | tell x => cases e2; exact ⟨_, rfl, ht⟩
        | wipe x => cases e2; exact ⟨_, rfl, ht.wipe _⟩
        | clear r =>
          cases e2
          refine ⟨_, rfl, fun b => ?_⟩
          dsimp only
          split
          · rfl
          · exact ht b
        | drop bs => cases e2; exact ⟨_, rfl, ht.wipe _⟩
        | _ => cases e2
      obtain ⟨t2', e5, rt⟩ := pt
      rw [e5, Option.bind_some, e4]
      exact ⟨_, rfl, rt, rl⟩
    · rw [if_neg hb] at h
      cases h
  hand := by
    intro args ps t t' r _ ht h
    rw [List.map_id, List.map_id]
    have h : (if (subsetB E args && (subsetB E ps && decide (args.length = ps.length))) = true then some ((args.zip ps).foldl (fun fr ap => put fr ap.2 (t ap.1)) empty0, wipeAll t args) else none : Option (Things × Things)) = some r := h
    show ∃ r', (if (subsetB E args && (subsetB E ps && decide (args.length = ps.length))) = true then some ((args.zip ps).foldl (fun fr ap => put fr ap.2 (t' ap.1)) empty0, wipeAll t' args) else none : Option (Things × Things)) = some r' ∧ _
    by_cases hb : (subsetB E args && (subsetB E ps && decide (args.length = ps.length))) = true
    · rw [if_pos hb] at h ⊢
      cases h
      refine ⟨_, rfl, ?_, ht.wipe _⟩
      have : ∀ (l : List (Str × Str)) (g g' : Things), RT3 g g' → RT3 (l.foldl (fun fr ap => put fr ap.2 (t ap.1)) g) (l.foldl (fun fr ap => put fr ap.2 (t' ap.1)) g') := by
        intro l
        induction l with
        | nil => intro g g' h; exact h
        | cons x l ih => intro g g' h; exact ih _ _ (h.put _ (ht _))
      exact this _ _ _ fun b => rfl
    · rw [if_neg hb] at h
      cases h
  home := by
    intro pl rs gs t t' u u' l l' r _ ht hu hl h
    rw [List.map_id, List.map_id]
    have h : (if (subsetB E rs && (subsetB E gs && decide (gs.length = rs.length))) = true then (okLog (l.1, l.2 ++ kept E pl (wipeAll t rs))).map fun l2 => ((gs.zip (rs.map t)).foldl (fun g bt => put g bt.1 bt.2) u, l2) else none : Option (Things × Log)) = some r := h
    show ∃ r', (if (subsetB E rs && (subsetB E gs && decide (gs.length = rs.length))) = true then (okLog (l'.1, l'.2 ++ kept E (renPl id pl) (wipeAll t' rs))).map fun l2 => ((gs.zip (rs.map t')).foldl (fun g bt => put g bt.1 bt.2) u', l2) else none : Option (Things × Log)) = some r' ∧ _
    by_cases hb : (subsetB E rs && (subsetB E gs && decide (gs.length = rs.length))) = true
    · rw [if_pos hb] at h ⊢
      obtain ⟨l2, e3, rfl⟩ := Option.map_eq_some_iff.mp h
      have rl : RL3 (l.1, l.2 ++ kept E pl (wipeAll t rs)) (l'.1, l'.2 ++ kept E (renPl id pl) (wipeAll t' rs)) := ⟨by
        show l'.2 ++ kept E pl _ = _
        rw [hl.1, RT3.kept (ht.wipe rs) pl], hl.2⟩
      obtain ⟨e4, rfl⟩ := rl.ok e3
      rw [e4]
      refine ⟨_, rfl, ?_, rl⟩
      have : ∀ (gs : List Str) (rs : List Str) (g g' : Things), RT3 g g' → RT3 ((gs.zip (rs.map t)).foldl (fun g bt => put g bt.1 bt.2) g) ((gs.zip (rs.map t')).foldl (fun g bt => put g bt.1 bt.2) g') := by
        intro gs
        induction gs with
        | nil => intro rs g g' h; exact h
        | cons x gs ih =>
          intro rs g g' h
          cases rs with
          | nil => exact h
          | cons y rs => exact ih rs _ _ (h.put _ (ht _))
      exact this _ _ _ _ hu
    · rw [if_neg hb] at h
      cases h
  leave := by
    intro pl t t' l l' r ht hl h
    have rl : RL3 (l.1, l.2 ++ kept E pl t) (l'.1, l'.2 ++ kept E (renPl id pl) t') := ⟨by
      show l'.2 ++ kept E pl _ = _
      rw [hl.1, RT3.kept ht pl], hl.2⟩
    obtain ⟨e4, rfl⟩ := rl.ok h
    exact ⟨_, e4, rl⟩
/-! ### other names -/
def renTh (x : Thing) : Thing := (x.1, x.2.map box)
def renLv (l : Leav) : Leav := ⟨renPl dnm l.place, box l.box, l.worths.map box⟩
def RT2 (E : Env) (t t' : Things) : Prop := ∀ b ∈ E.Bs, t' (box b) = renTh (t b)
def RL2 (l l' : Log) : Prop := l'.1 = l.1 ∧ l'.2 = l.2.map renLv
theorem RT2.kept {t t' : Things} (h : RT2 E t t') (pl : Place) : kept (renE E) (renPl dnm pl) t' = (kept E pl t).map renLv := by
  unfold K16.kept
  show (E.Bs.map box).filterMap _ = _
  have : ∀ bs : List Str, (∀ b ∈ bs, b ∈ E.Bs) → (bs.map box).filterMap (fun b => if (t' b).2 = [] then none else some (⟨renPl dnm pl, b, (t' b).2⟩ : Leav)) = (bs.filterMap fun b => if (t b).2 = [] then none else some (⟨pl, b, (t b).2⟩ : Leav)).map renLv := by
    intro bs
    induction bs with
    | nil => intro _; rfl
    | cons b bs ih =>
      intro hb
      have e := h b (hb b (by simp))
      have ih := ih fun c hc => hb c (by simp [hc])
      rw [List.map_cons, List.filterMap_cons, List.filterMap_cons, ih, e]
      by_cases q : (t b).2 = []
      · simp [renTh, q]
      · simp [renTh, q, renLv]
  exact this E.Bs fun b hb => hb
theorem RT2.shown {t t' : Things} (h : RT2 E t t') : shown (renE E) t' = (shown E t).map fun x => (box x.1, renTh x.2) := by
  unfold K16.shown
  show (E.Bs.map box).filterMap _ = _
  have : ∀ bs : List Str, (∀ b ∈ bs, b ∈ E.Bs) → (bs.map box).filterMap (fun b => if t' b = none0 then none else some (b, t' b)) = (bs.filterMap fun b => if t b = none0 then none else some (b, t b)).map fun x => (box x.1, renTh x.2) := by
    intro bs
    induction bs with
    | nil => intro _; rfl
    | cons b bs ih =>
      intro hb
      have e := h b (hb b (by simp))
      have ih := ih fun c hc => hb c (by simp [hc])
      rw [List.map_cons, List.filterMap_cons, List.filterMap_cons, ih, e]
      have q2 : renTh (t b) = none0 ↔ t b = none0 := by
        obtain ⟨n, ws⟩ := t b
        simp [renTh, none0]
      by_cases q : t b = none0
      · rw [if_pos (q2.mpr q), if_pos q]
      · rw [if_neg fun z => q (q2.mp z), if_neg q]
        rfl
  exact this E.Bs fun b hb => hb
theorem RT2.put {t t' : Things} (h : RT2 E t t') {x : Str} {v v' : Thing} (hv : v' = renTh v) : RT2 E (put t x v) (put t' (box x) v') := fun b hb => by
  unfold K16.put
  by_cases e : b = x
  · rw [if_pos e, if_pos (by rw [e])]
    exact hv
  · rw [if_neg e, if_neg fun z => e (box_inj z)]
    exact h b hb
theorem RT2.wipe {t t' : Things} (h : RT2 E t t') (bs : List Str) : RT2 E (wipeAll t bs) (wipeAll t' (bs.map box)) := fun b hb => by
  unfold wipeAll
  by_cases e : b ∈ bs
  · rw [if_pos e, if_pos (mem_box.mpr e)]
    rfl
  · rw [if_neg e, if_neg fun z => e (mem_box.mp z)]
    exact h b hb
theorem RL2.ok {l l' : Log} (h : RL2 l l') {r : Log} (q : okLog l = some r) : okLog l' = some l' ∧ r = l := by
  unfold okLog Log.ok at q ⊢
  rw [h.1, h.2, List.length_map]
  split at q
  · next z => rw [if_pos z]; exact ⟨rfl, (Option.some.inj q).symm⟩
  · cases q
theorem both_ren {a b : List Str} : both (renE E) (a.map box) (b.map box) = (both E a b).map box := by
  unfold both
  show (E.Ws.map box).filter _ = _
  induction E.Ws with
  | nil => rfl
  | cons w ws ih =>
    have q : (box w ∈ a.map box ∨ box w ∈ b.map box) ↔ (w ∈ a ∨ w ∈ b) := by rw [mem_box, mem_box]
    rw [List.map_cons]
    by_cases hw : w ∈ a ∨ w ∈ b
    · rw [List.filter_cons_of_pos (by simpa using q.mpr hw), List.filter_cons_of_pos (by simpa using hw), ih]
      rfl
    · rw [List.filter_cons_of_neg (p := fun w => decide (w ∈ List.map box a ∨ w ∈ List.map box b)) (fun z => hw (q.mp (of_decide_eq_true z))), List.filter_cons_of_neg (by simpa using hw), ih]
theorem worthsOk_ren {a b : List Str} : worthsOk (renE E) (a.map box) (b.map box) = worthsOk E a b := by
  have : ∀ l : List Str, (l.map box).all (fun w => decide (w ∈ (renE E).Ws)) = l.all fun w => decide (w ∈ E.Ws) := fun l => by
    rw [List.all_map]
    congr 1
    funext w
    exact decide_eq_decide.mpr mem_box
  unfold worthsOk
  rw [this, this, List.length_map, List.length_map]
theorem subsetB_ren {bs : List Str} : subsetB (renE E) (bs.map box) = subsetB E bs := by
  unfold subsetB
  rw [List.all_map, List.length_map]
  congr 2
  funext b
  exact decide_eq_decide.mpr mem_box
theorem boxesOk_ren {w : Word} (h : boxesOk E w = true) (hp : isPlain w = true) : boxesOk (renE E) (renW box dnm w) = true := by
  cases w <;> simp only [renW, boxesOk, Bool.and_eq_true, decide_eq_true_eq, List.all_eq_true, List.length_map] at h ⊢ <;> first
    | exact mem_box.mpr h
    | exact ⟨mem_box.mpr h.1, mem_box.mpr h.2⟩
    | exact ⟨mem_box.mpr h.1, mem_box.mpr h.2.1, mem_box.mpr h.2.2⟩
    | (refine ⟨fun b hb => ?_, h.2⟩; obtain ⟨c, hc, rfl⟩ := List.mem_map.mp hb; exact mem_box.mpr (h.1 c hc))
    | rfl
    | cases hp
theorem name_rel : AlgRel (full E) (full (renE E)) box dnm (RT2 E) RL2 (WOK E) (COK E) (fun _ a a' => a' = a) where
  plain := by
    intro pl w a a' t t' l l' r hw ha ht hl h
    subst ha
    have h : (if boxesOk E w = true then (plainT E w a' t).bind fun t2 => (okLog (plainL E pl w t l)).map fun l2 => (t2, l2) else none : Option (Things × Log)) = some r := h
    show ∃ r', (if boxesOk (renE E) (renW box dnm w) = true then (plainT (renE E) (renW box dnm w) a' t').bind fun t2 => (okLog (plainL (renE E) (renPl dnm pl) (renW box dnm w) t' l')).map fun l2 => (t2, l2) else none : Option (Things × Log)) = some r' ∧ _
    by_cases hb : boxesOk E w = true
    · rw [if_pos hb] at h
      obtain ⟨t2, e2, h⟩ := Option.bind_eq_some_iff.mp h
      obtain ⟨l2, e3, rfl⟩ := Option.map_eq_some_iff.mp h
      have hp : isPlain w = true := by cases w <;> first | rfl | cases e2
      rw [if_pos (boxesOk_ren hb hp)]
      have rl : RL2 (plainL E pl w t l) (plainL (renE E) (renPl dnm pl) (renW box dnm w) t' l') := by
        cases w with
        | tell x =>
          have hx : x ∈ E.Bs := of_decide_eq_true hb
          refine ⟨?_, hl.2⟩
          show l'.1 ++ [(t' (box x)).1] = l.1 ++ [(t x).1]
          rw [hl.1, ht x hx]
          rfl
        | drop bs =>
          refine ⟨hl.1, ?_⟩
          show l'.2 ++ kept _ _ _ = (l.2 ++ kept _ _ _).map renLv
          rw [hl.2, List.map_append]
          congr 1
          refine RT2.kept (fun b hb => ?_) pl
          by_cases e : b ∈ bs
          · rw [if_pos e, if_pos (mem_box.mpr e)]
            exact ht b hb
          · rw [if_neg e, if_neg fun z => e (mem_box.mp z)]
            rfl
        | _ => exact hl
      obtain ⟨e4, rfl⟩ := rl.ok e3
      have pt : ∃ t2', plainT (renE E) (renW box dnm w) a' t' = some t2' ∧ RT2 E t2 t2' := by
        cases w with
        | take x u =>
          obtain ⟨v, rfl, rfl⟩ := Option.map_eq_some_iff.mp e2
          exact ⟨_, rfl, ht.put rfl⟩
        | ask x =>
          obtain ⟨v, rfl, rfl⟩ := Option.map_eq_some_iff.mp e2
          exact ⟨_, rfl, ht.put rfl⟩
        | num x n => cases e2; exact ⟨_, rfl, ht.put rfl⟩
        | copy x y =>
          cases e2
          simp only [boxesOk, Bool.and_eq_true, decide_eq_true_eq] at hb
          exact ⟨_, rfl, ht.put (ht y hb.2)⟩
        | mix x y z =>
          simp only [boxesOk, Bool.and_eq_true, decide_eq_true_eq] at hb
          have ey := ht y hb.2.1
          have ez := ht z hb.2.2
          simp only [renW]
          unfold plainT at e2 ⊢
          dsimp only at e2 ⊢
          split at e2
          · next q =>
            cases e2
            rw [ey, ez]
            rw [if_pos (by simp only [renTh]; rw [worthsOk_ren]; exact q)]
            refine ⟨_, rfl, ht.put ?_⟩
            simp only [renTh]
            rw [both_ren]
          · cases e2
        | opn x y =>
          cases e2
          simp only [boxesOk, Bool.and_eq_true, decide_eq_true_eq] at hb
          refine ⟨_, rfl, ht.put ?_⟩
          rw [ht y hb.2]
          rfl
        | tell x => cases e2; exact ⟨_, rfl, ht⟩
        | wipe x => cases e2; exact ⟨_, rfl, ht.wipe [x]⟩
        | clear r =>
          cases e2
          obtain ⟨sg, k, q, hw⟩ := hw
          simp only [okW] at hw
          refine ⟨_, rfl, fun b hbs => ?_⟩
          dsimp only
          rw [inRecord_box hw.1]
          split
          · rfl
          · exact ht b hbs
        | drop bs => cases e2; exact ⟨_, rfl, ht.wipe _⟩
        | _ => cases e2
      obtain ⟨t2', e5, rt⟩ := pt
      rw [e5, Option.bind_some, e4]
      exact ⟨_, rfl, rt, rl⟩
    · rw [if_neg hb] at h
      cases h
  hand := by
    intro args ps t t' r hc ht h
    obtain ⟨c1, c2, c3⟩ := hc
    have h : (if (subsetB E args && (subsetB E ps && decide (args.length = ps.length))) = true then some ((args.zip ps).foldl (fun fr ap => put fr ap.2 (t ap.1)) empty0, wipeAll t args) else none : Option (Things × Things)) = some r := h
    show ∃ r', (if (subsetB (renE E) (args.map box) && (subsetB (renE E) (ps.map box) && decide ((args.map box).length = (ps.map box).length))) = true then some (((args.map box).zip (ps.map box)).foldl (fun fr ap => put fr ap.2 (t' ap.1)) empty0, wipeAll t' (args.map box)) else none : Option (Things × Things)) = some r' ∧ _
    rw [subsetB_ren, subsetB_ren, List.length_map, List.length_map]
    by_cases hb : (subsetB E args && (subsetB E ps && decide (args.length = ps.length))) = true
    · rw [if_pos hb] at h ⊢
      cases h
      refine ⟨_, rfl, ?_, ht.wipe _⟩
      have : ∀ (as ps : List Str) (g g' : Things), (∀ b ∈ as, b ∈ E.Bs) → RT2 E g g' → RT2 E ((as.zip ps).foldl (fun fr ap => put fr ap.2 (t ap.1)) g) (((as.map box).zip (ps.map box)).foldl (fun fr ap => put fr ap.2 (t' ap.1)) g') := by
        intro as
        induction as with
        | nil => intro ps g g' _ h; exact h
        | cons x as ih =>
          intro ps g g' hx h
          cases ps with
          | nil => exact h
          | cons y ps => exact ih ps _ _ (fun b hb => hx b (by simp [hb])) (h.put (ht x (hx x (by simp))))
      exact this _ _ _ _ c2.1 fun b _ => rfl
    · rw [if_neg hb] at h
      cases h
  home := by
    intro pl rs gs t t' u u' l l' r hc ht hu hl h
    obtain ⟨c1, c2, c3⟩ := hc
    have h : (if (subsetB E rs && (subsetB E gs && decide (gs.length = rs.length))) = true then (okLog (l.1, l.2 ++ kept E pl (wipeAll t rs))).map fun l2 => ((gs.zip (rs.map t)).foldl (fun g bt => put g bt.1 bt.2) u, l2) else none : Option (Things × Log)) = some r := h
    show ∃ r', (if (subsetB (renE E) (rs.map box) && (subsetB (renE E) (gs.map box) && decide ((gs.map box).length = (rs.map box).length))) = true then (okLog (l'.1, l'.2 ++ kept (renE E) (renPl dnm pl) (wipeAll t' (rs.map box)))).map fun l2 => (((gs.map box).zip ((rs.map box).map t')).foldl (fun g bt => put g bt.1 bt.2) u', l2) else none : Option (Things × Log)) = some r' ∧ _
    rw [subsetB_ren, subsetB_ren, List.length_map, List.length_map]
    by_cases hb : (subsetB E rs && (subsetB E gs && decide (gs.length = rs.length))) = true
    · rw [if_pos hb] at h ⊢
      obtain ⟨l2, e3, rfl⟩ := Option.map_eq_some_iff.mp h
      have rl : RL2 (l.1, l.2 ++ kept E pl (wipeAll t rs)) (l'.1, l'.2 ++ kept (renE E) (renPl dnm pl) (wipeAll t' (rs.map box))) := ⟨hl.1, by
        show l'.2 ++ _ = (l.2 ++ _).map renLv
        rw [hl.2, List.map_append, RT2.kept (ht.wipe rs) pl]⟩
      obtain ⟨e4, rfl⟩ := rl.ok e3
      rw [e4]
      refine ⟨_, rfl, ?_, rl⟩
      have : ∀ (gs rs : List Str) (g g' : Things), (∀ b ∈ rs, b ∈ E.Bs) → RT2 E g g' → RT2 E ((gs.zip (rs.map t)).foldl (fun g bt => put g bt.1 bt.2) g) (((gs.map box).zip ((rs.map box).map t')).foldl (fun g bt => put g bt.1 bt.2) g') := by
        intro gs
        induction gs with
        | nil => intro rs g g' _ h; exact h
        | cons x gs ih =>
          intro rs g g' hx h
          cases rs with
          | nil => exact h
          | cons y rs => exact ih rs _ _ (fun b hb => hx b (by simp [hb])) (h.put (ht y (hx y (by simp))))
      exact this _ _ _ _ c3.1 hu
    · rw [if_neg hb] at h
      cases h
  leave := by
    intro pl t t' l l' r ht hl h
    have rl : RL2 (l.1, l.2 ++ kept E pl t) (l'.1, l'.2 ++ kept (renE E) (renPl dnm pl) t') := ⟨hl.1, by
      show l'.2 ++ _ = (l.2 ++ _).map renLv
      rw [hl.2, List.map_append, RT2.kept ht pl]⟩
    obtain ⟨e4, rfl⟩ := rl.ok h
    exact ⟨_, e4, rl⟩
end
end K16

set_option Elab.async false
set_option linter.all false
set_option maxRecDepth 100000
set_option maxHeartbeats 2000000
/-! KReach: what the control reaches, the runs reach: the same under other names, by other numbers, with more answers (plain) -/
namespace K16
open PySem
/-- words whose answer does not lead -/
def freeW : Word → Bool
  | .take _ _ => true
  | .ask _ => true
  | _ => false
/-- the control has come to c, by the answers gs, and by the answers hs -/
inductive Reach (p : Prog) : List Int → List Int → MS ctl → Prop
  | start {c : MS ctl} : start (A := ctl) p () 0 = some c → Reach p [] [] c
  | quiet {gs hs : List Int} {c c' : MS ctl} {w : Word} : Reach p gs hs c → c.over = none → wordAt p c.place = some (some w) → need w = none → stepW p c w none = some c' → Reach p gs hs (tick c')
  | asked {gs hs : List Int} {c c' : MS ctl} {w : Word} {m : Nat} {v v' : Int} : Reach p gs hs c → c.over = none → wordAt p c.place = some (some w) → need w = some m → 0 ≤ v → v < (m : Int) → 0 ≤ v' → v' < (m : Int) → (freeW w = false → v' = v) →
      stepW p { c with used := c.used + 1 } w (some v) = some c' → Reach p (gs ++ [v]) (hs ++ [v']) (tick c')
section
variable {A : Alg} {p : Prog}
theorem goBack_steps' {s s' : MS A} (h : goBack p s = some s') : s'.steps = s.steps ∧ s'.used = s.used := by
  unfold goBack at h
  split at h
  · cases h
  · obtain ⟨l, _, rfl⟩ := Option.map_eq_some_iff.mp h
    exact ⟨rfl, rfl⟩
  · split at h
    · cases h
    · split at h
      · obtain ⟨D, _, h⟩ := Option.bind_eq_some_iff.mp h
        obtain ⟨⟨t2, l⟩, _, h⟩ := Option.bind_eq_some_iff.mp h
        obtain ⟨pl, _, rfl⟩ := Option.map_eq_some_iff.mp h
        exact ⟨rfl, rfl⟩
      · cases h
theorem settle_steps' : ∀ (k : Nat) {s s' : MS A}, settle p k s = some s' → s'.steps = s.steps ∧ s'.used = s.used
  | 0, s, s', h => by cases h
  | k + 1, s, s', h => by
    unfold settle at h
    split at h
    · cases h; exact ⟨rfl, rfl⟩
    · split at h
      · cases h
      · cases h; exact ⟨rfl, rfl⟩
      · obtain ⟨s2, h1, h2⟩ := Option.bind_eq_some_iff.mp h
        have a := goBack_steps' h1
        have b := settle_steps' k h2
        exact ⟨b.1.trans a.1, b.2.trans a.2⟩
theorem comeTo_steps' {s s' : MS A} {pl : Place} (h : comeTo p s pl = some s') : s'.steps = s.steps ∧ s'.used = s.used := by
  have q := settle_steps' _ h
  exact q
theorem fall_steps' {s s' : MS A} {f : Str} (h : fall s f = some s') : s'.steps = s.steps ∧ s'.used = s.used := by
  obtain ⟨l, _, rfl⟩ := Option.map_eq_some_iff.mp h
  exact ⟨rfl, rfl⟩
theorem stepW_steps' {s s' : MS A} {w : Word} {a : Option Int} (h : stepW p s w a = some s') : s'.steps = s.steps ∧ s'.used = s.used := by
  unfold stepW at h
  split at h
  · obtain ⟨v, _, h⟩ := Option.bind_eq_some_iff.mp h
    obtain ⟨pl, _, h⟩ := Option.bind_eq_some_iff.mp h
    exact comeTo_steps' h
  · obtain ⟨pl, _, h⟩ := Option.bind_eq_some_iff.mp h
    exact comeTo_steps' h
  · split at h
    · cases h
    · obtain ⟨pl, _, h⟩ := Option.bind_eq_some_iff.mp h
      exact comeTo_steps' h
  · obtain ⟨D, _, h⟩ := Option.bind_eq_some_iff.mp h
    split at h
    · cases h
    · split at h
      · cases h
      · obtain ⟨⟨fr, t'⟩, _, h⟩ := Option.bind_eq_some_iff.mp h
        dsimp only at h
        have q := comeTo_steps' h
        exact q
  · exact fall_steps' h
  · obtain ⟨v, _, h⟩ := Option.bind_eq_some_iff.mp h
    split at h
    · exact fall_steps' h
    · obtain ⟨pl, _, h⟩ := Option.bind_eq_some_iff.mp h
      exact comeTo_steps' h
  · obtain ⟨s2, h1, h⟩ := Option.bind_eq_some_iff.mp h
    have a := goBack_steps' h1
    split at h
    · cases h; exact a
    · have b := comeTo_steps' h
      exact ⟨b.1.trans a.1, b.2.trans a.2⟩
  · split at h
    · cases h
    · obtain ⟨⟨t', l⟩, _, h⟩ := Option.bind_eq_some_iff.mp h
      obtain ⟨pl, _, h⟩ := Option.bind_eq_some_iff.mp h
      have q := comeTo_steps' h
      exact q
end
/-- s0 comes to s in j steps -/
inductive Fwd {A : Alg} (p : Prog) (given : List Int) : Nat → MS A → MS A → Prop
  | zero (s : MS A) : Fwd p given 0 s s
  | succ {j : Nat} {s0 s s' : MS A} : Fwd p given j s0 s → s.over = none → step p given s = some s' → Fwd p given (j + 1) s0 s'
section
variable {A : Alg} {p : Prog}
theorem step_more {given e : List Int} {s s' : MS A} (h : step p given s = some s') : step p (given ++ e) s = some s' := by
  unfold step at h ⊢
  split at h
  · next w hw =>
    cases hn : need w with
    | none => rw [hn] at h; exact h
    | some m =>
      rw [hn] at h
      dsimp only at h ⊢
      obtain ⟨s2, h1, h2⟩ := Option.map_eq_some_iff.mp h
      obtain ⟨v, hv, h3⟩ := Option.bind_eq_some_iff.mp h1
      have : (given ++ e)[s.used]? = some v := by rw [List.getElem?_append_left (List.getElem?_eq_some_iff.mp hv).1]; exact hv
      rw [this, Option.bind_some, h3]
      exact congrArg some h2
  · cases h
theorem Fwd.more {given e : List Int} {j : Nat} {s0 s : MS A} (h : Fwd p given j s0 s) : Fwd p (given ++ e) j s0 s := by
  induction h with
  | zero s => exact .zero s
  | succ _ ho hs ih => exact .succ ih ho (step_more hs)
theorem Fwd.runs {given : List Int} {j : Nat} {s0 s : MS A} (h : Fwd p given j s0 s) : ∀ k, K16.runs p given (j + k) s0 = K16.runs p given k s := by
  induction h with
  | zero s => intro k; rw [Nat.zero_add]
  | @succ j s0 s s' _ ho hs ih =>
    intro k
    rw [show j + 1 + k = j + (k + 1) by omega, ih]
    have hs2 := hs
    unfold step at hs2
    split at hs2
    · next w hw =>
      show (if s.over.isSome then _ else _) = _
      rw [ho]
      dsimp only [Option.isSome_none, Bool.false_eq_true, if_false]
      rw [hw]
      dsimp only
      have nw : ¬ ((need w).isSome = true ∧ s.used = given.length) := by
        rintro ⟨h1, h2⟩
        obtain ⟨m, hm⟩ := Option.isSome_iff_exists.mp h1
        rw [hm] at hs2
        dsimp only at hs2
        obtain ⟨s3, h3, _⟩ := Option.map_eq_some_iff.mp hs2
        obtain ⟨v, hv, _⟩ := Option.bind_eq_some_iff.mp h3
        have := (List.getElem?_eq_some_iff.mp hv).1
        omega
      simp only [Bool.false_eq_true, if_false]
      rw [if_neg nw, hs, Option.bind_some]
    · cases hs2
/-- one step, put together -/
theorem step_of {given : List Int} {s s2 : MS A} {w : Word} (hw : wordAt p s.place = some (some w)) (hn : need w = none) (h : stepW p s w none = some s2) : step p given s = some (tick s2) := by
  unfold step
  rw [hw]
  dsimp only
  rw [hn]
  dsimp only
  rw [h]
  rfl
theorem step_of' {given : List Int} {s s2 : MS A} {w : Word} {m : Nat} {v : Int} (hw : wordAt p s.place = some (some w)) (hn : need w = some m) (hv : given[s.used]? = some v) (h0 : 0 ≤ v) (h1 : v < (m : Int)) (h : stepW p { s with used := s.used + 1 } w (some v) = some s2) : step p given s = some (tick s2) := by
  unfold step
  rw [hw]
  dsimp only
  rw [hn]
  dsimp only
  rw [hv, Option.bind_some, if_pos ⟨h0, h1⟩, h]
  rfl
end
theorem SimS.tick {A A' : Alg} {β δ : Str → Str} {RT : A.T → A'.T → Prop} {RL : A.L → A'.L → Prop} {s : MS A} {s' : MS A'} (S : SimS β δ RT RL s s') : SimS β δ RT RL (tick s) (tick s') := ⟨S.used, by show s'.steps + 1 = s.steps + 1; rw [S.steps], S.place, S.over, S.fr, S.lg⟩
theorem SimS.use {A A' : Alg} {β δ : Str → Str} {RT : A.T → A'.T → Prop} {RL : A.L → A'.L → Prop} {s : MS A} {s' : MS A'} (S : SimS β δ RT RL s s') : SimS β δ RT RL { s with used := s.used + 1 } { s' with used := s'.used + 1 } := ⟨by show s'.used + 1 = s.used + 1; rw [S.used], S.steps, S.place, S.over, S.fr, S.lg⟩
theorem dnm0 : dnm Str.empty = Str.empty := if_pos rfl
theorem id_inj (a b : Str) (h : id a = id b) : a = b := h
section
variable {E : Env} {p : Prog}
theorem wok (ok : ProgOk E p) : ∀ pl w, wordAt p pl = some (some w) → WOK E w := fun pl w h => by
  obtain ⟨_, _, _, q⟩ := word_ok ok h
  exact ⟨_, _, _, q⟩
theorem cok (ok : ProgOk E p) : ∀ pl d a g D, wordAt p pl = some (some (.call d a g)) → defOf p d = some D → COK E a D.params ∧ COK E g D.results := fun pl d a g D h hD => by
  obtain ⟨D', hD', l1, l2, s1, s2, s3, s4⟩ := call_def ok h
  rw [hD] at hD'
  cases hD'
  exact ⟨⟨l1, s1, s3⟩, ⟨l2, s2, s4⟩⟩
/-- the three runs, side by side with the control -/
structure Side (E : Env) (p : Prog) (gs hs : List Int) (c : MS ctl) (s0 : MS (full E)) (z0 : MS (full (renE E))) : Prop where
  ex : ∃ sA sB sC, Fwd p gs c.steps s0 sA ∧ Fwd p hs c.steps s0 sB ∧ Fwd (renP box dnm p) gs c.steps z0 sC ∧ SimS id id (RT1 E) RL1 c sA ∧ SimS id id (RT1 E) RL1 c sB ∧ SimS id id RT3 RL3 sA sB ∧ SimS box dnm (RT2 E) RL2 sA sC
  lg : c.used = gs.length
  lh : c.used = hs.length
theorem RFr_refl {A : Alg} {RT : A.T → A.T → Prop} (h : ∀ t, RT t t) : ∀ xs : List (Option Place × A.T), RFr id RT xs xs
  | [] => trivial
  | (cp, t) :: xs => ⟨by cases cp <;> rfl, h t, RFr_refl h xs⟩
theorem renPl_id (pl : Place) : renPl id pl = pl := rfl
theorem over_id (o : Option Over) : o.map (renO id) = o := by
  cases o with
  | none => rfl
  | some o => cases o <;> rfl
theorem same_place {A A' : Alg} {RT : A.T → A'.T → Prop} {RL : A.L → A'.L → Prop} {s : MS A} {s' : MS A'} (S : SimS id id RT RL s s') : s'.place = s.place ∧ s'.over = s.over := ⟨S.place, by rw [S.over, over_id]⟩
theorem reach_side (ok : EnvOk E) (pok : ProgOk E p) : ∃ s0 z0, start (A := full E) p empty0 ([], []) = some s0 ∧ start (A := full (renE E)) (renP box dnm p) empty0 ([], []) = some z0 ∧ ∀ gs hs c, Reach p gs hs c → Side E p gs hs c s0 z0 := by
  obtain ⟨c0, hc0, _⟩ := start_ok pok
  have i0 : SimS id id (RT1 E) RL1 ({ used := 0, steps := 0, place := ⟨Str.empty, [], 0⟩, frames := [(none, ())], log := 0, over := none } : MS ctl) ({ used := 0, steps := 0, place := ⟨Str.empty, [], 0⟩, frames := [(none, empty0)], log := ([], []), over := none } : MS (full E)) :=
    ⟨rfl, rfl, rfl, rfl, ⟨rfl, fun b => ⟨fun w hw => (by cases hw), by simp [empty0, none0]⟩, trivial⟩, by show 0 ≤ 4000; omega, by simp, by simp⟩
  obtain ⟨s0, hs0, S0⟩ := sim_come (lift_rel ok) id_inj rfl (cok pok) i0 hc0
  rw [renP_id] at hs0
  have j0 : SimS box dnm (RT2 E) RL2 ({ used := 0, steps := 0, place := ⟨Str.empty, [], 0⟩, frames := [(none, empty0)], log := ([], []), over := none } : MS (full E)) ({ used := 0, steps := 0, place := ⟨Str.empty, [], 0⟩, frames := [(none, empty0)], log := ([], []), over := none } : MS (full (renE E))) :=
    ⟨rfl, rfl, by show (⟨Str.empty, [], 0⟩ : Place) = ⟨dnm Str.empty, [], 0⟩; rw [dnm0], rfl, ⟨rfl, fun b _ => rfl, trivial⟩, rfl, rfl⟩
  obtain ⟨z0, hz0, Z0⟩ := sim_come name_rel dnm_inj dnm0 (cok pok) j0 hs0
  have hz0 : start (A := full (renE E)) (renP box dnm p) empty0 ([], []) = some z0 := by
    have e : renPl dnm (renPl id ⟨Str.empty, [], 0⟩) = ⟨Str.empty, [], 0⟩ := by show (⟨dnm Str.empty, [], 0⟩ : Place) = _; rw [dnm0]
    rw [e] at hz0
    exact hz0
  refine ⟨s0, z0, hs0, hz0, fun gs hs c h => ?_⟩
  induction h with
  | @start c h =>
    rw [hc0] at h
    cases h
    have cs := S0.steps
    have cu := S0.used
    have st0 : c0.steps = 0 ∧ c0.used = 0 := by
      have : ∀ (k : Nat) {s s' : MS ctl}, settle p k s = some s' → s'.steps = s.steps ∧ s'.used = s.used := by
        intro k
        induction k with
        | zero => intro s s' h; cases h
        | succ k ih =>
          intro s s' h
          unfold settle at h
          split at h
          · cases h; exact ⟨rfl, rfl⟩
          · split at h
            · cases h
            · cases h; exact ⟨rfl, rfl⟩
            · obtain ⟨s2, h1, h2⟩ := Option.bind_eq_some_iff.mp h
              have b := ih h2
              have a : s2.steps = s.steps ∧ s2.used = s.used := by
                unfold goBack at h1
                split at h1
                · cases h1
                · obtain ⟨l, _, rfl⟩ := Option.map_eq_some_iff.mp h1
                  exact ⟨rfl, rfl⟩
                · split at h1
                  · cases h1
                  · split at h1
                    · obtain ⟨D, _, h1⟩ := Option.bind_eq_some_iff.mp h1
                      obtain ⟨⟨t2, l⟩, _, h1⟩ := Option.bind_eq_some_iff.mp h1
                      obtain ⟨pl, _, rfl⟩ := Option.map_eq_some_iff.mp h1
                      exact ⟨rfl, rfl⟩
                    · cases h1
              exact ⟨b.1.trans a.1, b.2.trans a.2⟩
      exact this _ hc0
    refine ⟨⟨s0, s0, z0, by rw [st0.1]; exact .zero _, by rw [st0.1]; exact .zero _, by rw [st0.1]; exact .zero _, S0, S0, ⟨rfl, rfl, rfl, (over_id _).symm, RFr_refl (fun t b => rfl) _, rfl, rfl⟩, Z0⟩, st0.2, st0.2⟩
  | @quiet gs hs c c' w _ ho hw hn hst ih =>
    obtain ⟨⟨sA, sB, sC, fA, fB, fC, SA, SB, SAB, SAC⟩, lg, lh⟩ := ih
    have stA : ∀ {s : MS (full E)}, SimS id id (RT1 E) RL1 c s → ∃ s', stepW p s w none = some s' ∧ SimS id id (RT1 E) RL1 c' s' := fun S => by
      obtain ⟨s', h1, h2⟩ := sim_step (lift_rel ok) id_inj rfl (cok pok) (wok pok) (a' := none) S hw (fun z => by rw [hn] at z; cases z) (fun _ => rfl) hst
      rw [renP_id, renW_id] at h1
      exact ⟨s', h1, h2⟩
    obtain ⟨sA', hA, SA'⟩ := stA SA
    have wA : wordAt p sA.place = some (some w) := by rw [(same_place SA).1]; exact hw
    obtain ⟨sB', hB, SAB'⟩ := sim_step (number_rel (E := E)) id_inj rfl (p := p) (fun _ _ _ _ _ _ _ => ⟨trivial, trivial⟩) (fun _ _ _ => trivial) (a' := none) SAB wA rfl (fun _ => rfl) hA
    rw [renP_id, renW_id] at hB
    obtain ⟨sB2, hB2, SB'⟩ := stA SB
    rw [hB] at hB2
    cases hB2
    obtain ⟨sC', hC, SAC'⟩ := sim_step name_rel dnm_inj dnm0 (cok pok) (wok pok) (a' := none) SAC wA rfl (fun _ => rfl) hA
    have wB : wordAt p sB.place = some (some w) := by rw [(same_place SB).1]; exact hw
    have wC : wordAt (renP box dnm p) sC.place = some (some (renW box dnm w)) := by
      rw [SAC.place, wordAt_ren box dnm dnm_inj dnm0, wA]
      rfl
    have su : c'.steps = c.steps ∧ c'.used = c.used := by
      have e1 := SA'.steps
      have e2 := SA'.used
      have := stepW_steps' hA
      exact ⟨by rw [← e1, this.1, SA.steps], by rw [← e2, this.2, SA.used]⟩
    refine ⟨⟨tick sA', tick sB', tick sC', ?_, ?_, ?_, SA'.tick, SB'.tick, SAB'.tick, SAC'.tick⟩, by show c'.used = _; rw [su.2]; exact lg, by show c'.used = _; rw [su.2]; exact lh⟩
    · show Fwd p gs (c'.steps + 1) s0 _
      rw [su.1]
      exact .succ fA ((same_place SA).2.trans ho) (step_of wA hn hA)
    · show Fwd p hs (c'.steps + 1) s0 _
      rw [su.1]
      exact .succ fB ((same_place SB).2.trans ho) (step_of wB hn hB)
    · show Fwd _ gs (c'.steps + 1) z0 _
      rw [su.1]
      exact .succ fC (by rw [SAC.over, (same_place SA).2, ho]; rfl) (step_of wC (by rw [need_ren]; exact hn) hC)
  | @asked gs hs c c' w m v v' _ ho hw hn h0 h1 h0' h1' hvv hst ih =>
    obtain ⟨⟨sA, sB, sC, fA, fB, fC, SA, SB, SAB, SAC⟩, lg, lh⟩ := ih
    have hfree : freeW w = true ∨ v' = v := by
      cases q : freeW w with
      | true => exact .inl rfl
      | false => exact .inr (hvv q)
    have nonfree : isPlain w = false → v' = v := fun hp => by
      rcases hfree with q | q
      · cases w <;> first | (cases hp; done) | (cases q; done)
      · exact q
    -- by hs the control does the same
    have stB : stepW p { c with used := c.used + 1 } w (some v') = some c' := by
      cases w with
      | take x u => exact hst
      | ask x => exact hst
      | _ => first | (rw [nonfree rfl]; exact hst) | (cases hn)
    have stA : ∀ {s : MS (full E)} {a : Int}, SimS id id (RT1 E) RL1 c s → stepW p { c with used := c.used + 1 } w (some a) = some c' → ∃ s', stepW p { s with used := s.used + 1 } w (some a) = some s' ∧ SimS id id (RT1 E) RL1 c' s' := fun {s a} S hst => by
      obtain ⟨s', h1, h2⟩ := sim_step (lift_rel ok) id_inj rfl (cok pok) (wok pok) (a' := some a) S.use hw (fun _ => rfl) (fun _ => rfl) hst
      rw [renP_id, renW_id] at h1
      exact ⟨s', h1, h2⟩
    obtain ⟨sA', hA, SA'⟩ := stA SA hst
    have wA : wordAt p sA.place = some (some w) := by rw [(same_place SA).1]; exact hw
    obtain ⟨sB', hB, SAB'⟩ := sim_step (number_rel (E := E)) id_inj rfl (p := p) (fun _ _ _ _ _ _ _ => ⟨trivial, trivial⟩) (fun _ _ _ => trivial) (a := some v) (a' := some v') SAB.use wA rfl (fun hp => by rw [nonfree hp]) hA
    rw [renP_id, renW_id] at hB
    obtain ⟨sB2, hB2, SB'⟩ := stA SB stB
    rw [hB] at hB2
    cases hB2
    obtain ⟨sC', hC, SAC'⟩ := sim_step name_rel dnm_inj dnm0 (cok pok) (wok pok) (a' := some v) SAC.use wA rfl (fun _ => rfl) hA
    have wB : wordAt p sB.place = some (some w) := by rw [(same_place SB).1]; exact hw
    have wC : wordAt (renP box dnm p) sC.place = some (some (renW box dnm w)) := by
      rw [SAC.place, wordAt_ren box dnm dnm_inj dnm0, wA]
      rfl
    have su : c'.steps = c.steps ∧ c'.used = c.used + 1 := by
      have e1 := SA'.steps
      have e2 := SA'.used
      have := stepW_steps' hA
      exact ⟨by rw [← e1, this.1]; exact SA.steps, by rw [← e2, this.2]; show sA.used + 1 = _; rw [SA.used]⟩
    have gA : (gs ++ [v])[sA.used]? = some v := by rw [SA.used, lg]; simp
    have gB : (hs ++ [v'])[sB.used]? = some v' := by rw [SB.used, lh]; simp
    have gC : (gs ++ [v])[sC.used]? = some v := by rw [SAC.used]; exact gA
    refine ⟨⟨tick sA', tick sB', tick sC', ?_, ?_, ?_, SA'.tick, SB'.tick, SAB'.tick, SAC'.tick⟩, by show c'.used = _; rw [su.2, lg]; simp, by show c'.used = _; rw [su.2, lh]; simp⟩
    · show Fwd p _ (c'.steps + 1) s0 _
      rw [su.1]
      exact .succ fA.more ((same_place SA).2.trans ho) (step_of' wA hn gA h0 h1 hA)
    · show Fwd p _ (c'.steps + 1) s0 _
      rw [su.1]
      exact .succ fB.more ((same_place SB).2.trans ho) (step_of' wB hn gB h0' h1' hB)
    · show Fwd _ _ (c'.steps + 1) z0 _
      rw [su.1]
      exact .succ fC.more (by rw [SAC.over, (same_place SA).2, ho]; rfl) (step_of' wC (by rw [need_ren]; exact hn) gC h0 h1 hC)
/-! ### what is told -/
def sameNum : Res → Res → Prop
  | .ended n t l, .ended n' t' l' => n' = n ∧ t'.length = t.length ∧ l' = l
  | .fault f n t l, .fault f' n' t' l' => f' = f ∧ n' = n ∧ t'.length = t.length ∧ l' = l
  | .on pl n t l h, .on pl' n' t' l' h' => pl' = pl ∧ n' = n ∧ t'.length = t.length ∧ l' = l ∧ (h'.filter fun x => decide (x.2.2 ≠ [])).map (fun x => (x.1, x.2.2)) = (h.filter fun x => decide (x.2.2 ≠ [])).map fun x => (x.1, x.2.2)
  | _, _ => False
def renRes : Res → Res
  | .ended n t l => .ended n t (l.map renLv)
  | .fault f n t l => .fault (box f) n t (l.map renLv)
  | .on pl n t l h => .on (renPl dnm pl) n t (l.map renLv) (h.map fun x => (box x.1, renTh x.2))
def isOn : Res → Bool
  | .on _ _ _ _ _ => true
  | _ => false
theorem shown_worths (E : Env) (t : Things) : ((shown E t).filter fun x => decide (x.2.2 ≠ [])).map (fun x => (x.1, x.2.2)) = E.Bs.filterMap fun b => if (t b).2 = [] then none else some (b, (t b).2) := by
  unfold shown
  induction E.Bs with
  | nil => rfl
  | cons b bs ih =>
    rw [List.filterMap_cons, List.filterMap_cons]
    by_cases h : t b = none0
    · rw [if_pos h, if_pos (by rw [h]; rfl)]
      exact ih
    · rw [if_neg h]
      by_cases h2 : (t b).2 = []
      · rw [if_pos h2]
        dsimp only
        rw [List.filter_cons_of_neg (by simp [h2])]
        exact ih
      · rw [if_neg h2]
        dsimp only
        rw [List.filter_cons_of_pos (by simp [h2]), List.map_cons, ih]
theorem runs_alike (ok : EnvOk E) (pok : ProgOk E p) {gs hs : List Int} {c : MS ctl} (h : Reach p gs hs c) (hs60 : c.steps ≤ 60) (hfr : c.over = none → c.frames ≠ [])
    (stop : c.over ≠ none ∨ c.steps = 60 ∨ ∃ w, wordAt p c.place = some (some w) ∧ (need w).isSome = true) :
    ∃ r r2, runM E p gs 60 = some r ∧ runM E p hs 60 = some r2 ∧ sameNum r r2 ∧ runM (renE E) (renP box dnm p) gs 60 = some (renRes r) ∧ (isOn r = false → ∀ e, runM E p (gs ++ e) 60 = some r) ∧ (∀ f n t l, r = .fault f n t l → noDot f → True) := by
  obtain ⟨s0, z0, h1, h2, side⟩ := reach_side ok pok
  obtain ⟨⟨sA, sB, sC, fA, fB, fC, SA, SB, SAB, SAC⟩, lg, lh⟩ := side gs hs c h
  have stopped : ∀ {A : Alg} {q : Prog} {g : List Int} {s : MS A}, (s.over ≠ none ∨ s.steps = 60 ∨ ∃ w, wordAt q s.place = some (some w) ∧ (need w).isSome = true ∧ s.used = g.length) → s.steps ≤ 60 → runs q g (60 - s.steps) s = some s := fun {A q g s} hst hle => by
    cases hk : 60 - s.steps with
    | zero => rfl
    | succ k =>
      unfold runs
      cases ho : s.over with
      | some o => rfl
      | none =>
        rcases hst with z | z | ⟨w, hw, hn, hu⟩
        · exact absurd ho z
        · omega
        · dsimp only [Option.isSome_none, Bool.false_eq_true, if_false]
          rw [hw]
          simp only [Bool.false_eq_true, if_false]
          rw [if_pos ⟨hn, hu⟩]
  have stA := SA.steps
  have stB := SB.steps
  have stC := SAC.steps
  have rA : ∀ e, sA.over ≠ none ∨ e = [] → runs p (gs ++ e) 60 s0 = some sA := fun e he => by
    have := (fA.more (e := e)).runs (60 - c.steps)
    rw [show c.steps + (60 - c.steps) = 60 by omega] at this
    rw [this, ← stA]
    refine stopped ?_ (by omega)
    rcases stop with z | z | ⟨w, hw, hn⟩
    · exact .inl (by rw [(same_place SA).2]; exact z)
    · exact .inr (.inl (by omega))
    · rcases he with q | q
      · exact .inl q
      · exact .inr (.inr ⟨w, by rw [(same_place SA).1]; exact hw, hn, by rw [SA.used, lg, q]; simp⟩)
  have rB : runs p hs 60 s0 = some sB := by
    have := fB.runs (60 - c.steps)
    rw [show c.steps + (60 - c.steps) = 60 by omega] at this
    rw [this, ← stB]
    refine stopped ?_ (by omega)
    rcases stop with z | z | ⟨w, hw, hn⟩
    · exact .inl (by rw [(same_place SB).2]; exact z)
    · exact .inr (.inl (by omega))
    · exact .inr (.inr ⟨w, by rw [(same_place SB).1]; exact hw, hn, by rw [SB.used, lh]⟩)
  have rC : runs (renP box dnm p) gs 60 z0 = some sC := by
    have := fC.runs (60 - c.steps)
    rw [show c.steps + (60 - c.steps) = 60 by omega] at this
    rw [this, show 60 - c.steps = 60 - sC.steps by rw [stC, stA]]
    refine stopped ?_ (by rw [stC, stA]; exact hs60)
    rcases stop with z | z | ⟨w, hw, hn⟩
    · refine .inl fun q => z ?_
      rw [SAC.over, (same_place SA).2] at q
      cases e : c.over with
      | none => rfl
      | some o => rw [e] at q; cases q
    · exact .inr (.inl (by rw [stC, stA]; exact z))
    · refine .inr (.inr ⟨renW box dnm w, ?_, by rw [need_ren]; exact hn, by rw [SAC.used, SA.used, lg]⟩)
      rw [SAC.place, wordAt_ren box dnm dnm_inj dnm0, (same_place SA).1, hw]
      rfl
  have rA0 := rA [] (.inr rfl)
  rw [List.append_nil] at rA0
  have mk : ∀ {g : List Int} {s : MS (full E)}, runs p g 60 s0 = some s → runM E p g 60 = told E s := fun {g s} q => by
    unfold runM
    rw [h1, Option.bind_some, q, Option.bind_some]
  have mkC : runM (renE E) (renP box dnm p) gs 60 = told (renE E) sC := by
    unfold runM
    rw [h2, Option.bind_some, rC, Option.bind_some]
  rw [mk rA0, mk rB, mkC]
  cases ho : sA.over with
  | some o =>
    have oB : sB.over = some o := by rw [(same_place SAB).2]; exact ho
    have oC : sC.over = some (renO box o) := by rw [SAC.over, ho]; rfl
    have more : ∀ r, told E sA = some r → ∀ e, runM E p (gs ++ e) 60 = some r := fun r hr e => by
      rw [mk (rA e (.inl (by rw [ho]; simp)))]
      exact hr
    cases o with
    | ended =>
      have tA : told E sA = some (.ended sA.steps sA.log.1 sA.log.2) := by unfold told; rw [ho]
      have tB : told E sB = some (.ended sB.steps sB.log.1 sB.log.2) := by unfold told; rw [oB]
      have tC : told (renE E) sC = some (.ended sC.steps sC.log.1 sC.log.2) := by unfold told; rw [oC]; rfl
      refine ⟨_, _, tA, tB, ⟨by rw [SAB.steps], SAB.lg.2, SAB.lg.1⟩, ?_, fun _ => more _ tA, fun _ _ _ _ _ _ => trivial⟩
      rw [tC, stC, SAC.lg.1, SAC.lg.2]
      rfl
    | fault f =>
      have tA : told E sA = some (.fault f sA.steps sA.log.1 sA.log.2) := by unfold told; rw [ho]
      have tB : told E sB = some (.fault f sB.steps sB.log.1 sB.log.2) := by unfold told; rw [oB]
      have tC : told (renE E) sC = some (.fault (box f) sC.steps sC.log.1 sC.log.2) := by unfold told; rw [oC]; rfl
      refine ⟨_, _, tA, tB, ⟨rfl, by rw [SAB.steps], SAB.lg.2, SAB.lg.1⟩, ?_, fun _ => more _ tA, fun _ _ _ _ _ _ => trivial⟩
      rw [tC, stC, SAC.lg.1, SAC.lg.2]
      rfl
  | none =>
    have oB : sB.over = none := by rw [(same_place SAB).2]; exact ho
    have oC : sC.over = none := by rw [SAC.over, ho]; rfl
    have hn : c.frames ≠ [] := hfr (by rw [← (same_place SA).2]; exact ho)
    have fr1 := SA.fr
    have fr2 := SAB.fr
    have fr3 := SAC.fr
    cases e0 : c.frames with
    | nil => exact absurd e0 hn
    | cons x xs =>
      rw [e0] at fr1
      cases e1 : sA.frames with
      | nil => rw [e1] at fr1; exact fr1.elim
      | cons y ys =>
        obtain ⟨cp, (t : Things)⟩ := y
        rw [e1] at fr2 fr3
        cases e2 : sB.frames with
        | nil => rw [e2] at fr2; exact fr2.elim
        | cons y2 ys2 =>
          obtain ⟨cp2, (t2 : Things)⟩ := y2
          rw [e2] at fr2
          cases e3 : sC.frames with
          | nil => rw [e3] at fr3; exact fr3.elim
          | cons y3 ys3 =>
            obtain ⟨cp3, (t3 : Things)⟩ := y3
            rw [e3] at fr3
            have tA : told E sA = some (.on sA.place sA.steps sA.log.1 sA.log.2 (shown E t)) := by unfold told; rw [ho, e1]
            have tB : told E sB = some (.on sB.place sB.steps sB.log.1 sB.log.2 (shown E t2)) := by unfold told; rw [oB, e2]
            have tC : told (renE E) sC = some (.on sC.place sC.steps sC.log.1 sC.log.2 (shown (renE E) t3)) := by unfold told; rw [oC, e3]
            refine ⟨_, _, tA, tB, ⟨(same_place SAB).1, SAB.steps, SAB.lg.2, SAB.lg.1, ?_⟩, ?_, fun z => (by cases z), fun _ _ _ _ _ _ => trivial⟩
            · rw [shown_worths, shown_worths]
              congr 1
              funext b
              rw [fr2.2.1 b]
            · rw [tC, stC, SAC.lg.1, SAC.lg.2, SAC.place, RT2.shown fr3.2.1]
              rfl
end
end K16

set_option Elab.async false
set_option linter.all false
set_option maxRecDepth 100000
set_option maxHeartbeats 2000000
/-! KPok: a well-formed program may be run; renamed, it is well-formed -/
namespace K16
open PySem L2 Evl
section
variable {E : Env} {sg : List Sig}
theorem depth0 : ∀ l : List Str, PyData.depthAll (l.map PyData.str) = 0
  | [] => by simp [PyData.depthAll]
  | x :: l => by simp [PyData.depthAll, PyData.depth, depth0 l]
/-- may be laid, and is not deeper than n -/
def Lay (n : Nat) (d : PyData) : Prop := d.canLay0 = true ∧ d.depth ≤ n
def LayAll (n : Nat) (ds : List PyData) : Prop := PyData.canLayAll0 ds = true ∧ PyData.depthAll ds ≤ n
theorem lay_nil {n : Nat} : LayAll n [] := ⟨rfl, by simp [PyData.depthAll]⟩
theorem lay_cons {n : Nat} {d : PyData} {ds : List PyData} (h : Lay n d) (h' : LayAll n ds) : LayAll n (d :: ds) := ⟨by simp [PyData.canLayAll0, h.1, h'.1], by
  have := h.2
  have := h'.2
  simp only [PyData.depthAll]
  omega⟩
theorem lay_tup {n : Nat} {ds : List PyData} (h : LayAll n ds) : Lay (n + 1) (.tuple ds) := ⟨by simp only [PyData.canLay0]; exact h.1, by simp only [PyData.depth]; have := h.2; omega⟩
theorem lay_str {n : Nat} {x : Str} (h : PyData.strOk x = true) : Lay n (.str x) := ⟨by simp only [PyData.canLay0]; exact h, by simp [PyData.depth]⟩
theorem lay_int {n : Nat} {i : Int} : Lay n (.int i) := ⟨by simp [PyData.canLay0], by simp [PyData.depth]⟩
theorem lay_mono {n m : Nat} {d : PyData} (h : Lay n d) (hm : n ≤ m) : Lay m d := ⟨h.1, Nat.le_trans h.2 hm⟩
theorem layA_mono {n m : Nat} {d : List PyData} (h : LayAll n d) (hm : n ≤ m) : LayAll m d := ⟨h.1, Nat.le_trans h.2 hm⟩
theorem lay_strs {n : Nat} {l : List Str} (h : ∀ b ∈ l, PyData.strOk b = true) : Lay (n + 1) (tstr l) := lay_tup ⟨canLay_strs h, by rw [depth0]; omega⟩
theorem hd_ok (w : Word) : PyData.strOk (hd w) = true := by cases w <;> (simp only [hd]; decide +kernel)
mutual
theorem layW (ok : EnvOk E) (hs : ∀ q ∈ sg, PyData.strOk q.1 = true) : ∀ {w : Word} {k l : Nat}, okW E sg k l w → LayAll (3 + 3 * k) (tlD w)
  | .choose rows, k, l, h => by
    simp only [okW] at h
    simp only [tlD]
    have := layRs ok hs h.2.2.2
    exact lay_cons (lay_mono (lay_tup this) (by omega)) lay_nil
  | .loop row, k, l, h => by
    simp only [okW] at h
    simp only [tlD]
    have := layR ok hs h.2
    exact lay_cons (lay_mono (lay_tup this) (by omega)) lay_nil
  | .call d a g, k, l, h => by
    simp only [okW] at h
    obtain ⟨q, hq, rfl, _, _, s1, s2⟩ := h
    simp only [tlD]
    exact layA_mono (lay_cons (lay_str (hs q hq)) (lay_cons (lay_strs (n := 0) fun b hb => (ok.bok b (s1.1 b hb)).1) (lay_cons (lay_strs fun b hb => (ok.bok b (s2.1 b hb)).1) lay_nil))) (by omega)
  | .out n, k, l, h => by simp only [tlD]; exact lay_cons lay_int lay_nil
  | .risk f, k, l, h => by simp only [okW] at h; simp only [tlD]; exact lay_cons (lay_str h.2) lay_nil
  | .fault f, k, l, h => by simp only [okW] at h; simp only [tlD]; exact lay_cons (lay_str h.2) lay_nil
  | .clear f, k, l, h => by simp only [okW] at h; simp only [tlD]; exact lay_cons (lay_str h.2) lay_nil
  | .back, k, l, h => by simp only [tlD]; exact lay_nil
  | .take x w, k, l, h => by simp only [okW] at h; simp only [tlD]; exact lay_cons (lay_str (ok.bok x h.1).1) (lay_cons (lay_str (ok.wok w h.2)) lay_nil)
  | .ask x, k, l, h => by simp only [okW] at h; simp only [tlD]; exact lay_cons (lay_str (ok.bok x h).1) lay_nil
  | .num x n, k, l, h => by simp only [okW] at h; simp only [tlD]; exact lay_cons (lay_str (ok.bok x h).1) (lay_cons lay_int lay_nil)
  | .copy x y, k, l, h => by simp only [okW] at h; simp only [tlD]; exact lay_cons (lay_str (ok.bok x h.1).1) (lay_cons (lay_str (ok.bok y h.2).1) lay_nil)
  | .mix x y z, k, l, h => by simp only [okW] at h; simp only [tlD]; exact lay_cons (lay_str (ok.bok x h.1).1) (lay_cons (lay_str (ok.bok y h.2.1).1) (lay_cons (lay_str (ok.bok z h.2.2).1) lay_nil))
  | .opn x y, k, l, h => by simp only [okW] at h; simp only [tlD]; exact lay_cons (lay_str (ok.bok x h.1).1) (lay_cons (lay_str (ok.bok y h.2).1) lay_nil)
  | .tell x, k, l, h => by simp only [okW] at h; simp only [tlD]; exact lay_cons (lay_str (ok.bok x h).1) lay_nil
  | .wipe x, k, l, h => by simp only [okW] at h; simp only [tlD]; exact lay_cons (lay_str (ok.bok x h).1) lay_nil
  | .drop bs, k, l, h => by simp only [okW] at h; simp only [tlD]; exact lay_cons (lay_mono (lay_strs (n := 0) fun b hb => (ok.bok b (h.1 b hb)).1) (by omega)) lay_nil
theorem layR (ok : EnvOk E) (hs : ∀ q ∈ sg, PyData.strOk q.1 = true) : ∀ {r : List Word} {k l : Nat}, okR E sg k l r → LayAll (4 + 3 * k) (encR r)
  | [], k, l, _ => by simp only [encR]; exact lay_nil
  | w :: r, k, l, h => by
    simp only [okR] at h
    simp only [encR]
    exact lay_cons (lay_mono (lay_tup (lay_cons (lay_str (hd_ok w)) (layW ok hs h.1))) (by omega)) (layR ok hs h.2)
theorem layRs (ok : EnvOk E) (hs : ∀ q ∈ sg, PyData.strOk q.1 = true) : ∀ {rs : List (List Word)} {k l : Nat}, okRs E sg (k - 1) l rs → LayAll (5 + 3 * (k - 1)) (encRs rs)
  | [], k, l, _ => by simp only [encRs]; exact lay_nil
  | r :: rs, k, l, h => by
    simp only [okRs] at h
    simp only [encRs]
    exact lay_cons (lay_mono (lay_tup (layR ok hs h.1)) (by omega)) (layRs ok hs h.2)
end
theorem sigs_ok {p : Prog} (pok : ProgOk E p) : ∀ q ∈ sigs p, PyData.strOk q.1 = true := fun q hq => by
  obtain ⟨D, hD, rfl⟩ := List.mem_map.mp hq
  exact (pok.good D hD).2.2
theorem POk_of {p : Prog} (ok : EnvOk E) (pok : ProgOk E p) : POk p where
  deep := fun nm path r h => Nat.le_trans (rowAt_ok pok h).1.1 (by omega)
  shape := fun nm path r h => by
    obtain ⟨h1, h2⟩ := rowAt_ok pok h
    have := lay_tup (layR ok (sigs_ok pok) h2)
    unfold SeqAt.shaped
    rw [Bool.and_eq_true]
    refine ⟨this.1, decide_eq_true (Nat.le_trans this.2 (by omega))⟩
/-! ### called otherwise -/
theorem strOk_iff {x : Str} : PyData.strOk x = true ↔ ∀ c ∈ x.cps.toList, c < 0x110000 := by
  unfold PyData.strOk
  rw [← Array.all_toList, List.all_eq_true]
  exact ⟨fun h c hc => by simpa using h c hc, fun h c hc => by simpa using h c hc⟩
theorem strOk_box {x : Str} (h : PyData.strOk x = true) : PyData.strOk (box x) = true := by
  rw [strOk_iff] at h ⊢
  intro c hc
  have hc : c ∈ 97 :: flatL x.cps.toList := hc
  rcases List.mem_cons.mp hc with rfl | hc
  · decide
  · obtain ⟨d, hd, hcd⟩ := List.mem_flatMap.mp hc
    split at hcd
    · simp only [List.mem_cons, List.not_mem_nil, or_false] at hcd
      rcases hcd with rfl | rfl <;> decide
    · rw [List.mem_singleton.mp hcd]
      exact h d hd
theorem noDot_box {x : Str} (h : noDot x) : noDot (box x) := by
  unfold noDot at h ⊢
  show dot ∉ 97 :: flatL x.cps.toList
  rw [List.mem_cons, dot_flatL, not_or]
  exact ⟨by decide, h⟩
theorem flat_len : ∀ l : List Nat, (flatL l).length ≤ 2 * l.length
  | [] => by simp [flatL]
  | c :: l => by
    have := flat_len l
    rw [flatL_cons, List.length_append, List.length_cons]
    split <;> simp <;> omega
theorem EnvOk_ren (ok : EnvOk E) (hb : ∀ b ∈ E.Bs, b.length ≤ 400) : EnvOk (renE E) where
  bs := List.pairwise_map.mpr (ok.bs.imp fun h => box_lt h)
  bl := by show (E.Bs.map box).length ≤ 20; rw [List.length_map]; exact ok.bl
  ws := List.pairwise_map.mpr (ok.ws.imp fun h => box_lt h)
  wl := by show (E.Ws.map box).length ≤ 20; rw [List.length_map]; exact ok.wl
  bok := fun b h => by
    obtain ⟨c, hc, rfl⟩ := List.mem_map.mp h
    refine ⟨strOk_box (ok.bok c hc).1, ?_⟩
    have h1 := hb c hc
    have h2 := flat_len c.cps.toList
    have h3 : (box c).length = (flatL c.cps.toList).length + 1 := by simp [Str.length, box]
    have h4 : c.length = c.cps.toList.length := by simp [Str.length]
    omega
  wok := fun w h => by
    obtain ⟨c, hc, rfl⟩ := List.mem_map.mp h
    exact strOk_box (ok.wok c hc)
def renSg (q : Sig) : Sig := (dnm q.1, q.2.1.map box, q.2.2.map box)
theorem sub_ren {bs : List Str} (h : sub E bs) : sub (renE E) (bs.map box) := ⟨fun b hb => by
  obtain ⟨c, hc, rfl⟩ := List.mem_map.mp hb
  exact List.mem_map.mpr ⟨c, h.1 c hc, rfl⟩, by rw [List.length_map]; exact h.2⟩
theorem mb {b : Str} {l : List Str} (h : b ∈ l) : box b ∈ l.map box := List.mem_map.mpr ⟨b, h, rfl⟩
mutual
theorem okW_ren : ∀ {w : Word} {k l : Nat}, okW E sg k l w → okW (renE E) (sg.map renSg) k l (renW box dnm w)
  | .choose rows, k, l, h => by
    simp only [okW, renW] at h ⊢
    exact ⟨h.1, by rw [renRs_map]; simpa using h.2.1, ⟨by rw [renRs_map, List.length_map]; exact h.2.2.1.1, fun r hr => by
      rw [renRs_map] at hr
      obtain ⟨q, hq, rfl⟩ := List.mem_map.mp hr
      rw [renR_len]
      exact h.2.2.1.2 q hq⟩, okRs_ren h.2.2.2⟩
  | .loop row, k, l, h => by
    simp only [okW, renW] at h ⊢
    exact ⟨⟨h.1.1, by rw [renR_len]; exact h.1.2⟩, okR_ren h.2⟩
  | .call d a g, k, l, h => by
    simp only [okW, renW] at h ⊢
    obtain ⟨q, hq, rfl, l1, l2, s1, s2⟩ := h
    exact ⟨renSg q, List.mem_map.mpr ⟨q, hq, rfl⟩, rfl, by simp [renSg, l1], by simp [renSg, l2], sub_ren s1, sub_ren s2⟩
  | .out n, k, l, h => by simp only [okW, renW] at h ⊢; exact h
  | .risk f, k, l, h => by simp only [okW, renW] at h ⊢; exact ⟨noDot_box h.1, strOk_box h.2⟩
  | .fault f, k, l, h => by simp only [okW, renW] at h ⊢; exact ⟨noDot_box h.1, strOk_box h.2⟩
  | .clear f, k, l, h => by simp only [okW, renW] at h ⊢; exact ⟨noDot_box h.1, strOk_box h.2⟩
  | .back, k, l, h => by simp only [okW, renW]
  | .take x w, k, l, h => by simp only [okW, renW] at h ⊢; exact ⟨mb h.1, mb h.2⟩
  | .ask x, k, l, h => by simp only [okW, renW] at h ⊢; exact mb h
  | .num x n, k, l, h => by simp only [okW, renW] at h ⊢; exact mb h
  | .copy x y, k, l, h => by simp only [okW, renW] at h ⊢; exact ⟨mb h.1, mb h.2⟩
  | .mix x y z, k, l, h => by simp only [okW, renW] at h ⊢; exact ⟨mb h.1, mb h.2.1, mb h.2.2⟩
  | .opn x y, k, l, h => by simp only [okW, renW] at h ⊢; exact ⟨mb h.1, mb h.2⟩
  | .tell x, k, l, h => by simp only [okW, renW] at h ⊢; exact mb h
  | .wipe x, k, l, h => by simp only [okW, renW] at h ⊢; exact mb h
  | .drop bs, k, l, h => by simp only [okW, renW] at h ⊢; exact sub_ren h
theorem okR_ren : ∀ {r : List Word} {k l : Nat}, okR E sg k l r → okR (renE E) (sg.map renSg) k l (renR box dnm r)
  | [], k, l, _ => by simp only [okR, renR]
  | w :: r, k, l, h => by
    simp only [okR, renR] at h ⊢
    exact ⟨okW_ren h.1, okR_ren h.2⟩
theorem okRs_ren : ∀ {rs : List (List Word)} {k l : Nat}, okRs E sg k l rs → okRs (renE E) (sg.map renSg) k l (renRs box dnm rs)
  | [], k, l, _ => by simp only [okRs, renRs]
  | r :: rs, k, l, h => by
    simp only [okRs, renRs] at h ⊢
    exact ⟨okR_ren h.1, okRs_ren h.2⟩
end
theorem dnm_ne {d : Str} (h : d ≠ Str.empty) : dnm d = box d ∨ True := .inr trivial
theorem ProgOk_ren {p : Prog} (pok : ProgOk E p) : ProgOk (renE E) (renP box dnm p) := by
  have es : sigs (renP box dnm p) = (sigs p).map renSg := by
    unfold sigs renP
    simp only [List.map_map]
    rfl
  refine ⟨fun D hD => ?_, ?_, ⟨?_, fun D hD => ?_⟩, by show (p.defs.map (renD box dnm)).length ≤ 20; rw [List.length_map]; exact pok.few, fun D hD => ?_, ?_, fun D hD => ?_⟩
  · obtain ⟨D0, h0, rfl⟩ := List.mem_map.mp hD
    rw [es]
    exact okR_ren (pok.rows D0 h0)
  · rw [es]
    exact okR_ren pok.main
  · show (renR box dnm p.main).length ≤ 50
    rw [renR_len]
    exact pok.short.1
  · obtain ⟨D0, h0, rfl⟩ := List.mem_map.mp hD
    show (renR box dnm D0.row).length ≤ 50
    rw [renR_len]
    exact pok.short.2 D0 h0
  · obtain ⟨D0, h0, rfl⟩ := List.mem_map.mp hD
    exact ⟨sub_ren (pok.par D0 h0).1, sub_ren (pok.par D0 h0).2⟩
  · have : (renP box dnm p).defs.map (·.name) = (p.defs.map (·.name)).map dnm := by
      unfold renP
      simp only [List.map_map]
      rfl
    rw [this]
    exact List.pairwise_map.mpr (pok.names.imp fun {a b} h e => h (dnm_inj _ _ e))
  · obtain ⟨D0, h0, rfl⟩ := List.mem_map.mp hD
    obtain ⟨g1, g2, g3⟩ := pok.good D0 h0
    have e : dnm D0.name = ⟨(97 :: D0.name.cps.toList).toArray⟩ := if_neg g1
    refine ⟨fun z => g1 (dnm_inj _ _ (z.trans dnm0.symm)), ?_, ?_⟩
    · show noDot (dnm D0.name)
      rw [e]
      unfold noDot at g2 ⊢
      show dot ∉ 97 :: D0.name.cps.toList
      rw [List.mem_cons, not_or]
      exact ⟨by decide, g2⟩
    · show PyData.strOk (dnm D0.name) = true
      rw [e]
      rw [strOk_iff] at g3 ⊢
      intro c hc
      have hc : c ∈ 97 :: D0.name.cps.toList := hc
      rcases List.mem_cons.mp hc with rfl | hc
      · decide
      · exact g3 c hc
end
end K16

set_option Elab.async false
set_option linter.all false
set_option maxRecDepth 100000
set_option maxHeartbeats 2000000
/-! KResOk: what a run tells is made of the program's names alone (plain) -/
namespace K16
open PySem
def PlOk (p : Prog) (pl : Place) : Prop := ∃ r, rowAt p pl.nm pl.path = some r
def WsOk (E : Env) (ws : List Str) : Prop := (∀ w ∈ ws, w ∈ E.Ws) ∧ ws.length ≤ E.Ws.length + 1
def LvOk (E : Env) (p : Prog) (l : Leav) : Prop := PlOk p l.place ∧ l.box ∈ E.Bs ∧ WsOk E l.worths
def ThOk (E : Env) (t : Things) : Prop := ∀ b, WsOk E (t b).2
theorem wsok_nil {E : Env} : WsOk E [] := ⟨fun w hw => (by cases hw), Nat.zero_le _⟩
def WF (p : Prog) (f : Str) : Prop := ∃ pl, wordAt p pl = some (some (.risk f)) ∨ wordAt p pl = some (some (.fault f))
def LogOk (E : Env) (p : Prog) (l : Log) : Prop := (∀ x ∈ l.2, LvOk E p x) ∧ l.2.length ≤ 100000
structure Inv (E : Env) (p : Prog) (s : MS (full E)) : Prop where
  frs : ∀ x ∈ s.frames, ThOk E x.2 ∧ ∀ c, x.1 = some c → PlOk p c
  log : LogOk E p s.log
  over : ∀ f, s.over = some (.fault f) → WF p f
section
variable {E : Env} {p : Prog}
theorem plok_of {pl : Place} {o : Option Word} (h : wordAt p pl = some o) : PlOk p pl := by
  obtain ⟨r, hr, _⟩ := Option.bind_eq_some_iff.mp h
  exact ⟨r, hr⟩
theorem okLog_get {l l' : Log} (h : okLog l = some l') : l' = l ∧ l.2.length ≤ 100000 := by
  unfold okLog at h
  split at h
  · next q =>
    unfold Log.ok at q
    rw [Bool.and_eq_true, decide_eq_true_eq, decide_eq_true_eq] at q
    exact ⟨(Option.some.inj h).symm, q.2⟩
  · cases h
theorem kept_ok {pl : Place} {t : Things} (hp : PlOk p pl) (ht : ThOk E t) : ∀ x ∈ kept E pl t, LvOk E p x := fun x hx => by
  obtain ⟨b, hb, h⟩ := List.mem_filterMap.mp hx
  split at h
  · cases h
  · cases h
    exact ⟨hp, hb, ht b⟩
theorem LogOk.app {l : Log} {ls : List Leav} (h : LogOk E p l) (h' : ∀ x ∈ ls, LvOk E p x) (t : List Int) (hl : (l.2 ++ ls).length ≤ 100000) : LogOk E p (t, l.2 ++ ls) := ⟨fun x hx => by
  rcases List.mem_append.mp hx with hx | hx
  · exact h.1 x hx
  · exact h' x hx, hl⟩
theorem ThOk.put {t : Things} (h : ThOk E t) {x : Str} {v : Thing} (hv : WsOk E v.2) : ThOk E (put t x v) := fun b => by
  unfold K16.put
  split
  · exact hv
  · exact h b
theorem ThOk.wipe {t : Things} (h : ThOk E t) (bs : List Str) : ThOk E (wipeAll t bs) := fun b => by
  unfold wipeAll
  split
  · exact wsok_nil
  · exact h b
theorem ThOk.empty : ThOk E empty0 := fun b => wsok_nil
theorem ThOk.fold {β : Type} {f : β → Str} {g : β → Thing} : ∀ (l : List β) (t : Things), ThOk E t → (∀ x ∈ l, WsOk E (g x).2) → ThOk E (l.foldl (fun t x => K16.put t (f x) (g x)) t)
  | [], t, h, _ => h
  | x :: l, t, h, hl => ThOk.fold l _ (h.put (hl x (by simp))) fun y hy => hl y (by simp [hy])
theorem leave_ok {pl : Place} {t : Things} {l l' : Log} (hl : LogOk E p l) (hp : PlOk p pl) (ht : ThOk E t) (h : (full E).leave pl t l = some l') : LogOk E p l' := by
  have h : okLog (l.1, l.2 ++ kept E pl t) = some l' := h
  rw [(okLog_get h).1]
  exact hl.app (kept_ok hp ht) _ (okLog_get h).2
theorem goBack_inv {s s' : MS (full E)} (I : Inv E p s) (hp : PlOk p s.place) (h : goBack p s = some s') : Inv E p s' := by
  unfold goBack at h
  cases hf : s.frames with
  | nil => rw [hf] at h; cases h
  | cons x xs =>
    obtain ⟨cp, t⟩ := x
    rw [hf] at h
    have If := I.frs
    rw [hf] at If
    have ht := (If (cp, t) (by simp)).1
    cases xs with
    | nil =>
      obtain ⟨l, hl, rfl⟩ := Option.map_eq_some_iff.mp h
      exact ⟨fun x hx => (by cases hx), leave_ok I.log hp ht hl, fun f hf => (by cases hf)⟩
    | cons y rest =>
      obtain ⟨cp', t'⟩ := y
      cases cp with
      | none => cases h
      | some c =>
        dsimp only at h
        split at h
        · rename_i d a gets hw
          obtain ⟨D, hD, h⟩ := Option.bind_eq_some_iff.mp h
          obtain ⟨⟨t2, l⟩, hh, h⟩ := Option.bind_eq_some_iff.mp h
          obtain ⟨pl, hpl, rfl⟩ := Option.map_eq_some_iff.mp h
          have ht' := If (cp', t') (by simp)
          have hh : (if subsetB E D.results && (subsetB E gets && decide (gets.length = D.results.length)) then (okLog (s.log.1, s.log.2 ++ kept E s.place (wipeAll t D.results))).map fun l' => ((gets.zip (D.results.map t)).foldl (fun g bt => K16.put g bt.1 bt.2) t', l') else none) = some (t2, l) := hh
          split at hh
          · obtain ⟨l2, h2, e⟩ := Option.map_eq_some_iff.mp hh
            cases e
            have e2 := okLog_get h2
            refine ⟨fun x hx => ?_, ?_, I.over⟩
            · rcases List.mem_cons.mp hx with rfl | hx
              · refine ⟨ThOk.fold (f := fun bt : Str × Thing => bt.1) (g := fun bt => bt.2) _ _ ht'.1 fun x hx => ?_, ht'.2⟩
                obtain ⟨b, _, e⟩ := List.mem_map.mp (List.of_mem_zip hx).2
                rw [← e]
                exact ht b
              · exact If x (by simp [hx])
            · show LogOk E p l
              rw [e2.1]
              exact I.log.app (kept_ok hp (ht.wipe _)) _ e2.2
          · cases hh
        · cases h
theorem settle_inv : ∀ (k : Nat) {s s' : MS (full E)}, Inv E p s → settle p k s = some s' → Inv E p s' ∧ (s'.over = none → PlOk p s'.place)
  | 0, s, s', _, h => by cases h
  | k + 1, s, s', I, h => by
    unfold settle at h
    split at h
    · next ho =>
      cases h
      exact ⟨I, fun z => by rw [z] at ho; cases ho⟩
    · split at h
      · cases h
      · next hw => cases h; exact ⟨I, fun _ => plok_of hw⟩
      · next hw =>
        obtain ⟨s2, h2, h3⟩ := Option.bind_eq_some_iff.mp h
        exact settle_inv k (goBack_inv I (plok_of hw) h2) h3
theorem comeTo_inv {s s' : MS (full E)} {pl : Place} (I : Inv E p s) (h : comeTo p s pl = some s') : Inv E p s' ∧ (s'.over = none → PlOk p s'.place) := settle_inv _ (s := { s with place := pl }) ⟨I.frs, I.log, I.over⟩ h
theorem leaveAll_inv : ∀ (fs : List (Option Place × Things)) {pl : Place} {l l' : Log}, (∀ x ∈ fs, ThOk E x.2 ∧ ∀ c, x.1 = some c → PlOk p c) → LogOk E p l → PlOk p pl → leaveAll (A := full E) pl fs l = some l' → LogOk E p l'
  | [], pl, l, l', _, hl, _, h => by cases h; exact hl
  | (cp, t) :: rest, pl, l, l', hf, hl, hp, h => by
    unfold leaveAll at h
    obtain ⟨l1, h1, h⟩ := Option.bind_eq_some_iff.mp h
    have k1 := leave_ok hl hp (hf (cp, t) (by simp)).1 h1
    cases rest with
    | nil => cases h; exact k1
    | cons y ys =>
      cases cp with
      | none => cases h
      | some c => exact leaveAll_inv (y :: ys) (fun x hx => hf x (by simp at hx ⊢; exact .inr hx)) k1 ((hf (some c, t) (by simp)).2 c rfl) h
theorem fall_inv {s s' : MS (full E)} {f : Str} (I : Inv E p s) (hp : PlOk p s.place) (hf : WF p f) (h : fall s f = some s') : Inv E p s' ∧ (s'.over = none → PlOk p s'.place) := by
  obtain ⟨l, hl, rfl⟩ := Option.map_eq_some_iff.mp h
  exact ⟨⟨I.frs, leaveAll_inv s.frames I.frs I.log hp hl, fun g hg => (by cases hg; exact hf)⟩, fun z => (by cases z)⟩
theorem both_ok {a b : List Str} : WsOk E (both E a b) := ⟨fun w hw => (List.mem_filter.mp hw).1, Nat.le_trans (List.length_filter_le _ _) (Nat.le_succ _)⟩
theorem plainT_ok {w : Word} {a : Option Int} {t t' : Things} (ht : ThOk E t) (hb : boxesOk E w = true) (h : plainT E w a t = some t') : ThOk E t' := by
  cases w <;> simp only [plainT] at h <;> try (cases h; done)
  · obtain ⟨v, _, rfl⟩ := Option.map_eq_some_iff.mp h
    simp only [boxesOk, Bool.and_eq_true, decide_eq_true_eq] at hb
    exact ht.put ⟨fun w hw => (by rw [List.mem_singleton.mp hw]; exact hb.2), by simp⟩
  · obtain ⟨v, _, rfl⟩ := Option.map_eq_some_iff.mp h
    exact ht.put wsok_nil
  · cases h; exact ht.put wsok_nil
  · cases h; exact ht.put (ht _)
  · split at h
    · cases h; exact ht.put both_ok
    · cases h
  · cases h; exact ht.put wsok_nil
  · cases h; exact ht
  · cases h; exact ht.wipe _
  · cases h
    intro b
    show WsOk E (if inRecord b _ = true then none0 else t b).2
    split
    · exact wsok_nil
    · exact ht b
  · cases h; exact ht.wipe _
theorem plain_ok {pl : Place} {w : Word} {a : Option Int} {t t' : Things} {l l' : Log} (ht : ThOk E t) (hl : LogOk E p l) (hp : PlOk p pl) (h : (full E).plain pl w a t l = some (t', l')) : ThOk E t' ∧ LogOk E p l' := by
  have h : (if boxesOk E w then (plainT E w a t).bind fun t' => (okLog (plainL E pl w t l)).map fun l' => (t', l') else none) = some (t', l') := h
  split at h
  · next hb =>
    obtain ⟨t2, h2, h⟩ := Option.bind_eq_some_iff.mp h
    obtain ⟨l2, h3, e⟩ := Option.map_eq_some_iff.mp h
    cases e
    refine ⟨plainT_ok ht hb h2, ?_⟩
    have h4 := okLog_get h3
    rw [h4.1]
    cases w <;> simp only [plainL] at h4 ⊢ <;> first | exact hl | skip
    exact hl.app (kept_ok hp fun b => by
      show WsOk E (if b ∈ _ then t b else none0).2
      split
      · exact ht b
      · exact wsok_nil) _ h4.2
  · cases h
theorem stepW_inv {s s' : MS (full E)} {w : Word} {a : Option Int} (I : Inv E p s) (hw : wordAt p s.place = some (some w)) (h : stepW p s w a = some s') : Inv E p s' ∧ (s'.over = none → PlOk p s'.place) := by
  have hp := plok_of hw
  have pl : ∀ {w : Word} {cp : Option Place} {t : Things} {rest : List (Option Place × Things)}, s.frames = (cp, t) :: rest → (((full E).plain s.place w a t s.log).bind fun r => (behind p s.place).bind (comeTo p { s with frames := (cp, r.1) :: rest, log := r.2 })) = some s' → Inv E p s' ∧ (s'.over = none → PlOk p s'.place) := fun {w cp t rest} hf h => by
    obtain ⟨⟨t', l⟩, h1, h⟩ := Option.bind_eq_some_iff.mp h
    obtain ⟨pl, _, h⟩ := Option.bind_eq_some_iff.mp h
    have If := I.frs
    rw [hf] at If
    obtain ⟨k1, k2⟩ := plain_ok (If (cp, t) (by simp)).1 I.log hp h1
    refine comeTo_inv (s := { s with frames := (cp, t') :: rest, log := l }) ⟨fun x hx => ?_, k2, I.over⟩ h
    rcases List.mem_cons.mp hx with rfl | hx
    · exact ⟨k1, (If (cp, t) (by simp)).2⟩
    · exact If x (by simp [hx])
  cases w with
  | choose rows =>
    obtain ⟨v, _, h⟩ := Option.bind_eq_some_iff.mp h
    obtain ⟨q, _, h⟩ := Option.bind_eq_some_iff.mp h
    exact comeTo_inv I h
  | loop row =>
    obtain ⟨q, _, h⟩ := Option.bind_eq_some_iff.mp h
    exact comeTo_inv I h
  | out n =>
    have h : (if n = 0 then none else (outOf p s.place n).bind (comeTo p s)) = some s' := h
    split at h
    · cases h
    · obtain ⟨q, _, h⟩ := Option.bind_eq_some_iff.mp h
      exact comeTo_inv I h
  | call d args g =>
    obtain ⟨D, hD, h⟩ := Option.bind_eq_some_iff.mp h
    cases hf : s.frames with
    | nil => rw [hf] at h; cases h
    | cons x rest =>
      obtain ⟨cp, t⟩ := x
      rw [hf] at h
      dsimp only at h
      split at h
      · cases h
      · obtain ⟨⟨fr, t'⟩, h1, h⟩ := Option.bind_eq_some_iff.mp h
        have If := I.frs
        rw [hf] at If
        have ht := If (cp, t) (by simp)
        have h1 : (if subsetB E args && (subsetB E D.params && decide (args.length = D.params.length)) then some ((args.zip D.params).foldl (fun fr ap => K16.put fr ap.2 (t ap.1)) empty0, wipeAll t args) else none) = some (fr, t') := h1
        split at h1
        · cases h1
          refine comeTo_inv (s := { s with frames := (some s.place, (args.zip D.params).foldl (fun fr ap => K16.put fr ap.2 (t ap.1)) empty0) :: (cp, wipeAll t args) :: rest }) ⟨fun x hx => ?_, I.log, I.over⟩ h
          rcases List.mem_cons.mp hx with rfl | hx
          · exact ⟨ThOk.fold (f := fun ap : Str × Str => ap.2) (g := fun ap => t ap.1) _ _ ThOk.empty fun x _ => ht.1 x.1, fun c hc => by cases hc; exact hp⟩
          rcases List.mem_cons.mp hx with rfl | hx
          · exact ⟨ht.1.wipe _, ht.2⟩
          · exact If x (by simp [hx])
        · cases h1
  | fault f => exact fall_inv I hp ⟨_, .inr hw⟩ h
  | risk f =>
    obtain ⟨v, _, h⟩ := Option.bind_eq_some_iff.mp h
    split at h
    · exact fall_inv I hp ⟨_, .inl hw⟩ h
    · obtain ⟨q, _, h⟩ := Option.bind_eq_some_iff.mp h
      exact comeTo_inv I h
  | back =>
    obtain ⟨s2, h2, h⟩ := Option.bind_eq_some_iff.mp h
    have I2 := goBack_inv I hp h2
    split at h
    · next ho => cases h; exact ⟨I2, fun z => by rw [z] at ho; cases ho⟩
    · exact comeTo_inv I2 h
  | take x u =>
    cases hf : s.frames with
    | nil => simp [stepW, hf] at h
    | cons y rest =>
      obtain ⟨cp, t⟩ := y
      simp only [stepW, hf] at h
      exact pl (w := .take x u) hf h
  | ask x =>
    cases hf : s.frames with
    | nil => simp [stepW, hf] at h
    | cons y rest =>
      obtain ⟨cp, t⟩ := y
      simp only [stepW, hf] at h
      exact pl (w := .ask x) hf h
  | num x n =>
    cases hf : s.frames with
    | nil => simp [stepW, hf] at h
    | cons y rest =>
      obtain ⟨cp, t⟩ := y
      simp only [stepW, hf] at h
      exact pl (w := .num x n) hf h
  | copy x y =>
    cases hf : s.frames with
    | nil => simp [stepW, hf] at h
    | cons y rest =>
      obtain ⟨cp, t⟩ := y
      simp only [stepW, hf] at h
      exact pl (w := .copy x y) hf h
  | mix x y z =>
    cases hf : s.frames with
    | nil => simp [stepW, hf] at h
    | cons y rest =>
      obtain ⟨cp, t⟩ := y
      simp only [stepW, hf] at h
      exact pl (w := .mix x y z) hf h
  | opn x y =>
    cases hf : s.frames with
    | nil => simp [stepW, hf] at h
    | cons y rest =>
      obtain ⟨cp, t⟩ := y
      simp only [stepW, hf] at h
      exact pl (w := .opn x y) hf h
  | tell x =>
    cases hf : s.frames with
    | nil => simp [stepW, hf] at h
    | cons y rest =>
      obtain ⟨cp, t⟩ := y
      simp only [stepW, hf] at h
      exact pl (w := .tell x) hf h
  | wipe x =>
    cases hf : s.frames with
    | nil => simp [stepW, hf] at h
    | cons y rest =>
      obtain ⟨cp, t⟩ := y
      simp only [stepW, hf] at h
      exact pl (w := .wipe x) hf h
  | clear r =>
    cases hf : s.frames with
    | nil => simp [stepW, hf] at h
    | cons y rest =>
      obtain ⟨cp, t⟩ := y
      simp only [stepW, hf] at h
      exact pl (w := .clear r) hf h
  | drop bs =>
    cases hf : s.frames with
    | nil => simp [stepW, hf] at h
    | cons y rest =>
      obtain ⟨cp, t⟩ := y
      simp only [stepW, hf] at h
      exact pl (w := .drop bs) hf h
theorem step_inv {given : List Int} {s s' : MS (full E)} (I : Inv E p s) (h : step p given s = some s') : Inv E p s' ∧ (s'.over = none → PlOk p s'.place) := by
  unfold step at h
  cases hw : wordAt p s.place with
  | none => rw [hw] at h; cases h
  | some o =>
  cases o with
  | none => rw [hw] at h; cases h
  | some w =>
    rw [hw] at h
    obtain ⟨s2, h2, rfl⟩ := Option.map_eq_some_iff.mp h
    have key : Inv E p s2 ∧ (s2.over = none → PlOk p s2.place) := by
      split at h2
      · exact stepW_inv I hw h2
      · obtain ⟨v, _, h2⟩ := Option.bind_eq_some_iff.mp h2
        split at h2
        · exact stepW_inv (s := { s with used := s.used + 1 }) ⟨I.frs, I.log, I.over⟩ hw h2
        · cases h2
    exact ⟨⟨key.1.frs, key.1.log, key.1.over⟩, key.2⟩
theorem runs_inv {given : List Int} : ∀ (k : Nat) {s s' : MS (full E)}, Inv E p s → (s.over = none → PlOk p s.place) → runs p given k s = some s' → Inv E p s' ∧ (s'.over = none → PlOk p s'.place)
  | 0, s, s', I, hp, h => by cases h; exact ⟨I, hp⟩
  | k + 1, s, s', I, hp, h => by
    unfold runs at h
    split at h
    · cases h; exact ⟨I, hp⟩
    · split at h
      · split at h
        · cases h; exact ⟨I, hp⟩
        · obtain ⟨s2, h2, h⟩ := Option.bind_eq_some_iff.mp h
          obtain ⟨i1, i2⟩ := step_inv I h2
          exact runs_inv k i1 i2 h
      · cases h
def resOk (E : Env) (p : Prog) : Res → Prop
  | .ended _ t l => LogOk E p (t, l)
  | .fault f _ t l => WF p f ∧ LogOk E p (t, l)
  | .on pl _ t l h => PlOk p pl ∧ LogOk E p (t, l) ∧ h.length ≤ E.Bs.length ∧ ∀ x ∈ h, x.1 ∈ E.Bs ∧ WsOk E x.2.2
theorem res_ok {given : List Int} {most : Nat} {r : Res} (h : runM E p given most = some r) : resOk E p r := by
  obtain ⟨s0, h0, h⟩ := Option.bind_eq_some_iff.mp h
  obtain ⟨s, hs, h⟩ := Option.bind_eq_some_iff.mp h
  have I0 : Inv E p s0 ∧ (s0.over = none → PlOk p s0.place) := comeTo_inv (s := { used := 0, steps := 0, place := ⟨Str.empty, [], 0⟩, frames := [(none, empty0)], log := ([], []), over := none }) ⟨fun x hx => by rw [List.mem_singleton.mp hx]; exact ⟨ThOk.empty, fun c hc => (by cases hc)⟩, ⟨fun x hx => (by cases hx), by simp⟩, fun f hf => (by cases hf)⟩ h0
  obtain ⟨I, hp⟩ := runs_inv most I0.1 I0.2 hs
  unfold told at h
  split at h
  · cases h; exact I.log
  · next f hf => cases h; exact ⟨I.over f hf, I.log⟩
  · next ho =>
    cases hf : s.frames with
    | nil => rw [hf] at h; cases h
    | cons x rest =>
      obtain ⟨cp, t⟩ := x
      rw [hf] at h
      cases h
      have If := I.frs
      rw [hf] at If
      refine ⟨hp ho, I.log, List.length_filterMap_le _ _, fun x hx => ?_⟩
      obtain ⟨b, hb, h⟩ := List.mem_filterMap.mp hx
      split at h
      · cases h
      · cases h
        exact ⟨hb, (If (cp, t) (by simp)).1 b⟩
end
end K16

set_option Elab.async false
set_option linter.all false
set_option maxRecDepth 100000
set_option maxHeartbeats 4000000
/-! KLPlaces: the law's own places: row, word, after, into, out -/
namespace K16
open PySem PySem.Spec PyProof.Rows L2 Evl
structure LP (p : Prog) : Prop where
  ok : POk p
  nd : (p.defs.map (·.name)).Nodup
  ne : ∀ D ∈ p.defs, D.name ≠ Str.empty
  short : ∀ nm path r, rowAt p nm path = some r → r.length ≤ 50
theorem LP_of {E : Env} {p : Prog} (ok : EnvOk E) (pok : ProgOk E p) : LP p := ⟨POk_of ok pok, pok.names, fun D hD => (pok.good D hD).1, fun nm path r h => (rowAt_ok pok h).1.2⟩
def fLRow : List PyData → PyData → Prop := fun ds d => ∃ p pl r, ds = [encProg p, encPl pl] ∧ LP p ∧ rowAt p pl.nm pl.path = some r ∧ d = encRow r
def fLWord : List PyData → PyData → Prop := fun ds d => ∃ p pl o, ds = [encProg p, encPl pl] ∧ LP p ∧ wordAt p pl = some o ∧ d = encOW o
def fLAfter (n : Nat) : List PyData → PyData → Prop := fun ds d => ∃ p pl pl', ds = [encProg p, encPl pl] ∧ LP p ∧ behind p pl = some pl' ∧ pl.path.length ≤ n ∧ n ≤ 8 ∧ d = encPl pl'
def fLInto : List PyData → PyData → Prop := fun ds d => ∃ p pl c pl', ds = [encProg p, encPl pl, .int (c : Nat)] ∧ LP p ∧ inside p pl c = some pl' ∧ d = encPl pl'
def fLOut : List PyData → PyData → Prop := fun ds d => ∃ p pl n pl', ds = [encProg p, encPl pl, .int (n : Nat)] ∧ LP p ∧ outOf p pl n = some pl' ∧ 1 ≤ n ∧ n ≤ 1000 ∧ d = encPl pl'
theorem find_def {ds : List K16.Def} {D : K16.Def} (nd : (ds.map (·.name)).Nodup) (h : D ∈ ds) : ds.find? (fun D' => decide (D'.name = D.name)) = some D := by
  induction ds with
  | nil => cases h
  | cons D' ds ih =>
    rw [List.map_cons, List.nodup_cons] at nd
    rw [List.find?_cons]
    rcases List.mem_cons.mp h with rfl | h
    · simp
    · have : D'.name ≠ D.name := fun z => nd.1 (List.mem_map.mpr ⟨D, h, z.symm⟩)
      simp [this, ih nd.2 h]
section
variable {P : Program} {w : World} {K : PySem.W.Frag} {mg : Str → Option Value} {base : Heap}
theorem sc_law_row : FnScope ["_law_program_here", "_law_place_here", "_law_row_here", "_law_one", "_law_k", "_law_word_here"] ["_law_program_here", "_law_place_here"] (defScope s_law_row) := ⟨rfl, rfl, rfl, by decide +kernel, rfl, by decide +kernel, by decide +kernel⟩
theorem ok_law_row (T : Fx K mg) : C8.Cal P w K mg base 1 "_law_row" (spD fLRow) [] := by
  obtain ⟨fd, F⟩ := T.f_law_row
  refine cal_of F T.g_law_row sc_law_row (fun _ _ _ _ _ _ us hl => match us, hl with | [_, _], _ => rfl) (spD_len (n := 2) (by rintro _ _ ⟨p, nm, r, rfl, _⟩; rfl)) fun cdv A outer s H vs Q E hr hsp => ?_
  obtain ⟨_, _, ⟨p, pl, r, rfl, lp, hrow, rfl⟩, hi, k⟩ := hsp
  obtain ⟨vp, vl, rfl, ip, il⟩ := hi.two
  refine ⟨_, (pss_cons (ps_set (i := 2) sc_law_row.nd rfl (.inl rfl) (pe_ix ix_tup (pv 0) pe_int (fun _ _ => rfl)))
    (pss_cons (ps_for PassesOwn.never rfl (pi_tup (pe_ix ix_tup (pv 0) pe_int (fun _ _ => rfl))) (pg_name (i := 3) sc_law_row.nd rfl (.inl rfl))
    (pss_one (ps_if (pt_cmpR op_eq (pe_ix ix_tup (pv 3) pe_int (fun _ _ => rfl)) (pe_ix ix_tup (pv 1) pe_int (fun _ _ => rfl)) (nomark _))
    (pss_one (ps_set (i := 2) sc_law_row.nd rfl (.inl rfl) (pe_ix ix_tup (pv 3) pe_int (fun _ _ => rfl))))
    pss_nil)))
    (pss_cons (ps_for PassesOwn.never rfl (pi_range3 (by rfl) T.range_ (pa_cons pe_int (pa_cons (pe_op op_sub (pe_callB call_len_seq (by rfl) T.len_ boot_len (pa_cons (pv 1) pa_nil)) pe_int) (pa_cons pe_int pa_nil)))) (pg_name (i := 4) sc_law_row.nd rfl (.inl rfl))
    (pss_cons (ps_set (i := 5) sc_law_row.nd rfl (.inl rfl) (pe_ix ix_tup (pv 2) (pe_ix ix_tup (pv 1) (pv 4) (fun _ _ => rfl)) (fun _ _ => rfl)))
    (pss_cons (ps_set (i := 2) sc_law_row.nd rfl (.inl rfl) (pe_ix ix_tup (pv 5) pe_int (fun _ _ => rfl)))
    (pss_one (ps_if (pt_cmpR op_eq (pe_ix ix_tup (pv 5) pe_int (fun _ _ => rfl)) pe_str (nomark _))
    (pss_one (ps_set (i := 2) sc_law_row.nd rfl (.inl rfl) (pe_ix ix_tup (pe_ix ix_tup (pv 5) pe_int (fun _ _ => rfl)) (pe_ix ix_tup (pv 1) (pe_op op_add (pv 4) pe_int) (fun _ _ => rfl)) (fun _ _ => rfl))))
    pss_nil)))))
    (pss_one (ps_ret (pv 2)))))), ?_⟩
  obtain ⟨R, hR, hr'⟩ := Option.bind_eq_some_iff.mp hrow
  have p8 := lp.ok.deep _ _ _ hrow
  refine qd_set (evd_at (d := encRow p.main) 1 (evd_var rfl ip) rfl) fun vm H1 e1 im => ?_
  refine qd_forT (ds := p.defs.map encDef) (evd_at 0 (evd_var rfl (ip.ex e1)) rfl) (fun H2 i σ' H' => ∃ (vr : V) (x : Option V) (R0 : Row), σ' = [some vp, some vl, some vr, x, none, none] ∧ Ex H2 H' ∧ Im H' vr (encRow R0) ∧ ((∃ D ∈ p.defs.take i, D.name = pl.nm ∧ R0 = D.row) ∨ ((∀ D ∈ p.defs.take i, D.name ≠ pl.nm) ∧ R0 = p.main)))
    (fun H2 e2 => ⟨vm, none, p.main, rfl, Ex.refl H2, im.ex e2, .inr ⟨fun D hD => by simp at hD, rfl⟩⟩) (fun H2 i σ' H' _ h => by obtain ⟨_, _, _, _, e, _⟩ := h; exact KT.of e) ?_ ?_
  · rintro H2 i d v σ' H' e2 hd hv ⟨vr, x, R0, rfl, e3, ir, hcase⟩
    rw [List.getElem?_map] at hd
    cases q : p.defs[i]? with
    | none => rw [q] at hd; cases hd
    | some D0 =>
    rw [q] at hd
    obtain rfl : encDef D0 = d := Option.some.inj hd
    have e03 := (e1.trans e2).trans e3
    have ht : p.defs.take (i + 1) = p.defs.take i ++ [D0] := by rw [List.take_add_one, q]; rfl
    have hv0 : EvD (tVar 3) [some vp, some vl, some vr, some v, none, none] H' (encDef D0) := evd_var rfl hv
    refine s_if (evt_eq (evd_at 0 hv0 rfl) (evd_at (d := .str pl.nm) 0 (evd_var (i := 1) rfl (il.ex e03)) rfl) rfl) (fun hb H3 e4 => ?_) (fun hb H3 e4 => ?_)
    · have hb : D0.name = pl.nm := of_decide_eq_true hb
      refine sd_set (evd_at (d := encRow D0.row) 3 (hv0.mono e4) rfl) fun v2 H4 e5 i5 => ?_
      exact ⟨v2, some v, D0.row, rfl, e3.trans (e4.trans e5), i5, .inl ⟨D0, by rw [ht]; simp, hb, rfl⟩⟩
    · have hb : ¬ D0.name = pl.nm := of_decide_eq_false hb
      refine ⟨vr, some v, R0, rfl, e3.trans e4, ir.ex e4, ?_⟩
      rw [ht]
      rcases hcase with ⟨D, hD, h1, h2⟩ | ⟨h1, h2⟩
      · exact .inl ⟨D, by simp [hD], h1, h2⟩
      · exact .inr ⟨fun D hD => by
          rcases List.mem_append.mp hD with hD | hD
          · exact h1 D hD
          · rw [List.mem_singleton.mp hD]; exact hb, h2⟩
  · rintro H2 σ' H' e2 ⟨vr, x, R0, rfl, e3, ir, hcase⟩
    have e03 := (e1.trans e2).trans e3
    have hRR : R0 = R := by
      rw [List.length_map, List.take_length] at hcase
      unfold rowOf at hR
      rcases hcase with ⟨D, hD, h1, h2⟩ | ⟨h1, h2⟩
      · have : pl.nm ≠ Str.empty := h1 ▸ lp.ne D hD
        rw [if_neg this] at hR
        have : defOf p pl.nm = some D := by rw [← h1]; exact find_def lp.nd hD
        rw [this] at hR
        rw [h2]
        exact Option.some.inj hR
      · by_cases z : pl.nm = Str.empty
        · rw [if_pos z] at hR
          rw [h2]
          exact Option.some.inj hR
        · rw [if_neg z] at hR
          obtain ⟨D, hD, _⟩ := Option.map_eq_some_iff.mp hR
          exact absurd (defOf_mem hD).2 (h1 D (defOf_mem hD).1)
    subst hRR
    have hl0 := encPl_len pl
    refine qd_for2 (n := pl.path.length) (evds_cons evd_int (evds_cons (evd_sub (evd_len (evd_var (i := 1) rfl (il.ex e03))) evd_int) (evds_cons evd_int evds_nil))) (by omega) (by omega) (by split <;> omega)
      (fun i σ' H2 => ∃ (vr : V) (x y z : Option V) (r' : Row) (pre suf : List (Nat × Nat)), σ' = [some vp, some vl, some vr, x, y, z] ∧ Ex H' H2 ∧ pl.path = pre ++ suf ∧ suf.length = i ∧ rowP R0 suf = some r' ∧ Im H2 vr (encRow r'))
      (fun H3 e4 => ⟨vr, x, none, none, R0, pl.path, [], rfl, e4, by simp, rfl, rfl, ir.ex e4⟩) ?_ ?_
    · rintro i σ' H3 hi ⟨vr, x, y, z, r', pre, suf, rfl, e4, hp, rfl, hrow', ir⟩
      have hpre : pre ≠ [] := by
        rintro rfl
        rw [List.nil_append] at hp
        rw [hp] at hi
        omega
      obtain ⟨pre', ⟨n, c⟩, rfl⟩ := (List.eq_nil_or_concat pre).resolve_left hpre
      rw [List.concat_eq_append] at hp
      have hp2 : pl.path = pre' ++ ((n, c) :: suf) := by rw [hp]; simp
      obtain ⟨r2, hr2⟩ := rowP_pre (hp2 ▸ hr')
      have hr2' : (rowP R0 suf).bind _ = some r2 := hr2
      rw [hrow', Option.bind_some] at hr2'
      obtain ⟨wd, hw, hw2⟩ := Option.bind_eq_some_iff.mp hr2'
      have num := encPl_num (pre := pre') (suf := suf) (n := n) (c := c) (nm := pl.nm) (m := pl.at_)
      rw [← hp2] at num
      have il' := il.ex (e03.trans e4)
      refine qd_set (d := encW wd) (evd_ixn (evd_var rfl ir) (evd_ixn (evd_var (i := 1) rfl il') (evd_is (evd_var rfl (.int _)) (congrArg PyData.int (show _ = ((1 + 2 * suf.length : Nat) : Int) by omega))) num.1) (encR_get hw)) fun vw H4 e5 iw => ?_
      by_cases hc : hd wd = "choose"
      · obtain ⟨rs, rfl⟩ := hd_choose hc
        refine qd_set (d := .tuple (encRs rs)) (evd_at 1 (evd_var rfl iw) (by simp only [tlD]; rfl)) fun v1 H5 e6 i6 => ?_
        refine q_yesE (evt_hd1 (evd_var rfl (iw.ex e6)) hc) fun H6 e7 => ?_
        have hw2 : rs[c]? = some r2 := hw2
        refine sd_set (d := encRow r2) (evd_ixn (evd_at (d := .tuple (encRs rs)) 1 (evd_var rfl (iw.ex (e6.trans e7))) (by simp only [tlD]; rfl)) (evd_ixn (evd_var (i := 1) rfl (il'.ex (e5.trans (e6.trans e7)))) (evd_is (evd_add (evd_var rfl (.int _)) evd_int) (congrArg PyData.int (show _ = ((2 + 2 * suf.length : Nat) : Int) by omega))) num.2) (by rw [encRs_map, List.getElem?_map, hw2]; rfl)) fun v2 H7 e8 i8 => ?_
        exact ⟨v2, _, _, _, r2, pre', (n, c) :: suf, rfl, e4.trans (e5.trans (e6.trans (e7.trans e8))), hp2, rfl, hr2, i8⟩
      · have hlp : hd wd = "loop" := by
          cases wd <;> first | exact absurd rfl hc | rfl | (simp only [rowsIn] at hw2; simp at hw2)
        obtain ⟨row, rfl⟩ := hd_loop hlp
        have hw2 : [row][c]? = some r2 := hw2
        have hrr : row = r2 := by
          cases c with
          | zero => exact Option.some.inj hw2
          | succ c => simp at hw2
        subst hrr
        refine qd_set (d := encRow row) (evd_at 1 (evd_var rfl iw) (by simp only [tlD]; rfl)) fun v1 H5 e6 i6 => ?_
        refine q_noE (evt_hd0 (evd_var rfl (iw.ex e6)) hc) fun H6 e7 => ?_
        exact ⟨v1, _, _, _, row, pre', (n, c) :: suf, rfl, e4.trans (e5.trans (e6.trans e7)), hp2, rfl, hr2, i6.ex e7⟩
    · rintro σ' H3 ⟨vr, x, y, z, r', pre, suf, rfl, e4, hp, hsl, hrow', ir⟩
      have hpre : pre = [] := by
        have := congrArg List.length hp
        rw [List.length_append] at this
        exact List.eq_nil_of_length_eq_zero (by omega)
      subst hpre
      rw [List.nil_append] at hp
      subst hp
      obtain rfl : r' = r := Option.some.inj (hrow'.symm.trans hr')
      exact qd_ret (evd_var rfl ir) fun v H4 e5 i5 => k v H4 ((e03.trans e4).trans e5) i5
theorem sc_law_word : FnScope ["_law_program_here", "_law_place_here"] ["_law_program_here", "_law_place_here"] (defScope s_law_word) := ⟨rfl, rfl, rfl, by decide +kernel, rfl, by decide +kernel, by decide +kernel⟩
theorem evd_last {K : PySem.W.Frag} {σ : L2.St} {H : Hp} {te : TE} {pl : Place} (h : EvD te σ H (encPl pl)) : EvD (tOp (rIxT K) te (tUn (rU fun i => .int (-i)) (tC (.int 1)))) σ H (.int pl.at_) :=
  evd_ix h (evd_neg evd_int) (by rw [show PyData.str pl.nm :: (encPath pl.path ++ [PyData.int pl.at_]) = (PyData.str pl.nm :: encPath pl.path) ++ [PyData.int pl.at_] from rfl]; exact atI_last _ _)
theorem ok_law_word (T : Fx K mg) : C8.Cal P w K mg base 2 "_law_word" (spD fLWord) [] := by
  obtain ⟨fd, F⟩ := T.f_law_word
  have c_law_row := ok_law_row (P := P) (w := w) (base := base) T
  refine cal_of F T.g_law_word sc_law_word (fun _ _ _ _ _ _ us hl => match us, hl with | [_, _], _ => rfl) (spD_len (n := 2) (by rintro _ _ ⟨p, nm, r, rfl, _⟩; rfl)) fun cdv A outer s H vs Q E hr hsp => ?_
  obtain ⟨_, _, ⟨p, pl, o, rfl, lp, hw, rfl⟩, hi, k⟩ := hsp
  obtain ⟨vp, vl, rfl, ip, il⟩ := hi.two
  refine ⟨_, (pss_one (ps_ret (pe_ix ix_tup (pe_op op_catA (C8.pe_c c_law_row hr (by omega) rfl (pa_cons (pv 0) (pa_cons (pv 1) pa_nil))) (pe_tup (pa_cons pe_non pa_nil))) (pe_ix ix_tup (pv 1) (pe_un un_neg pe_int) (fun _ _ => rfl)) (fun _ _ => rfl)))), ?_⟩
  obtain ⟨r, hrow, hw⟩ := Option.bind_eq_some_iff.mp hw
  have h50 := lp.short _ _ _ hrow
  refine qd_ret (evd_ixn (evd_cat (evd_call (d := encRow r) (evds_cons (evd_var rfl ip) (evds_cons (evd_var rfl il) evds_nil)) ⟨p, pl, r, rfl, lp, hrow, rfl⟩) (evd_tup (evds_cons evd_non evds_nil)) (by rw [encR_len]; simp; omega)) (evd_last (evd_var rfl il)) ?_) k
  unfold wordR at hw
  by_cases hn : pl.at_ = r.length
  · rw [if_pos hn] at hw
    cases hw
    rw [List.getElem?_append_right (by rw [encR_len]; omega), encR_len, hn]
    simp [encOW]
  · rw [if_neg hn] at hw
    obtain ⟨wd, hw2, rfl⟩ := Option.map_eq_some_iff.mp hw
    have := (List.getElem?_eq_some_iff.mp hw2).1
    rw [List.getElem?_append_left (by rw [encR_len]; exact this)]
    exact encR_get hw2
theorem sc_law_after : FnScope ["_law_program_here", "_law_place_here"] ["_law_program_here", "_law_place_here"] (defScope s_law_after) := ⟨rfl, rfl, rfl, by decide +kernel, rfl, by decide +kernel, by decide +kernel⟩
theorem after_step (T : Fx K mg) (n : Nat) (c_law_after : n ≠ 0 → C8.Cal P w K mg base (3 + (n - 1)) "_law_after" (spD (fLAfter (n - 1))) []) : C8.Cal P w K mg base (3 + n) "_law_after" (spD (fLAfter n)) [] := by
  obtain ⟨fd, F⟩ := T.f_law_after
  have c_law_row := ok_law_row (P := P) (w := w) (base := base) T
  have c_law_word := ok_law_word (P := P) (w := w) (base := base) T
  rw [Nat.add_right_comm 2 1 n]
  refine cal_of F T.g_law_after sc_law_after (fun _ _ _ _ _ _ us hl => match us, hl with | [_, _], _ => rfl) (spD_len (n := 2) (by rintro _ _ ⟨p, nm, r, rfl, _⟩; rfl)) fun cdv A outer s H vs Q E hr hsp => ?_
  obtain ⟨_, _, ⟨p, pl, pl', rfl, lp, hb, hlen, hn, rfl⟩, hi, k⟩ := hsp
  obtain ⟨vp, vl, rfl, ip, il⟩ := hi.two
  refine ⟨_, (pss_cons (ps_if (PW.pt (pw_or (pt_cmpR op_lt (pe_op op_add (pe_ix ix_tup (pv 1) (pe_un un_neg pe_int) (fun _ _ => rfl)) pe_int) (pe_callB call_len_seq (by rfl) T.len_ boot_len (pa_cons (C8.pe_c c_law_row hr (by omega) rfl (pa_cons (pv 0) (pa_cons (pv 1) pa_nil))) pa_nil)) (nomark _)) (pw_or1 (pt_cmpR op_eq (pe_callB call_len_seq (by rfl) T.len_ boot_len (pa_cons (pv 1) pa_nil)) pe_int (nomark _)))))
    (pss_one (ps_ret (pe_op op_catA (pe_slice sl_tupA (pv 1) po_none (po_some (pe_un un_neg pe_int))) (pe_tup (pa_cons (pe_op op_add (pe_ix ix_tup (pv 1) (pe_un un_neg pe_int) (fun _ _ => rfl)) pe_int) pa_nil)))))
    pss_nil)
    (pss_cons (ps_if (pt_cmpR op_eq (pe_ix ix_tup (C8.pe_c c_law_word hr (by omega) rfl (pa_cons (pv 0) (pa_cons (pe_slice sl_tupA (pv 1) po_none (po_some (pe_un un_neg pe_int))) pa_nil))) pe_int (fun _ _ => rfl)) pe_str (nomark _))
    (pss_one (ps_ret (pe_slice sl_tupA (pv 1) po_none (po_some (pe_un un_neg pe_int)))))
    pss_nil)
    (pss_one (ps_rec fun h0 => ps_ret (C8.pe_c (c_law_after h0) hr (by omega) rfl (pa_cons (pv 0) (pa_cons (pe_slice sl_tupA (pv 1) po_none (po_some (pe_un un_neg pe_int))) pa_nil))))))), ?_⟩
  obtain ⟨nm, path, m⟩ := pl
  have hrow : ∃ r, rowAt p nm path = some r := by
    unfold behind at hb
    cases path with
    | nil =>
      simp only [behindG] at hb
      obtain ⟨r, h, _⟩ := Option.map_eq_some_iff.mp hb
      exact ⟨r, h⟩
    | cons x ps =>
      simp only [behindG] at hb
      obtain ⟨r, h, _⟩ := Option.bind_eq_some_iff.mp hb
      exact ⟨r, h⟩
  obtain ⟨r, hrow⟩ := hrow
  have hlp : path.length ≤ n := hlen
  have vp0 : ∀ {H2 : Hp}, Ex H H2 → EvD (tVar 0) (L2.start ["_law_program_here", "_law_place_here"] [vp, vl]) H2 (encProg p) := fun e => evd_var rfl (ip.ex e)
  have vl0 : ∀ {H2 : Hp}, Ex H H2 → EvD (tVar 1) (L2.start ["_law_program_here", "_law_place_here"] [vp, vl]) H2 (encPl ⟨nm, path, m⟩) := fun e => evd_var rfl (il.ex e)
  have t0 := evt_lt (evd_add (evd_last (K := K) (vl0 (Ex.refl H))) (evd_int (i := 1))) (evd_len (K := K) (evd_call (E := C8.E0) (g := fLRow) (d := encRow r) (evds_cons (vp0 (Ex.refl H)) (evds_cons (vl0 (Ex.refl H)) evds_nil)) ⟨p, ⟨nm, path, m⟩, r, rfl, lp, hrow, rfl⟩))
  have t1 := evt_eq (evd_len (K := K) (vl0 (Ex.refl H))) (evd_int (i := 2)) rfl
  have t2 := et_or t0 fun _ => t1
  have next : ∀ {H2 : Hp}, Ex H H2 → EvD (tOp (rCatA K) (tSl (rSlA K) (tVar 1) tNoPart (tPart (tUn (rU fun i => .int (-i)) (tC (.int 1))))) (tTup (tCons (tOp (rI0 fun i j => .int (i + j)) (tOp (rIxT K) (tVar 1) (tUn (rU fun i => .int (-i)) (tC (.int 1)))) (tC (.int 1))) tNil))) (L2.start ["_law_program_here", "_law_place_here"] [vp, vl]) H2 (encPl ⟨nm, path, m + 1⟩) := fun e2 => by
    refine evd_cat (evd_slice (vl0 e2) eo_none evo_neg (cut1 ⟨nm, path, m⟩)) (evd_tup (evds_cons (evd_add (evd_last (vl0 e2)) evd_int) evds_nil)) ?_
    simp only [List.length_cons, encPath_len, List.length_nil]
    omega
  rcases path with _ | ⟨⟨m', c⟩, ps⟩
  · refine q_yes (evt_yes t2 ?_) fun H2 e2 => qd_ret (next e2) fun z H3 e4 i4 => k z H3 (e2.trans e4) ?_
    · rw [Bool.or_eq_true]
      exact .inr (by simp [eqD, encPath])
    · unfold behind at hb
      simp only [behindG, hrow, Option.map_some] at hb
      cases hb
      exact i4
  · unfold behind at hb
    simp only [behindG, hrow, Option.bind_some] at hb
    have hne : eqD (.int (((PyData.str nm :: (encPath ((m', c) :: ps) ++ [PyData.int m])).length : Nat) : Int)) (.int 2) = false := decide_eq_false (by have := encPl_len ⟨nm, (m', c) :: ps, m⟩; simp at this ⊢; omega)
    by_cases hlt : m + 1 < r.length
    · rw [if_pos hlt] at hb
      cases hb
      refine q_yes (evt_yes t2 ?_) fun H2 e2 => qd_ret (next e2) fun z H3 e4 i4 => k z H3 (e2.trans e4) i4
      rw [Bool.or_eq_true]
      exact .inl (decide_eq_true (by rw [encR_len]; show ((m : Int) + 1 < _); omega))
    · rw [if_neg hlt] at hb
      refine q_no (evt_no t2 ?_) fun H2 e2 => ?_
      · rw [Bool.or_eq_false_iff]
        exact ⟨decide_eq_false (by rw [encR_len]; show ¬ ((m : Int) + 1 < _); omega), hne⟩
      have hps : ps.length + 1 ≤ n := hlp
      have ar : ∀ {H3 : Hp}, Ex H H3 → EvD (tSl (rSlA K) (tVar 1) tNoPart (tPart (tUn (rU fun i => .int (-i)) (tC (.int 2))))) (L2.start ["_law_program_here", "_law_place_here"] [vp, vl]) H3 (encPl ⟨nm, ps, m'⟩) := fun e => evd_slice (vl0 e) eo_none evo_neg (cut2 nm m' c ps m)
      cases hwa : wordAt p ⟨nm, ps, m'⟩ with
      | none => rw [hwa] at hb; cases hb
      | some o =>
        cases o with
        | none => rw [hwa] at hb; cases hb
        | some wd =>
          rw [hwa] at hb
          have hw := evd_call (E := C8.E0) (g := fLWord) (d := encW wd) (evds_cons (vp0 e2) (evds_cons (ar e2) evds_nil)) ⟨p, ⟨nm, ps, m'⟩, some wd, rfl, lp, hwa, rfl⟩
          by_cases hlp2 : hd wd = "loop"
          · obtain ⟨r', rfl⟩ := hd_loop hlp2
            have hb : some (⟨nm, ps, m'⟩ : Place) = some pl' := hb
            cases hb
            exact q_yes (evt_hd1 hw hlp2) fun H4 e4 => qd_ret (ar (e2.trans e4)) fun z H5 e5 i5 => k z H5 ((e2.trans e4).trans e5) i5
          · have hil : isLoop wd = false := by
              cases wd <;> first | rfl | exact absurd rfl hlp2
            have hb : (if isLoop wd = true then some _ else behindG p nm ps m') = some pl' := hb
            rw [hil] at hb
            have hb : behindG p nm ps m' = some pl' := hb
            refine q_no (evt_hd0 hw hlp2) fun H4 e4 => ?_
            refine ⟨by omega, ?_⟩
            exact qd_ret (evd_call (evds_cons (vp0 (e2.trans e4)) (evds_cons (ar (e2.trans e4)) evds_nil)) ⟨p, ⟨nm, ps, m'⟩, pl', rfl, lp, hb, by show ps.length ≤ n - 1; omega, by omega, rfl⟩) fun z H5 e5 i5 => k z H5 ((e2.trans e4).trans e5) i5
theorem ok_law_after (T : Fx K mg) : ∀ n : Nat, C8.Cal P w K mg base (3 + n) "_law_after" (spD (fLAfter n)) []
  | 0 => after_step T 0 fun h => absurd rfl h
  | n + 1 => after_step T (n + 1) fun _ => ok_law_after T n
theorem sc_law_into : FnScope ["_law_program_here", "_law_place_here", "_law_number", "_law_word_here"] ["_law_program_here", "_law_place_here", "_law_number"] (defScope s_law_into) := ⟨rfl, rfl, rfl, by decide +kernel, rfl, by decide +kernel, by decide +kernel⟩
theorem inside_at {p : Prog} {pl pl' : Place} {c : Nat} (h : inside p pl c = some pl') : ∃ w r, wordAt p pl = some (some w) ∧ (rowsIn w)[c]? = some r ∧ (if r ≠ [] then some ⟨pl.nm, (pl.at_, c) :: pl.path, 0⟩ else if isLoop w then some pl else behind p pl) = some pl' := by
  unfold inside at h
  cases hw : wordAt p pl with
  | none => rw [hw] at h; cases h
  | some o =>
    cases o with
    | none => rw [hw] at h; cases h
    | some w =>
      rw [hw] at h
      obtain ⟨r, hr, h⟩ := Option.bind_eq_some_iff.mp h
      exact ⟨w, r, rfl, hr, h⟩
theorem ok_law_into (T : Fx K mg) : C8.Cal P w K mg base 12 "_law_into" (spD fLInto) [] := by
  obtain ⟨fd, F⟩ := T.f_law_into
  have c_law_word := ok_law_word (P := P) (w := w) (base := base) T
  have c_law_after := ok_law_after (P := P) (w := w) (base := base) T 8
  refine cal_of F T.g_law_into sc_law_into (fun _ _ _ _ _ _ us hl => match us, hl with | [_, _, _], _ => rfl) (spD_len (n := 3) (by rintro _ _ ⟨p, pl, c, pl', rfl, _⟩; rfl)) fun cdv A outer s H vs Q E hr hsp => ?_
  obtain ⟨_, _, ⟨p, pl, c, pl', rfl, lp, hin, rfl⟩, hi, k⟩ := hsp
  obtain ⟨vp, vl, vc, rfl, ip, il, ic⟩ := hi.three
  refine ⟨_, (pss_cons (ps_set (i := 3) sc_law_into.nd rfl (.inl rfl) (C8.pe_c c_law_word hr (by omega) rfl (pa_cons (pv 0) (pa_cons (pv 1) pa_nil))))
    (pss_cons (ps_if (PW.pt (pw_and (pt_cmpR op_eq (pe_ix ix_tup (pv 3) pe_int (fun _ _ => rfl)) pe_str (nomark _)) (pw_and1 (pt_cmpR (op_eqD hr.units) (pe_ix ix_tup (pv 3) pe_int (fun _ _ => rfl)) (pe_tup pa_nil) (nomark _)))))
    (pss_one (ps_ret (pv 1)))
    pss_nil)
    (pss_cons (ps_if (PW.pt (pw_and (pt_cmpR op_eq (pe_ix ix_tup (pv 3) pe_int (fun _ _ => rfl)) pe_str (nomark _)) (pw_and1 (pt_cmpR (op_eqD hr.units) (pe_ix ix_tup (pe_ix ix_tup (pv 3) pe_int (fun _ _ => rfl)) (pv 2) (fun _ _ => rfl)) (pe_tup pa_nil) (nomark _)))))
    (pss_one (ps_ret (C8.pe_c c_law_after hr (by omega) rfl (pa_cons (pv 0) (pa_cons (pv 1) pa_nil)))))
    pss_nil)
    (pss_one (ps_ret (pe_op op_catA (pv 1) (pe_tup (pa_cons (pv 2) (pa_cons pe_int pa_nil))))))))), ?_⟩
  obtain ⟨wd, r, hw, hrr, hres⟩ := inside_at hin
  have w8 := lp.ok.word hw
  have sh := lp.ok.sh hw r (List.mem_of_getElem? hrr)
  refine qd_set (d := encW wd) (evd_call (evds_cons (evd_var rfl ip) (evds_cons (evd_var rfl il) evds_nil)) ⟨p, pl, some wd, rfl, lp, hw, rfl⟩) fun vw H1 e1 iw => ?_
  have go : ∀ {H2 : Hp}, Ex H1 H2 → r ≠ [] → tRet (tOp (rCatA K) (tVar 1) (tTup (tCons (tVar 2) (tCons (tC (.int 0)) tNil)))) { nx := fun _ H' => Q .non H', rt := Q } [some vp, some vl, some vc, some vw] H2 := fun {H2} e2 hne => by
    rw [if_pos hne] at hres
    cases hres
    have e12 := e1.trans e2
    refine qd_ret (evd_is (evd_cat (evd_var rfl (il.ex e12)) (evd_tup (evds_cons (evd_var rfl (ic.ex e12)) (evds_cons evd_int evds_nil))) (by simp [encPath_len]; omega)) (e := encPl ⟨pl.nm, (pl.at_, c) :: pl.path, 0⟩) (by simp [encPath])) fun v H3 e3 i3 => k v H3 (e12.trans e3) i3
  by_cases hc : hd wd = "choose"
  · obtain ⟨rs, rfl⟩ := hd_choose hc
    refine q_no (et_is (et_and (b := false) (evt_hd0 (evd_var rfl iw) (by rw [hc]; decide +kernel)) (fun z => nomatch z)) rfl) fun H2 e2 => ?_
    have hrr : rs[c]? = some r := hrr
    have t2 := et_and (evt_hd1 (K := K) (i := 0) (z := "choose") (evd_var (i := 3) (σ := [some vp, some vl, some vc, some vw]) rfl (iw.ex e2)) hc) fun _ => evt_eqD (K := K) (evd_ixn (K := K) (d := encRow r) (evd_at (K := K) (d := .tuple (encRs rs)) 1 (evd_var (i := 3) rfl (iw.ex e2)) (by simp only [tlD]; rfl)) (evd_var (i := 2) rfl (ic.ex (e1.trans e2))) (by rw [encRs_map, List.getElem?_map, hrr]; rfl)) (evd_tup evds_nil) sh shaped_nil
    rw [eqv_nil] at t2
    by_cases hne : r = []
    · subst hne
      refine q_yes (et_is t2 rfl) fun H3 e3 => ?_
      rw [if_neg (by simp)] at hres
      have hres : behind p pl = some pl' := hres
      have e13 := (e1.trans e2).trans e3
      exact qd_ret (evd_call (evds_cons (evd_var rfl (ip.ex e13)) (evds_cons (evd_var rfl (il.ex e13)) evds_nil)) ⟨p, pl, pl', rfl, lp, hres, w8, by omega, rfl⟩) fun v H4 e4 i4 => k v H4 (e13.trans e4) i4
    · refine q_no (et_is t2 (by cases r with | nil => exact absurd rfl hne | cons a b => rfl)) fun H3 e3 => go (e2.trans e3) hne
  · have hlp2 : hd wd = "loop" := by
      cases wd <;> first | exact absurd rfl hc | rfl | (simp only [rowsIn] at hrr; simp at hrr)
    obtain ⟨row, rfl⟩ := hd_loop hlp2
    have hrow : row = r := by
      have hrr : [row][c]? = some r := hrr
      cases c with
      | zero => exact Option.some.inj hrr
      | succ c => simp at hrr
    subst hrow
    have t1 := et_and (evt_hd1 (K := K) (i := 0) (z := "loop") (evd_var (i := 3) (σ := [some vp, some vl, some vc, some vw]) rfl iw) hlp2) fun _ => evt_eqD (K := K) (evd_at (K := K) (d := encRow row) 1 (evd_var (i := 3) rfl iw) (by simp only [tlD]; rfl)) (evd_tup evds_nil) sh shaped_nil
    rw [eqv_nil] at t1
    by_cases hne : row = []
    · subst hne
      refine q_yes (et_is t1 rfl) fun H3 e3 => ?_
      rw [if_neg (by simp)] at hres
      have hres : some pl = some pl' := hres
      cases hres
      exact qd_ret (evd_var rfl (il.ex (e1.trans e3))) fun v H4 e4 i4 => k v H4 ((e1.trans e3).trans e4) i4
    · refine q_no (et_is t1 (by cases row with | nil => exact absurd rfl hne | cons a b => rfl)) fun H3 e3 => ?_
      refine q_no (et_is (et_and (b := false) (evt_hd0 (evd_var rfl (iw.ex e3)) hc) (fun z => nomatch z)) rfl) fun H4 e4 => go (e3.trans e4) hne
theorem sc_law_out : FnScope ["_law_program_here", "_law_place_here", "_law_n", "_law_k"] ["_law_program_here", "_law_place_here", "_law_n"] (defScope s_law_out) := ⟨rfl, rfl, rfl, by decide +kernel, rfl, by decide +kernel, by decide +kernel⟩
theorem outG_at {p : Prog} {nm : Str} {ps : List (Nat × Nat)} {m n : Nat} {pl' : Place} (h : outG p nm ps m n = some pl') : ∃ w, wordAt p ⟨nm, ps, m⟩ = some (some w) ∧
    (if (if isLoop w then n - 1 else n) = 0 then behind p ⟨nm, ps, m⟩ else outOf p ⟨nm, ps, m⟩ (if isLoop w then n - 1 else n)) = some pl' := by
  cases ps with
  | nil =>
    unfold outG at h
    cases hw : wordAt p ⟨nm, [], m⟩ with
    | none => rw [hw] at h; cases h
    | some o =>
      cases o with
      | none => rw [hw] at h; cases h
      | some w =>
        rw [hw] at h
        exact ⟨w, rfl, h⟩
  | cons x ps =>
    obtain ⟨m', c'⟩ := x
    unfold outG at h
    cases hw : wordAt p ⟨nm, (m', c') :: ps, m⟩ with
    | none => rw [hw] at h; cases h
    | some o =>
      cases o with
      | none => rw [hw] at h; cases h
      | some w =>
        rw [hw] at h
        exact ⟨w, rfl, h⟩
theorem ok_law_out (T : Fx K mg) : C8.Cal P w K mg base 12 "_law_out" (spD fLOut) [] := by
  obtain ⟨fd, F⟩ := T.f_law_out
  have c_law_word := ok_law_word (P := P) (w := w) (base := base) T
  have c_law_after := ok_law_after (P := P) (w := w) (base := base) T 8
  refine cal_of F T.g_law_out sc_law_out (fun _ _ _ _ _ _ us hl => match us, hl with | [_, _, _], _ => rfl) (spD_len (n := 3) (by rintro _ _ ⟨p, pl, c, pl', rfl, _⟩; rfl)) fun cdv A outer s H vs Q E hr hsp => ?_
  obtain ⟨_, _, ⟨p, pl, n, pl', rfl, lp, hout, hn1, hn2, rfl⟩, hi, k⟩ := hsp
  obtain ⟨vp, vl, vn, rfl, ip, il, iN⟩ := hi.three
  have := iN.int_
  subst this
  refine ⟨_, (pss_cons (ps_for PassesOwn.never rfl (pi_range1 (by rfl) T.range_ (pa_cons (pv 2) pa_nil)) (pg_name (i := 3) sc_law_out.nd rfl (.inl rfl))
    (pss_cons (ps_set (i := 1) sc_law_out.nd rfl (.inl rfl) (pe_slice sl_tupA (pv 1) po_none (po_some (pe_un un_neg pe_int))))
    (pss_one (ps_while PassesOwn.never (pt_cmpR op_ne (pe_ix ix_tup (C8.pe_c c_law_word hr (by omega) rfl (pa_cons (pv 0) (pa_cons (pv 1) pa_nil))) pe_int (fun _ _ => rfl)) pe_str (nomark _))
    (pss_one (ps_set (i := 1) sc_law_out.nd rfl (.inl rfl) (pe_slice sl_tupA (pv 1) po_none (po_some (pe_un un_neg pe_int)))))))))
    (pss_one (ps_ret (C8.pe_c c_law_after hr (by omega) rfl (pa_cons (pv 0) (pa_cons (pv 1) pa_nil)))))), ?_⟩
  refine ⟨.int n, rfl, n, rfl, by omega, by omega, for_range (lo := 0) (n := n) (fun i σ' H' => ∃ (vq : V) (x : Option V) (q : Place), σ' = [some vp, some vq, some (.int n), x] ∧ Ex H H' ∧ Im H' vq (encPl q) ∧ ((i < n ∧ outOf p q (n - i) = some pl') ∨ (i = n ∧ behind p q = some pl'))) ⟨vl, none, pl, rfl, Ex.refl H, il, .inl ⟨hn1, hout⟩⟩ ?_ ?_⟩
  · rintro i σ' H1 hi ⟨vq, x, q, rfl, e1, iq, hcase⟩
    obtain ⟨_, ho⟩ := hcase.resolve_right fun z => by omega
    obtain ⟨nm, path, m0⟩ := q
    cases path with
    | nil => cases ho
    | cons y ps =>
    obtain ⟨m, c⟩ := y
    have ho : outG p nm ps m (n - i) = some pl' := ho
    show tSeq _ _ _ _ H1
    refine qd_set (evd_slice (evd_var (i := 1) rfl iq) eo_none evo_neg (cut2 nm m c ps m0)) fun v1 H2 e2 i2 => ?_
    refine s_while (fun k σ' H' => ∃ (vq : V) (ps : List (Nat × Nat)) (m : Nat), σ' = [some vp, some vq, some (.int n), some (.int (0 + (i : Int)))] ∧ Ex H H' ∧ Im H' vq (encPl ⟨nm, ps, m⟩) ∧ ps.length = k ∧ outG p nm ps m (n - i) = some pl') ps.length ⟨v1, ps, m, rfl, e1.trans e2, i2, rfl, ho⟩ ?_
    rintro k1 σ' H3 ⟨v3, ps3, m3, rfl, e3, i3, hk, ho3⟩
    obtain ⟨wd, hw, hres⟩ := outG_at ho3
    have tst := evt_ne (evd_at (K := K) (d := .str (hd wd)) 0 (evd_call (E := C8.E0) (g := fLWord) (d := encW wd) (evds_cons (evd_var (i := 0) (σ := [some vp, some v3, some (.int n), some (.int (0 + (i : Int)))]) rfl (ip.ex e3)) (evds_cons (evd_var (i := 1) rfl i3) evds_nil)) ⟨p, ⟨nm, ps3, m3⟩, some wd, rfl, lp, hw, rfl⟩) rfl) (evd_str (x := "loop")) rfl
    by_cases hlp2 : hd wd = "loop"
    · have hil : isLoop wd = true := by obtain ⟨row, rfl⟩ := hd_loop hlp2; rfl
      rw [hil] at hres
      simp only [if_true] at hres
      refine ⟨false, et_is tst (by simp [eqD, hlp2]), (fun z => nomatch z), fun _ H4 e4 => ⟨v3, _, ⟨nm, ps3, m3⟩, rfl, e3.trans e4, i3.ex e4, ?_⟩⟩
      by_cases hz : n - i - 1 = 0
      · rw [if_pos hz] at hres
        exact .inr ⟨by omega, hres⟩
      · rw [if_neg hz] at hres
        exact .inl ⟨by omega, by rw [show n - (i + 1) = n - i - 1 by omega]; exact hres⟩
    · have hil : isLoop wd = false := by cases wd <;> first | rfl | exact absurd rfl hlp2
      rw [hil] at hres
      have hres : (if n - i = 0 then behind p ⟨nm, ps3, m3⟩ else outOf p ⟨nm, ps3, m3⟩ (n - i)) = some pl' := hres
      rw [if_neg (by omega)] at hres
      cases ps3 with
      | nil => cases hres
      | cons y3 ps4 =>
      obtain ⟨m4, c4⟩ := y3
      have hres : outG p nm ps4 m4 (n - i) = some pl' := hres
      refine ⟨true, et_is tst (by simp [eqD, hlp2]), fun _ H4 e4 => ⟨fun σ5 H5 => ∃ (vq : V) (ps : List (Nat × Nat)) (m : Nat), σ5 = [some vp, some vq, some (.int n), some (.int (0 + (i : Int)))] ∧ Ex H H5 ∧ Im H5 vq (encPl ⟨nm, ps, m⟩) ∧ ps.length = ps4.length ∧ outG p nm ps m (n - i) = some pl', fun σ5 H5 q => ⟨ps4.length, by rw [← hk]; exact Nat.lt_succ_self _, q⟩, ?_⟩, (fun z => nomatch z)⟩
      refine sd_set (evd_slice (evd_var (i := 1) rfl (i3.ex e4)) eo_none evo_neg (cut2 nm m4 c4 ps4 m3)) fun v5 H5 e5 i5 => ?_
      exact ⟨v5, ps4, m4, rfl, (e3.trans e4).trans e5, i5, rfl, hres⟩
  · rintro σ' H1 ⟨vq, x, q, rfl, e1, iq, hcase⟩
    obtain ⟨_, hb⟩ := hcase.resolve_left fun z => absurd z.1 (Nat.lt_irrefl n)
    have b8 := lp.ok.behind hb
    exact qd_ret (evd_call (evds_cons (evd_var (i := 0) rfl (ip.ex e1)) (evds_cons (evd_var (i := 1) rfl iq) evds_nil)) ⟨p, q, pl', rfl, lp, hb, b8, by omega, rfl⟩) fun v H2 e2 i2 => k v H2 (e1.trans e2) i2
end
end K16

set_option Elab.async false
set_option linter.all false
set_option maxRecDepth 100000
set_option maxHeartbeats 4000000
/-! KLState: the state of the law's own interpreter, how it stands in the heap and how it changes; leave -/
namespace K16
open PySem PySem.Spec PyProof.Rows L2 Evl
/-- the dict of things of the law's interpreter: boxes alone, each with a number and worths -/
structure LThD (E : Env) (H : Hp) (kvs : List (Key × V)) : Prop where
  keys : ∀ k ∈ kvs.map (·.1), ∃ b ∈ E.Bs, k = Sum.inr b
  nd : (kvs.map (·.1)).Nodup
  val : ∀ k v, valV kvs k = some v → ∃ (n : Int) (ws : List Str), Im H v (.tuple [.int n, tstr ws]) ∧ (∀ w ∈ ws, w ∈ E.Ws) ∧ ws.length ≤ 20
def LTh (E : Env) (H : Hp) (d : Addr) : Prop := ∃ kvs, H d = some (.dK kvs) ∧ LThD E H kvs
/-- a thing -/
def LVal (E : Env) (H : Hp) (v : V) : Prop := ∃ (n : Int) (ws : List Str), Im H v (.tuple [.int n, tstr ws]) ∧ (∀ w ∈ ws, w ∈ E.Ws) ∧ ws.length ≤ 20
section
variable {E : Env} {H H' : Hp} {kvs : List (Key × V)} {d : Addr} {b : Str} {v : V}
theorem LVal.mono (e : KT H H') (h : LVal E H v) : LVal E H' v := by obtain ⟨n, ws, i, r⟩ := h; exact ⟨n, ws, i.mono e, r⟩
theorem LThD.mono (e : KT H H') (h : LThD E H kvs) : LThD E H' kvs := ⟨h.keys, h.nd, fun k v hv => LVal.mono e (h.val k v hv)⟩
theorem LTh.mono (e : KT H H') (k : ∀ o, H d = some o → H' d = some o) (h : LTh E H d) : LTh E H' d := by
  obtain ⟨kvs, h1, h2⟩ := h
  exact ⟨kvs, k _ h1, h2.mono e⟩
theorem LTh.ex (e : Ex H H') (h : LTh E H d) : LTh E H' d := h.mono (KT.of e) fun o => e d o
theorem lth_put (h : LThD E H kvs) (hb : b ∈ E.Bs) (hv : LVal E H v) : LThD E H (putK kvs (Sum.inr b) v) := by
  refine ⟨fun k hk => ?_, nd_put _ _ h.nd, fun k u hu => ?_⟩
  · rcases keys_put hk with rfl | hk
    · exact ⟨b, hb, rfl⟩
    · exact h.keys k hk
  · rw [valV_put] at hu
    by_cases e : k = Sum.inr b
    · rw [if_pos e] at hu
      cases hu
      exact hv
    · rw [if_neg e] at hu
      exact h.val k u hu
theorem lth_drop (h : LThD E H kvs) (k : Key) : LThD E H (dropK kvs k) := by
  refine ⟨fun j hj => ?_, nd_dropK h.nd, fun j u hu => ?_⟩
  · obtain ⟨p, hp, rfl⟩ := List.mem_map.mp hj
    exact h.keys _ (List.mem_map.mpr ⟨p, dropK_mem hp, rfl⟩)
  · rw [valV_drop] at hu
    by_cases e : j = k
    · rw [if_pos e] at hu; cases hu
    · rw [if_neg e] at hu; exact h.val j u hu
theorem lth_len (n : E.Bs.length ≤ 20) (h : LThD E H kvs) : kvs.length ≤ 20 := by
  have h3 : (kvs.map (·.1)).length ≤ (E.Bs.map (Sum.inr : Str → Key)).length := nodup_le h.nd fun k hk => by
    obtain ⟨b, hb, rfl⟩ := h.keys k hk
    exact List.mem_map.mpr ⟨b, hb, rfl⟩
  simp only [List.length_map] at h3
  omega
theorem lth_nil : LThD E H [] := ⟨fun k hk => by simp at hk, List.Pairwise.nil, fun k v hv => by cases hv⟩
theorem lth_keys (h : LThD E H kvs) : ∃ ks : List Str, kvs.map (·.1) = ks.map Sum.inr ∧ ks.Nodup ∧ ∀ b ∈ ks, b ∈ E.Bs ∧ ∃ v, valV kvs (Sum.inr b) = some v := by
  have : ∀ l : List Key, (∀ k ∈ l, ∃ b ∈ E.Bs, k = Sum.inr b) → ∃ ks : List Str, l = ks.map Sum.inr := by
    intro l
    induction l with
    | nil => intro _; exact ⟨[], rfl⟩
    | cons k l ih =>
      intro hl
      obtain ⟨b, _, rfl⟩ := hl k List.mem_cons_self
      obtain ⟨ks, rfl⟩ := ih fun k hk => hl k (List.mem_cons_of_mem _ hk)
      exact ⟨b :: ks, rfl⟩
  obtain ⟨ks, hks⟩ := this _ h.keys
  refine ⟨ks, hks, ?_, fun b hb => ?_⟩
  · have := h.nd
    rw [hks] at this
    exact List.Pairwise.imp (R := fun a b : Str => (Sum.inr a : Key) ≠ Sum.inr b) (S := fun a b => a ≠ b) (fun {a b} h e => h (by subst e; rfl)) (List.pairwise_map.mp this)
  · have m : (Sum.inr b : Key) ∈ kvs.map (·.1) := by rw [hks]; exact List.mem_map.mpr ⟨b, hb, rfl⟩
    obtain ⟨c, hc, e⟩ := h.keys _ m
    refine ⟨by rw [Sum.inr.inj e]; exact hc, ?_⟩
    cases q : valV kvs (Sum.inr b) with
    | some v => exact ⟨v, rfl⟩
    | none => exact absurd m (valV_not q)
end
structure LC where
  st : Addr
  lf : Addr
  lt : Addr
  ll : Addr
def stD (c : LC) (ve vp : V) (n : Nat) : List (Key × V) := [(.inr "frames", .ref c.lf), (.inr "told", .ref c.lt), (.inr "left", .ref c.ll), (.inr "end", ve), (.inr "place", vp), (.inr "steps", .int n)]
def LFr (E : Env) (H : Hp) (x : Addr × Addr) (y : Option Place × Unit) : Prop := ∃ vc, H x.1 = some (.tup [vc, .ref x.2]) ∧ Im H vc (encCp y.1) ∧ LTh E H x.2
def LFrs (E : Env) (H : Hp) : List (Addr × Addr) → List (Option Place × Unit) → Prop
  | [], [] => True
  | x :: xs, y :: ys => LFr E H x y ∧ LFrs E H xs ys
  | _, _ => False
section
variable {E : Env} {H H' : Hp} {S : List Addr}
theorem LFr.kp {x : Addr × Addr} {y : Option Place × Unit} (h : LFr E H x y) (k : Kp S H H') (t : KT H H') (n2 : x.2 ∉ S) : LFr E H' x y := by
  obtain ⟨vc, h1, h2, h3⟩ := h
  exact ⟨vc, t _ _ h1, h2.mono t, h3.mono t fun o e => k _ o e n2⟩
theorem LFrs.kp (k : Kp S H H') (t : KT H H') : ∀ {xs : List (Addr × Addr)} {ys : List (Option Place × Unit)}, LFrs E H xs ys → (∀ x ∈ xs, x.2 ∉ S) → LFrs E H' xs ys
  | [], [], _, _ => trivial
  | x :: xs, y :: ys, h, n => ⟨h.1.kp k t (n x (by simp)), LFrs.kp k t h.2 fun z hz => n z (by simp [hz])⟩
  | [], _ :: _, h, _ => h.elim
  | _ :: _, [], h, _ => h.elim
theorem LFrs.len : ∀ {xs : List (Addr × Addr)} {ys : List (Option Place × Unit)}, LFrs E H xs ys → xs.length = ys.length
  | [], [], _ => rfl
  | x :: xs, y :: ys, h => congrArg (· + 1) (LFrs.len h.2)
  | [], _ :: _, h => h.elim
  | _ :: _, [], h => h.elim
theorem LFrs.mem : ∀ {xs : List (Addr × Addr)} {ys : List (Option Place × Unit)}, LFrs E H xs ys → ∀ x ∈ xs, LTh E H x.2
  | [], [], _, x, hx => by simp at hx
  | x :: xs, y :: ys, h, z, hz => by
    rcases List.mem_cons.mp hz with rfl | hz
    · obtain ⟨_, _, _, q⟩ := h.1; exact q
    · exact LFrs.mem h.2 z hz
  | [], _ :: _, h, _, _ => h.elim
  | _ :: _, [], h, _, _ => h.elim
end
structure LX (E : Env) (H0 : Hp) (c : LC) (fs : List (Addr × Addr)) (ve vp : V) (H : Hp) (s : MS ctl) : Prop where
  base : Ex H0 H
  news : H0 c.st = none
  newf : H0 c.lf = none
  newt : H0 c.lt = none
  newl : H0 c.ll = none
  newd : ∀ x ∈ fs, H0 x.2 = none
  tl : c.lt ≠ c.ll
  tf : c.lt ≠ c.lf
  lf : c.ll ≠ c.lf
  sd : ∀ x ∈ fs, x.2 ≠ c.st
  obj : H c.st = some (.dK (stD c ve vp s.steps))
  over : Im H ve (encOver s.over)
  place : Im H vp (encPl s.place)
  told : ∃ xs, H c.lt = some (.lst xs) ∧ xs.length ≤ s.log
  left : ∃ xs, H c.ll = some (.lst xs) ∧ xs.length ≤ 20 * s.log
  frs : H c.lf = some (.lst (fs.reverse.map fun x => V.ref x.1))
  fr : LFrs E H fs s.frames
  nd : (fs.map (·.2)).Nodup
  cap : s.log ≤ 4000
section
variable {E : Env} {p : Prog} {H0 : Hp} {c : LC} {fs : List (Addr × Addr)} {ve vp : V} {H H' : Hp} {s : MS ctl}
theorem LX.nod (h : LX E H0 c fs ve vp H s) {a : Addr} {xs : List V} (ha : H a = some (.lst xs)) : ∀ x ∈ fs, x.2 ≠ a := fun x hx e => by
  obtain ⟨kvs, hk, _⟩ := h.fr.mem x hx
  rw [e, ha] at hk
  cases hk
theorem LX.ex (h : LX E H0 c fs ve vp H s) (e : Ex H H') : LX E H0 c fs ve vp H' s := by
  obtain ⟨xs, h1, h2⟩ := h.told
  obtain ⟨ys, h3, h4⟩ := h.left
  exact { h with
    base := h.base.trans e, obj := e _ _ h.obj, over := h.over.ex e, place := h.place.ex e, told := ⟨xs, e _ _ h1, h2⟩, left := ⟨ys, e _ _ h3, h4⟩, frs := e _ _ h.frs, fr := h.fr.kp (S := []) (Kp.of e) (KT.of e) fun x _ => by simp }
/-- the state's own fields -/
theorem LX.fld (h : LX E H0 c fs ve vp H s) {ve' vp' : V} {n : Nat} {ov : Option Over} {pl : Place} (ho : Im H ve' (encOver ov)) (hp : Im H vp' (encPl pl)) :
    LX E H0 c fs ve' vp' (upd H c.st (.dK (stD c ve' vp' n))) { s with steps := n, over := ov, place := pl } := by
  obtain ⟨xs, h1, h2⟩ := h.told
  obtain ⟨ys, h3, h4⟩ := h.left
  have kt : KT H (upd H c.st (.dK (stD c ve' vp' n))) := (KT.refl H).upd (nt_dK h.obj)
  have ne : ∀ {a : Addr} {zs : List V}, H a = some (.lst zs) → a ≠ c.st := fun ha z => by rw [z, h.obj] at ha; cases ha
  exact { h with
    base := h.base.mut h.news, obj := upd_same, over := ho.mono kt, place := hp.mono kt, told := ⟨xs, by rw [upd_ne (ne h1)]; exact h1, h2⟩, left := ⟨ys, by rw [upd_ne (ne h3)]; exact h3, h4⟩,
    frs := by rw [upd_ne (ne h.frs)]; exact h.frs, fr := h.fr.kp (S := [c.st]) ((Kp.refl H).mut (by simp)) kt fun x hx => by simpa using h.sd x hx }
/-- something is left -/
theorem LX.lv (h : LX E H0 c fs ve vp H s) {ys : List V} {n : Nat} (hy : ys.length ≤ 20 * n) (hn : s.log ≤ n) (hc : n ≤ 4000) : LX E H0 c fs ve vp (upd H c.ll (.lst ys)) { s with log := n } := by
  obtain ⟨xs, h1, h2⟩ := h.told
  obtain ⟨zs, h3, h4⟩ := h.left
  have kt : KT H (upd H c.ll (.lst ys)) := (KT.refl H).upd (nt_lst h3)
  have ns : c.st ≠ c.ll := fun z => by have := h.obj; rw [z, h3] at this; cases this
  exact { h with
    base := h.base.mut h.newl, obj := by rw [upd_ne ns]; exact h.obj, over := h.over.mono kt, place := h.place.mono kt, told := ⟨xs, by rw [upd_ne h.tl]; exact h1, Nat.le_trans h2 hn⟩, left := ⟨ys, upd_same, hy⟩,
    frs := by rw [upd_ne (Ne.symm h.lf)]; exact h.frs, fr := h.fr.kp (S := [c.ll]) ((Kp.refl H).mut (by simp)) kt fun x hx => by simpa using h.nod h3 x hx, cap := hc }
theorem LX.up (h : LX E H0 c fs ve vp H s) {n : Nat} (hn : s.log ≤ n) (hc : n ≤ 4000) : LX E H0 c fs ve vp H { s with log := n } := by
  obtain ⟨xs, h1, h2⟩ := h.told
  obtain ⟨zs, h3, h4⟩ := h.left
  exact { h with told := ⟨xs, h1, Nat.le_trans h2 hn⟩, left := ⟨zs, h3, Nat.le_trans h4 (Nat.mul_le_mul_left 20 hn)⟩, cap := hc }
/-- a number is told -/
theorem LX.num (h : LX E H0 c fs ve vp H s) {xs : List V} {v : V} (hx : H c.lt = some (.lst xs)) (hl : xs.length ≤ s.log) (hc : s.log + 1 ≤ 4000) : LX E H0 c fs ve vp (upd H c.lt (.lst (xs ++ [v]))) { s with log := s.log + 1 } := by
  obtain ⟨zs, h3, h4⟩ := h.left
  have kt : KT H (upd H c.lt (.lst (xs ++ [v]))) := (KT.refl H).upd (nt_lst hx)
  have ns : c.st ≠ c.lt := fun z => by have := h.obj; rw [z, hx] at this; cases this
  exact { h with
    base := h.base.mut h.newt, obj := by rw [upd_ne ns]; exact h.obj, over := h.over.mono kt, place := h.place.mono kt, told := ⟨_, upd_same, by simp; exact hl⟩, left := ⟨zs, by rw [upd_ne (Ne.symm h.tl)]; exact h3, Nat.le_trans h4 (Nat.mul_le_mul_left 20 (Nat.le_succ _))⟩,
    frs := by rw [upd_ne (Ne.symm h.tf)]; exact h.frs, fr := h.fr.kp (S := [c.lt]) ((Kp.refl H).mut (by simp)) kt fun x hx2 => by simpa using h.nod hx x hx2, cap := hc }
/-- what the frame on top holds -/
theorem LX.top {f d : Addr} {fs : List (Addr × Addr)} {y : Option Place × Unit} {rest : List (Option Place × Unit)} (h : LX E H0 c ((f, d) :: fs) ve vp H s) (hs : s.frames = y :: rest) (k : Kp [d] H H') (ht : LTh E H' d) : LX E H0 c ((f, d) :: fs) ve vp H' s ∧ KT H H' := by
  obtain ⟨xs, h1, h2⟩ := h.told
  obtain ⟨zs, h3, h4⟩ := h.left
  have hfr := h.fr
  rw [hs] at hfr
  obtain ⟨⟨vc, f1, f2, f3⟩, f4⟩ := hfr
  obtain ⟨kvs, hd, _⟩ := id f3
  have kt : KT H H' := k.kt fun b hb ys => by rw [List.mem_singleton.mp hb]; exact nt_dK hd ys
  have nd := h.nd
  rw [List.map_cons, List.nodup_cons] at nd
  have other : ∀ {b : Addr} {xs : List V}, H b = some (.lst xs) → b ∉ [d] := fun {b xs} hb z => by
    rw [List.mem_singleton.mp z, hd] at hb
    cases hb
  have hdf : H0 d = none := h.newd (f, d) (by simp)
  have hst : c.st ∉ [d] := by simpa using Ne.symm (h.sd (f, d) (by simp))
  refine ⟨{ h with
    base := fun a o e => k a o (h.base a o e) (fun z => by rw [List.mem_singleton.mp z, hdf] at e; cases e), obj := k _ _ h.obj hst, over := h.over.mono kt, place := h.place.mono kt,
    told := ⟨xs, k _ _ h1 (other h1), h2⟩, left := ⟨zs, k _ _ h3 (other h3), h4⟩, frs := k _ _ h.frs (other h.frs), fr := ?_ }, kt⟩
  rw [hs]
  exact ⟨⟨vc, kt _ _ f1, f2.mono kt, ht⟩, f4.kp k kt fun x hx z => nd.1 (by rw [← List.mem_singleton.mp z]; exact List.mem_map.mpr ⟨x, hx, rfl⟩)⟩
/-- the frame on top goes -/
theorem LX.pop {x : Addr × Addr} {fs : List (Addr × Addr)} {y : Option Place × Unit} {rest : List (Option Place × Unit)} (h : LX E H0 c (x :: fs) ve vp H s) (hs : s.frames = y :: rest) :
    LX E H0 c fs ve vp (upd H c.lf (.lst (fs.reverse.map fun x => V.ref x.1))) { s with frames := rest } := by
  obtain ⟨xs, h1, h2⟩ := h.told
  obtain ⟨zs, h3, h4⟩ := h.left
  have kt : KT H (upd H c.lf (.lst (fs.reverse.map fun x => V.ref x.1))) := (KT.refl H).upd (nt_lst h.frs)
  have hfr := h.fr
  have off := h.nod h.frs
  rw [hs] at hfr
  have nd := h.nd
  rw [List.map_cons, List.nodup_cons] at nd
  have ns : c.st ≠ c.lf := fun z => by have := h.obj; rw [z, h.frs] at this; cases this
  exact { h with
    newd := fun z hz => h.newd z (by simp [hz]), sd := fun z hz => h.sd z (by simp [hz]), base := h.base.mut h.newf, obj := by rw [upd_ne ns]; exact h.obj, over := h.over.mono kt, place := h.place.mono kt, told := ⟨xs, by rw [upd_ne h.tf]; exact h1, h2⟩,
    left := ⟨zs, by rw [upd_ne h.lf]; exact h3, h4⟩, frs := upd_same, nd := nd.2, fr := LFrs.kp (S := [c.lf]) ((Kp.refl H).mut (by simp)) kt hfr.2 fun z hz => by simpa using off z (by simp [hz]) }
/-- a frame is put on top -/
theorem LX.push {x : Addr × Addr} {y : Option Place × Unit} (h : LX E H0 c fs ve vp H s) (hx : LFr E H x y) (hn : H0 x.2 = none) (hd : x.2 ∉ fs.map (·.2)) (hsd : x.2 ≠ c.st) :
    LX E H0 c (x :: fs) ve vp (upd H c.lf (.lst ((fs.reverse.map fun x => V.ref x.1) ++ [.ref x.1]))) { s with frames := y :: s.frames } := by
  obtain ⟨xs, h1, h2⟩ := h.told
  obtain ⟨zs, h3, h4⟩ := h.left
  have kt : KT H (upd H c.lf (.lst ((fs.reverse.map fun x => V.ref x.1) ++ [.ref x.1]))) := (KT.refl H).upd (nt_lst h.frs)
  have off := h.nod h.frs
  have ns : c.st ≠ c.lf := fun z => by have := h.obj; rw [z, h.frs] at this; cases this
  have nx : x.2 ≠ c.lf := fun z => by
    obtain ⟨_, _, _, kvs, hk, _⟩ := hx
    rw [z, h.frs] at hk
    cases hk
  exact { h with
    newd := fun z hz => by
      rcases List.mem_cons.mp hz with rfl | hz
      · exact hn
      · exact h.newd z hz
    sd := fun z hz => by
      rcases List.mem_cons.mp hz with rfl | hz
      · exact hsd
      · exact h.sd z hz
    base := h.base.mut h.newf, obj := by rw [upd_ne ns]; exact h.obj, over := h.over.mono kt, place := h.place.mono kt, told := ⟨xs, by rw [upd_ne h.tf]; exact h1, h2⟩,
    left := ⟨zs, by rw [upd_ne h.lf]; exact h3, h4⟩, frs := by rw [upd_same]; simp, nd := by rw [List.map_cons]; exact List.nodup_cons.mpr ⟨hd, h.nd⟩,
    fr := ⟨hx.kp (S := [c.lf]) ((Kp.refl H).mut (by simp)) kt (by simpa using nx), h.fr.kp (S := [c.lf]) ((Kp.refl H).mut (by simp)) kt fun z hz => by simpa using off z hz⟩ }
/-- the law's interpreter stands there -/
def LAt (E : Env) (H0 : Hp) (c : LC) (H : Hp) (s : MS ctl) : Prop := ∃ fs ve vp, LX E H0 c fs ve vp H s
end
section
variable {K : PySem.W.Frag} {E : Env} {H0 : Hp} {c : LC} {fs : List (Addr × Addr)} {ve vp v : V} {H H' : Hp} {s : MS ctl} {σ : L2.St} {ta tb te tf tp : TE} {D : Ends} {tz : TS}
/-- d[k] where the dict is known -/
theorem ev_dget {a : Addr} {kvs : List (Key × V)} {k : Str} (h : Ev ta σ H (.ref a)) (ha : H a = some (.dK kvs)) (hv : valV kvs (Sum.inr k) = some v) : Ev (tDGet ta (tC (.str k))) σ H v := fun H1 e Q q =>
  h H1 e _ fun H2 e2 => ⟨a, v, rfl, by rw [← hv]; exact DGet.k (k := Sum.inr k) (e2 _ _ (e _ _ ha)), q H2 e2⟩
theorem LX.eFrs (h : LX E H0 c fs ve vp H s) (ha : Ev ta σ H (.ref c.st)) : Ev (tDGet ta (tC (.str "frames"))) σ H (.ref c.lf) := ev_dget ha h.obj (by rfl)
theorem LX.eTold (h : LX E H0 c fs ve vp H s) (ha : Ev ta σ H (.ref c.st)) : Ev (tDGet ta (tC (.str "told"))) σ H (.ref c.lt) := ev_dget ha h.obj (by rfl)
theorem LX.eLeft (h : LX E H0 c fs ve vp H s) (ha : Ev ta σ H (.ref c.st)) : Ev (tDGet ta (tC (.str "left"))) σ H (.ref c.ll) := ev_dget ha h.obj (by rfl)
theorem LX.eEnd (h : LX E H0 c fs ve vp H s) (ha : Ev ta σ H (.ref c.st)) : EvD (tDGet ta (tC (.str "end"))) σ H (encOver s.over) := evd_ev (ev_dget ha h.obj (by rfl)) h.over
theorem LX.ePlace (h : LX E H0 c fs ve vp H s) (ha : Ev ta σ H (.ref c.st)) : EvD (tDGet ta (tC (.str "place"))) σ H (encPl s.place) := evd_ev (ev_dget ha h.obj (by rfl)) h.place
theorem LX.eSteps (h : LX E H0 c fs ve vp H s) (ha : Ev ta σ H (.ref c.st)) : EvD (tDGet ta (tC (.str "steps"))) σ H (.int (s.steps : Nat)) := evd_ev (ev_dget ha h.obj (by rfl)) (.int _)
/-- state['place'] = e, state['end'] = e, state['steps'] = e -/
theorem LX.sPlace (h : LX E H0 c fs ve vp H s) (ha : ∀ H1, Ev ta σ H1 (.ref c.st)) {pl : Place} (he : EvD te σ H (encPl pl)) (k : ∀ H' vp', LX E H0 c fs ve vp' H' { s with place := pl } → KT H H' → D.nx σ H') : sDPut ta (tC (.str "place")) te D σ H := by
  refine he H (Ex.refl H) _ fun v H1 e1 iv => ha H1 H1 (Ex.refl H1) _ fun H2 e2 => ?_
  have h2 := h.ex (e1.trans e2)
  refine ⟨c.st, _, rfl, DPut.k (k := Sum.inr "place") h2.obj (sz_lt (by simp [stD])), ?_⟩
  exact k _ v (h2.fld (ve' := ve) (vp' := v) (n := s.steps) (ov := s.over) (pl := pl) h2.over (iv.ex e2)) ((KT.of (e1.trans e2)).trans ((KT.refl H2).upd (nt_dK h2.obj)))
theorem LX.sEnd (h : LX E H0 c fs ve vp H s) (ha : ∀ H1, Ev ta σ H1 (.ref c.st)) {ov : Option Over} (he : EvD te σ H (encOver ov)) (k : ∀ H' ve', LX E H0 c fs ve' vp H' { s with over := ov } → KT H H' → Kp [c.st] H H' → D.nx σ H') : sDPut ta (tC (.str "end")) te D σ H := by
  refine he H (Ex.refl H) _ fun v H1 e1 iv => ha H1 H1 (Ex.refl H1) _ fun H2 e2 => ?_
  have h2 := h.ex (e1.trans e2)
  refine ⟨c.st, _, rfl, DPut.k (k := Sum.inr "end") h2.obj (sz_lt (by simp [stD])), ?_⟩
  exact k _ v (h2.fld (ve' := v) (vp' := vp) (n := s.steps) (ov := ov) (pl := s.place) (iv.ex e2) h2.place) ((KT.of (e1.trans e2)).trans ((KT.refl H2).upd (nt_dK h2.obj))) ((Kp.of (e1.trans e2)).mut (by simp))
theorem LX.sSteps (h : LX E H0 c fs ve vp H s) (ha : ∀ H1, Ev ta σ H1 (.ref c.st)) {n : Nat} (he : EvD te σ H (.int (n : Nat))) (k : ∀ H', LX E H0 c fs ve vp H' { s with steps := n } → KT H H' → D.nx σ H') : sDPut ta (tC (.str "steps")) te D σ H := by
  refine he H (Ex.refl H) _ fun v H1 e1 iv => ha H1 H1 (Ex.refl H1) _ fun H2 e2 => ?_
  have h2 := h.ex (e1.trans e2)
  have := iv.int_
  subst this
  refine ⟨c.st, _, rfl, DPut.k (k := Sum.inr "steps") h2.obj (sz_lt (by simp [stD])), ?_⟩
  exact k _ (h2.fld (ve' := ve) (vp' := vp) (n := n) (ov := s.over) (pl := s.place) h2.over h2.place) ((KT.of (e1.trans e2)).trans ((KT.refl H2).upd (nt_dK h2.obj)))
/-- sorted(things): the boxes, in some order that is not asked -/
theorem ev_sortL {d : Addr} {Q : VK} (ok : EnvOk E) (h : Ev te σ H (.ref d)) (ht : LTh E H d) (k : ∀ a (ys : List Str) H1, H a = none → Ex H H1 → H1 a = some (.lst (ys.map V.str)) → ys.length ≤ 20 → (∀ kvs, H d = some (.dK kvs) → ∀ b ∈ ys, b ∈ E.Bs ∧ ∃ v, valV kvs (Sum.inr b) = some v) → Q (.ref a) H1) : tCB rSortD (tCons te tNil) σ H Q := by
  obtain ⟨kvs, hk, hd⟩ := ht
  refine h H (Ex.refl H) _ fun H2 e2 => ?_
  obtain ⟨ks, hks, _, hmem⟩ := lth_keys hd
  have hlen := lth_len ok.bl hd
  have l2 := congrArg List.length hks
  simp only [List.length_map] at l2
  refine ⟨d, kvs, ks, rfl, .inl (e2 _ _ hk), hks, by omega, fun ys p hp hs hn => ?_⟩
  refine k p ys _ (fresh_back e2 hn) (e2.trans (Ex.new hn)) upd_same (by rw [hp.length_eq]; omega) fun kvs' hk' b hb => ?_
  rw [hk] at hk'
  cases hk'
  exact hmem b (hp.mem_iff.mp hb)
theorem s_forS {d : Addr} {j : Nat} {tu : TS} (ok : EnvOk E) (h : Ev te σ H (.ref d)) (ht : LTh E H d) (Pv : Addr → List Str → Nat → L2.St → Hp → Prop)
    (h0 : ∀ a (ys : List Str) H1, H a = none → Ex H H1 → H1 a = some (.lst (ys.map V.str)) → ys.length ≤ 20 → (∀ kvs, H d = some (.dK kvs) → ∀ b ∈ ys, b ∈ E.Bs ∧ ∃ v, valV kvs (Sum.inr b) = some v) → Pv a ys 0 σ H1)
    (hl : ∀ a ys i σ' H', Pv a ys i σ' H' → H' a = some (.lst (ys.map V.str)))
    (hs : ∀ a ys (i : Nat) b σ' H', ys[i]? = some b → Pv a ys i σ' H' → tu { D with nx := Pv a ys (i + 1), ct := Pv a ys (i + 1), bk := D.nx } (σ'.set j (some (.str b))) H') (hd : ∀ a ys σ' H', Pv a ys ys.length σ' H' → D.nx σ' H') :
    tFor (iList K (tCB rSortD (tCons te tNil))) (gName j) tu D σ H := by
  unfold tFor iList
  refine ev_sortL ok h ht fun a ys H1 na e1 ha hyl hm => ⟨a, rfl, ⟨_, SqL.of ha⟩, for_list (K := K) (a := a) (xs := ys.map V.str) (Pv a ys) (h0 a ys H1 na e1 ha hyl hm) (fun i σ' H' _ q => SqL.of (hl a ys i σ' H' q)) ?_ fun σ' H' q => hd a ys σ' H' (by rw [List.length_map] at q; exact q)⟩
  intro i x σ' H' hi q
  rw [List.getElem?_map] at hi
  cases hb : ys[i]? with
  | none => rw [hb] at hi; cases hi
  | some b =>
    rw [hb] at hi
    obtain rfl : V.str b = x := Option.some.inj hi
    exact hs a ys i b σ' H' hb q
end
/-- _law_leave(state, place, things) -/
def spLLeave : Sp := fun vs H Q _ => ∃ E H0 c fs ve vp s v d pl, vs = [.ref c.st, v, .ref d] ∧ EnvOk E ∧ LX E H0 c fs ve vp H s ∧ Im H v (encPl pl) ∧ LTh E H d ∧ s.log + 1 ≤ 4000 ∧ d ≠ c.st ∧ ∀ H', LX E H0 c fs ve vp H' { s with log := s.log + 1 } → KT H H' → Kp [c.ll] H H' → Q .non H'
section
variable {P : Program} {w : World} {K : PySem.W.Frag} {mg : Str → Option Value} {base : Heap}
theorem sc_law_leave : FnScope ["_law_state", "_law_place_here", "_law_things_here", "_law_box_here"] ["_law_state", "_law_place_here", "_law_things_here"] (defScope s_law_leave) := ⟨rfl, rfl, rfl, by decide +kernel, rfl, by decide +kernel, by decide +kernel⟩
theorem ok_law_leave (T : Fx K mg) : C8.Cal P w K mg base 1 "_law_leave" spLLeave [] := by
  obtain ⟨fd, F⟩ := T.f_law_leave
  refine cal_of F T.g_law_leave sc_law_leave (fun _ _ _ _ _ _ us hl => match us, hl with | [_, _, _], _ => rfl) (by rintro vs H Q E ⟨_, _, _, _, _, _, _, _, _, _, rfl, _⟩; rfl) fun cdv A outer s0 H vs Q E0 hr hsp => ?_
  obtain ⟨E, H0, c, fs, ve, vp, s, v, d, pl, rfl, ok, h, iv, ht, hcap, hds, k⟩ := hsp
  have hu := hu_of hr
  refine ⟨_, (pss_one (ps_for PassesOwn.never rfl (pi_list (pe_callB (call_sortedD rfl) (by rfl) T.sorted_ boot_sorted (pa_cons (pv 2) pa_nil))) (pg_name (i := 3) sc_law_leave.nd rfl (.inl rfl))
    (pss_one (ps_if (pt_cmpR (op_neD hr.units) (pe_ix ix_tup (pe_dget hu (pv 2) (pv 3) (fun _ _ => rfl)) pe_int (fun _ _ => rfl)) (pe_tup pa_nil) (nomark _))
    (pss_one (ps_expr (pe_bm PySem.F.plainAttrs_list PySem.F.slot_list_append PySem.F.type_list_append mt_append (pe_dget hu (pv 0) pe_str (fun _ _ => rfl)) (pa_cons (pe_tup (pa_cons (pv 1) (pa_cons (pv 3) (pa_cons (pe_ix ix_tup (pe_dget hu (pv 2) (pv 3) (fun _ _ => rfl)) pe_int (fun _ _ => rfl)) pa_nil)))) pa_nil))))
    pss_nil)))), ?_⟩
  obtain ⟨kvs, hk, hth⟩ := id ht
  obtain ⟨zs, hl, hlz⟩ := h.left
  have hllne : ∀ {a : Addr}, H a = none → a ≠ c.ll := fun ha z => by rw [z, hl] at ha; cases ha
  have hdne : d ≠ c.ll := fun z => by rw [z, hl] at hk; cases hk
  have hstne : c.st ≠ c.ll := fun z => by have := h.obj; rw [z, hl] at this; cases this
  refine s_forS (K := K) (σ := [some (.ref c.st), some v, some (.ref d), none]) ok (ev_var (i := 2) rfl) ht (fun a ys i σ' H' => ∃ (x : Option V) (zs' : List V), σ' = [some (.ref c.st), some v, some (.ref d), x] ∧ H a = none ∧ H' a = some (.lst (ys.map V.str)) ∧ ys.length ≤ 20 ∧ (∀ b ∈ ys, ∃ u, valV kvs (Sum.inr b) = some u) ∧
      Kp [c.ll] H H' ∧ KT H H' ∧ LX E H0 c fs ve vp H' { s with log := s.log + 1 } ∧ H' c.ll = some (.lst zs') ∧ zs'.length ≤ zs.length + i) ?_ (fun a ys i σ' H' ⟨_, _, _, _, q, _⟩ => q) ?_ ?_
  · intro a ys H1 na e1 ha hyl hm
    exact ⟨none, zs, rfl, na, ha, hyl, fun b hb => (hm kvs hk b hb).2, Kp.of e1, KT.of e1, (h.ex e1).up (Nat.le_succ _) hcap, e1 _ _ hl, Nat.le_refl _⟩
  · rintro a ys i b σ' H' hb ⟨x, zs', rfl, na, ha, hyl, hm, kp, kt, hx, hl', hz'⟩
    obtain ⟨u, hu2⟩ := hm b (List.mem_of_getElem? hb)
    obtain ⟨n, ws, iu, hws, hwl⟩ := hth.val _ _ hu2
    have hk' := kp _ _ hk (by simpa using hdne)
    have lk : EvD (tDGet (tVar 2) (tVar 3)) [some (.ref c.st), some v, some (.ref d), some (.str b)] H' (.tuple [.int n, tstr ws]) := evd_dget (ev_var rfl) hk' (evd_var rfl (.str b)) hu2 (iu.mono kt)
    have i1 : i + 1 ≤ 20 := by have := (List.getElem?_eq_some_iff.mp hb).1; omega
    refine s_if (evt_neD (K := K) (evd_at (K := K) 1 lk rfl) (evd_tup evds_nil) (shaped_strs fun w hw => ok.wok w (hws w hw)) shaped_nil) (fun _ H2 e2 => ?_) fun _ H2 e2 => ⟨_, zs', rfl, na, e2 _ _ ha, hyl, hm, kp.trans (Kp.of e2), kt.trans (KT.of e2), hx.ex e2, e2 _ _ hl', by omega⟩
    have hx2 := hx.ex e2
    refine sd_app (ev_dget (ev_var rfl) hx2.obj (by rfl)) (e2 _ _ hl') (evd_tup (evds_cons (evd_var rfl ((iv.mono kt).ex e2)) (evds_cons (evd_var rfl (.str b)) (evds_cons (evd_at 1 (lk.mono e2) rfl) evds_nil)))) (by
      have : zs.length ≤ 20 * 4000 := Nat.le_trans hlz (Nat.mul_le_mul_left 20 (Nat.le_of_succ_le hcap))
      omega) fun v4 H3 e3 i3 => ?_
    have hx3 := hx2.ex e3
    have hl3 := e3 _ _ (e2 _ _ hl')
    have len : (zs' ++ [v4]).length ≤ zs.length + (i + 1) := by simp; omega
    refine ⟨_, zs' ++ [v4], rfl, na, ?_, hyl, hm, (kp.trans (Kp.of (e2.trans e3))).mut (by simp), (kt.trans (KT.of (e2.trans e3))).trans ((KT.refl H3).upd (nt_lst hl3)), hx3.lv ?_ (Nat.le_refl _) hcap, upd_same, len⟩
    · rw [upd_ne (hllne na)]
      exact e3 _ _ (e2 _ _ ha)
    · exact Nat.le_trans len (Nat.le_trans (Nat.add_le_add hlz i1) (Nat.le_of_eq (Nat.mul_succ 20 s.log).symm))
  · rintro a ys σ' H' ⟨x, zs', rfl, na, ha, hyl, hm, kp, kt, hx, hl', hz'⟩
    exact k H' hx kt kp
end
end K16

set_option Elab.async false
set_option linter.all false
set_option maxRecDepth 100000
set_option maxHeartbeats 4000000
/-! KLWalk1: the law's interpreter: end_def, arrive, fall -/
namespace K16
open PySem PySem.Spec PyProof.Rows L2 Evl
def spLEnd : Sp := fun vs H Q _ => ∃ E p H0 c s s' v, vs = [v, .ref c.st] ∧ EnvOk E ∧ ProgOk E p ∧ LP p ∧ LAt E H0 c H s ∧ Im H v (encProg p) ∧ goBack p s = some s' ∧ ∀ H', LAt E H0 c H' s' → KT H H' → Q .non H'
def spLArrive : Sp := fun vs H Q _ => ∃ E p H0 c s s' v u pl, vs = [v, .ref c.st, u] ∧ EnvOk E ∧ ProgOk E p ∧ LP p ∧ LAt E H0 c H s ∧ Im H v (encProg p) ∧ Im H u (encPl pl) ∧ comeTo p s pl = some s' ∧ ∀ H', LAt E H0 c H' s' → KT H H' → Q .non H'
def spLFall : Sp := fun vs H Q _ => ∃ E H0 c s s' f, vs = [.ref c.st, .str f] ∧ EnvOk E ∧ LAt E H0 c H s ∧ fall s f = some s' ∧ ∀ H', LAt E H0 c H' s' → KT H H' → Q .non H'
section
variable {K : PySem.W.Frag} {E : Env} {H0 : Hp} {c : LC} {fs : List (Addr × Addr)} {ve vp v : V} {H H' : Hp} {s : MS ctl} {σ : L2.St} {ta tb te tf tp : TE} {D : Ends} {tz : TS}
/-- the first of a new list -/
theorem evd_ixL0 {ds : List PyData} {d : PyData} (h : EvLD te σ H ds) (hd : ds[0]? = some d) {i : Int} (hi : i = ((0 : Nat) : Int) := by rfl) : EvD (tOp (rIxL K) te (tC (.int i))) σ H d := fun H1 e Q q =>
  h H1 e _ fun p vs H2 _ e2 hp iv => by
    obtain ⟨u, hu, iu⟩ := iv.get hd
    exact ⟨p, vs, i, u, rfl, rfl, SqL.of hp, by rw [hi]; exact atI_nat hu, q u H2 e2 iu⟩
/-- the def of a name, as the law finds it -/
def isDef (d : Str) : PyData → Option PyData
  | .tuple (.str n :: r) => if n = d then some (.tuple (.str n :: r)) else none
  | _ => none
theorem defs_head {ds : List K16.Def} {d : Str} {D : K16.Def} (h : ds.find? (fun D => decide (D.name = d)) = some D) : ((ds.map encDef).filterMap (isDef d))[0]? = some (encDef D) := by
  induction ds with
  | nil => cases h
  | cons D' ds ih =>
    rw [List.find?_cons] at h
    rw [List.map_cons, List.filterMap_cons]
    by_cases e : D'.name = d
    · simp only [e, decide_true] at h
      cases h
      have : isDef d (encDef D) = some (encDef D) := if_pos e
      rw [this]
      rfl
    · simp only [e, decide_false] at h
      have : isDef d (encDef D') = none := if_neg e
      rw [this]
      exact ih h
/-- [one for one in program[0] if one[0] == d][0] -/
theorem evd_defs {p : Prog} {d : Str} {D : K16.Def} {tl te : TE} {j : Nat} (hD : defOf p d = some D) (hl : EvD tl σ H (.tuple (p.defs.map encDef))) (h20 : p.defs.length ≤ 100) (hd : ∀ H1 v, Ex H H1 → EvD te ((wipe σ [j]).set j (some v)) H1 (.str d)) (hj : ∀ v, ((wipe σ [j]).set j (some v))[j]? = some (some v)) :
    EvD (tOp (rIxL K) (tLc (iTup K tl) (gName j) (tTest (tOp rEq (tOp (rIxT K) (tVar j) (tC (.int 0))) te)) (tVar j) [j]) (tC (.int 0))) σ H (encDef D) := by
  refine evd_ixL0 (evl_lcT (j := j) (isDef d) hl (by rw [List.length_map]; omega) (fun i dd v H1 hi e1 iv => ?_) fun i dd v H1 e hi e1 iv he => ?_) (defs_head hD)
  · obtain ⟨D0, _, rfl⟩ := List.mem_map.mp (List.mem_of_getElem? hi)
    refine et_is (evt_eq (evd_at (K := K) (d := .str D0.name) 0 (evd_var (hj v) iv) rfl) (hd H1 v e1) rfl) ?_
    show decide (D0.name = d) = (if D0.name = d then _ else none).isSome
    by_cases e : D0.name = d
    · rw [if_pos e, decide_eq_true e]; rfl
    · rw [if_neg e, decide_eq_false e]; rfl
  · obtain ⟨D0, _, rfl⟩ := List.mem_map.mp (List.mem_of_getElem? hi)
    have he : (if D0.name = d then some (encDef D0) else none) = some e := he
    split at he
    · cases he; exact evd_var (hj v) iv
    · cases he
/-- _law_leave, called -/
theorem LX.sLeave (h : LX E H0 c fs ve vp H s) (ok : EnvOk E) {d : Addr} {pl : Place} (ha : Ev ta σ H (.ref c.st)) (hp : EvD tp σ H (encPl pl)) (hd : Ev te σ H (.ref d)) (ht : LTh E H d) (hcap : s.log + 1 ≤ 4000) (hne : d ≠ c.st)
    (k : ∀ H', LX E H0 c fs ve vp H' { s with log := s.log + 1 } → KT H H' → Kp [c.ll] H H' → D.nx σ H') : tDrop (tCall spLLeave [] C8.E0 (tCons ta (tCons tp (tCons te tNil)))) D σ H := by
  refine ha H (Ex.refl H) _ fun H1 e1 => hp H1 e1 _ fun v H2 e2 iv => hd H2 (e1.trans e2) _ fun H3 e3 => ?_
  have e13 := (e1.trans e2).trans e3
  exact ⟨E, H0, c, fs, ve, vp, s, v, d, pl, rfl, ok, h.ex e13, iv.ex e3, ht.ex e13, hcap, hne, fun H' r kt kp => k H' r ((KT.of e13).trans kt) ((Kp.of e13).trans kp)⟩
theorem full_chk {n m : Nat} (h : chk n = some m) : n ≤ 4000 ∧ m = n := ⟨(chk_some h).2, (chk_some h).1⟩
/-- what does not touch the dict d, which is no part of the state any more -/
theorem LX.off (h : LX E H0 c fs ve vp H s) {d : Addr} {kvs : List (Key × V)} (hd : H d = some (.dK kvs)) (h0 : H0 d = none) (hst : d ≠ c.st) (hf : ∀ x ∈ fs, x.2 ≠ d) (k : Kp [d] H H') : LX E H0 c fs ve vp H' s ∧ KT H H' := by
  obtain ⟨xs, h1, h2⟩ := h.told
  obtain ⟨zs, h3, h4⟩ := h.left
  have kt : KT H H' := k.kt fun b hb ys => by rw [List.mem_singleton.mp hb]; exact nt_dK hd ys
  have other : ∀ {b : Addr} {xs : List V}, H b = some (.lst xs) → b ∉ [d] := fun {b xs} hb z => by
    rw [List.mem_singleton.mp z, hd] at hb
    cases hb
  exact ⟨{ h with
    base := ex_kp h.base k h0, obj := k _ _ h.obj (by simpa using Ne.symm hst), over := h.over.mono kt, place := h.place.mono kt, told := ⟨xs, k _ _ h1 (other h1), h2⟩, left := ⟨zs, k _ _ h3 (other h3), h4⟩, frs := k _ _ h.frs (other h.frs),
    fr := h.fr.kp k kt fun x hx => by simpa using hf x hx }, kt⟩
end
section
variable {P : Program} {w : World} {K : PySem.W.Frag} {mg : Str → Option Value} {base : Heap}
theorem sc_law_end_def : FnScope ["_law_program_here", "_law_state", "_law_called", "_law_things_here", "_law_word_here", "_law_results", "_law_handed", "_law_box_here", "_law_thing", "_law_one"] ["_law_program_here", "_law_state"] (defScope s_law_end_def) := ⟨rfl, rfl, rfl, by decide +kernel, rfl, by decide +kernel, by decide +kernel⟩
theorem ok_law_end_def (T : Fx K mg) : C8.Cal P w K mg base 12 "_law_end_def" spLEnd [] := by
  obtain ⟨fd, F⟩ := T.f_law_end_def
  have c_law_leave := ok_law_leave (P := P) (w := w) (base := base) T
  have c_law_word := ok_law_word (P := P) (w := w) (base := base) T
  have c_law_after := ok_law_after (P := P) (w := w) (base := base) T 8
  refine cal_of F T.g_law_end_def sc_law_end_def (fun _ _ _ _ _ _ us hl => match us, hl with | [_, _], _ => rfl) (by rintro vs H Q E ⟨_, _, _, _, _, _, _, rfl, _⟩; rfl) fun cdv A outer s0 H vs Q E0 hr hsp => ?_
  obtain ⟨E, p, H0, c, s, s', v, rfl, ok, pok, lp, ⟨fs, ve, vp, h⟩, iv, hop, k⟩ := hsp
  have hu := hu_of hr
  refine ⟨_, (pss_cons (ps_asg (pe_bm0 PySem.F.plainAttrs_list PySem.F.slot_list_pop PySem.F.type_list_pop mt_pop (pe_dget hu (pv 1) pe_str (fun _ _ => rfl))) (pg_tup rfl (pgs_cons (pg_name (i := 2) sc_law_end_def.nd rfl (.inl rfl)) (pgs_cons (pg_name (i := 3) sc_law_end_def.nd rfl (.inr rfl)) pgs_nil))))
    (pss_cons (ps_if (pt_cmpR (op_eqNil hr.units0) (pe_dget hu (pv 1) pe_str (fun _ _ => rfl)) (pe_lst pa_nil) (nomark _))
    (pss_cons (ps_dput hu (pv 1) pe_str (pe_tup (pa_cons pe_str pa_nil)) rfl)
    (pss_cons (ps_expr (C8.pe_c c_law_leave hr (by omega) rfl (pa_cons (pv 1) (pa_cons (pe_dget hu (pv 1) pe_str (fun _ _ => rfl)) (pa_cons (pv 3) pa_nil)))))
    (pss_one ps_retN)))
    pss_nil)
    (pss_cons (ps_set (i := 4) sc_law_end_def.nd rfl (.inr rfl) (C8.pe_c c_law_word hr (by omega) rfl (pa_cons (pv 0) (pa_cons (pv 2) pa_nil))))
    (pss_cons (ps_set (i := 5) sc_law_end_def.nd rfl (.inl rfl) (pe_ix ix_tup (pe_ix ix_list (pe_lc (own := [("_law_one", 9)]) rfl sc_law_end_def.nd (pi_tup (pe_ix ix_tup (pv 0) pe_int (fun _ _ => rfl))) (blkOk_by (own := [("_law_one", 9)]) (N := ["_law_program_here", "_law_state", "_law_called", "_law_things_here", "_law_word_here", "_law_results", "_law_handed", "_law_box_here", "_law_thing", "_law_one"]) (sc := defScope s_law_end_def) (by decide +kernel)) (fun _ _ _ _ _ => pg_name (i := 9) sc_law_end_def.nd rfl (.inl rfl)) (fun _ _ _ _ _ => by exact pts_one (pt_cmpR op_eq (pe_ix (ix_tupK K) (pv 9) pe_int (fun _ _ => rfl)) (pe_ix (ix_tupK K) (pv 4) pe_int (fun _ _ => rfl)) (nomark _))) (fun _ _ _ _ _ => by exact (pv 9))) pe_int (fun _ _ => rfl)) pe_int (fun _ _ => rfl)))
    (pss_cons (ps_setLc (i := 6) (own := [("_law_box_here", 7)]) rfl sc_law_end_def.nd rfl rfl (sw_true rfl rfl rfl (by decide +kernel)) (pi_tup (pv 5)) (blkOk_by (own := [("_law_box_here", 7)]) (N := ["_law_program_here", "_law_state", "_law_called", "_law_things_here", "_law_word_here", "_law_results", "_law_handed", "_law_box_here", "_law_thing", "_law_one"]) (sc := defScope s_law_end_def) (by decide +kernel)) (fun _ _ _ _ _ => pg_name (i := 7) sc_law_end_def.nd rfl (.inl rfl)) (fun _ _ _ _ _ => pts_nil) (fun _ _ _ _ _ => by exact (pe_dpop2 (pv 3) (pv 7) (pe_tup (pa_cons pe_int (pa_cons (pe_tup pa_nil) pa_nil))) ⟨rfl, rfl, rfl, rfl⟩)))
    (pss_cons (ps_expr (C8.pe_c c_law_leave hr (by omega) rfl (pa_cons (pv 1) (pa_cons (pe_dget hu (pv 1) pe_str (fun _ _ => rfl)) (pa_cons (pv 3) pa_nil)))))
    (pss_cons (ps_for PassesOwn.never rfl (pi_zipM (by rfl) T.zip_ (pa_cons (pe_ix ix_tup (pv 4) pe_int (fun _ _ => rfl)) (pa_cons (pv 6) pa_nil))) (pg_tup rfl (pgs_cons (pg_name (i := 7) sc_law_end_def.nd rfl (.inl rfl)) (pgs_cons (pg_name (i := 8) sc_law_end_def.nd rfl (.inl rfl)) pgs_nil)))
    (pss_one (ps_dput hu (pe_ix ix_tup (pe_ix ix_list (pe_dget hu (pv 1) pe_str (fun _ _ => rfl)) (pe_un un_neg pe_int) (fun _ _ => rfl)) pe_int (fun _ _ => rfl)) (pv 7) (pv 8) rfl)))
    (pss_one (ps_dput hu (pv 1) pe_str (C8.pe_c c_law_after hr (by omega) rfl (pa_cons (pv 0) (pa_cons (pv 2) pa_nil))) rfl))))))))), ?_⟩
  have st : ∀ {σ : L2.St} {H1 : Hp}, σ[1]? = some (some (.ref c.st)) → Ev (tVar 1) σ H1 (.ref c.st) := fun h => ev_var h
  have pr : ∀ {σ : L2.St} {H1 : Hp}, σ[0]? = some (some v) → KT H H1 → EvD (tVar 0) σ H1 (encProg p) := fun h kt => evd_var h (iv.mono kt)
  unfold goBack at hop
  cases hfr : s.frames with
  | nil => rw [hfr] at hop; cases hop
  | cons y rest =>
  obtain ⟨cp, ⟨⟩⟩ := y
  have hfa := h.fr
  rw [hfr] at hfa hop
  cases fs with
  | nil => exact hfa.elim
  | cons x fs' =>
  obtain ⟨f, d⟩ := x
  obtain ⟨⟨vc, f1, f2, f3⟩, f4⟩ := hfa
  -- called, things = state['frames'].pop()
  refine (h.eFrs (σ := [some v, some (.ref c.st), none, none, none, none, none, none, none, none]) (st rfl)) H (Ex.refl H) _ fun H1 e1 => ?_
  have h1 := h.ex e1
  refine ⟨.inl ⟨rfl, _, sq_of h1.frs⟩, c.lf, _, .ref f, rfl, rfl, h1.frs, by simp, ?_⟩
  have hd : ((((f, d) :: fs').reverse.map fun x => V.ref x.1)).dropLast = fs'.reverse.map fun x => V.ref x.1 := by simp
  rw [hd]
  have h2 := h1.pop hfr
  have kt2 : KT H (upd H1 c.lf (.lst (fs'.reverse.map fun x => V.ref x.1))) := (KT.of e1).trans ((KT.refl H1).upd (nt_lst h1.frs))
  have kp2 : Kp [c.lf] H (upd H1 c.lf (.lst (fs'.reverse.map fun x => V.ref x.1))) := (Kp.of e1).mut (by simp)
  have doff := h.nod h.frs (f, d) (by simp)
  have g1 : (upd H1 c.lf (.lst (fs'.reverse.map fun x => V.ref x.1))) f = some (.tup [vc, .ref d]) := kt2 _ _ f1
  have g2 := f2.mono kt2
  have g3 : LTh E (upd H1 c.lf (.lst (fs'.reverse.map fun x => V.ref x.1))) d := f3.mono kt2 fun o e => kp2 _ o e (by simpa using doff)
  have hd0 : H0 d = none := h.newd (f, d) (by simp)
  have hds : d ≠ c.st := h.sd (f, d) (by simp)
  have hdo : ∀ x ∈ fs', x.2 ≠ d := fun x hx e => by
    have := h.nd
    rw [List.map_cons, List.nodup_cons] at this
    exact this.1 (List.mem_map.mpr ⟨x, hx, e⟩)
  generalize upd H1 c.lf (.lst (fs'.reverse.map fun x => V.ref x.1)) = H2 at h2 kt2 kp2 g1 g2 g3
  clear kp2 f1 f2 f3 f4 doff hd h1 e1 H1
  refine g_two g1 ?_
  have tst := evt_eqNil (σ := [some v, some (.ref c.st), some vc, some (.ref d), none, none, none, none, none, none]) (h2.eFrs (st rfl)) h2.frs
  cases rest with
  | nil =>
    obtain ⟨l, hl, rfl⟩ := Option.map_eq_some_iff.mp hop
    obtain ⟨hcap, rfl⟩ := full_chk hl
    cases fs' with
    | cons _ _ => exact h2.fr.elim
    | nil =>
    refine q_yes tst fun H3 e3 => ?_
    have h3 := h2.ex e3
    refine h3.sEnd (fun _ => st rfl) (ov := some .ended) (evd_tup (evds_cons evd_str evds_nil)) fun H4 ve' h4 kt4 kp4 => ?_
    refine q_seq (h4.sLeave ok (st rfl) (h4.ePlace (st rfl)) (ev_var (i := 3) rfl) (g3.mono ((KT.of e3).trans kt4) fun o e => kp4 _ o (e3 _ _ e) (by simpa using hds)) hcap hds fun H5 h5 kt5 kp5 => ?_)
    · exact k H5 ⟨_, _, _, h5⟩ (((kt2.trans (KT.of e3)).trans kt4).trans kt5)
  | cons y2 rest' =>
    obtain ⟨cp', ⟨⟩⟩ := y2
    cases cp with
    | none => cases hop
    | some cpl =>
    cases fs' with
    | nil => exact h2.fr.elim
    | cons x2 fs2 =>
    obtain ⟨f', d'⟩ := x2
    refine q_no (evt_no tst (by simp)) fun H3 e3 => ?_
    have h3 := h2.ex e3
    dsimp only at hop
    cases hw : wordAt p cpl with
    | none => rw [hw] at hop; cases hop
    | some ow =>
    cases ow with
    | none => rw [hw] at hop; cases hop
    | some wd =>
    rw [hw] at hop
    cases wd with
    | call dn args gets =>
      dsimp only at hop
      obtain ⟨D0, hD, hop⟩ := Option.bind_eq_some_iff.mp hop
      obtain ⟨⟨⟨⟩, l2⟩, hhome, hop⟩ := Option.bind_eq_some_iff.mp hop
      obtain ⟨pl2, hbe, rfl⟩ := Option.map_eq_some_iff.mp hop
      obtain ⟨l3, hl3, e9⟩ := Option.map_eq_some_iff.mp hhome
      obtain ⟨hcap, rfl⟩ := full_chk hl3
      cases e9
      obtain ⟨D1, hD1, _, hlen, _, sg, _, sr⟩ := call_def pok hw
      rw [hD] at hD1
      cases hD1
      have be8 := lp.ok.behind hbe
      have ic := g2.ex e3
      -- word = _law_word(program, called)
      refine qd_set (d := encW (.call dn args gets)) (evd_call (evds_cons (pr rfl (kt2.trans (KT.of e3))) (evds_cons (evd_var (i := 2) rfl ic) evds_nil)) ⟨p, cpl, _, rfl, lp, hw, rfl⟩) fun vw H4 e4 iw => ?_
      have h4 := h3.ex e4
      have kt4 := kt2.trans (KT.of (e3.trans e4))
      -- results
      refine qd_set (d := tstr D0.results) (evd_at 2 (evd_defs (j := 9) hD (evd_at 0 (pr rfl kt4) rfl) (by have := pok.few; omega) (fun H5 u e5 => evd_at (d := .str dn) 1 (evd_var (i := 4) rfl (iw.ex e5)) (by simp only [tlD]; rfl)) (fun u => rfl)) rfl) fun vr H5 e5 ir => ?_
      have h5 := h4.ex e5
      have g5 := g3.ex ((e3.trans e4).trans e5)
      obtain ⟨lr, xr, rfl, hlr, ixr⟩ := ir.tup_
      have := ixr.strs_
      subst this
      obtain ⟨kvs5, hd5, hth5⟩ := id g5
      -- handed = [things.pop(box, (0, ())) for box in results]
      refine ⟨.ref lr, rfl, lr, rfl, ⟨_, SqT.of hlr⟩, fun Dl hDl => lc_tup (K := K) (a := lr) (xs := D0.results.map V.str) (fun i H' => Kp [d] H5 H' ∧ LTh E H' d ∧ ∃ acc, H' Dl = some (.lst acc) ∧ acc.length = i ∧ ∀ u ∈ acc, LVal E H' u) ⟨Kp.of (Ex.new hDl), g5.ex (Ex.new hDl), [], upd_same, rfl, fun u hu => by cases hu⟩ (fun i H' _ q => SqT.of (q.1 _ _ hlr (by
        simp only [List.mem_singleton]
        intro z
        rw [z, hd5] at hlr
        cases hlr))) ?_ ?_⟩
      · rintro i x H' hi ⟨kp, ht, acc, hacc, hal, hav⟩
        rw [List.getElem?_map] at hi
        cases hri : D0.results[i]? with
        | none => rw [hri] at hi; cases hi
        | some rb =>
        rw [hri] at hi
        obtain rfl : V.str rb = x := Option.some.inj hi
        refine ⟨rfl, ?_⟩
        unfold tYes
        dsimp only
        rw [if_pos rfl]
        obtain ⟨kvs, hk, hth⟩ := ht
        have dne : Dl ≠ d := fun z => by rw [z, hd5] at hDl; cases hDl
        refine ⟨.ref d, rfl, d, rfl, .inl ⟨kvs, .inl hk⟩, .str rb, rfl, ?_⟩
        refine (evd_tup (evds_cons evd_int (evds_cons (evd_tup evds_nil) evds_nil)) : EvD (tTup (tCons (tC (.int 0)) (tCons (tTup tNil) tNil))) _ H' (.tuple [.int 0, .tuple []])) H' (Ex.refl H') _ fun z H6 e6 iz => ?_
        have hi20 : D0.results.length ≤ 20 := sr.2
        have hil : i < D0.results.length := (List.getElem?_eq_some_iff.mp hri).1
        refine ⟨kvs, Sum.inr rb, e6 _ _ hk, rfl, fun u hu => ?_, fun hn => ?_⟩
        · have ktu : KT H6 (upd H6 d (.dK (dropK kvs (Sum.inr rb)))) := (KT.refl H6).upd (nt_dK (e6 _ _ hk))
          have hacc' : (upd H6 d (.dK (dropK kvs (Sum.inr rb)))) Dl = some (.lst acc) := by rw [upd_ne dne]; exact e6 _ _ hacc
          have ktl := (KT.refl (upd H6 d (.dK (dropK kvs (Sum.inr rb))))).upd (p := Dl) (o := .lst (acc ++ [u])) (nt_lst hacc')
          refine ⟨acc, hacc', sz_lt (by omega), ?_, ?_, acc ++ [u], upd_same, by simp [hal], fun q hq => ?_⟩
          · intro b o hb hnb
            have := kp b o hb hnb
            rw [upd_ne (fun z => by rw [z, hDl] at hb; cases hb), upd_ne (by simpa using hnb)]
            exact e6 _ _ this
          · exact ⟨_, by rw [upd_ne (Ne.symm dne)]; exact upd_same, ((lth_drop hth _).mono ((KT.of e6).trans (ktu.trans ktl)))⟩
          · have kA := (KT.of e6).trans (ktu.trans ktl)
            rcases List.mem_append.mp hq with hq | hq
            · exact (hav q hq).mono kA
            · rw [List.mem_singleton.mp hq]
              exact LVal.mono kA (hth.val _ _ hu)
        · have hacc' := e6 _ _ hacc
          have ktl := (KT.refl H6).upd (p := Dl) (o := .lst (acc ++ [z])) (nt_lst hacc')
          refine ⟨acc, hacc', sz_lt (by omega), ?_, ?_, acc ++ [z], upd_same, by simp [hal], fun q hq => ?_⟩
          · intro b o hb hnb
            rw [upd_ne (fun z => by rw [z, hDl] at hb; cases hb)]
            exact e6 _ _ (kp b o hb hnb)
          · exact ⟨kvs, by rw [upd_ne (Ne.symm dne)]; exact e6 _ _ hk, hth.mono ((KT.of e6).trans ktl)⟩
          · rcases List.mem_append.mp hq with hq | hq
            · exact (hav q hq).mono ((KT.of e6).trans ktl)
            · rw [List.mem_singleton.mp hq]
              exact ⟨0, [], iz.mono ktl, fun w hw => (by cases hw), by simp⟩
      · rintro H6 ⟨kp6, ht6, acc, hacc, hal, hav⟩
        rw [List.length_map] at hal
        obtain ⟨h6, kt6⟩ := h5.off hd5 hd0 hds hdo kp6
        -- leave
        refine q_seq (h6.sLeave ok (st rfl) (h6.ePlace (st rfl)) (ev_var (i := 3) rfl) ht6 hcap hds fun H7 h7 kt7 kp7 => ?_)
        obtain ⟨zs6, hl6, _⟩ := h6.left
        have accne : Dl ≠ c.ll := fun z => by
          obtain ⟨zs5, hl5, _⟩ := h5.left
          rw [z, hl5] at hDl
          cases hDl
        have hacc7 : H7 Dl = some (.lst acc) := kp7 _ _ hacc (by simpa using accne)
        have kt57 := kt6.trans kt7
        have iw7 := (iw.ex e5).mono kt57
        -- for box, thing in zip(word[3], handed)
        refine (evd_at (K := K) (d := tstr gets) 3 (evd_var (i := 4) (σ := [some v, some (.ref c.st), some vc, some (.ref d), some vw, some (.ref lr), some (.ref Dl), none, none, none]) rfl iw7) (by simp only [tlD]; rfl)) H7 (Ex.refl H7) _ fun vg H9 e9 ig => ?_
        obtain ⟨lg, xg, rfl, hlg9, ixg⟩ := ig.tup_
        have := ixg.strs_
        subst this
        refine ⟨_, rfl, lg, Dl, gets.map V.str, acc, rfl, hlg9, e9 _ _ hacc7, ?_⟩
        have h9 := h7.ex e9
        refine for_zipM (by rw [List.length_map, hal, hlen]) (fun i σ' H' => ∃ (x y : Option V), σ' = [some v, some (.ref c.st), some vc, some (.ref d), some vw, some (.ref lr), some (.ref Dl), x, y, none] ∧ H' lg = some (.tup (gets.map V.str)) ∧ H' Dl = some (.lst acc) ∧ (∀ u ∈ acc, LVal E H' u) ∧ KT H9 H' ∧
            LX E H0 c ((f', d') :: fs2) ve vp H' { s with log := s.log + 1, frames := (cp', ()) :: rest' })
          ⟨none, none, rfl, hlg9, e9 _ _ hacc7, fun u hu => (hav u hu).mono (kt7.trans (KT.of e9)), KT.refl H9, h9⟩ (fun i σ' H' ⟨x, y, _, a, b, _⟩ => ⟨a, b⟩) ?_ ?_
        · rintro i vb vt q σ' H' hvb hvt ⟨x, y, rfl, a, b, av, kt', h'⟩ hq
          have eX : Ex H' (upd H' q (.tup [vb, vt])) := Ex.new hq
          refine g_two upd_same ?_
          rw [List.getElem?_map] at hvb
          cases hgi : gets[i]? with
          | none => rw [hgi] at hvb; cases hvb
          | some b1 =>
          rw [hgi] at hvb
          obtain rfl : V.str b1 = vb := Option.some.inj hvb
          have h'' := h'.ex eX
          obtain ⟨⟨vc2, w1, w2, kvs2, hk2, hth2⟩, w4⟩ := h''.fr
          refine ⟨vt, rfl, ?_⟩
          refine (h''.eFrs (σ := [some v, some (.ref c.st), some vc, some (.ref d), some vw, some (.ref lr), some (.ref Dl), some (.str b1), some vt, none]) (st rfl)) _ (Ex.refl _) _ fun H10 e10 => ⟨1, rfl, c.lf, _, -1, .ref f', rfl, rfl, sq_of (e10 _ _ h''.frs), by simp only [List.reverse_cons, List.map_append]; exact atI_last _ _, f', _, 1, .ref d', rfl, rfl, SqT.of (e10 _ _ w1), atI_nat (j := 1) rfl, .str b1, rfl, d', _, rfl, DPut.k (k := Sum.inr b1) (e10 _ _ hk2) (sz_lt (by have := lth_len ok.bl hth2; omega)), ?_⟩
          have h10 := h''.ex e10
          have lv := ((av vt (List.mem_of_getElem? hvt)).mono (KT.of (eX.trans e10)))
          have ktu : KT H10 (upd H10 d' (.dK (putK kvs2 (Sum.inr b1) vt))) := (KT.refl H10).upd (nt_dK (e10 _ _ hk2))
          obtain ⟨h11, kt11⟩ := h10.top rfl (H' := upd H10 d' (.dK (putK kvs2 (Sum.inr b1) vt))) ((Kp.refl H10).mut (by simp)) ⟨_, upd_same, (lth_put (hth2.mono (KT.of e10)) (sg.1 b1 (List.mem_of_getElem? hgi)) lv).mono ktu⟩
          have kA := (KT.of (eX.trans e10)).trans ktu
          refine ⟨_, _, rfl, kA _ _ a, ?_, fun u hu => (av u hu).mono kA, kt'.trans kA, h11⟩
          rw [upd_ne (fun z => by
            have := e10 _ _ (eX _ _ b)
            rw [z, e10 _ _ hk2] at this
            cases this)]
          exact e10 _ _ (eX _ _ b)
        · rintro σ' H' ⟨x, y, rfl, a, b, av, kt', h'⟩
          have ktA := (((KT.of ((e4.trans e5))).trans kt57).trans (KT.of e9)).trans kt'
          have ktB := (kt2.trans (KT.of e3)).trans ktA
          refine h'.sPlace (fun _ => st rfl) (pl := pl2) (evd_call (evds_cons (pr rfl ktB) (evds_cons (evd_var (i := 2) rfl (ic.mono ktA)) evds_nil)) ⟨p, cpl, pl2, rfl, lp, hbe, be8, by omega, rfl⟩) fun H11 vp' h11 kt11 => ?_
          exact k H11 ⟨_, _, _, h11⟩ (ktB.trans kt11)
    | _ => cases hop
end
end K16

set_option Elab.async false
set_option linter.all false
set_option maxRecDepth 100000
set_option maxHeartbeats 4000000
/-! KLWalk2: the law's interpreter: arrive, fall, wanted -/
namespace K16
open PySem PySem.Spec PyProof.Rows L2 Evl
def spLWanted : Sp := fun vs H Q _ => ∃ E p H0 c s v w, vs = [v, .ref c.st] ∧ LP p ∧ LAt E H0 c H s ∧ Im H v (encProg p) ∧ wordAt p s.place = some (some w) ∧ ∀ H', Ex H H' → Q (.int ((need w).getD 0 : Nat)) H'
section
variable {P : Program} {w : World} {K : PySem.W.Frag} {mg : Str → Option Value} {base : Heap}
theorem sc_law_arrive : FnScope ["_law_program_here", "_law_state", "_law_place_here"] ["_law_program_here", "_law_state", "_law_place_here"] (defScope s_law_arrive) := ⟨rfl, rfl, rfl, by decide +kernel, rfl, by decide +kernel, by decide +kernel⟩
theorem ok_law_arrive (T : Fx K mg) : C8.Cal P w K mg base 13 "_law_arrive" spLArrive [] := by
  obtain ⟨fd, F⟩ := T.f_law_arrive
  have c_law_word := ok_law_word (P := P) (w := w) (base := base) T
  have c_law_end_def := ok_law_end_def (P := P) (w := w) (base := base) T
  refine cal_of F T.g_law_arrive sc_law_arrive (fun _ _ _ _ _ _ us hl => match us, hl with | [_, _, _], _ => rfl) (by rintro vs H Q E ⟨_, _, _, _, _, _, _, _, _, rfl, _⟩; rfl) fun cdv A outer s0 H vs Q E0 hr hsp => ?_
  obtain ⟨E, p, H0, c, s, s', v, u, pl, rfl, ok, pok, lp, ⟨fs, ve, vp, h⟩, iv, iu, hop, k⟩ := hsp
  have hu := hu_of hr
  refine ⟨_, (pss_cons (ps_dput hu (pv 1) pe_str (pv 2) rfl)
    (pss_one (ps_while PassesOwn.never (PW.pt (pw_and (pt_cmpR op_isN (pe_dget hu (pv 1) pe_str (fun _ _ => rfl)) pe_non (nomark _)) (pw_and1 (pt_cmpR op_isN (C8.pe_c c_law_word hr (by omega) rfl (pa_cons (pv 0) (pa_cons (pe_dget hu (pv 1) pe_str (fun _ _ => rfl)) pa_nil))) pe_non (nomark _)))))
    (pss_one (ps_expr (C8.pe_c c_law_end_def hr (by omega) rfl (pa_cons (pv 0) (pa_cons (pv 1) pa_nil)))))))), ?_⟩
  have st : ∀ {H1 : Hp}, Ev (tVar 1) [some v, some (.ref c.st), some u] H1 (.ref c.st) := ev_var rfl
  refine q_seq (h.sPlace (fun _ => st) (pl := pl) (evd_var rfl iu) fun H1 vp1 h1 kt1 => ?_)
  refine s_while (fun m σ' H' => σ' = [some v, some (.ref c.st), some u] ∧ ∃ s2, LAt E H0 c H' s2 ∧ settle p m s2 = some s' ∧ KT H H') (s.frames.length + 1) ⟨rfl, _, ⟨_, _, _, h1⟩, hop, kt1⟩ ?_
  rintro m σ' H' ⟨rfl, s2, ⟨fs2, ve2, vp2, h2⟩, hset, kt2⟩
  cases m with
  | zero => cases hset
  | succ m =>
  unfold settle at hset
  cases hov : s2.over with
  | some o =>
    rw [hov] at hset
    cases hset
    have o1 := et_is (b := false) (evt_none (h2.eEnd st)) (by rw [hov]; cases o <;> rfl)
    exact ⟨false, et_is (et_and (b := false) o1 (fun z => nomatch z)) rfl, (fun z => nomatch z), fun _ H3 e3 => k H3 ⟨_, _, _, h2.ex e3⟩ (kt2.trans (KT.of e3))⟩
  | none =>
    rw [hov] at hset
    have o1 := et_is (b := true) (evt_none (h2.eEnd st)) (by rw [hov]; rfl)
    cases hwa : wordAt p s2.place with
    | none => rw [hwa] at hset; cases hset
    | some o =>
    rw [hwa] at hset
    have o2 : EvD (tCall (spD fLWord) [] C8.E0 (tCons (tVar 0) (tCons (tDGet (tVar 1) (tC (.str "place"))) tNil))) [some v, some (.ref c.st), some u] H' (encOW o) := evd_call (evds_cons (evd_var rfl (iv.mono kt2)) (evds_cons (h2.ePlace st) evds_nil)) ⟨p, s2.place, o, rfl, lp, hwa, rfl⟩
    cases o with
    | some wd =>
      cases hset
      exact ⟨false, evt_is (et_and (b := false) o1 fun _ => evt_none o2) rfl, (fun z => nomatch z), fun _ H3 e3 => k H3 ⟨_, _, _, h2.ex e3⟩ (kt2.trans (KT.of e3))⟩
    | none =>
      have hset : (goBack p s2).bind (settle p m) = some s' := hset
      obtain ⟨s3, hg, hset⟩ := Option.bind_eq_some_iff.mp hset
      refine ⟨true, evt_is (et_and (b := true) o1 fun _ => evt_none o2) rfl, fun _ H3 e3 => ⟨fun σ4 H4 => σ4 = [some v, some (.ref c.st), some u] ∧ ∃ s2, LAt E H0 c H4 s2 ∧ settle p m s2 = some s' ∧ KT H H4, fun σ4 H4 q => ⟨m, Nat.lt_succ_self m, q⟩, ?_⟩, (fun z => nomatch z)⟩
      refine ⟨v, rfl, .ref c.st, rfl, ?_⟩
      exact ⟨E, p, H0, c, s2, s3, v, rfl, ok, pok, lp, ⟨_, _, _, h2.ex e3⟩, (iv.mono kt2).ex e3, hg, fun H4 r4 kt4 => ⟨rfl, s3, r4, hset, (kt2.trans (KT.of e3)).trans kt4⟩⟩
theorem sc_law_fall : FnScope ["_law_state", "_law_fault", "_law_place_here", "_law_called", "_law_things_here"] ["_law_state", "_law_fault"] (defScope s_law_fall) := ⟨rfl, rfl, rfl, by decide +kernel, rfl, by decide +kernel, by decide +kernel⟩
theorem ok_law_fall (T : Fx K mg) : C8.Cal P w K mg base 2 "_law_fall" spLFall [] := by
  obtain ⟨fd, F⟩ := T.f_law_fall
  have c_law_leave := ok_law_leave (P := P) (w := w) (base := base) T
  refine cal_of F T.g_law_fall sc_law_fall (fun _ _ _ _ _ _ us hl => match us, hl with | [_, _], _ => rfl) (by rintro vs H Q E ⟨_, _, _, _, _, _, rfl, _⟩; rfl) fun cdv A outer s0 H vs Q E0 hr hsp => ?_
  obtain ⟨E, H0, c, s, s', f, rfl, ok, ⟨fs, ve, vp, h⟩, hop, k⟩ := hsp
  have hu := hu_of hr
  refine ⟨_, (pss_cons (ps_set (i := 2) sc_law_fall.nd rfl (.inl rfl) (pe_dget hu (pv 0) pe_str (fun _ _ => rfl)))
    (pss_cons (ps_for PassesOwn.never rfl (pi_list (pe_revL (pe_dget hu (pv 0) pe_str (fun _ _ => rfl)))) (pg_tup rfl (pgs_cons (pg_name (i := 3) sc_law_fall.nd rfl (.inl rfl)) (pgs_cons (pg_name (i := 4) sc_law_fall.nd rfl (.inl rfl)) pgs_nil)))
    (pss_cons (ps_expr (C8.pe_c c_law_leave hr (by omega) rfl (pa_cons (pv 0) (pa_cons (pv 2) (pa_cons (pv 4) pa_nil)))))
    (pss_one (ps_set (i := 2) sc_law_fall.nd rfl (.inl rfl) (pv 3)))))
    (pss_one (ps_dput hu (pv 0) pe_str (pe_tup (pa_cons pe_str (pa_cons (pv 1) pa_nil))) rfl)))), ?_⟩
  obtain ⟨l', hlv, rfl⟩ := Option.map_eq_some_iff.mp hop
  refine qd_set (h.ePlace (ev_var rfl)) fun vp1 H1 e1 i1 => ?_
  have h1 := h.ex e1
  have hlen := h1.fr.len
  -- for called, things in state['frames'][::-1]
  refine (h1.eFrs (σ := [some (.ref c.st), some (.str f), some vp1, none, none]) (ev_var rfl)) H1 (Ex.refl H1) _ fun H2 e2 => ?_
  have h2 := h1.ex e2
  refine ⟨c.lf, _, rfl, sq_of h2.frs, fun r hr0 => ?_⟩
  have eX : Ex H2 (upd H2 r (.lst (fs.reverse.map fun x => V.ref x.1).reverse)) := Ex.new hr0
  have h3 := h2.ex eX
  refine ⟨r, rfl, ⟨_, SqL.of upd_same⟩, for_list (K := K) (a := r) (xs := (fs.reverse.map fun x => V.ref x.1).reverse) (fun i σ' H' => ∃ (pv : V) (x y : Option V) (l : Nat), σ' = [some (.ref c.st), some (.str f), some pv, x, y] ∧ KT H H' ∧ H' r = some (.lst (fs.reverse.map fun x => V.ref x.1).reverse) ∧ LX E H0 c fs ve vp H' { s with log := l } ∧
      ((∃ pl, Im H' pv (encPl pl) ∧ leaveAll (A := ctl) pl (s.frames.drop i) l = some l') ∨ (i = fs.length ∧ l = l'))) ?_ (fun i σ' H' _ ⟨_, _, _, _, _, _, q, _⟩ => SqL.of q) ?_ ?_⟩
  · exact ⟨vp1, none, none, s.log, rfl, KT.of (e1.trans (e2.trans eX)), upd_same, h3, .inl ⟨s.place, i1.ex (e2.trans eX), by rw [List.drop_zero]; exact hlv⟩⟩
  · rintro i x σ' H' hi ⟨pv1, x0, y0, l, rfl, kt, hrl, hx, hcase⟩
    rw [← List.map_reverse, List.reverse_reverse, List.getElem?_map] at hi
    cases hfi : fs[i]? with
    | none => rw [hfi] at hi; cases hi
    | some y =>
    rw [hfi] at hi
    obtain rfl : V.ref y.1 = x := Option.some.inj hi
    have hil : i < fs.length := (List.getElem?_eq_some_iff.mp hfi).1
    obtain ⟨pl, ipv, hlv2⟩ := hcase.resolve_right fun z => by omega
    have hil2 : i < s.frames.length := by rw [← hlen]; exact hil
    have edrop : s.frames.drop i = s.frames[i] :: s.frames.drop (i + 1) := List.drop_eq_getElem_cons hil2
    obtain ⟨yy, hyy⟩ : ∃ yy, s.frames[i]? = some yy := ⟨_, List.getElem?_eq_getElem hil2⟩
    have hat : ∀ {xs : List (Addr × Addr)} {ys : List (Option Place × Unit)} {j : Nat} {x y}, LFrs E H' xs ys → xs[j]? = some x → ys[j]? = some y → LFr E H' x y := by
      intro xs
      induction xs with
      | nil => intro ys j x y _ h; simp at h
      | cons a xs ih =>
        intro ys j x y h hx hy
        cases ys with
        | nil => exact h.elim
        | cons b ys =>
          cases j with
          | zero => simp at hx hy; subst hx hy; exact h.1
          | succ j => exact ih h.2 (by simpa using hx) (by simpa using hy)
    obtain ⟨vc, w1, w2, w3⟩ := hat hx.fr hfi hyy
    obtain ⟨cp, ⟨⟩⟩ := yy
    have eget : s.frames[i] = (cp, ()) := by
      rw [List.getElem?_eq_getElem hil2] at hyy
      exact Option.some.inj hyy
    rw [edrop, eget] at hlv2
    unfold leaveAll at hlv2
    obtain ⟨l2, hl2, hlv3⟩ := Option.bind_eq_some_iff.mp hlv2
    obtain ⟨hcap, rfl⟩ := full_chk hl2
    refine g_two w1 ?_
    refine q_seq (hx.sLeave ok (ev_var rfl) (evd_var rfl ipv) (ev_var (i := 4) rfl) w3 hcap (hx.sd y (List.mem_of_getElem? hfi)) fun H3 h3 kt3 kp3 => ?_)
    obtain ⟨zs, hlz, _⟩ := hx.left
    have rne : r ≠ c.ll := fun z => by
      obtain ⟨zs2, hlz2, _⟩ := h2.left
      rw [z, hlz2] at hr0
      cases hr0
    refine ⟨vc, rfl, vc, _, _, _, rfl, kt.trans kt3, kp3 _ _ hrl (by simpa using rne), h3, ?_⟩
    cases hd : s.frames.drop (i + 1) with
    | nil =>
      rw [hd] at hlv3
      right
      refine ⟨?_, Option.some.inj hlv3⟩
      have := congrArg List.length hd
      rw [List.length_drop] at this
      simp only [List.length_nil] at this
      omega
    | cons a b =>
      rw [hd] at hlv3
      cases cp with
      | none => cases hlv3
      | some cpl => exact .inl ⟨cpl, w2.mono kt3, hlv3⟩
  · rintro σ' H' ⟨pv1, x0, y0, l, rfl, kt, hrl, hx, hcase⟩
    have el : l = l' := by
      rcases hcase with ⟨pl, _, hlv2⟩ | ⟨_, z⟩
      · rw [List.drop_eq_nil_of_le (by rw [← hlen]; simp)] at hlv2
        exact Option.some.inj hlv2
      · exact z
    subst el
    refine hx.sEnd (fun _ => ev_var rfl) (ov := some (.fault f)) (evd_tup (evds_cons evd_str (evds_cons (evd_var rfl (.str f)) evds_nil))) fun H5 ve' h5 kt5 _ => ?_
    exact k H5 ⟨_, _, _, h5⟩ (kt.trans kt5)
theorem sc_law_wanted : FnScope ["_law_program_here", "_law_state", "_law_word_here"] ["_law_program_here", "_law_state"] (defScope s_law_wanted) := ⟨rfl, rfl, rfl, by decide +kernel, rfl, by decide +kernel, by decide +kernel⟩
theorem ok_law_wanted (T : Fx K mg) : C8.Cal P w K mg base 3 "_law_wanted" spLWanted [] := by
  obtain ⟨fd, F⟩ := T.f_law_wanted
  have c_law_word := ok_law_word (P := P) (w := w) (base := base) T
  refine cal_of F T.g_law_wanted sc_law_wanted (fun _ _ _ _ _ _ us hl => match us, hl with | [_, _], _ => rfl) (by rintro vs H Q E ⟨_, _, _, _, _, _, _, rfl, _⟩; rfl) fun cdv A outer s0 H vs Q E0 hr hsp => ?_
  obtain ⟨E, p, H0, c, s, v, wd, rfl, lp, ⟨fs, ve, vp, h⟩, iv, hw, k⟩ := hsp
  have hu := hu_of hr
  refine ⟨_, (pss_cons (ps_set (i := 2) sc_law_wanted.nd rfl (.inl rfl) (C8.pe_c c_law_word hr (by omega) rfl (pa_cons (pv 0) (pa_cons (pe_dget hu (pv 1) pe_str (fun _ _ => rfl)) pa_nil))))
    (pss_cons (ps_if (pt_cmpR op_eq (pe_ix ix_tup (pv 2) pe_int (fun _ _ => rfl)) pe_str (nomark _))
    (pss_one (ps_ret (pe_callB call_len_seq (by rfl) T.len_ boot_len (pa_cons (pe_ix ix_tup (pv 2) pe_int (fun _ _ => rfl)) pa_nil))))
    pss_nil)
    (pss_one (ps_ret (pe_dget2 hu (pe_disp (pps_cons pe_str pe_int (pps_cons pe_str pe_int (pps_cons pe_str pe_int pps_nil))) (by rfl) (by rfl) (fun z => by cases z) (by decide)) (pe_ix ix_tup (pv 2) pe_int (fun _ _ => rfl)) pe_int ⟨rfl, rfl, rfl, rfl⟩))))), ?_⟩
  refine qd_set (d := encW wd) (evd_call (evds_cons (evd_var rfl iv) (evds_cons (h.ePlace (ev_var rfl)) evds_nil)) ⟨p, s.place, some wd, rfl, lp, hw, rfl⟩) fun vw H1 e1 iw => ?_
  by_cases hc : hd wd = "choose"
  · obtain ⟨rs, rfl⟩ := hd_choose hc
    refine q_yes (evt_hd1 (evd_var rfl iw) hc) fun H2 e2 => ?_
    refine qd_ret (evd_len (evd_at (d := .tuple (encRs rs)) 1 (evd_var rfl (iw.ex e2)) (by simp only [tlD]; rfl))) fun z H3 e3 i3 => ?_
    have := i3.int_
    subst this
    rw [encRs_map, List.length_map]
    exact k H3 ((e1.trans e2).trans e3)
  · refine q_no (evt_hd0 (evd_var rfl iw) hc) fun H2 e2 => ?_
    have e12 := e1.trans e2
    -- {'take': 10000, 'ask': 10000, 'risk': 2}.get(word[0], 0)
    intro q hq
    refine ⟨upd_same, [(.inr "take", .int 10000), (.inr "ask", .int 10000), (.inr "risk", .int 2)], rfl, by decide, ?_⟩
    rw [upd_upd]
    have eD : Ex H2 (upd H2 q (.dK [(.inr "take", .int 10000), (.inr "ask", .int 10000), (.inr "risk", .int 2)])) := Ex.new hq
    have em : mergeK [] [((.inr "take" : Key), V.int 10000), (.inr "ask", .int 10000), (.inr "risk", .int 2)] = [(.inr "take", .int 10000), (.inr "ask", .int 10000), (.inr "risk", .int 2)] := by rfl
    rw [em]
    refine ⟨q, rfl, .inl ⟨_, .inl upd_same⟩, ?_⟩
    refine (evd_at (K := K) (d := .str (hd wd)) 0 (evd_var (i := 2) (σ := [some v, some (.ref c.st), some vw]) rfl (iw.ex (e2.trans eD))) rfl) _ (Ex.refl _) _ fun u H3 e3 i3 => ?_
    have := i3.str_
    subst this
    refine ⟨_, DGet.k (k := Sum.inr (hd wd)) (e3 _ _ upd_same), ?_⟩
    have look : (valV [((.inr "take" : Key), V.int 10000), (.inr "ask", .int 10000), (.inr "risk", .int 2)] (.inr (hd wd))).getD (.int 0) = .int (((need wd).getD 0 : Nat) : Int) := by
      cases wd <;> first | rfl | exact absurd rfl hc
    rw [look]
    exact k H3 ((e12.trans eD).trans e3)
end
end K16

set_option Elab.async false
set_option linter.all false
set_option maxRecDepth 100000
set_option maxHeartbeats 4000000
/-! KLThings: the law's interpreter: a plain word -/
namespace K16
open PySem PySem.Spec PyProof.Rows L2 Evl
def spLThings : Sp := fun vs H Q _ => ∃ E p H0 c s w a vw va n, vs = [.ref c.st, vw, va] ∧ EnvOk E ∧ LAt E H0 c H s ∧ Im H vw (encW w) ∧ WOK E w ∧ isPlain w = true ∧ ((need w).isSome = true → va = .int a) ∧ s.frames ≠ [] ∧ chk (bump w s.log) = some n ∧ (p : Prog) = p ∧
  ∀ H', LAt E H0 c H' { s with log := n } → KT H H' → Q .non H'
/-- things as they are read -/
def Gets (E : Env) (H : Hp) (kvs : List (Key × V)) (g : Str → Thing) : Prop := ∀ b, ((∀ w ∈ (g b).2, w ∈ E.Ws) ∧ (g b).2.length ≤ 20) ∧ ((valV kvs (Sum.inr b) = none ∧ g b = none0) ∨ ∃ v, valV kvs (Sum.inr b) = some v ∧ Im H v (encTh (g b)))
section
variable {K : PySem.W.Frag} {P : Program} {w0 : World} {E : Env} {H0 : Hp} {c : LC} {fs : List (Addr × Addr)} {ve vp v : V} {H H' : Hp} {s : MS ctl} {σ : L2.St} {ta tb te tf tp td tk tv tx ty tl : TE} {D : Ends} {tz : TS} {kvs : List (Key × V)}
theorem gets_of (h : LThD E H kvs) : ∃ g, Gets E H kvs g := by
  have : ∀ b, ∃ x : Thing, ((∀ w ∈ x.2, w ∈ E.Ws) ∧ x.2.length ≤ 20) ∧ ((valV kvs (Sum.inr b) = none ∧ x = none0) ∨ ∃ v, valV kvs (Sum.inr b) = some v ∧ Im H v (encTh x)) := fun b => by
    cases q : valV kvs (Sum.inr b) with
    | none => exact ⟨none0, ⟨fun w hw => (by cases hw), by simp [none0]⟩, .inl ⟨rfl, rfl⟩⟩
    | some v =>
      obtain ⟨n, ws, i, h1, h2⟩ := h.val _ _ q
      exact ⟨(n, ws), ⟨h1, h2⟩, .inr ⟨v, rfl, i⟩⟩
  exact ⟨fun b => Classical.choose (this b), fun b => Classical.choose_spec (this b)⟩
theorem evd_getL {g : Str → Thing} {d : Addr} {b : Str} (hg : Gets E H kvs g) (hk : H d = some (.dK kvs)) (h : Ev td σ H (.ref d)) (hb : EvD ty σ H (.str b)) (hx : EvD tx σ H (encTh none0)) : EvD (tDGet2 td ty tx) σ H (encTh (g b)) := fun H1 e Q q =>
  h H1 e _ fun H2 e2 => ⟨d, rfl, .inl ⟨kvs, .inl (e2 _ _ (e _ _ hk))⟩, hb H2 (e.trans e2) _ fun v H3 e3 iv => hx H3 ((e.trans e2).trans e3) _ fun z H4 e4 iz => by
    rw [iv.str_]
    refine ⟨valV kvs (Sum.inr b), DGet.k (k := Sum.inr b) (e4 _ _ (e3 _ _ (e2 _ _ (e _ _ hk)))), q _ H4 ((e2.trans e3).trans e4) ?_⟩
    rcases (hg b).2 with ⟨h1, h2⟩ | ⟨u, h1, h2⟩
    · rw [h1, h2]; exact iz
    · rw [h1]; exact h2.ex (((e.trans e2).trans e3).trans e4)⟩
theorem evd_ixLR {l : Addr} {vs : List V} {ds : List PyData} {d : PyData} {n : Nat} {i : Int} (h : Ev te σ H (.ref l)) (hl : H l = some (.lst vs)) (hi : Ims H vs ds) (hd : ds[n]? = some d) (hn : i = (n : Int) := by rfl) : EvD (tOp (rIxL K) te (tC (.int i))) σ H d := fun H1 e Q q =>
  h H1 e _ fun H2 e2 => by
    obtain ⟨u, hu, iu⟩ := hi.get hd
    exact ⟨l, vs, i, u, rfl, rfl, SqL.of (e2 _ _ (e _ _ hl)), by rw [hn]; exact atI_nat hu, q u H2 e2 (iu.ex (e.trans e2))⟩
/-- things[b] = thing -/
theorem LX.sPut {f d : Addr} {b : Str} {x : Thing} {y : Option Place × Unit} {rest : List (Option Place × Unit)} (h : LX E H0 c ((f, d) :: fs) ve vp H s) (hs : s.frames = y :: rest) (ok : EnvOk E) (ha : ∀ H1, Ev td σ H1 (.ref d)) (hk : EvD tk σ H (.str b)) (hb : b ∈ E.Bs) (hv : EvD tv σ H (encTh x)) (hx : (∀ w ∈ x.2, w ∈ E.Ws) ∧ x.2.length ≤ 20)
    (k : ∀ H', LX E H0 c ((f, d) :: fs) ve vp H' s → KT H H' → D.nx σ H') : sDPut td tk tv D σ H := by
  refine hv H (Ex.refl H) _ fun v H1 e1 iv => ha H1 H1 (Ex.refl H1) _ fun H2 e2 => hk H2 (e1.trans e2) _ fun u H3 e3 iu => ?_
  have e13 := (e1.trans e2).trans e3
  have h3 := h.ex e13
  have hfr := h3.fr
  rw [hs] at hfr
  obtain ⟨⟨vc, _, _, kvs, hd, hth⟩, _⟩ := hfr
  rw [iu.str_]
  refine ⟨d, _, rfl, DPut.k (k := Sum.inr b) hd (sz_lt (by have := lth_len ok.bl hth; omega)), ?_⟩
  have ktu : KT H3 (upd H3 d (.dK (putK kvs (Sum.inr b) v))) := (KT.refl H3).upd (nt_dK hd)
  obtain ⟨h4, kt4⟩ := h3.top hs (H' := upd H3 d (.dK (putK kvs (Sum.inr b) v))) ((Kp.refl H3).mut (by simp)) ⟨_, upd_same, (lth_put hth hb ⟨x.1, x.2, iv.ex (e2.trans e3), hx.1, hx.2⟩).mono ktu⟩
  exact k _ h4 ((KT.of e13).trans ktu)
/-- things.pop(b, None) -/
theorem LX.sPop {f d : Addr} {i j : Nat} {b : Str} {y : Option Place × Unit} {rest : List (Option Place × Unit)} (h : LX E H0 c ((f, d) :: fs) ve vp H s) (hs : s.frames = y :: rest) (hi : σ[i]? = some (some (.ref d))) (hj : σ[j]? = some (some (.str b))) (k : ∀ H', LX E H0 c ((f, d) :: fs) ve vp H' s → Kp [d] H H' → KT H H' → D.nx σ H') :
    tDrop (tDPop2 (tVar i) (tVar j) (tC .non)) D σ H := by
  have hfr := h.fr
  rw [hs] at hfr
  obtain ⟨⟨vc, _, _, kvs, hd, hth⟩, _⟩ := hfr
  refine ⟨.ref d, hi, d, rfl, .inl ⟨kvs, .inl hd⟩, .str b, hj, kvs, Sum.inr b, hd, rfl, fun u hu => ?_, fun _ => k _ h (Kp.refl H) (KT.refl H)⟩
  have ktu : KT H (upd H d (.dK (dropK kvs (Sum.inr b)))) := (KT.refl H).upd (nt_dK hd)
  have kp : Kp [d] H (upd H d (.dK (dropK kvs (Sum.inr b)))) := (Kp.refl H).mut (by simp)
  obtain ⟨h4, kt4⟩ := h.top hs kp ⟨_, upd_same, (lth_drop hth _).mono ktu⟩
  exact k _ h4 kp kt4
theorem pairs_im {l : List (Str × Thing)} {us : List V} (h : Ims H us (l.map fun x => PyData.tuple [.str x.1, encTh x.2])) : ∃ (ps : List Addr) (kvs : List (Key × V)), us = ps.map V.ref ∧ Paired (fun p kv => SqT K H p [kV kv.1, kv.2]) ps kvs ∧ ∀ kv ∈ kvs, ∃ x ∈ l, kv.1 = Sum.inr x.1 ∧ Im H kv.2 (encTh x.2) := by
  induction l generalizing us with
  | nil => cases h; exact ⟨[], [], rfl, .nil, fun kv h => by cases h⟩
  | cons x l ih =>
    rw [List.map_cons] at h
    cases h with
    | cons h hs =>
      obtain ⟨ps, kvs, rfl, hp, hm⟩ := ih hs
      obtain ⟨a, xs, rfl, ha, hx⟩ := h.tup_
      obtain ⟨v1, v2, rfl, i1, i2⟩ := hx.two
      have := i1.str_
      subst this
      refine ⟨a :: ps, (Sum.inr x.1, v2) :: kvs, rfl, .cons (SqT.of ha) hp, fun kv h => ?_⟩
      rcases List.mem_cons.mp h with rfl | h
      · exact ⟨x, by simp, rfl, i2⟩
      · obtain ⟨y, hy, r⟩ := hm kv h
        exact ⟨y, by simp [hy], r⟩
def rDictP (K : PySem.W.Frag) : List V → Hp → VK → Prop := fun xs H Q => ∃ (a : Addr) (ps : List Addr) (kvs : List (Key × V)), xs = [V.ref a] ∧ SqL K H a (ps.map V.ref) ∧ Paired (fun p kv => SqT K H p [kV kv.1, kv.2]) ps kvs ∧ ∀ p, H p = none → Q (.ref p) (upd H p (.dK (mergeK [] kvs)))
theorem lth_merge : ∀ {more kvs : List (Key × V)}, LThD E H kvs → (∀ kv ∈ more, ∃ b ∈ E.Bs, kv.1 = Sum.inr b ∧ LVal E H kv.2) → LThD E H (mergeK kvs more)
  | [], kvs, h, _ => h
  | kv :: more, kvs, h, hm => by
    obtain ⟨b, hb, e, hv⟩ := hm kv (by simp)
    have := lth_put (b := b) h hb hv
    rw [← e] at this
    show LThD E H (mergeK (putK kvs kv.1 kv.2) more)
    exact lth_merge (kvs := putK kvs kv.1 kv.2) this fun q hq => hm q (by simp [hq])
theorem ev_dictP {l : List (Str × Thing)} {Q : VK} (h : EvLD te σ H (l.map fun x => PyData.tuple [.str x.1, encTh x.2])) (hl : ∀ x ∈ l, x.1 ∈ E.Bs ∧ (∀ w ∈ x.2.2, w ∈ E.Ws) ∧ x.2.2.length ≤ 20) (k : ∀ d H1, H d = none → Ex H H1 → LTh E H1 d → Q (.ref d) H1) : tCB (rDictP K) (tCons te tNil) σ H Q :=
  h H (Ex.refl H) _ fun a us H1 _ e1 ha iu => by
    obtain ⟨ps, kvs, rfl, hp, hm⟩ := pairs_im (K := K) iu
    refine ⟨a, ps, kvs, rfl, SqL.of ha, hp, fun d hd => k d _ (fresh_back e1 hd) (e1.trans (Ex.new hd)) ⟨_, upd_same, ?_⟩⟩
    refine LThD.mono (KT.of (Ex.new hd)) (lth_merge lth_nil fun kv hkv => ?_)
    obtain ⟨x, hx, e, i⟩ := hm kv hkv
    exact ⟨x.1, (hl x hx).1, e, x.2.1, x.2.2, i, (hl x hx).2⟩
theorem fm_if {β : Type} (q : Str → Bool) (m : Str → β) : ∀ bs : List Str, bs.filterMap (fun b => if q b = true then some (m b) else none) = (bs.filter q).map m
  | [] => rfl
  | b :: bs => by rw [List.filterMap_cons, List.filter_cons, fm_if q m bs]; cases q b <;> rfl
/-- for box in boxes: things.pop(box, None) -/
theorem LX.fPop {f d l : Addr} {bs : List Str} {y : Option Place × Unit} {rest : List (Option Place × Unit)} (h : LX E H0 c ((f, d) :: fs) ve vp H s) (hs : s.frames = y :: rest) (h5 : Ev te σ H (.ref l)) (hl : H l = some (.lst (bs.map V.str))) (h3 : σ[3]? = some (some (.ref d))) (h6 : 6 < σ.length)
    (k : ∀ σ' H', LX E H0 c ((f, d) :: fs) ve vp H' s → KT H H' → D.nx σ' H') : tFor (iList K te) (gName 6) (tDrop (tDPop2 (tVar 3) (tVar 6) (tC .non))) D σ H := by
  refine s_forLn (K := K) (a := l) (xs := bs.map V.str) h5 (SqL.of hl) (fun i σ' H' => σ'[3]? = some (some (.ref d)) ∧ 6 < σ'.length ∧ LX E H0 c ((f, d) :: fs) ve vp H' s ∧ KT H H' ∧ H' l = some (.lst (bs.map V.str))) (fun H1 e1 => ⟨h3, h6, h.ex e1, KT.of e1, e1 _ _ hl⟩) (fun i σ' H' _ q => SqL.of q.2.2.2.2) ?_ (fun σ' H' q => k σ' H' q.2.2.1 q.2.2.2.1)
  rintro i x σ' H' hi ⟨h3, h6, h, kt, hl⟩
  rw [List.getElem?_map] at hi
  cases hbi : bs[i]? with
  | none => rw [hbi] at hi; cases hi
  | some b =>
  rw [hbi] at hi
  obtain rfl : V.str b = x := Option.some.inj hi
  refine h.sPop hs (i := 3) (j := 6) (b := b) (by rw [List.getElem?_set_ne (by decide)]; exact h3) (by rw [List.getElem?_set_self h6]) fun H1 h1 kp kt1 => ⟨by rw [List.getElem?_set_ne (by decide)]; exact h3, by simpa using h6, h1, kt.trans kt1, kp _ _ hl ?_⟩
  have hfr := h.fr
  rw [hs] at hfr
  obtain ⟨⟨vc, _, _, kvs, hd, hth⟩, _⟩ := hfr
  simp only [List.mem_singleton]
  intro z
  rw [z, hd] at hl
  cases hl
theorem LX.fPopT {f d : Addr} {bs : List Str} {y : Option Place × Unit} {rest : List (Option Place × Unit)} (h : LX E H0 c ((f, d) :: fs) ve vp H s) (hs : s.frames = y :: rest) (h5 : EvD te σ H (tstr bs)) (h3 : σ[3]? = some (some (.ref d))) (h6 : 6 < σ.length)
    (k : ∀ σ' H', LX E H0 c ((f, d) :: fs) ve vp H' s → KT H H' → D.nx σ' H') : tFor (iTup K te) (gName 6) (tDrop (tDPop2 (tVar 3) (tVar 6) (tC .non))) D σ H := by
  show tSeq (tFor (iTup K te) (gName 6) (tDrop (tDPop2 (tVar 3) (tVar 6) (tC .non)))) (fun D σ H => D.nx σ H) D σ H
  refine qd_forT (ds := bs.map PyData.str) h5 (fun H1 i σ' H' => σ'[3]? = some (some (.ref d)) ∧ 6 < σ'.length ∧ LX E H0 c ((f, d) :: fs) ve vp H' s ∧ KT H1 H') (fun H1 e1 => ⟨h3, h6, h.ex e1, KT.refl H1⟩) (fun H1 i σ' H' _ q => q.2.2.2) ?_ (fun H1 σ' H' e1 q => k σ' H' q.2.2.1 ((KT.of e1).trans q.2.2.2))
  rintro H1 i e x σ' H' e1 hi ix ⟨h3, h6, h, kt⟩
  obtain ⟨b, _, rfl⟩ := List.mem_map.mp (List.mem_of_getElem? hi)
  have := ix.str_
  subst this
  exact h.sPop hs (i := 3) (j := 6) (b := b) (by rw [List.getElem?_set_ne (by decide)]; exact h3) (by rw [List.getElem?_set_self h6]) fun H2 h2 kp kt1 => ⟨by rw [List.getElem?_set_ne (by decide)]; exact h3, by simpa using h6, h2, kt.trans kt1⟩
/-- state['frames'][-1][1] -/
theorem LX.eTopD {f d : Addr} {y : Option Place × Unit} {rest : List (Option Place × Unit)} (h : LX E H0 c ((f, d) :: fs) ve vp H s) (hs : s.frames = y :: rest) (ha : Ev ta σ H (.ref c.st)) : Ev (tOp (rIxT K) (tOp (rIxL K) (tDGet ta (tC (.str "frames"))) (tUn (rU fun i => .int (-i)) (tC (.int 1)))) (tC (.int 1))) σ H (.ref d) := fun H2 e2 Q2 q2 => by
  have hfr := h.fr
  rw [hs] at hfr
  obtain ⟨⟨vc, w1, _⟩, _⟩ := hfr
  refine (h.eFrs ha) H2 e2 _ fun H3 e3 => ⟨1, rfl, c.lf, _, -1, .ref f, rfl, rfl, sq_of (e3 _ _ (e2 _ _ h.frs)), ?_, f, _, 1, .ref d, rfl, rfl, SqT.of (e3 _ _ (e2 _ _ w1)), atI_nat (j := 1) rfl, q2 H3 e3⟩
  simp only [List.reverse_cons, List.map_append]
  exact atI_last _ _
end
section
variable {P : Program} {w : World} {K : PySem.W.Frag} {mg : Str → Option Value} {base : Heap}
theorem call_isiB (K : PySem.W.Frag) {X : Cx} (hK : X.K = K := by rfl) : CallR X (.builtin "isinstance") (rIsi K) := by subst hK; exact call_isi
theorem sc_law_things : FnScope ["_law_state", "_law_word_here", "_law_answer", "_law_things_here", "_law_some_here", "_law_boxes_here", "_law_box_here"] ["_law_state", "_law_word_here", "_law_answer"] (defScope s_law_things) := ⟨rfl, rfl, rfl, by decide +kernel, rfl, by decide +kernel, by decide +kernel⟩
theorem ok_law_things (T : Fx K mg) : C8.Cal P w K mg base 2 "_law_things" spLThings [] := by
  obtain ⟨fd, F⟩ := T.f_law_things
  have c_law_leave := ok_law_leave (P := P) (w := w) (base := base) T
  refine cal_of F T.g_law_things sc_law_things (fun _ _ _ _ _ _ us hl => match us, hl with | [_, _, _], _ => rfl) (by rintro vs H Q E ⟨_, _, _, _, _, _, _, _, _, _, rfl, _⟩; rfl) fun cdv A outer s0 H vs Q E0 hr hsp => ?_
  obtain ⟨E, p, H0, c, s, wd, a, vw, va, n, rfl, ok, ⟨fs, ve, vp, h⟩, iw, wok, hpl, hva, hfn, hn, _, k⟩ := hsp
  have hu := hu_of hr
  obtain ⟨hn4, rfl⟩ := full_chk hn
  obtain ⟨sg, kk, ll, okw⟩ := wok
  cases hfr : s.frames with
  | nil => exact absurd hfr hfn
  | cons y rest =>
  have hfa := h.fr
  rw [hfr] at hfa
  cases fs with
  | nil => exact hfa.elim
  | cons x fs' =>
  obtain ⟨f, d⟩ := x
  obtain ⟨⟨vcd, f1, f2, kvs, hk, hth⟩, _⟩ := hfa
  obtain ⟨g, hg⟩ := gets_of hth
  -- the list of the things read, and then the word
  have start : ∀ {tz : TS}, (∀ l1 vs H2, Ex H H2 → H2 l1 = some (.lst vs) → Ims H2 vs (((tlD wd).drop 1).filterMap (onStr fun b => some (encTh (g b)))) → tz { nx := fun _ H' => Q .non H', rt := Q } [some (.ref c.st), some vw, some va, some (.ref d), some (.ref l1), none, none] H2) →
      tSeq (tAsg (tOp (rIxT K) (tOp (rIxL K) (tDGet (tVar 0) (tC (.str "frames"))) (tUn (rU fun i => .int (-i)) (tC (.int 1)))) (tC (.int 1))) (gName 3)) (tSeq (tAsg (tLc (iTup K (tSl (rSlA K) (tVar 1) (tPart (tC (.int 2))) tNoPart)) (gName 6) (tTest (tCB (rIsi K) (tCons (tVar 6) (tCons (tC (.ty "str")) tNil)))) (tDGet2 (tVar 3) (tVar 6) (tTup (tCons (tC (.int 0)) (tCons (tTup tNil) tNil)))) [6]) (gName 4)) tz) { nx := fun _ H' => Q .non H', rt := Q } [some (.ref c.st), some vw, some va, none, none, none, none] H := fun {tz} kz => by
    refine qe_set (h.eTopD hfr (ev_var rfl)) fun H1 e1 => ?_
    have isi : ∀ {H' : Hp} {v : V} {σ : L2.St} (b : Bool), σ[6]? = some (some v) → ((∃ z, v = .str z) ∧ b = true ∨ (∃ z, v = .int z) ∧ b = false) → EvT (tTest (tCB (rIsi K) (tCons (tVar 6) (tCons (tC (.ty "str")) tNil)))) σ H' b := fun {H' v σ} b hv hb => et_test fun H4 e4 Q4 q4 => by
      rcases hb with ⟨⟨z, rfl⟩, rfl⟩ | ⟨⟨z, rfl⟩, rfl⟩
      · exact ⟨_, hv, _, _, .type "str", .type "str", true, rfl, .ty _, .base (.str _), kit_ty (by decide +kernel), q4 H4 (Ex.refl H4)⟩
      · exact ⟨_, hv, _, _, .type "int", .type "str", false, rfl, .ty _, .base (.int _), kit_ty (by decide +kernel), q4 H4 (Ex.refl H4)⟩
    have cut : cutD (.str (hd wd) :: tlD wd) (some 2) none = (tlD wd).drop 1 := by
      cases wd <;> first | (cases hpl; done) | rfl
    have shape : ∀ e ∈ (tlD wd).drop 1, (∃ b, e = .str b) ∨ ∃ z, e = .int z := by
      cases wd <;> first | (cases hpl; done) | (intro e he; simp [tlD] at he; done) | (intro e he; simp [tlD] at he; rcases he with rfl | rfl <;> simp) | (intro e he; simp [tlD] at he; subst he; simp)
    refine qd_setL (evl_lcT (j := 6) (onStr fun b => some (encTh (g b))) (evd_slice (evd_var rfl (iw.ex e1)) (evo_some evd_int) eo_none cut) (by cases wd <;> first | (cases hpl; done) | (simp [tlD]; done) | (simp [tlD])) (fun i e v H3 hi e3 iv => ?_) fun i e v H3 e' hi e3 iv he => ?_) fun l1 vs H2 nl e2 hl1 i1 => kz l1 vs H2 (e1.trans e2) hl1 i1
    · rcases shape e (List.mem_of_getElem? hi) with ⟨b, rfl⟩ | ⟨z, rfl⟩
      · exact isi true rfl (.inl ⟨⟨b, iv.str_⟩, rfl⟩)
      · exact isi false rfl (.inr ⟨⟨z, iv.int_⟩, rfl⟩)
    · rcases shape e (List.mem_of_getElem? hi) with ⟨b, rfl⟩ | ⟨z, rfl⟩
      · have he : some (encTh (g b)) = some e' := he
        cases he
        exact evd_getL (d := d) (kvs := kvs) (fun b => by
          obtain ⟨x1, x2⟩ := hg b
          refine ⟨x1, ?_⟩
          rcases x2 with x2 | ⟨u, x3, x4⟩
          · exact .inl x2
          · exact .inr ⟨u, x3, x4.ex (e1.trans e3)⟩) ((e1.trans e3) _ _ hk) (ev_var rfl) (evd_var rfl iv) (evd_tup (evds_cons evd_int (evds_cons (evd_tup evds_nil) evds_nil)))
      · cases he
  -- a box is taken out
  have pop1 : ∀ {H2 : Hp} {σ : L2.St} {b : Str} {s2 : MS ctl} {N : L2.St → Hp → Prop} {D : Ends}, LX E H0 c ((f, d) :: fs') ve vp H2 s2 → s2.frames = y :: rest → σ[3]? = some (some (.ref d)) → σ[6]? = some (some (.str b)) → (∀ H', LX E H0 c ((f, d) :: fs') ve vp H' s2 → Kp [d] H2 H' → KT H2 H' → N σ H') → tDrop (tDPop2 (tVar 3) (tVar 6) (tC .non)) { D with nx := N } σ H2 := fun {H2 σ b s2 N D} h2 hs2 h3 h6 kk => h2.sPop hs2 h3 h6 kk
  by_cases hdw : ∃ bs, wd = .drop bs
  · obtain ⟨bs, rfl⟩ := hdw
    refine ⟨_, (pss_cons (ps_set (i := 3) sc_law_things.nd rfl (.inr rfl) (pe_ix ix_tup (pe_ix ix_list (pe_dget hu (pv 0) pe_str (fun _ _ => rfl)) (pe_un un_neg pe_int) (fun _ _ => rfl)) pe_int (fun _ _ => rfl)))
  (pss_cons (ps_setLc (i := 4) (own := [("_law_box_here", 6)]) rfl sc_law_things.nd rfl rfl (sw_true rfl rfl rfl (by decide +kernel)) (pi_tup (pe_slice sl_tupA (pv 1) (po_some pe_int) po_none)) (blkOk_by (own := [("_law_box_here", 6)]) (N := ["_law_state", "_law_word_here", "_law_answer", "_law_things_here", "_law_some_here", "_law_boxes_here", "_law_box_here"]) (sc := defScope s_law_things) (by decide +kernel)) (fun _ _ _ _ _ => pg_name (i := 6) sc_law_things.nd rfl (.inl rfl)) (fun _ _ _ _ _ => by exact pts_one (pt_val (pe_callB (call_isiB K) (by rfl) T.isinstance_ boot_isinstance (pa_cons (pv 6) (pa_cons (pe_bltn (v := .ty "str") (by rfl) T.str_ boot_str rfl) pa_nil))))) (fun _ _ _ _ _ => by exact (pe_dget2 hu (pv 3) (pv 6) (pe_tup (pa_cons pe_int (pa_cons (pe_tup pa_nil) pa_nil))) ⟨rfl, rfl, rfl, rfl⟩)))
  (pss_one (ps_if (pt_cmpR op_eq (pe_ix ix_tup (pv 1) pe_int (fun _ _ => rfl)) pe_str (nomark _))
  (pss_one (ps_dput hu (pv 3) (pe_ix ix_tup (pv 1) pe_int (fun _ _ => rfl)) (pe_tup (pa_cons (pv 2) (pa_cons (pe_tup (pa_cons (pe_ix ix_tup (pv 1) pe_int (fun _ _ => rfl)) pa_nil)) pa_nil))) rfl))
  (pss_one (ps_if (pt_cmpR op_eq (pe_ix ix_tup (pv 1) pe_int (fun _ _ => rfl)) pe_str (nomark _))
  (pss_one (ps_dput hu (pv 3) (pe_ix ix_tup (pv 1) pe_int (fun _ _ => rfl)) (pe_tup (pa_cons (pv 2) (pa_cons (pe_tup pa_nil) pa_nil))) rfl))
  (pss_one (ps_if (pt_cmpR op_eq (pe_ix ix_tup (pv 1) pe_int (fun _ _ => rfl)) pe_str (nomark _))
  (pss_one (ps_dput hu (pv 3) (pe_ix ix_tup (pv 1) pe_int (fun _ _ => rfl)) (pe_tup (pa_cons (pe_ix ix_tup (pv 1) pe_int (fun _ _ => rfl)) (pa_cons (pe_tup pa_nil) pa_nil))) rfl))
  (pss_one (ps_if (pt_cmpR op_eq (pe_ix ix_tup (pv 1) pe_int (fun _ _ => rfl)) pe_str (nomark _))
  (pss_one (ps_dput hu (pv 3) (pe_ix ix_tup (pv 1) pe_int (fun _ _ => rfl)) (pe_ix ix_list (pv 4) pe_int (fun _ _ => rfl)) rfl))
  (pss_one (ps_if (pt_cmpR op_eq (pe_ix ix_tup (pv 1) pe_int (fun _ _ => rfl)) pe_str (nomark _))
  (pss_one (ps_dput hu (pv 3) (pe_ix ix_tup (pv 1) pe_int (fun _ _ => rfl)) (pe_tup (pa_cons (pe_op op_mod (pe_op op_add (pe_ix ix_tup (pe_ix ix_list (pv 4) pe_int (fun _ _ => rfl)) pe_int (fun _ _ => rfl)) (pe_op op_mul pe_int (pe_ix ix_tup (pe_ix ix_list (pv 4) pe_int (fun _ _ => rfl)) pe_int (fun _ _ => rfl)))) pe_int) (pa_cons (pe_callTy call_tuple_of (by rfl) T.tuple_ boot_tuple (pa_cons (pe_callB (call_sortT rfl) (by rfl) T.sorted_ boot_sorted (pa_cons (pe_callTy (call_setT rfl) (by rfl) T.set_ boot_set (pa_cons (pe_op op_catA (pe_ix ix_tup (pe_ix ix_list (pv 4) pe_int (fun _ _ => rfl)) pe_int (fun _ _ => rfl)) (pe_ix ix_tup (pe_ix ix_list (pv 4) pe_int (fun _ _ => rfl)) pe_int (fun _ _ => rfl))) pa_nil)) pa_nil)) pa_nil)) pa_nil))) rfl))
  (pss_one (ps_if (pt_cmpR op_eq (pe_ix ix_tup (pv 1) pe_int (fun _ _ => rfl)) pe_str (nomark _))
  (pss_one (ps_dput hu (pv 3) (pe_ix ix_tup (pv 1) pe_int (fun _ _ => rfl)) (pe_tup (pa_cons (pe_op op_mod (pe_ix ix_tup (pe_ix ix_list (pv 4) pe_int (fun _ _ => rfl)) pe_int (fun _ _ => rfl)) pe_int) (pa_cons (pe_tup pa_nil) pa_nil))) rfl))
  (pss_one (ps_if (pt_cmpR op_eq (pe_ix ix_tup (pv 1) pe_int (fun _ _ => rfl)) pe_str (nomark _))
  (pss_one (ps_expr (pe_bm PySem.F.plainAttrs_list PySem.F.slot_list_append PySem.F.type_list_append mt_append (pe_dget hu (pv 0) pe_str (fun _ _ => rfl)) (pa_cons (pe_ix ix_tup (pe_dget2 hu (pv 3) (pe_ix ix_tup (pv 1) pe_int (fun _ _ => rfl)) (pe_tup (pa_cons pe_int (pa_cons (pe_tup pa_nil) pa_nil))) ⟨rfl, rfl, rfl, rfl⟩) pe_int (fun _ _ => rfl)) pa_nil))))
  (pss_cons (ps_set (i := 5) sc_law_things.nd rfl (.inl rfl) (pe_lst (pa_cons (pe_ix ix_tup (pv 1) pe_int (fun _ _ => rfl)) pa_nil)))
  (pss_cons (ps_if (pt_cmpR op_eq (pe_ix ix_tup (pv 1) pe_int (fun _ _ => rfl)) pe_str (nomark _))
  (pss_one (ps_setLc (i := 5) (own := [("_law_box_here", 6)]) rfl sc_law_things.nd rfl rfl (sw_true rfl rfl rfl (by decide +kernel)) (pi_list (pe_callTy (call_listD rfl) (by rfl) T.list_ boot_list (pa_cons (pv 3) pa_nil))) (blkOk_by (own := [("_law_box_here", 6)]) (N := ["_law_state", "_law_word_here", "_law_answer", "_law_things_here", "_law_some_here", "_law_boxes_here", "_law_box_here"]) (sc := defScope s_law_things) (by decide +kernel)) (fun _ _ _ _ _ => pg_name (i := 6) sc_law_things.nd rfl (.inl rfl)) (fun _ _ _ _ _ => by exact pts_one (PW.pt (pw_and (pt_cmpR op_eq (pe_ix (ix_listK K) (pe_split (pv 6) pe_str) pe_int (fun _ _ => rfl)) (pe_ix (ix_tupK K) (pv 1) pe_int (fun _ _ => rfl)) (nomark _)) (pw_and1 (pt_cmpR op_in_sign pe_str (pv 6) (by rfl)))))) (fun _ _ _ _ _ => by exact (pv 6))))
  pss_nil)
  (pss_cons (ps_if (pt_cmpR op_eq (pe_ix ix_tup (pv 1) pe_int (fun _ _ => rfl)) pe_str (nomark _))
  (pss_cons (ps_set (i := 5) sc_law_things.nd rfl (.inl rfl) (pe_ix ix_tup (pv 1) pe_int (fun _ _ => rfl)))
  (pss_one (ps_expr (C8.pe_c c_law_leave hr (by omega) rfl (pa_cons (pv 0) (pa_cons (pe_dget hu (pv 0) pe_str (fun _ _ => rfl)) (pa_cons (pe_callTy (call_dictP rfl) (by rfl) T.dict_ boot_dict (pa_cons (pe_lc (own := [("_law_box_here", 6)]) rfl sc_law_things.nd (pi_tup (pv 5)) (blkOk_by (own := [("_law_box_here", 6)]) (N := ["_law_state", "_law_word_here", "_law_answer", "_law_things_here", "_law_some_here", "_law_boxes_here", "_law_box_here"]) (sc := defScope s_law_things) (by decide +kernel)) (fun _ _ _ _ _ => pg_name (i := 6) sc_law_things.nd rfl (.inl rfl)) (fun _ _ _ _ _ => by exact pts_one (pt_cmp (pc_din hu (pv 6) (pv 3)))) (fun _ _ _ _ _ => by exact (pe_tup (pa_cons (pv 6) (pa_cons (pe_dget hu (pv 3) (pv 6) (fun _ _ => rfl)) pa_nil))))) pa_nil)) pa_nil)))))))
  pss_nil)
  (pss_one (ps_for PassesOwn.never rfl (pi_tup (pv 5)) (pg_name (i := 6) sc_law_things.nd rfl (.inl rfl))
  (pss_one (ps_expr (pe_dpop2 (pv 3) (pv 6) pe_non ⟨rfl, rfl, rfl, rfl⟩)))))))))))))))))))))))), ?_⟩
    refine start fun l1 vs H2 e2 hl1 i1 => ?_
    have okw : sub E bs := by simpa only [okW] using okw
    refine q_noE (evt_hd0 (evd_var rfl (iw.ex e2)) (by simp only [hd]; decide +kernel)) fun G0 r0 => ?_
    refine q_noE (evt_hd0 (evd_var rfl (iw.ex (e2.trans r0))) (by simp only [hd]; decide +kernel)) fun G1 r1 => ?_
    refine q_noE (evt_hd0 (evd_var rfl (iw.ex ((e2.trans r0).trans r1))) (by simp only [hd]; decide +kernel)) fun G2 r2 => ?_
    refine q_noE (evt_hd0 (evd_var rfl (iw.ex (((e2.trans r0).trans r1).trans r2))) (by simp only [hd]; decide +kernel)) fun G3 r3 => ?_
    refine q_noE (evt_hd0 (evd_var rfl (iw.ex ((((e2.trans r0).trans r1).trans r2).trans r3))) (by simp only [hd]; decide +kernel)) fun G4 r4 => ?_
    refine q_noE (evt_hd0 (evd_var rfl (iw.ex (((((e2.trans r0).trans r1).trans r2).trans r3).trans r4))) (by simp only [hd]; decide +kernel)) fun G5 r5 => ?_
    refine q_noE (evt_hd0 (evd_var rfl (iw.ex ((((((e2.trans r0).trans r1).trans r2).trans r3).trans r4).trans r5))) (by simp only [hd]; decide +kernel)) fun G6 r6 => ?_
    refine qd_lst (ds := [tstr bs]) (evds_cons (evd_at 1 (evd_var rfl (iw.ex (((((((e2.trans r0).trans r1).trans r2).trans r3).trans r4).trans r5).trans r6))) (by simp only [tlD]; rfl)) evds_nil) (by simp) fun l5 vs5 H5 nl5 e5 hl5 i5 => ?_
    refine q_seq (q_noE (evt_hd0 (evd_var rfl (iw.ex ((((((((e2.trans r0).trans r1).trans r2).trans r3).trans r4).trans r5).trans r6).trans e5))) (by simp only [hd]; decide +kernel)) fun H6 e6 => ?_)
    refine q_seq (q_yesE (evt_hd1 (evd_var rfl (iw.ex (((((((((e2.trans r0).trans r1).trans r2).trans r3).trans r4).trans r5).trans r6).trans e5).trans e6))) rfl) fun H7 e7 => ?_)
    have e07 := ((((((((((e2.trans r0).trans r1).trans r2).trans r3).trans r4).trans r5).trans r6).trans e5).trans e6).trans e7)
    refine qd_set (d := tstr bs) (evd_at 1 (evd_var rfl (iw.ex e07)) (by simp only [tlD]; rfl)) fun v5 H8 e8 i8 => ?_
    have e08 := e07.trans e8
    have h8 := h.ex e08
    have hcap : s.log + 1 ≤ 4000 := hn4
    refine ⟨.ref c.st, rfl, ?_⟩
    refine (h8.ePlace (ev_var rfl)) H8 (Ex.refl H8) _ fun vpl H9 e9 ipl => ?_
    have e09 := e08.trans e9
    refine ev_dictP (K := K) (E := E) (l := (bs.filter fun b => (valV kvs (Sum.inr b)).isSome).map fun b => (b, g b)) ?_ ?_ fun d2 H10 nd2 e10 ht2 => ?_
    · have e : (bs.map PyData.str).filterMap (onStr fun b => if (valV kvs (Sum.inr b)).isSome = true then some (PyData.tuple [.str b, encTh (g b)]) else none) = ((bs.filter fun b => (valV kvs (Sum.inr b)).isSome).map fun b => (b, g b)).map fun x => PyData.tuple [.str x.1, encTh x.2] := by
        rw [fm_strs]
        rw [fm_if (fun b => (valV kvs (Sum.inr b)).isSome) fun b => PyData.tuple [.str b, encTh (g b)], List.map_map]
        rfl
      rw [← e]
      refine evl_lcT (j := 6) _ (evd_var rfl (i8.ex e9)) (by rw [List.length_map]; have := okw.2; omega) (fun i dd u H3 hi e3 iu => ?_) fun i dd u H3 e hi e3 iu he => ?_
      · obtain ⟨b, hb, rfl⟩ := List.mem_map.mp (List.mem_of_getElem? hi)
        have := iu.str_
        subst this
        refine evt_is (et_test (b := (valV kvs (Sum.inr b)).isSome) fun H4 e4 Q4 q4 => ?_) (by simp only [onStr]; cases (valV kvs (Sum.inr b)).isSome <;> rfl)
        exact ⟨_, rfl, _, rfl, d, _, rfl, DGet.k (k := Sum.inr b) (((e09.trans e3).trans e4) _ _ hk), q4 H4 (Ex.refl H4)⟩
      · obtain ⟨b, hb, rfl⟩ := List.mem_map.mp (List.mem_of_getElem? hi)
        have := iu.str_
        subst this
        simp only [onStr] at he
        split at he
        · next hso =>
          cases he
          obtain ⟨u2, hu2⟩ := Option.isSome_iff_exists.mp hso
          refine evd_tup (evds_cons (evd_var rfl (.str b)) (evds_cons (fun H4 e4 Q4 q4 => ?_) evds_nil))
          obtain ⟨_, x2⟩ := hg b
          rcases x2 with ⟨x2, _⟩ | ⟨u3, x3, x4⟩
          · rw [x2] at hu2; cases hu2
          · exact ⟨_, rfl, _, rfl, d, u3, rfl, by rw [← x3]; exact DGet.k (k := Sum.inr b) (((e09.trans e3).trans e4) _ _ hk), q4 _ H4 (Ex.refl H4) (x4.ex ((e09.trans e3).trans e4))⟩
        · cases he
    · intro x hx
      obtain ⟨b, hb, rfl⟩ := List.mem_map.mp hx
      exact ⟨okw.1 b (List.mem_filter.mp hb).1, (hg b).1⟩
    have h10 := h.ex (e09.trans e10)
    refine ⟨E, H0, c, _, ve, vp, s, vpl, d2, s.place, rfl, ok, h10, ipl.ex e10, ht2, hcap, fun z => ?_, fun H11 h11 kt11 kp11 => ?_⟩
    · rw [z] at nd2
      exact absurd nd2 (by rw [(h.ex e09).obj]; exact fun z => by cases z)
    · exact h11.fPopT hfr (evd_var (i := 5) rfl ((i8.ex (e9.trans e10)).mono kt11)) rfl (by simp) fun σ' H12 h12 kt12 => k H12 ⟨_, _, _, h12⟩ (((KT.of (e09.trans e10)).trans kt11).trans kt12)
  · refine ⟨_, (pss_cons (ps_set (i := 3) sc_law_things.nd rfl (.inr rfl) (pe_ix ix_tup (pe_ix ix_list (pe_dget hu (pv 0) pe_str (fun _ _ => rfl)) (pe_un un_neg pe_int) (fun _ _ => rfl)) pe_int (fun _ _ => rfl)))
  (pss_cons (ps_setLc (i := 4) (own := [("_law_box_here", 6)]) rfl sc_law_things.nd rfl rfl (sw_true rfl rfl rfl (by decide +kernel)) (pi_tup (pe_slice sl_tupA (pv 1) (po_some pe_int) po_none)) (blkOk_by (own := [("_law_box_here", 6)]) (N := ["_law_state", "_law_word_here", "_law_answer", "_law_things_here", "_law_some_here", "_law_boxes_here", "_law_box_here"]) (sc := defScope s_law_things) (by decide +kernel)) (fun _ _ _ _ _ => pg_name (i := 6) sc_law_things.nd rfl (.inl rfl)) (fun _ _ _ _ _ => by exact pts_one (pt_val (pe_callB (call_isiB K) (by rfl) T.isinstance_ boot_isinstance (pa_cons (pv 6) (pa_cons (pe_bltn (v := .ty "str") (by rfl) T.str_ boot_str rfl) pa_nil))))) (fun _ _ _ _ _ => by exact (pe_dget2 hu (pv 3) (pv 6) (pe_tup (pa_cons pe_int (pa_cons (pe_tup pa_nil) pa_nil))) ⟨rfl, rfl, rfl, rfl⟩)))
  (pss_one (ps_if (pt_cmpR op_eq (pe_ix ix_tup (pv 1) pe_int (fun _ _ => rfl)) pe_str (nomark _))
  (pss_one (ps_dput hu (pv 3) (pe_ix ix_tup (pv 1) pe_int (fun _ _ => rfl)) (pe_tup (pa_cons (pv 2) (pa_cons (pe_tup (pa_cons (pe_ix ix_tup (pv 1) pe_int (fun _ _ => rfl)) pa_nil)) pa_nil))) rfl))
  (pss_one (ps_if (pt_cmpR op_eq (pe_ix ix_tup (pv 1) pe_int (fun _ _ => rfl)) pe_str (nomark _))
  (pss_one (ps_dput hu (pv 3) (pe_ix ix_tup (pv 1) pe_int (fun _ _ => rfl)) (pe_tup (pa_cons (pv 2) (pa_cons (pe_tup pa_nil) pa_nil))) rfl))
  (pss_one (ps_if (pt_cmpR op_eq (pe_ix ix_tup (pv 1) pe_int (fun _ _ => rfl)) pe_str (nomark _))
  (pss_one (ps_dput hu (pv 3) (pe_ix ix_tup (pv 1) pe_int (fun _ _ => rfl)) (pe_tup (pa_cons (pe_ix ix_tup (pv 1) pe_int (fun _ _ => rfl)) (pa_cons (pe_tup pa_nil) pa_nil))) rfl))
  (pss_one (ps_if (pt_cmpR op_eq (pe_ix ix_tup (pv 1) pe_int (fun _ _ => rfl)) pe_str (nomark _))
  (pss_one (ps_dput hu (pv 3) (pe_ix ix_tup (pv 1) pe_int (fun _ _ => rfl)) (pe_ix ix_list (pv 4) pe_int (fun _ _ => rfl)) rfl))
  (pss_one (ps_if (pt_cmpR op_eq (pe_ix ix_tup (pv 1) pe_int (fun _ _ => rfl)) pe_str (nomark _))
  (pss_one (ps_dput hu (pv 3) (pe_ix ix_tup (pv 1) pe_int (fun _ _ => rfl)) (pe_tup (pa_cons (pe_op op_mod (pe_op op_add (pe_ix ix_tup (pe_ix ix_list (pv 4) pe_int (fun _ _ => rfl)) pe_int (fun _ _ => rfl)) (pe_op op_mul pe_int (pe_ix ix_tup (pe_ix ix_list (pv 4) pe_int (fun _ _ => rfl)) pe_int (fun _ _ => rfl)))) pe_int) (pa_cons (pe_callTy call_tuple_of (by rfl) T.tuple_ boot_tuple (pa_cons (pe_callB (call_sortT rfl) (by rfl) T.sorted_ boot_sorted (pa_cons (pe_callTy (call_setT rfl) (by rfl) T.set_ boot_set (pa_cons (pe_op op_catA (pe_ix ix_tup (pe_ix ix_list (pv 4) pe_int (fun _ _ => rfl)) pe_int (fun _ _ => rfl)) (pe_ix ix_tup (pe_ix ix_list (pv 4) pe_int (fun _ _ => rfl)) pe_int (fun _ _ => rfl))) pa_nil)) pa_nil)) pa_nil)) pa_nil))) rfl))
  (pss_one (ps_if (pt_cmpR op_eq (pe_ix ix_tup (pv 1) pe_int (fun _ _ => rfl)) pe_str (nomark _))
  (pss_one (ps_dput hu (pv 3) (pe_ix ix_tup (pv 1) pe_int (fun _ _ => rfl)) (pe_tup (pa_cons (pe_op op_mod (pe_ix ix_tup (pe_ix ix_list (pv 4) pe_int (fun _ _ => rfl)) pe_int (fun _ _ => rfl)) pe_int) (pa_cons (pe_tup pa_nil) pa_nil))) rfl))
  (pss_one (ps_if (pt_cmpR op_eq (pe_ix ix_tup (pv 1) pe_int (fun _ _ => rfl)) pe_str (nomark _))
  (pss_one (ps_expr (pe_bm PySem.F.plainAttrs_list PySem.F.slot_list_append PySem.F.type_list_append mt_append (pe_dget hu (pv 0) pe_str (fun _ _ => rfl)) (pa_cons (pe_ix ix_tup (pe_dget2 hu (pv 3) (pe_ix ix_tup (pv 1) pe_int (fun _ _ => rfl)) (pe_tup (pa_cons pe_int (pa_cons (pe_tup pa_nil) pa_nil))) ⟨rfl, rfl, rfl, rfl⟩) pe_int (fun _ _ => rfl)) pa_nil))))
  (pss_cons (ps_set (i := 5) sc_law_things.nd rfl (.inl rfl) (pe_lst (pa_cons (pe_ix ix_tup (pv 1) pe_int (fun _ _ => rfl)) pa_nil)))
  (pss_cons (ps_if (pt_cmpR op_eq (pe_ix ix_tup (pv 1) pe_int (fun _ _ => rfl)) pe_str (nomark _))
  (pss_one (ps_setLc (i := 5) (own := [("_law_box_here", 6)]) rfl sc_law_things.nd rfl rfl (sw_true rfl rfl rfl (by decide +kernel)) (pi_list (pe_callTy (call_listD rfl) (by rfl) T.list_ boot_list (pa_cons (pv 3) pa_nil))) (blkOk_by (own := [("_law_box_here", 6)]) (N := ["_law_state", "_law_word_here", "_law_answer", "_law_things_here", "_law_some_here", "_law_boxes_here", "_law_box_here"]) (sc := defScope s_law_things) (by decide +kernel)) (fun _ _ _ _ _ => pg_name (i := 6) sc_law_things.nd rfl (.inl rfl)) (fun _ _ _ _ _ => by exact pts_one (PW.pt (pw_and (pt_cmpR op_eq (pe_ix (ix_listK K) (pe_split (pv 6) pe_str) pe_int (fun _ _ => rfl)) (pe_ix (ix_tupK K) (pv 1) pe_int (fun _ _ => rfl)) (nomark _)) (pw_and1 (pt_cmpR op_in_sign pe_str (pv 6) (by rfl)))))) (fun _ _ _ _ _ => by exact (pv 6))))
  pss_nil)
  (pss_cons (ps_if (pt_cmpR op_eq (pe_ix ix_tup (pv 1) pe_int (fun _ _ => rfl)) pe_str (nomark _))
  (pss_cons (ps_set (i := 5) sc_law_things.nd rfl (.inl rfl) (pe_ix ix_tup (pv 1) pe_int (fun _ _ => rfl)))
  (pss_one (ps_expr (C8.pe_c c_law_leave hr (by omega) rfl (pa_cons (pv 0) (pa_cons (pe_dget hu (pv 0) pe_str (fun _ _ => rfl)) (pa_cons (pe_callTy (call_dictP rfl) (by rfl) T.dict_ boot_dict (pa_cons (pe_lc (own := [("_law_box_here", 6)]) rfl sc_law_things.nd (pi_tup (pv 5)) (blkOk_by (own := [("_law_box_here", 6)]) (N := ["_law_state", "_law_word_here", "_law_answer", "_law_things_here", "_law_some_here", "_law_boxes_here", "_law_box_here"]) (sc := defScope s_law_things) (by decide +kernel)) (fun _ _ _ _ _ => pg_name (i := 6) sc_law_things.nd rfl (.inl rfl)) (fun _ _ _ _ _ => by exact pts_one (pt_cmp (pc_din hu (pv 6) (pv 3)))) (fun _ _ _ _ _ => by exact (pe_tup (pa_cons (pv 6) (pa_cons (pe_dget hu (pv 3) (pv 6) (fun _ _ => rfl)) pa_nil))))) pa_nil)) pa_nil)))))))
  pss_nil)
  (pss_one (ps_for PassesOwn.never rfl (pi_list (pv 5)) (pg_name (i := 6) sc_law_things.nd rfl (.inl rfl))
  (pss_one (ps_expr (pe_dpop2 (pv 3) (pv 6) pe_non ⟨rfl, rfl, rfl, rfl⟩)))))))))))))))))))))))), ?_⟩
    refine start fun l1 vs H2 e2 hl1 i1 => ?_
    have σl : ∀ {σ : L2.St}, True := trivial
    cases wd with
    | take x u =>
      refine q_yesE (evt_hd1 (evd_var rfl (iw.ex e2)) rfl) fun H9 f9 => ?_
      have e9 : Ex H H9 := (e2.trans f9)
      have e29 : Ex H2 H9 := fun q o hq => f9 q o (hq)
      have h9 := h.ex e9
      have iw9 := iw.ex e9
      have W : EvD (tVar 1) [some (.ref c.st), some vw, some va, some (.ref d), some (.ref l1), none, none] H9 (encW (.take x u)) := evd_var rfl iw9
      obtain rfl := hva rfl
      refine h9.sPut (x := (a, [u])) hfr ok (fun _ => ev_var rfl) (evd_at (d := .str x) 1 W (by simp only [tlD]; rfl)) (by simp only [okW] at okw; exact okw.1) (evd_tup (evds_cons (evd_var (i := 2) rfl (.int a)) (evds_cons (evd_tup (evds_cons (evd_at (d := .str u) 2 W (by simp only [tlD]; rfl)) evds_nil)) evds_nil))) ⟨(by simp only [okW] at okw; intro z hz; rw [List.mem_singleton.mp hz]; exact okw.2), by simp⟩ fun H10 h10 kt10 => ?_
      exact k H10 ⟨_, _, _, h10⟩ ((KT.of e9).trans kt10)
    | ask x =>
      refine q_noE (evt_hd0 (evd_var rfl (iw.ex e2)) (by simp only [hd]; decide +kernel)) fun G0 r0 => ?_
      refine q_yesE (evt_hd1 (evd_var rfl (iw.ex (e2.trans r0))) rfl) fun H9 f9 => ?_
      have e9 : Ex H H9 := ((e2.trans r0).trans f9)
      have e29 : Ex H2 H9 := fun q o hq => f9 q o (r0 q o (hq))
      have h9 := h.ex e9
      have iw9 := iw.ex e9
      have W : EvD (tVar 1) [some (.ref c.st), some vw, some va, some (.ref d), some (.ref l1), none, none] H9 (encW (.ask x)) := evd_var rfl iw9
      obtain rfl := hva rfl
      refine h9.sPut (x := (a, [])) hfr ok (fun _ => ev_var rfl) (evd_at (d := .str x) 1 W (by simp only [tlD]; rfl)) (by simp only [okW] at okw; exact okw) (evd_tup (evds_cons (evd_var (i := 2) rfl (.int a)) (evds_cons (evd_tup evds_nil) evds_nil))) ⟨(fun z hz => by cases hz), by simp⟩ fun H10 h10 kt10 => ?_
      exact k H10 ⟨_, _, _, h10⟩ ((KT.of e9).trans kt10)
    | num x n =>
      refine q_noE (evt_hd0 (evd_var rfl (iw.ex e2)) (by simp only [hd]; decide +kernel)) fun G0 r0 => ?_
      refine q_noE (evt_hd0 (evd_var rfl (iw.ex (e2.trans r0))) (by simp only [hd]; decide +kernel)) fun G1 r1 => ?_
      refine q_yesE (evt_hd1 (evd_var rfl (iw.ex ((e2.trans r0).trans r1))) rfl) fun H9 f9 => ?_
      have e9 : Ex H H9 := (((e2.trans r0).trans r1).trans f9)
      have e29 : Ex H2 H9 := fun q o hq => f9 q o (r1 q o (r0 q o (hq)))
      have h9 := h.ex e9
      have iw9 := iw.ex e9
      have W : EvD (tVar 1) [some (.ref c.st), some vw, some va, some (.ref d), some (.ref l1), none, none] H9 (encW (.num x n)) := evd_var rfl iw9
      refine h9.sPut (x := (n, [])) hfr ok (fun _ => ev_var rfl) (evd_at (d := .str x) 1 W (by simp only [tlD]; rfl)) (by simp only [okW] at okw; exact okw) (evd_tup (evds_cons (evd_at (d := .int n) 2 W (by simp only [tlD]; rfl)) (evds_cons (evd_tup evds_nil) evds_nil))) ⟨(fun z hz => by cases hz), by simp⟩ fun H10 h10 kt10 => ?_
      exact k H10 ⟨_, _, _, h10⟩ ((KT.of e9).trans kt10)
    | copy x y =>
      refine q_noE (evt_hd0 (evd_var rfl (iw.ex e2)) (by simp only [hd]; decide +kernel)) fun G0 r0 => ?_
      refine q_noE (evt_hd0 (evd_var rfl (iw.ex (e2.trans r0))) (by simp only [hd]; decide +kernel)) fun G1 r1 => ?_
      refine q_noE (evt_hd0 (evd_var rfl (iw.ex ((e2.trans r0).trans r1))) (by simp only [hd]; decide +kernel)) fun G2 r2 => ?_
      refine q_yesE (evt_hd1 (evd_var rfl (iw.ex (((e2.trans r0).trans r1).trans r2))) rfl) fun H9 f9 => ?_
      have e9 : Ex H H9 := ((((e2.trans r0).trans r1).trans r2).trans f9)
      have e29 : Ex H2 H9 := fun q o hq => f9 q o (r2 q o (r1 q o (r0 q o (hq))))
      have h9 := h.ex e9
      have iw9 := iw.ex e9
      have W : EvD (tVar 1) [some (.ref c.st), some vw, some va, some (.ref d), some (.ref l1), none, none] H9 (encW (.copy x y)) := evd_var rfl iw9
      have L0 : EvD (tOp (rIxL K) (tVar 4) (tC (.int 0))) [some (.ref c.st), some vw, some va, some (.ref d), some (.ref l1), none, none] H9 (encTh (g y)) := evd_ixLR (n := 0) (ev_var rfl) (e29 _ _ hl1) (i1.ex e29) rfl
      refine h9.sPut (x := g y) hfr ok (fun _ => ev_var rfl) (evd_at (d := .str x) 1 W (by simp only [tlD]; rfl)) (by simp only [okW] at okw; exact okw.1) (L0) (hg y).1 fun H10 h10 kt10 => ?_
      exact k H10 ⟨_, _, _, h10⟩ ((KT.of e9).trans kt10)
    | mix x y z =>
      refine q_noE (evt_hd0 (evd_var rfl (iw.ex e2)) (by simp only [hd]; decide +kernel)) fun G0 r0 => ?_
      refine q_noE (evt_hd0 (evd_var rfl (iw.ex (e2.trans r0))) (by simp only [hd]; decide +kernel)) fun G1 r1 => ?_
      refine q_noE (evt_hd0 (evd_var rfl (iw.ex ((e2.trans r0).trans r1))) (by simp only [hd]; decide +kernel)) fun G2 r2 => ?_
      refine q_noE (evt_hd0 (evd_var rfl (iw.ex (((e2.trans r0).trans r1).trans r2))) (by simp only [hd]; decide +kernel)) fun G3 r3 => ?_
      refine q_yesE (evt_hd1 (evd_var rfl (iw.ex ((((e2.trans r0).trans r1).trans r2).trans r3))) rfl) fun H9 f9 => ?_
      have e9 : Ex H H9 := (((((e2.trans r0).trans r1).trans r2).trans r3).trans f9)
      have e29 : Ex H2 H9 := fun q o hq => f9 q o (r3 q o (r2 q o (r1 q o (r0 q o (hq)))))
      have h9 := h.ex e9
      have iw9 := iw.ex e9
      have W : EvD (tVar 1) [some (.ref c.st), some vw, some va, some (.ref d), some (.ref l1), none, none] H9 (encW (.mix x y z)) := evd_var rfl iw9
      have L0 : EvD (tOp (rIxL K) (tVar 4) (tC (.int 0))) [some (.ref c.st), some vw, some va, some (.ref d), some (.ref l1), none, none] H9 (encTh (g y)) := evd_ixLR (n := 0) (ev_var rfl) (e29 _ _ hl1) (i1.ex e29) rfl
      have L1 : EvD (tOp (rIxL K) (tVar 4) (tC (.int 1))) [some (.ref c.st), some vw, some va, some (.ref d), some (.ref l1), none, none] H9 (encTh (g z)) := evd_ixLR (n := 1) (ev_var rfl) (e29 _ _ hl1) (i1.ex e29) rfl
      obtain ⟨⟨wy, ly⟩, _⟩ := hg y
      obtain ⟨⟨wz, lz⟩, _⟩ := hg z
      have wo : worthsOk E (g y).2 (g z).2 = true := by
        unfold worthsOk
        rw [Bool.and_eq_true, Bool.and_eq_true, List.all_eq_true, List.all_eq_true]
        exact ⟨fun q hq => decide_eq_true (wy q hq), fun q hq => decide_eq_true (wz q hq), decide_eq_true (by omega)⟩
      refine h9.sPut (x := (((g y).1 + 2 * (g z).1) % 10007, both E (g y).2 (g z).2)) hfr ok (fun _ => ev_var rfl) (evd_at (d := .str x) 1 W (by simp only [tlD]; rfl)) (by simp only [okW] at okw; exact okw.1) (evd_tup (evds_cons (evd_I (evd_add (evd_at (d := .int (g y).1) 0 L0 rfl) (evd_I evd_int (evd_at (d := .int (g z).1) 0 L1 rfl) (.inl ⟨by decide, by decide⟩))) (evd_int (i := 10007)) (by decide)) (evds_cons (evd_tss ok wo (by rw [tstr, List.map_append]; exact evd_cat (evd_at (d := tstr (g y).2) 1 L0 rfl) (evd_at (d := tstr (g z).2) 1 L1 rfl) (by rw [List.length_map, List.length_map]; omega))) evds_nil))) ⟨fun q hq => (List.mem_filter.mp hq).1, Nat.le_trans (List.length_filter_le _ _) ok.wl⟩ fun H10 h10 kt10 => ?_
      exact k H10 ⟨_, _, _, h10⟩ ((KT.of e9).trans kt10)
    | opn x y =>
      refine q_noE (evt_hd0 (evd_var rfl (iw.ex e2)) (by simp only [hd]; decide +kernel)) fun G0 r0 => ?_
      refine q_noE (evt_hd0 (evd_var rfl (iw.ex (e2.trans r0))) (by simp only [hd]; decide +kernel)) fun G1 r1 => ?_
      refine q_noE (evt_hd0 (evd_var rfl (iw.ex ((e2.trans r0).trans r1))) (by simp only [hd]; decide +kernel)) fun G2 r2 => ?_
      refine q_noE (evt_hd0 (evd_var rfl (iw.ex (((e2.trans r0).trans r1).trans r2))) (by simp only [hd]; decide +kernel)) fun G3 r3 => ?_
      refine q_noE (evt_hd0 (evd_var rfl (iw.ex ((((e2.trans r0).trans r1).trans r2).trans r3))) (by simp only [hd]; decide +kernel)) fun G4 r4 => ?_
      refine q_yesE (evt_hd1 (evd_var rfl (iw.ex (((((e2.trans r0).trans r1).trans r2).trans r3).trans r4))) rfl) fun H9 f9 => ?_
      have e9 : Ex H H9 := ((((((e2.trans r0).trans r1).trans r2).trans r3).trans r4).trans f9)
      have e29 : Ex H2 H9 := fun q o hq => f9 q o (r4 q o (r3 q o (r2 q o (r1 q o (r0 q o (hq))))))
      have h9 := h.ex e9
      have iw9 := iw.ex e9
      have W : EvD (tVar 1) [some (.ref c.st), some vw, some va, some (.ref d), some (.ref l1), none, none] H9 (encW (.opn x y)) := evd_var rfl iw9
      have L0 : EvD (tOp (rIxL K) (tVar 4) (tC (.int 0))) [some (.ref c.st), some vw, some va, some (.ref d), some (.ref l1), none, none] H9 (encTh (g y)) := evd_ixLR (n := 0) (ev_var rfl) (e29 _ _ hl1) (i1.ex e29) rfl
      refine h9.sPut (x := ((g y).1 % 2, [])) hfr ok (fun _ => ev_var rfl) (evd_at (d := .str x) 1 W (by simp only [tlD]; rfl)) (by simp only [okW] at okw; exact okw.1) (evd_tup (evds_cons (evd_I (evd_at (d := .int (g y).1) 0 L0 rfl) (evd_int (i := 2)) (by decide)) (evds_cons (evd_tup evds_nil) evds_nil))) ⟨(fun z hz => by cases hz), by simp⟩ fun H10 h10 kt10 => ?_
      exact k H10 ⟨_, _, _, h10⟩ ((KT.of e9).trans kt10)
    | tell x =>
      refine q_noE (evt_hd0 (evd_var rfl (iw.ex e2)) (by simp only [hd]; decide +kernel)) fun G0 r0 => ?_
      refine q_noE (evt_hd0 (evd_var rfl (iw.ex (e2.trans r0))) (by simp only [hd]; decide +kernel)) fun G1 r1 => ?_
      refine q_noE (evt_hd0 (evd_var rfl (iw.ex ((e2.trans r0).trans r1))) (by simp only [hd]; decide +kernel)) fun G2 r2 => ?_
      refine q_noE (evt_hd0 (evd_var rfl (iw.ex (((e2.trans r0).trans r1).trans r2))) (by simp only [hd]; decide +kernel)) fun G3 r3 => ?_
      refine q_noE (evt_hd0 (evd_var rfl (iw.ex ((((e2.trans r0).trans r1).trans r2).trans r3))) (by simp only [hd]; decide +kernel)) fun G4 r4 => ?_
      refine q_noE (evt_hd0 (evd_var rfl (iw.ex (((((e2.trans r0).trans r1).trans r2).trans r3).trans r4))) (by simp only [hd]; decide +kernel)) fun G5 r5 => ?_
      refine q_yesE (evt_hd1 (evd_var rfl (iw.ex ((((((e2.trans r0).trans r1).trans r2).trans r3).trans r4).trans r5))) rfl) fun H9 f9 => ?_
      have e9 : Ex H H9 := (((((((e2.trans r0).trans r1).trans r2).trans r3).trans r4).trans r5).trans f9)
      have e29 : Ex H2 H9 := fun q o hq => f9 q o (r5 q o (r4 q o (r3 q o (r2 q o (r1 q o (r0 q o (hq)))))))
      have h9 := h.ex e9
      have iw9 := iw.ex e9
      have W : EvD (tVar 1) [some (.ref c.st), some vw, some va, some (.ref d), some (.ref l1), none, none] H9 (encW (.tell x)) := evd_var rfl iw9
      obtain ⟨xs, hlt, hxl⟩ := h9.told
      have hb4 : s.log + 1 ≤ 4000 := hn4
      have hg9 : Gets E H9 kvs g := fun b => by
        obtain ⟨x1, x2⟩ := hg b
        refine ⟨x1, ?_⟩
        rcases x2 with x2 | ⟨u, x3, x4⟩
        · exact .inl x2
        · exact .inr ⟨u, x3, x4.ex e9⟩
      refine sd_app (d := .int (g x).1) (h9.eTold (ev_var rfl)) hlt (evd_at 0 (evd_getL hg9 (e9 _ _ hk) (ev_var rfl) (evd_at (d := .str x) 1 W (by simp only [tlD]; rfl)) (evd_tup (evds_cons evd_int (evds_cons (evd_tup evds_nil) evds_nil)))) rfl) (Nat.lt_of_le_of_lt hxl (Nat.lt_of_lt_of_le (Nat.lt_succ_self _) (Nat.le_trans hb4 (by decide)))) fun v H10 e10 i10 => ?_
      have h10 := (h9.ex e10).num (v := v) (e10 _ _ hlt) hxl hb4
      exact k _ ⟨_, _, _, h10⟩ ((KT.of (e9.trans e10)).trans ((KT.refl H10).upd (nt_lst (e10 _ _ hlt))))
    | wipe x =>
      refine q_noE (evt_hd0 (evd_var rfl (iw.ex e2)) (by simp only [hd]; decide +kernel)) fun G0 r0 => ?_
      refine q_noE (evt_hd0 (evd_var rfl (iw.ex (e2.trans r0))) (by simp only [hd]; decide +kernel)) fun G1 r1 => ?_
      refine q_noE (evt_hd0 (evd_var rfl (iw.ex ((e2.trans r0).trans r1))) (by simp only [hd]; decide +kernel)) fun G2 r2 => ?_
      refine q_noE (evt_hd0 (evd_var rfl (iw.ex (((e2.trans r0).trans r1).trans r2))) (by simp only [hd]; decide +kernel)) fun G3 r3 => ?_
      refine q_noE (evt_hd0 (evd_var rfl (iw.ex ((((e2.trans r0).trans r1).trans r2).trans r3))) (by simp only [hd]; decide +kernel)) fun G4 r4 => ?_
      refine q_noE (evt_hd0 (evd_var rfl (iw.ex (((((e2.trans r0).trans r1).trans r2).trans r3).trans r4))) (by simp only [hd]; decide +kernel)) fun G5 r5 => ?_
      refine q_noE (evt_hd0 (evd_var rfl (iw.ex ((((((e2.trans r0).trans r1).trans r2).trans r3).trans r4).trans r5))) (by simp only [hd]; decide +kernel)) fun G6 r6 => ?_
      refine qd_lst (ds := [.str x]) (evds_cons (evd_at 1 (evd_var rfl (iw.ex (((((((e2.trans r0).trans r1).trans r2).trans r3).trans r4).trans r5).trans r6))) (by simp only [tlD]; rfl)) evds_nil) (by simp) fun l5 vs5 H5 nl5 e5 hl5 i5 => ?_
      obtain ⟨u, rfl, iu⟩ := i5.one
      have := iu.str_
      subst this
      refine q_seq (q_noE (evt_hd0 (evd_var rfl (iw.ex ((((((((e2.trans r0).trans r1).trans r2).trans r3).trans r4).trans r5).trans r6).trans e5))) (by simp only [hd]; decide +kernel)) fun H6 e6 => ?_)
      refine q_seq (q_noE (evt_hd0 (evd_var rfl (iw.ex (((((((((e2.trans r0).trans r1).trans r2).trans r3).trans r4).trans r5).trans r6).trans e5).trans e6))) (by simp only [hd]; decide +kernel)) fun H7 e7 => ?_)
      have e07 := ((((((((((e2.trans r0).trans r1).trans r2).trans r3).trans r4).trans r5).trans r6).trans e5).trans e6).trans e7)
      exact (h.ex e07).fPop hfr (bs := [x]) (ev_var rfl) (e7 _ _ (e6 _ _ hl5)) rfl (by simp) fun σ' H12 h12 kt12 => k H12 ⟨_, _, _, h12⟩ ((KT.of e07).trans kt12)
    | clear r =>
      refine q_noE (evt_hd0 (evd_var rfl (iw.ex e2)) (by simp only [hd]; decide +kernel)) fun G0 r0 => ?_
      refine q_noE (evt_hd0 (evd_var rfl (iw.ex (e2.trans r0))) (by simp only [hd]; decide +kernel)) fun G1 r1 => ?_
      refine q_noE (evt_hd0 (evd_var rfl (iw.ex ((e2.trans r0).trans r1))) (by simp only [hd]; decide +kernel)) fun G2 r2 => ?_
      refine q_noE (evt_hd0 (evd_var rfl (iw.ex (((e2.trans r0).trans r1).trans r2))) (by simp only [hd]; decide +kernel)) fun G3 r3 => ?_
      refine q_noE (evt_hd0 (evd_var rfl (iw.ex ((((e2.trans r0).trans r1).trans r2).trans r3))) (by simp only [hd]; decide +kernel)) fun G4 r4 => ?_
      refine q_noE (evt_hd0 (evd_var rfl (iw.ex (((((e2.trans r0).trans r1).trans r2).trans r3).trans r4))) (by simp only [hd]; decide +kernel)) fun G5 r5 => ?_
      refine q_noE (evt_hd0 (evd_var rfl (iw.ex ((((((e2.trans r0).trans r1).trans r2).trans r3).trans r4).trans r5))) (by simp only [hd]; decide +kernel)) fun G6 r6 => ?_
      have okw : noDot r ∧ PyData.strOk r = true := by simpa only [okW] using okw
      refine qd_lst (ds := [.str r]) (evds_cons (evd_at 1 (evd_var rfl (iw.ex (((((((e2.trans r0).trans r1).trans r2).trans r3).trans r4).trans r5).trans r6))) (by simp only [tlD]; rfl)) evds_nil) (by simp) fun l5 vs5 H5 nl5 e5 hl5 i5 => ?_
      refine q_seq (q_yesE (evt_hd1 (evd_var rfl (iw.ex ((((((((e2.trans r0).trans r1).trans r2).trans r3).trans r4).trans r5).trans r6).trans e5))) rfl) fun H6 e6 => ?_)
      have e06 := (((((((((e2.trans r0).trans r1).trans r2).trans r3).trans r4).trans r5).trans r6).trans e5).trans e6)
      obtain ⟨ks, hks, hnd, hmem⟩ := lth_keys hth
      have hkl : ks.length ≤ 20 := by
        have a := lth_len ok.bl hth
        have b := congrArg List.length hks
        simp only [List.length_map] at b
        omega
      refine sd_setL (ds := (ks.filter fun b => decide (firstName b = r) && decide (dot ∈ b.cps.toList)).map PyData.str) ?_ fun l6 v6 H7 nl6 e7 hl6 i6 => ?_
      · have e : (ks.map PyData.str).filterMap (onStr fun b => if (decide (firstName b = r) && decide (dot ∈ b.cps.toList)) = true then some (.str b) else none) = (ks.filter fun b => decide (firstName b = r) && decide (dot ∈ b.cps.toList)).map PyData.str := by
          rw [fm_strs]
          exact fm_if (fun b => decide (firstName b = r) && decide (dot ∈ b.cps.toList)) PyData.str ks
        rw [← e]
        refine evl_lcL (j := 6) _ (evl_lstD (ev_var rfl) (e06 _ _ hk) hks) (by rw [List.length_map]; omega) (fun i dd u H3 hi e3 iu => ?_) fun i dd u H3 e hi e3 iu he => ?_
        · obtain ⟨b, hb, rfl⟩ := List.mem_map.mp (List.mem_of_getElem? hi)
          have hb2 := ok.bok b (hmem b hb).1
          have := iu.str_
          subst this
          refine evt_is (et_and (a := decide (firstName b = r)) (b := decide (dot ∈ b.cps.toList)) ?_ fun _ => ?_) (by simp only [onStr]; cases (decide (firstName b = r) && decide (dot ∈ b.cps.toList)) <;> rfl)
          · exact evt_eq (evd_first (evd_var (i := 6) (σ := [some (.ref c.st), some vw, some va, some (.ref d), some (.ref l1), some (.ref l5), some (.str b)]) rfl (.str b)) hb2.2) (evd_at (K := K) (d := .str r) 1 (evd_var (i := 1) (σ := [some (.ref c.st), some vw, some va, some (.ref d), some (.ref l1), some (.ref l5), some (.str b)]) rfl (iw.ex (e06.trans e3))) (by simp only [tlD]; rfl)) rfl
          · exact et_test fun H4 e4 Q4 q4 => ⟨_, rfl, dot, b, congrArg V.str dot_str, rfl, q4 H4 (Ex.refl H4)⟩
        · obtain ⟨b, hb, rfl⟩ := List.mem_map.mp (List.mem_of_getElem? hi)
          simp only [onStr] at he
          split at he
          · cases he
            exact evd_var rfl iu
          · cases he
      · have := i6.strs_
        subst this
        refine q_seq (q_noE (evt_hd0 (evd_var rfl (iw.ex (e06.trans e7))) (by simp only [hd]; decide +kernel)) fun H8 e8 => ?_)
        have e08 := (e06.trans e7).trans e8
        exact (h.ex e08).fPop hfr (ev_var rfl) (e8 _ _ hl6) rfl (by simp) fun σ' H12 h12 kt12 => k H12 ⟨_, _, _, h12⟩ ((KT.of e08).trans kt12)
    | drop bs => exact absurd ⟨_, rfl⟩ hdw
    | choose _ => cases hpl
    | loop _ => cases hpl
    | out _ => cases hpl
    | risk _ => cases hpl
    | fault _ => cases hpl
    | call _ _ _ => cases hpl
    | back => cases hpl
end
end K16

set_option Elab.async false
set_option linter.all false
set_option maxRecDepth 100000
set_option maxHeartbeats 4000000
/-! KLStep: the law's interpreter: one step -/
namespace K16
open PySem PySem.Spec PyProof.Rows L2 Evl
def spLStep : Sp := fun vs H Q _ => ∃ E p H0 c s s' wd a v va, vs = [v, .ref c.st, va] ∧ EnvOk E ∧ ProgOk E p ∧ LP p ∧ LAt E H0 c H s ∧ Im H v (encProg p) ∧ wordAt p s.place = some (some wd) ∧ (a = none → va = .non) ∧ (∀ x : Int, a = some x → va = .int x ∧ 0 ≤ x) ∧
  stepW p s wd a = some s' ∧ ((need wd).isSome = true → a.isSome = true) ∧ (need wd = none → a = none) ∧ ∀ H', LAt E H0 c H' s' → KT H H' → Q .non H'
theorem pg_tupK (K : PySem.W.Frag) {X : Cx} {es : List Expr} {k : Nat} {pos : Pos} {t : TGs} {n : Nat} (hc : X.calm = true) (h : PGs X es t) (hn : (assignEach es X.env).length = n := by rfl) (hst : (assignEach es X.env).findIdx? (·.1) = none := by rfl) (hK : X.K = K := by rfl) : PG X (.Tuple es k pos) (gTup K n t) := by
  subst hK
  exact pg_tup hc h hn hst
theorem plain_step {p : Prog} {s s' : MS ctl} {wd : Word} {a : Option Int} (hp : isPlain wd = true) (h : stepW p s wd a = some s') : s.frames ≠ [] ∧ ∃ n pl, chk (bump wd s.log) = some n ∧ behind p s.place = some pl ∧ comeTo p { s with log := n } pl = some s' := by
  have key : ∃ cp rest, s.frames = (cp, ()) :: rest ∧ (ctl.plain s.place wd a () s.log).bind (fun r => (behind p s.place).bind (comeTo p { s with frames := (cp, r.1) :: rest, log := r.2 })) = some s' := by
    cases hfr : s.frames with
    | nil => exfalso; cases wd <;> first | (cases hp; done) | (simp [stepW, hfr] at h; done)
    | cons y rest =>
      obtain ⟨cp, ⟨⟩⟩ := y
      refine ⟨cp, rest, rfl, ?_⟩
      rw [← h]
      cases wd <;> first | (cases hp; done) | (simp only [stepW, hfr]; done) | (simp only [stepW, hfr]; rfl)
  obtain ⟨cp, rest, hfr, h⟩ := key
  obtain ⟨⟨⟨⟩, n⟩, h1, h⟩ := Option.bind_eq_some_iff.mp h
  obtain ⟨pl, h2, h3⟩ := Option.bind_eq_some_iff.mp h
  have h1 : (if isPlain wd then (chk (bump wd s.log)).map fun n => ((), n) else none) = some ((), n) := h1
  rw [if_pos hp] at h1
  obtain ⟨m, h4, h5⟩ := Option.map_eq_some_iff.mp h1
  cases h5
  refine ⟨by rw [hfr]; simp, n, pl, h4, h2, ?_⟩
  rw [← h3, ← hfr]
theorem paired_snoc {α β : Type} {R : α → β → Prop} {xs : List α} {ys : List β} {x : α} {y : β} (h : Paired R xs ys) (r : R x y) : Paired R (xs ++ [x]) (ys ++ [y]) := by
  induction h with
  | nil => exact .cons r .nil
  | cons a _ ih => exact .cons a ih
theorem paired_map {α β : Type} {R S : α → β → Prop} {xs : List α} {ys : List β} (h : Paired R xs ys) (f : ∀ x y, R x y → S x y) : Paired S xs ys := by
  induction h with
  | nil => exact .nil
  | cons a _ ih => exact .cons (f _ _ a) ih
/-- a comprehension over a zip of two tuples -/
theorem lc_zipT {K : PySem.W.Frag} {a b : Addr} {xs ys : List V} {g : TG} {tt : TT} {te : TE} {vs : List Nat} {σ : L2.St} {H1 : Hp} {D : Addr} {Qd : Hp → Prop} (hl : xs.length = ys.length) (Pv : Nat → Hp → Prop) (h0 : Pv 0 (upd H1 D (.lst []))) (hq : ∀ i H, Pv i H → SqT K H a xs ∧ SqT K H b ys)
    (hs : ∀ (i : Nat) (x y : V) (T : Addr) (H : Hp), xs[i]? = some x → ys[i]? = some y → Pv i H → H T = none → g (.ref T) (wipe σ vs) (upd H T (.tup [x, y])) fun σ2 H2 => wipe σ2 vs = wipe σ vs ∧ tt σ2 H2 fun b H3 =>
      if b = true then te σ2 H3 fun y H4 => ∃ acc, H4 D = some (.lst acc) ∧ acc.length < sizeLine ∧ Pv (i + 1) (upd H4 D (.lst (acc ++ [y]))) else Pv (i + 1) H3) (hd : ∀ H, Pv xs.length H → Qd H) :
    ∃ W : Nat → Nat → Hp → Prop, (∃ m, W 0 m (upd H1 D (.lst []))) ∧ ∀ i m H, W i m H →
      ((RZ.ItzT K a b).stop i H ∧ Qd H) ∨ ((RZ.ItzT K a b).go i H ∧ ∃ Nx : Hp → Prop, (∀ H', Nx H' → ∃ m', m' < m ∧ W (i + 1) m' H') ∧ ∀ x H', (RZ.ItzT K a b).yld i H x H' → g x (wipe σ vs) H' fun σ2 H2 => wipe σ2 vs = wipe σ vs ∧ tt σ2 H2 fun b H3 =>
        if b = true then te σ2 H3 fun y H4 => ∃ acc, H4 D = some (.lst acc) ∧ acc.length < sizeLine ∧ Nx (upd H4 D (.lst (acc ++ [y]))) else Nx H3) := by
  refine ⟨fun i m H => m = xs.length - i ∧ i ≤ xs.length ∧ Pv i H, ⟨xs.length, rfl, Nat.zero_le _, h0⟩, ?_⟩
  rintro i m H ⟨rfl, hi, p⟩
  obtain ⟨qx, qy⟩ := hq i H p
  by_cases hlt : i < xs.length
  · have hx : xs[i]? = some xs[i] := List.getElem?_eq_getElem hlt
    have hlt2 : i < ys.length := by omega
    have hy : ys[i]? = some ys[i] := List.getElem?_eq_getElem hlt2
    refine .inr ⟨⟨xs, ys, _, _, qx, qy, hx, hy⟩, Pv (i + 1), fun H' p' => ⟨xs.length - (i + 1), by omega, rfl, hlt, p'⟩, fun v H' y => ?_⟩
    obtain ⟨T, x', y', rfl, hT, rfl, f1, f2⟩ := y
    exact hs i x' y' T H (f1 xs qx) (f2 ys qy) p hT
  · have e : i = xs.length := by omega
    subst e
    exact .inl ⟨⟨xs, ys, qx, qy, .inl (Nat.le_refl _)⟩, hd H p⟩
theorem loops_le {p : Prog} {nm : Str} : ∀ path : List (Nat × Nat), loopsOn p nm path ≤ path.length
  | [] => Nat.le_refl _
  | (n, c) :: ps => by
    have := loops_le (p := p) (nm := nm) ps
    simp only [loopsOn, List.length_cons]
    split
    · split <;> omega
    · omega
section
variable {K : PySem.W.Frag} {σ : L2.St} {H : Hp}
theorem evd_orz {i : Nat} {x : Int} (h : σ[i]? = some (some (.int x))) : EvD (tOrT K (tVar i) (tC (.int 0))) σ H (.int x) := fun H1 e1 Q q => by
  refine ⟨_, h, (x != 0), rfl, ?_⟩
  by_cases hx : x = 0
  · subst hx
    exact q _ H1 (Ex.refl H1) (.int _)
  · rw [if_pos (by simp [hx])]
    exact q _ H1 (Ex.refl H1) (.int _)
theorem evd_orn {i : Nat} (h : σ[i]? = some (some .non)) : EvD (tOrT K (tVar i) (tC (.int 0))) σ H (.int 0) := fun H1 e1 Q q => ⟨_, h, false, rfl, q _ H1 (Ex.refl H1) (.int _)⟩
end
section
variable {P : Program} {w : World} {K : PySem.W.Frag} {mg : Str → Option Value} {base : Heap}
theorem sc_law_step : FnScope ["_law_program_here", "_law_state", "_law_answer", "_law_place_here", "_law_word_here", "_law_things_here", "_law_params", "_law_held", "_law_one", "_law_box_here", "_law_param"] ["_law_program_here", "_law_state", "_law_answer"] (defScope s_law_step) := ⟨rfl, rfl, rfl, by decide +kernel, rfl, by decide +kernel, by decide +kernel⟩
theorem ok_law_step (T : Fx K mg) : C8.Cal P w K mg base 14 "_law_step" spLStep [] := by
  obtain ⟨fd, F⟩ := T.f_law_step
  have c_law_word := ok_law_word (P := P) (w := w) (base := base) T
  have c_law_arrive := ok_law_arrive (P := P) (w := w) (base := base) T
  have c_law_into := ok_law_into (P := P) (w := w) (base := base) T
  have c_law_out := ok_law_out (P := P) (w := w) (base := base) T
  have c_law_end_def := ok_law_end_def (P := P) (w := w) (base := base) T
  have c_law_fall := ok_law_fall (P := P) (w := w) (base := base) T
  have c_law_things := ok_law_things (P := P) (w := w) (base := base) T
  have c_law_after := ok_law_after (P := P) (w := w) (base := base) T 8
  refine cal_of F T.g_law_step sc_law_step (fun _ _ _ _ _ _ us hl => match us, hl with | [_, _, _], _ => rfl) (by rintro vs H Q E ⟨_, _, _, _, _, _, _, _, _, _, rfl, _⟩; rfl) fun cdv A outer s0 H vs Q E0 hr hsp => ?_
  obtain ⟨E, p, H0, c, s, s', wd, a, v, va, rfl, ok, pok, lp, ⟨fs, ve, vp, h⟩, iv, hw, hva0, hva1, hop, hna, hnn, k⟩ := hsp
  have hu := hu_of hr
  refine ⟨_, (pss_cons (ps_set (i := 3) sc_law_step.nd rfl (.inl rfl) (pe_dget hu (pv 1) pe_str (fun _ _ => rfl)))
(pss_cons (ps_set (i := 4) sc_law_step.nd rfl (.inr rfl) (C8.pe_c c_law_word hr (by omega) rfl (pa_cons (pv 0) (pa_cons (pv 3) pa_nil))))
(pss_one (ps_if (pt_cmpR op_in_seq (pe_ix ix_tup (pv 4) pe_int (fun _ _ => rfl)) (pe_tup (pa_cons pe_str (pa_cons pe_str pa_nil))) (by rfl))
(pss_one (ps_expr (C8.pe_c c_law_arrive hr (by omega) rfl (pa_cons (pv 0) (pa_cons (pv 1) (pa_cons (C8.pe_c c_law_into hr (by omega) rfl (pa_cons (pv 0) (pa_cons (pv 3) (pa_cons (pe_orT (pv 2) (pe_one pe_int)) pa_nil)))) pa_nil))))))
(pss_one (ps_if (pt_cmpR op_eq (pe_ix ix_tup (pv 4) pe_int (fun _ _ => rfl)) pe_str (nomark _))
(pss_one (ps_expr (C8.pe_c c_law_arrive hr (by omega) rfl (pa_cons (pv 0) (pa_cons (pv 1) (pa_cons (C8.pe_c c_law_out hr (by omega) rfl (pa_cons (pv 0) (pa_cons (pv 3) (pa_cons (pe_ix ix_tup (pv 4) pe_int (fun _ _ => rfl)) pa_nil)))) pa_nil))))))
(pss_one (ps_if (pt_cmpR op_eq (pe_ix ix_tup (pv 4) pe_int (fun _ _ => rfl)) pe_str (nomark _))
(pss_cons (ps_expr (C8.pe_c c_law_end_def hr (by omega) rfl (pa_cons (pv 0) (pa_cons (pv 1) pa_nil))))
(pss_one (ps_if (pt_cmpR op_isN (pe_dget hu (pv 1) pe_str (fun _ _ => rfl)) pe_non (nomark _))
(pss_one (ps_expr (C8.pe_c c_law_arrive hr (by omega) rfl (pa_cons (pv 0) (pa_cons (pv 1) (pa_cons (pe_dget hu (pv 1) pe_str (fun _ _ => rfl)) pa_nil))))))
pss_nil)))
(pss_one (ps_if (PW.pt (pw_or (pt_cmpR op_eq (pe_ix ix_tup (pv 4) pe_int (fun _ _ => rfl)) pe_str (nomark _)) (pw_or1 (PW.pt (pw_and (pt_cmpR op_eq (pe_ix ix_tup (pv 4) pe_int (fun _ _ => rfl)) pe_str (nomark _)) (pw_and1 (pt_cmpR op_eq (pv 2) pe_int (nomark _))))))))
(pss_one (ps_expr (C8.pe_c c_law_fall hr (by omega) rfl (pa_cons (pv 1) (pa_cons (pe_ix ix_tup (pv 4) pe_int (fun _ _ => rfl)) pa_nil)))))
(pss_one (ps_if (pt_cmpR op_eq (pe_ix ix_tup (pv 4) pe_int (fun _ _ => rfl)) pe_str (nomark _))
(pss_cons (ps_set (i := 5) sc_law_step.nd rfl (.inr rfl) (pe_ix ix_tup (pe_ix ix_list (pe_dget hu (pv 1) pe_str (fun _ _ => rfl)) (pe_un un_neg pe_int) (fun _ _ => rfl)) pe_int (fun _ _ => rfl)))
(pss_cons (ps_set (i := 6) sc_law_step.nd rfl (.inl rfl) (pe_ix ix_tup (pe_ix ix_list (pe_lc (own := [("_law_one", 8)]) rfl sc_law_step.nd (pi_tup (pe_ix ix_tup (pv 0) pe_int (fun _ _ => rfl))) (blkOk_by (own := [("_law_one", 8)]) (N := ["_law_program_here", "_law_state", "_law_answer", "_law_place_here", "_law_word_here", "_law_things_here", "_law_params", "_law_held", "_law_one", "_law_box_here", "_law_param"]) (sc := defScope s_law_step) (by decide +kernel)) (fun _ _ _ _ _ => pg_name (i := 8) sc_law_step.nd rfl (.inl rfl)) (fun _ _ _ _ _ => by exact pts_one (pt_cmpR op_eq (pe_ix (ix_tupK K) (pv 8) pe_int (fun _ _ => rfl)) (pe_ix (ix_tupK K) (pv 4) pe_int (fun _ _ => rfl)) (nomark _))) (fun _ _ _ _ _ => by exact (pv 8))) pe_int (fun _ _ => rfl)) pe_int (fun _ _ => rfl)))
(pss_cons (ps_set (i := 7) sc_law_step.nd rfl (.inl rfl) (pe_callTy (call_dictP rfl) (by rfl) T.dict_ boot_dict (pa_cons (pe_lc (own := [("_law_box_here", 9), ("_law_param", 10)]) rfl sc_law_step.nd (RZ.pi_zipA (by rfl) T.zip_ (pa_cons (pe_ix ix_tup (pv 4) pe_int (fun _ _ => rfl)) (pa_cons (pv 6) pa_nil))) (blkOk_by (own := [("_law_box_here", 9), ("_law_param", 10)]) (N := ["_law_program_here", "_law_state", "_law_answer", "_law_place_here", "_law_word_here", "_law_things_here", "_law_params", "_law_held", "_law_one", "_law_box_here", "_law_param"]) (sc := defScope s_law_step) (by decide +kernel)) (fun _ _ _ _ _ => by exact pg_tupK K (n := 2) rfl (pgs_cons (pg_name (i := 9) sc_law_step.nd rfl (.inl rfl)) (pgs_cons (pg_name (i := 10) sc_law_step.nd rfl (.inl rfl)) pgs_nil))) (fun _ _ _ _ _ => pts_nil) (fun _ _ _ _ _ => by exact (pe_tup (pa_cons (pv 10) (pa_cons (pe_dpop2 (pv 5) (pv 9) (pe_tup (pa_cons pe_int (pa_cons (pe_tup pa_nil) pa_nil))) ⟨rfl, rfl, rfl, rfl⟩) pa_nil))))) pa_nil)))
(pss_cons (ps_expr (pe_bm PySem.F.plainAttrs_list PySem.F.slot_list_append PySem.F.type_list_append mt_append (pe_dget hu (pv 1) pe_str (fun _ _ => rfl)) (pa_cons (pe_tup (pa_cons (pv 3) (pa_cons (pv 7) pa_nil))) pa_nil)))
(pss_one (ps_expr (C8.pe_c c_law_arrive hr (by omega) rfl (pa_cons (pv 0) (pa_cons (pv 1) (pa_cons (pe_tup (pa_cons (pe_ix ix_tup (pv 4) pe_int (fun _ _ => rfl)) (pa_cons pe_int pa_nil))) pa_nil))))))))))
(pss_cons (ps_if (pt_cmpR op_ne (pe_ix ix_tup (pv 4) pe_int (fun _ _ => rfl)) pe_str (nomark _))
(pss_one (ps_expr (C8.pe_c c_law_things hr (by omega) rfl (pa_cons (pv 1) (pa_cons (pv 4) (pa_cons (pv 2) pa_nil))))))
pss_nil)
(pss_one (ps_expr (C8.pe_c c_law_arrive hr (by omega) rfl (pa_cons (pv 0) (pa_cons (pv 1) (pa_cons (C8.pe_c c_law_after hr (by omega) rfl (pa_cons (pv 0) (pa_cons (pv 3) pa_nil))) pa_nil))))))))))))))))))), ?_⟩
  refine qd_set (h.ePlace (ev_var rfl)) fun vpl H1 e1 ipl => ?_
  refine qd_set (d := encW wd) (evd_call (evds_cons (evd_var rfl (iv.ex e1)) (evds_cons (evd_var (i := 3) rfl ipl) evds_nil)) ⟨p, s.place, some wd, rfl, lp, hw, rfl⟩) fun vw H2 e2 iw => ?_
  have e12 := e1.trans e2
  have h2 := h.ex e12
  have W : ∀ {H'}, Ex H2 H' → EvD (tVar 4) [some v, some (.ref c.st), some va, some vpl, some vw, none, none, none, none, none, none] H' (encW wd) := fun e => evd_var rfl (iw.ex e)
  have PL : ∀ {H'} {σ : L2.St}, σ[3]? = some (some vpl) → KT H2 H' → EvD (tVar 3) σ H' (encPl s.place) := fun hσ e => evd_var hσ ((ipl.ex e2).mono e)
  have PR : ∀ {H'} {σ : L2.St}, σ[0]? = some (some v) → KT H H' → EvD (tVar 0) σ H' (encProg p) := fun hσ e => evd_var hσ (iv.mono e)
  have arr : ∀ {H3 : Hp} {σ : L2.St} {D : Ends} {tp : TE} {s3 s4 : MS ctl} {pl : Place}, σ[0]? = some (some v) → σ[1]? = some (some (.ref c.st)) → LAt E H0 c H3 s3 → KT H H3 → EvD tp σ H3 (encPl pl) → comeTo p s3 pl = some s4 → (∀ H', LAt E H0 c H' s4 → KT H H' → D.nx σ H') →
      tDrop (tCall spLArrive [] C8.E0 (tCons (tVar 0) (tCons (tVar 1) (tCons tp tNil)))) D σ H3 := fun {H3 σ D tp s3 s4 pl} h0 h1 hl kt hp hc kk => by
    refine ⟨v, h0, .ref c.st, h1, hp H3 (Ex.refl H3) _ fun u H4 e4 iu => ?_⟩
    obtain ⟨fs3, ve3, vp3, h3⟩ := hl
    exact ⟨E, p, H0, c, s3, s4, v, u, pl, rfl, ok, pok, lp, ⟨_, _, _, h3.ex e4⟩, (iv.mono kt).ex e4, iu, hc, fun H' r kt' => kk H' r ((kt.trans (KT.of e4)).trans kt')⟩
  have tin : EvT (tTest (tOp (rIn K false) (tOp (rIxT K) (tVar 4) (tC (.int 0))) (tTup (tCons (tC (.str "choose")) (tCons (tC (.str "loop")) tNil))))) [some v, some (.ref c.st), some va, some vpl, some vw, none, none, none, none, none, none] H2 (inV (.str (hd wd)) [.str "choose", .str "loop"]) :=
    et_test (ev_inU (ev_str (evd_at (d := .str (hd wd)) 0 (W (Ex.refl H2)) rfl)) (eu_tup (ea_cons ev_c (ea_cons ev_c ea_nil)) (by decide)) rfl rfl)
  by_cases hpl : isPlain wd = true
  · -- a plain word
    obtain ⟨hfn, n, pl, hn, hbe, hco⟩ := plain_step hpl hop
    have be8 := lp.ok.behind hbe
    obtain ⟨n1, n2, n3, n4, n5, n6⟩ : inV (.str (hd wd)) [.str "choose", .str "loop"] = false ∧ ¬ hd wd = "out" ∧ ¬ hd wd = "back" ∧ ¬ hd wd = "fault" ∧ ¬ hd wd = "risk" ∧ ¬ hd wd = "call" := by
      cases wd <;> first | (cases hpl; done) | (simp only [hd]; decide +kernel)
    refine q_noE (evt_no tin n1) fun H3 e3 => ?_
    refine q_noE (evt_hd0 (W e3) n2) fun H4 e4 => ?_
    refine q_noE (evt_hd0 (W (e3.trans e4)) n3) fun H5 e5 => ?_
    refine q_noE (evt_is (et_or (a := false) (b := false) (evt_hd0 (W ((e3.trans e4).trans e5)) n4) fun _ => evt_is (et_and (a := false) (b := false) (evt_hd0 (W ((e3.trans e4).trans e5)) n5) fun z => nomatch z) rfl) rfl) fun H6 e6 => ?_
    refine q_noE (evt_hd0 (W (((e3.trans e4).trans e5).trans e6)) n6) fun H7 e7 => ?_
    have e27 := (((e3.trans e4).trans e5).trans e6).trans e7
    refine q_yes (evt_yes (evt_ne (evd_at (K := K) (d := .str (hd wd)) 0 (W e27) rfl) evd_str rfl) (by simp [eqD, n5])) fun H8 e8 => ?_
    have e28 := e27.trans e8
    refine ⟨.ref c.st, rfl, vw, rfl, va, rfl, ?_⟩
    refine ⟨E, p, H0, c, s, wd, a.getD 0, vw, va, n, rfl, ok, ⟨_, _, _, h2.ex e28⟩, iw.ex e28, wok pok _ _ hw, hpl, fun hs => ?_, hfn, hn, rfl, fun H9 r9 kt9 => ?_⟩
    · obtain ⟨x, hx⟩ := Option.isSome_iff_exists.mp (hna hs)
      rw [hx]
      exact (hva1 x hx).1
    · have ktA := (KT.of (e12.trans e28)).trans kt9
      refine arr rfl rfl r9 ktA (evd_call (evds_cons (PR rfl ktA) (evds_cons (PL rfl ((KT.of e28).trans kt9)) evds_nil)) ⟨p, s.place, pl, rfl, lp, hbe, be8, by omega, rfl⟩) hco fun H' r kt => k H' r kt
  · cases wd with
    | choose rows =>
      have hop : (a.bind fun v => (inside p s.place v.toNat).bind (comeTo p s)) = some s' := hop
      obtain ⟨x, hx, hop⟩ := Option.bind_eq_some_iff.mp hop
      obtain ⟨pl, hin, hco⟩ := Option.bind_eq_some_iff.mp hop
      obtain ⟨rfl, h0x⟩ := hva1 x hx
      refine q_yesE (evt_yes tin (by simp only [hd]; decide +kernel)) fun H3 e3 => ?_
      have kt3 := KT.of (e12.trans e3)
      refine arr rfl rfl ⟨_, _, _, h2.ex e3⟩ kt3 (evd_call (evds_cons (PR rfl kt3) (evds_cons (PL rfl (KT.of e3)) (evds_cons (evd_orz rfl) evds_nil))) ⟨p, s.place, x.toNat, pl, by rw [Int.toNat_of_nonneg h0x], lp, hin, rfl⟩) hco fun H' r kt => k H' r kt
    | loop row =>
      have hop : (inside p s.place 0).bind (comeTo p s) = some s' := hop
      obtain ⟨pl, hin, hco⟩ := Option.bind_eq_some_iff.mp hop
      obtain rfl := hva0 (hnn rfl)
      refine q_yesE (evt_yes tin (by simp only [hd]; decide +kernel)) fun H3 e3 => ?_
      have kt3 := KT.of (e12.trans e3)
      refine arr rfl rfl ⟨_, _, _, h2.ex e3⟩ kt3 (evd_call (evds_cons (PR rfl kt3) (evds_cons (PL rfl (KT.of e3)) (evds_cons (evd_orn rfl) evds_nil))) ⟨p, s.place, 0, pl, rfl, lp, hin, rfl⟩) hco fun H' r kt => k H' r kt
    | out n =>
      have hop : (if n = 0 then none else (outOf p s.place n).bind (comeTo p s)) = some s' := hop
      obtain ⟨r0, hr0, hwm, hkw⟩ := word_ok pok hw
      simp only [okW] at hkw
      rw [if_neg (by omega)] at hop
      obtain ⟨pl, hin, hco⟩ := Option.bind_eq_some_iff.mp hop
      have l1 := loops_le (p := p) (nm := s.place.nm) s.place.path
      have l2 := lp.ok.word hw
      refine q_noE (evt_no tin (by simp only [hd]; decide +kernel)) fun H3 e3 => ?_
      refine q_yesE (evt_hd1 (W e3) rfl) fun H4 e4 => ?_
      have e24 := e3.trans e4
      have kt4 := KT.of (e12.trans e24)
      refine arr rfl rfl ⟨_, _, _, h2.ex e24⟩ kt4 (evd_call (evds_cons (PR rfl kt4) (evds_cons (PL rfl (KT.of e24)) (evds_cons (evd_at (d := .int (n : Nat)) 1 (W e24) (by simp only [tlD]; rfl)) evds_nil))) ⟨p, s.place, n, pl, rfl, lp, hin, hkw.1, by omega, rfl⟩) hco fun H' r kt => k H' r kt
    | back =>
      have hop : ((goBack p s).bind fun s' => if s'.over.isSome then some s' else comeTo p s' s'.place) = some s' := hop
      obtain ⟨s2, hg, hop⟩ := Option.bind_eq_some_iff.mp hop
      refine q_noE (evt_no tin (by simp only [hd]; decide +kernel)) fun H3 e3 => ?_
      refine q_noE (evt_hd0 (W e3) (by simp only [hd]; decide +kernel)) fun H4 e4 => ?_
      refine q_yesE (evt_hd1 (W (e3.trans e4)) rfl) fun H5 e5 => ?_
      have e25 := (e3.trans e4).trans e5
      refine q_seq (⟨v, rfl, .ref c.st, rfl, E, p, H0, c, s, s2, v, rfl, ok, pok, lp, ⟨_, _, _, h2.ex e25⟩, iv.ex (e12.trans e25), hg, fun H6 r6 kt6 => ?_⟩)
      obtain ⟨fs6, ve6, vp6, h6⟩ := r6
      have ktA := (KT.of (e12.trans e25)).trans kt6
      cases hov : s2.over with
      | some o =>
        rw [hov] at hop
        cases hop
        exact q_noE (et_is (evt_none (h6.eEnd (ev_var rfl))) (by rw [hov]; cases o <;> rfl)) fun H7 e7 => k H7 ⟨_, _, _, h6.ex e7⟩ (ktA.trans (KT.of e7))
      | none =>
        rw [hov] at hop
        have hop : comeTo p s2 s2.place = some s' := hop
        refine q_yesE (et_is (evt_none (h6.eEnd (ev_var rfl))) (by rw [hov]; rfl)) fun H7 e7 => ?_
        have h7 := h6.ex e7
        exact arr rfl rfl ⟨_, _, _, h7⟩ (ktA.trans (KT.of e7)) (h7.ePlace (ev_var rfl)) hop fun H' r kt => k H' r kt
    | fault f =>
      have hop : fall s f = some s' := hop
      refine q_noE (evt_no tin (by simp only [hd]; decide +kernel)) fun H3 e3 => ?_
      refine q_noE (evt_hd0 (W e3) (by simp only [hd]; decide +kernel)) fun H4 e4 => ?_
      refine q_noE (evt_hd0 (W (e3.trans e4)) (by simp only [hd]; decide +kernel)) fun H5 e5 => ?_
      refine q_yesE (evt_is (et_or (a := true) (b := false) (evt_hd1 (W ((e3.trans e4).trans e5)) rfl) fun z => nomatch z) rfl) fun H6 e6 => ?_
      have e26 := ((e3.trans e4).trans e5).trans e6
      refine ⟨.ref c.st, rfl, ?_⟩
      refine (evd_at (d := .str f) 1 (W e26) (by simp only [tlD]; rfl)) H6 (Ex.refl H6) _ fun u H7 e7 iu => ?_
      rw [iu.str_]
      exact ⟨E, H0, c, s, s', f, rfl, ok, ⟨_, _, _, h2.ex (e26.trans e7)⟩, hop, fun H8 r8 kt8 => k H8 r8 ((KT.of (e12.trans (e26.trans e7))).trans kt8)⟩
    | risk f =>
      have hop : (a.bind fun x => if x = 1 then fall s f else (behind p s.place).bind (comeTo p s)) = some s' := hop
      obtain ⟨x, hx, hop⟩ := Option.bind_eq_some_iff.mp hop
      obtain ⟨rfl, h0x⟩ := hva1 x hx
      refine q_noE (evt_no tin (by simp only [hd]; decide +kernel)) fun H3 e3 => ?_
      refine q_noE (evt_hd0 (W e3) (by simp only [hd]; decide +kernel)) fun H4 e4 => ?_
      refine q_noE (evt_hd0 (W (e3.trans e4)) (by simp only [hd]; decide +kernel)) fun H5 e5 => ?_
      have e25 := (e3.trans e4).trans e5
      have t4 := et_or (a := false) (b := decide (x = 1)) (evt_hd0 (K := K) (z := "fault") (W e25) (by simp only [hd]; decide +kernel)) fun _ => evt_is (b := decide (x = 1)) (et_and (a := true) (b := decide (x = 1)) (evt_hd1 (K := K) (z := "risk") (W e25) rfl) fun _ => evt_eq (e := .int 1) (evd_var (i := 2) (σ := [some v, some (.ref c.st), some (.int x), some vpl, some vw, none, none, none, none, none, none]) rfl (.int x)) evd_int rfl) (by simp)
      by_cases h1 : x = 1
      · rw [if_pos h1] at hop
        refine q_yesE (evt_is t4 (by simp [h1])) fun H6 e6 => ?_
        have e26 := e25.trans e6
        refine ⟨.ref c.st, rfl, ?_⟩
        refine (evd_at (d := .str f) 1 (W e26) (by simp only [tlD]; rfl)) H6 (Ex.refl H6) _ fun u H7 e7 iu => ?_
        rw [iu.str_]
        exact ⟨E, H0, c, s, s', f, rfl, ok, ⟨_, _, _, h2.ex (e26.trans e7)⟩, hop, fun H8 r8 kt8 => k H8 r8 ((KT.of (e12.trans (e26.trans e7))).trans kt8)⟩
      · rw [if_neg h1] at hop
        obtain ⟨pl, hbe, hco⟩ := Option.bind_eq_some_iff.mp hop
        have be8 := lp.ok.behind hbe
        refine q_noE (evt_is t4 (by simp [h1])) fun H6 e6 => ?_
        refine q_noE (evt_hd0 (W (e25.trans e6)) (by simp only [hd]; decide +kernel)) fun H7 e7 => ?_
        have e27 := (e25.trans e6).trans e7
        refine q_no (evt_no (evt_ne (evd_at (K := K) (d := .str "risk") 0 (W e27) rfl) evd_str rfl) (by decide +kernel)) fun H8 e8 => ?_
        have e28 := e27.trans e8
        have ktA := KT.of (e12.trans e28)
        exact arr rfl rfl ⟨_, _, _, h2.ex e28⟩ ktA (evd_call (evds_cons (PR rfl ktA) (evds_cons (PL rfl (KT.of e28)) evds_nil)) ⟨p, s.place, pl, rfl, lp, hbe, be8, by omega, rfl⟩) hco fun H' r kt => k H' r kt
    | call dn args gets =>
      have key : ∃ D cp rest, defOf p dn = some D ∧ s.frames = (cp, ()) :: rest ∧ rest.length < 1000 ∧ comeTo p { s with frames := (some s.place, ()) :: s.frames } ⟨dn, [], 0⟩ = some s' := by
        have hop' := hop
        simp only [stepW] at hop'
        obtain ⟨D, hD, hop'⟩ := Option.bind_eq_some_iff.mp hop'
        cases hfr : s.frames with
        | nil => rw [hfr] at hop'; cases hop'
        | cons y rest =>
          obtain ⟨cp, ⟨⟩⟩ := y
          rw [hfr] at hop'
          dsimp only at hop'
          by_cases hl : 1000 ≤ rest.length
          · rw [if_pos hl] at hop'; cases hop'
          · rw [if_neg hl] at hop'
            obtain ⟨⟨⟨⟩, ⟨⟩⟩, _, hop'⟩ := Option.bind_eq_some_iff.mp hop'
            exact ⟨D, cp, rest, hD, rfl, by omega, hop'⟩
      obtain ⟨D, cp, rest, hD, hfr, hrl, hco⟩ := key
      obtain ⟨D1, hD1, l1, l2, sa, sgt, sp, sr⟩ := call_def pok hw
      rw [hD] at hD1
      cases hD1
      have hfa := h2.fr
      rw [hfr] at hfa
      cases fs with
      | nil => exact hfa.elim
      | cons x fs' =>
      obtain ⟨f, d⟩ := x
      have hflen := h2.fr.len
      rw [hfr] at hflen
      simp only [List.length_cons] at hflen
      clear hfa
      refine q_noE (evt_no tin (by simp only [hd]; decide +kernel)) fun H3 e3 => ?_
      refine q_noE (evt_hd0 (W e3) (by simp only [hd]; decide +kernel)) fun H4 e4 => ?_
      refine q_noE (evt_hd0 (W (e3.trans e4)) (by simp only [hd]; decide +kernel)) fun H5 e5 => ?_
      have e25 := (e3.trans e4).trans e5
      refine q_noE (evt_is (et_or (a := false) (b := false) (evt_hd0 (W e25) (by simp only [hd]; decide +kernel)) fun _ => evt_is (et_and (a := false) (b := false) (evt_hd0 (W e25) (by simp only [hd]; decide +kernel)) fun z => nomatch z) rfl) rfl) fun H6 e6 => ?_
      refine q_yesE (evt_hd1 (W (e25.trans e6)) rfl) fun H7 e7 => ?_
      have e27 := (e25.trans e6).trans e7
      have h7 := h2.ex e27
      refine qe_set (h7.eTopD hfr (ev_var rfl)) fun H8 e8 => ?_
      have e28 := e27.trans e8
      refine qd_set (d := tstr D.params) (evd_at 1 (evd_defs (j := 8) hD (evd_at 0 (PR rfl (KT.of (e12.trans e28))) rfl) (by have := pok.few; omega) (fun H9 u e9 => evd_at (d := .str dn) 1 (evd_var (i := 4) rfl (iw.ex (e28.trans e9))) (by simp only [tlD]; rfl)) (fun u => rfl)) rfl) fun vpr H9 e9 ipr => ?_
      have e29 := e28.trans e9
      obtain ⟨lpr, xpr, rfl, hlp9, ixp⟩ := ipr.tup_
      have := ixp.strs_
      subst this
      -- held = dict([(param, things.pop(box, (0, ()))) for box, param in zip(word[2], params)])
      refine (evd_at (K := K) (d := tstr args) 2 (evd_var (i := 4) (σ := [some v, some (.ref c.st), some va, some vpl, some vw, some (.ref d), some (.ref lpr), none, none, none, none]) rfl (iw.ex e29)) (by simp only [tlD]; rfl)) H9 (Ex.refl H9) _ fun va0 H10 e10 ia => ?_
      obtain ⟨la, xa, rfl, hla, ixa⟩ := ia.tup_
      have := ixa.strs_
      subst this
      have e2A := e29.trans e10
      have h10 := h2.ex e2A
      have hlp := e10 _ _ hlp9
      have h10fr := h10.fr
      rw [hfr] at h10fr
      obtain ⟨⟨vcd, f1, f2, kvs10, hd10, hth10⟩, _⟩ := h10fr
      have la_ne : la ≠ d := fun z => by rw [z, hd10] at hla; cases hla
      have lp_ne : lpr ≠ d := fun z => by rw [z, hd10] at hlp; cases hlp
      refine ⟨_, rfl, la, lpr, _, _, rfl, .inr ⟨SqT.of hla, SqT.of hlp, fun Dl hDl => ?_⟩⟩
      have Dl_ne : Dl ≠ d := fun z => by rw [z, hd10] at hDl; cases hDl
      refine lc_zipT (K := K) (a := la) (b := lpr) (xs := args.map V.str) (ys := D.params.map V.str) (by simp [l1]) (fun i H' => Kp [d] H10 H' ∧ LTh E H' d ∧ ∃ (ps : List Addr) (kvs : List (Key × V)), H' Dl = some (.lst (ps.map V.ref)) ∧ ps.length = i ∧ Paired (fun q kv => H' q = some (.tup [kV kv.1, kv.2])) ps kvs ∧ ∀ kv ∈ kvs, ∃ b ∈ E.Bs, kv.1 = Sum.inr b ∧ LVal E H' kv.2)
        ⟨Kp.of (Ex.new hDl), ⟨kvs10, Ex.new hDl _ _ hd10, hth10.mono (KT.of (Ex.new hDl))⟩, [], [], upd_same, rfl, .nil, fun kv h => by cases h⟩ (fun i H' q => ⟨SqT.of (q.1 _ _ hla (by simpa using la_ne)), SqT.of (q.1 _ _ hlp (by simpa using lp_ne))⟩) ?_ ?_
      · rintro i vx vy Tq H' hvx hvy ⟨kp, ht, ps, kvs, hDlc, hpsl, hpair, hkv⟩ hTq
        rw [List.getElem?_map] at hvx hvy
        cases hai : args[i]? with
        | none => rw [hai] at hvx; cases hvx
        | some bx =>
        cases hpi : D.params[i]? with
        | none => rw [hpi] at hvy; cases hvy
        | some pb =>
        rw [hai] at hvx
        rw [hpi] at hvy
        obtain rfl : V.str bx = vx := Option.some.inj hvx
        obtain rfl : V.str pb = vy := Option.some.inj hvy
        have hil : i < args.length := (List.getElem?_eq_some_iff.mp hai).1
        have hal := sa.2
        refine g_two upd_same ⟨rfl, ?_⟩
        unfold tYes
        dsimp only
        rw [if_pos rfl]
        have eT : Ex H' (upd H' Tq (.tup [.str bx, .str pb])) := Ex.new hTq
        have fin : ∀ (u : V) (H6 : Hp), Kp [d] H10 H6 → KT H' H6 → LTh E H6 d → H6 Dl = some (.lst (ps.map V.ref)) → LVal E H6 u → ∀ q, H6 q = none → ∃ acc, (upd H6 q (.tup [.str pb, u])) Dl = some (.lst acc) ∧ acc.length < sizeLine ∧
            (Kp [d] H10 (upd (upd H6 q (.tup [.str pb, u])) Dl (.lst (acc ++ [.ref q]))) ∧ LTh E (upd (upd H6 q (.tup [.str pb, u])) Dl (.lst (acc ++ [.ref q]))) d ∧ ∃ (ps : List Addr) (kvs : List (Key × V)), (upd (upd H6 q (.tup [.str pb, u])) Dl (.lst (acc ++ [.ref q]))) Dl = some (.lst (ps.map V.ref)) ∧ ps.length = i + 1 ∧
              Paired (fun r kv => (upd (upd H6 q (.tup [.str pb, u])) Dl (.lst (acc ++ [.ref q]))) r = some (.tup [kV kv.1, kv.2])) ps kvs ∧ ∀ kv ∈ kvs, ∃ b ∈ E.Bs, kv.1 = Sum.inr b ∧ LVal E (upd (upd H6 q (.tup [.str pb, u])) Dl (.lst (acc ++ [.ref q]))) kv.2) := fun u H6 kp6 kt6 ht6 hD6 hu6 q hq => by
          have eq6 : Ex H6 (upd H6 q (.tup [.str pb, u])) := Ex.new hq
          have ktl := (KT.refl (upd H6 q (.tup [.str pb, u]))).upd (p := Dl) (o := .lst (ps.map V.ref ++ [.ref q])) (nt_lst (eq6 _ _ hD6))
          have ktB := (KT.of eq6).trans ktl
          refine ⟨_, eq6 _ _ hD6, sz_lt (by rw [List.length_map]; omega), fun b o hb hnb => ?_, ?_, ps ++ [q], kvs ++ [(Sum.inr pb, u)], by rw [upd_same, List.map_append]; rfl, by simp [hpsl], ?_, fun kv hkv' => ?_⟩
          · rw [upd_ne (fun z => by rw [z, hDl] at hb; cases hb)]
            exact eq6 _ _ (kp6 b o hb hnb)
          · obtain ⟨kd, hkd, htd⟩ := ht6
            exact ⟨kd, by rw [upd_ne (Ne.symm Dl_ne)]; exact eq6 _ _ hkd, htd.mono ktB⟩
          · exact paired_snoc (paired_map hpair fun r kv h => (kt6.trans ktB) _ _ h) (ktl _ _ upd_same)
          · rcases List.mem_append.mp hkv' with hk1 | hk1
            · obtain ⟨b, hb, e, lv⟩ := hkv kv hk1
              exact ⟨b, hb, e, lv.mono (kt6.trans ktB)⟩
            · rw [List.mem_singleton.mp hk1]
              exact ⟨pb, sp.1 pb (List.mem_of_getElem? hpi), rfl, hu6.mono ktB⟩
        obtain ⟨kd, hkd, htd⟩ := ht
        refine ⟨.str pb, rfl, .ref d, rfl, d, rfl, .inl ⟨kd, .inl (eT _ _ hkd)⟩, .str bx, rfl, ?_⟩
        refine (evd_tup (evds_cons evd_int (evds_cons (evd_tup evds_nil) evds_nil)) : EvD (tTup (tCons (tC (.int 0)) (tCons (tTup tNil) tNil))) _ _ (.tuple [.int 0, .tuple []])) _ (Ex.refl _) _ fun z H6 e6 iz => ?_
        have eT6 := eT.trans e6
        refine ⟨kd, Sum.inr bx, eT6 _ _ hkd, rfl, fun u hu => ?_, fun hn => ?_⟩
        · have ktu : KT H6 (upd H6 d (.dK (dropK kd (Sum.inr bx)))) := (KT.refl H6).upd (nt_dK (eT6 _ _ hkd))
          refine ⟨sz_of (by simp), fun q hq => fin u _ (fun b o hb hnb => ?_) ((KT.of eT6).trans ktu) ⟨_, upd_same, ((lth_drop htd _).mono ((KT.of eT6).trans ktu))⟩ (by rw [upd_ne Dl_ne]; exact eT6 _ _ hDlc) (LVal.mono ((KT.of eT6).trans ktu) (htd.val _ _ hu)) q hq⟩
          rw [upd_ne (by simpa using hnb)]
          exact eT6 _ _ (kp b o hb hnb)
        · exact ⟨sz_of (by simp), fun q hq => fin z H6 (fun b o hb hnb => eT6 _ _ (kp b o hb hnb)) (KT.of eT6) ⟨kd, eT6 _ _ hkd, htd.mono (KT.of eT6)⟩ (eT6 _ _ hDlc) ⟨0, [], iz, fun w hw => (by cases hw), by simp⟩ q hq⟩
      · rintro H11 ⟨kp11, ht11, ps, kvs, hDlc, hpsl, hpair, hkv⟩
        obtain ⟨h11, kt11⟩ := h10.top hfr kp11 ht11
        refine ⟨Dl, ps, kvs, rfl, SqL.of hDlc, paired_map hpair (fun _ _ h => SqT.of h), fun d2 hd2 => ?_⟩
        have eN : Ex H11 (upd H11 d2 (.dK (mergeK [] kvs))) := Ex.new hd2
        have h12 := h11.ex eN
        have th12 : LTh E (upd H11 d2 (.dK (mergeK [] kvs))) d2 := ⟨_, upd_same, (lth_merge lth_nil hkv).mono (KT.of eN)⟩
        have hn0 : H0 d2 = none := by
          cases q : H0 d2 with
          | none => rfl
          | some o => rw [h11.base _ _ q] at hd2; cases hd2
        have hnm : d2 ∉ (((f, d) :: fs').map (·.2)) := fun hm => by
          obtain ⟨x, hx, e⟩ := List.mem_map.mp hm
          obtain ⟨kx, hkx, _⟩ := h11.fr.mem x hx
          rw [e, hd2] at hkx
          cases hkx
        have hns : d2 ≠ c.st := fun z => by rw [z, h11.obj] at hd2; cases hd2
        have kt12 : KT H2 (upd H11 d2 (.dK (mergeK [] kvs))) := ((KT.of e2A).trans kt11).trans (KT.of eN)
        generalize upd H11 d2 (.dK (mergeK [] kvs)) = H12 at h12 th12 kt12
        show tSeq _ _ _ _ H12
        refine q_seq ?_
        refine (h12.eFrs (σ := [some v, some (.ref c.st), some va, some vpl, some vw, some (.ref d), some (.ref lpr), some (.ref d2), none, none, none]) (ev_var rfl)) H12 (Ex.refl H12) _ fun H13 e13 => ?_
        have h13 := h12.ex e13
        refine ⟨.inl ⟨rfl, _, sq_of h13.frs⟩, vpl, rfl, .ref d2, rfl, sz_of (by simp), fun q hq => ⟨c.lf, _, .ref q, rfl, rfl, Ex.new hq _ _ h13.frs, sz_lt (by rw [List.length_map, List.length_reverse]; simp only [List.length_cons]; omega), ?_⟩⟩
        have eQ : Ex H13 (upd H13 q (.tup [vpl, .ref d2])) := Ex.new hq
        have h14 := h13.ex eQ
        have kt14 := (kt12.trans (KT.of e13)).trans (KT.of eQ)
        have h15 := h14.push (x := (q, d2)) (y := (some s.place, ())) ⟨vpl, upd_same, (ipl.ex e2).mono kt14, th12.ex (e13.trans eQ)⟩ hn0 hnm hns
        have kt15 := kt14.trans ((KT.refl (upd H13 q (.tup [vpl, .ref d2]))).upd (p := c.lf) (o := .lst (((((f, d) :: fs').reverse.map fun x => V.ref x.1)) ++ [.ref q])) (nt_lst h14.frs))
        refine arr rfl rfl ⟨_, _, _, h15⟩ ((KT.of e12).trans kt15) (pl := ⟨dn, [], 0⟩) (evd_tup (evds_cons (evd_at (d := .str dn) 1 (evd_var (i := 4) rfl (iw.mono kt15)) (by simp only [tlD]; rfl)) (evds_cons evd_int evds_nil)) (by simp [encPath])) hco fun H' r kt => k H' r kt
    | _ => exact absurd rfl hpl
end
end K16

set_option Elab.async false
set_option linter.all false
set_option maxRecDepth 100000
set_option maxHeartbeats 4000000
/-! KLPlay: the law's interpreter: the start and the play -/
namespace K16
open PySem PySem.Spec PyProof.Rows L2 Evl
def spLStarted : Sp := fun vs H Q _ => ∃ E p v s, vs = [v] ∧ EnvOk E ∧ ProgOk E p ∧ LP p ∧ Im H v (encProg p) ∧ start (A := ctl) p () 0 = some s ∧ ∀ c H', LAt E H c H' s → Q (.ref c.st) H'
section
variable {P : Program} {w : World} {K : PySem.W.Frag} {mg : Str → Option Value} {base : Heap}
theorem sc_law_started : FnScope ["_law_program_here", "_law_state"] ["_law_program_here"] (defScope s_law_started) := ⟨rfl, rfl, rfl, by decide +kernel, rfl, by decide +kernel, by decide +kernel⟩
theorem ok_law_started (T : Fx K mg) : C8.Cal P w K mg base 14 "_law_started" spLStarted [] := by
  obtain ⟨fd, F⟩ := T.f_law_started
  have c_law_arrive := ok_law_arrive (P := P) (w := w) (base := base) T
  refine cal_of F T.g_law_started sc_law_started (fun _ _ _ _ _ _ us hl => match us, hl with | [_], _ => rfl) (by rintro vs H Q E ⟨_, _, _, _, rfl, _⟩; rfl) fun cdv A outer s0 H vs Q E0 hr hsp => ?_
  obtain ⟨E, p, v, s, rfl, ok, pok, lp, iv, hst, k⟩ := hsp
  have hu := hu_of hr
  refine ⟨_, (pss_cons (ps_set (i := 1) sc_law_started.nd rfl (.inl rfl) (pe_disp (pps_cons pe_str (pe_lst (pa_cons (pe_tup (pa_cons pe_non (pa_cons pe_dnewK pa_nil))) pa_nil)) (pps_cons pe_str (pe_lst pa_nil) (pps_cons pe_str (pe_lst pa_nil) (pps_cons pe_str pe_non (pps_cons pe_str (pe_tup (pa_cons pe_str (pa_cons pe_int pa_nil))) (pps_cons pe_str pe_int pps_nil)))))) (by rfl) (by rfl) (fun z => by cases z) (by decide)))
(pss_cons (ps_expr (C8.pe_c c_law_arrive hr (by omega) rfl (pa_cons (pv 0) (pa_cons (pv 1) (pa_cons (pe_tup (pa_cons pe_str (pa_cons pe_int pa_nil))) pa_nil)))))
(pss_one (ps_ret (pv 1))))), ?_⟩
  intro q hq
  have e1 : Ex H (upd H q (.dK [])) := Ex.new hq
  refine fun d hd => ⟨sz_of (by simp), fun f hf => ⟨sz_of (by simp), fun lf hlf => ⟨sz_of (by simp), fun lt hlt => ⟨sz_of (by simp), fun ll hll => ⟨sz_of (by simp), fun pp hpp => ?_⟩⟩⟩⟩⟩
  have e2 := Ex.new (o := .dK []) hd
  have e3 := Ex.new (o := .tup [.non, .ref d]) hf
  have e4 := Ex.new (o := .lst [.ref f]) hlf
  have e5 := Ex.new (o := .lst []) hlt
  have e6 := Ex.new (o := .lst []) hll
  have e7 := Ex.new (o := .tup [.str "", .int 0]) hpp
  have g1 : (upd H q (.dK [])) q = some (.dK []) := upd_same
  have g2 := upd_same (H := upd H q (.dK [])) (a := d) (o := .dK [])
  have g3 := upd_same (H := upd (upd H q (.dK [])) d (.dK [])) (a := f) (o := .tup [.non, .ref d])
  have g4 := upd_same (H := upd (upd (upd H q (.dK [])) d (.dK [])) f (.tup [.non, .ref d])) (a := lf) (o := .lst [.ref f])
  have g5 := upd_same (H := upd (upd (upd (upd H q (.dK [])) d (.dK [])) f (.tup [.non, .ref d])) lf (.lst [.ref f])) (a := lt) (o := .lst [])
  have g6 := upd_same (H := upd (upd (upd (upd (upd H q (.dK [])) d (.dK [])) f (.tup [.non, .ref d])) lf (.lst [.ref f])) lt (.lst [])) (a := ll) (o := .lst [])
  have g7 := upd_same (H := upd (upd (upd (upd (upd (upd H q (.dK [])) d (.dK [])) f (.tup [.non, .ref d])) lf (.lst [.ref f])) lt (.lst [])) ll (.lst [])) (a := pp) (o := .tup [.str "", .int 0])
  generalize upd H q (.dK []) = H1 at *
  generalize upd H1 d (.dK []) = H2 at *
  generalize upd H2 f (.tup [.non, .ref d]) = H3 at *
  generalize upd H3 lf (.lst [.ref f]) = H4 at *
  generalize upd H4 lt (.lst []) = H5 at *
  generalize upd H5 ll (.lst []) = H6 at *
  generalize upd H6 pp (.tup [.str "", .int 0]) = H7 at *
  have e67 := e7
  have e57 := e6.trans e7
  have e47 := e5.trans e57
  have e37 := e4.trans e47
  have e27 := e3.trans e37
  have e17 := e2.trans e27
  have n2 := fresh_back e1 hd
  have n4 := fresh_back (e1.trans (e2.trans e3)) hlf
  have n5 := fresh_back ((e1.trans (e2.trans e3)).trans e4) hlt
  have n6 := fresh_back (((e1.trans (e2.trans e3)).trans e4).trans e5) hll
  refine ⟨e17 _ _ g1, stD ⟨q, lf, lt, ll⟩ .non (.ref pp) 0, rfl, by simp [stD], ?_⟩
  have em : mergeK [] (stD ⟨q, lf, lt, ll⟩ .non (.ref pp) 0) = stD ⟨q, lf, lt, ll⟩ .non (.ref pp) 0 := by rfl
  rw [em]
  have ktu : KT H7 (upd H7 q (.dK (stD ⟨q, lf, lt, ll⟩ .non (.ref pp) 0))) := (KT.refl H7).upd (nt_dK (e17 _ _ g1))
  have ne : ∀ {a : Addr} {o : HO}, H7 a = some o → (∀ kvs, o ≠ .dK kvs) → a ≠ q := fun ha hk z => by
    rw [z, e17 _ _ g1] at ha
    exact hk [] (Option.some.inj ha).symm
  have dq : d ≠ q := fun z => by rw [z, g1] at hd; cases hd
  have base7 : Ex H H7 := e1.trans e17
  have h : LX E H ⟨q, lf, lt, ll⟩ [(f, d)] .non (.ref pp) (upd H7 q (.dK (stD ⟨q, lf, lt, ll⟩ .non (.ref pp) 0))) ({ used := 0, steps := 0, place := ⟨Str.empty, [], 0⟩, frames := [(none, ())], log := 0, over := none } : MS ctl) :=
    { base := base7.mut hq, news := hq, newf := n4, newt := n5, newl := n6, newd := fun x hx => by rw [List.mem_singleton.mp hx]; exact n2
      tl := fun z => by (have z : lt = ll := z); rw [← z, g5] at hll; cases hll
      tf := fun z => by (have z : lt = lf := z); rw [z, g4] at hlt; cases hlt
      lf := fun z => by (have z : ll = lf := z); rw [z, e5 _ _ g4] at hll; cases hll
      sd := fun x hx => by rw [List.mem_singleton.mp hx]; exact dq
      obj := upd_same, over := .non
      place := .tup (by rw [upd_ne (ne g7 (fun _ z => nomatch z))]; exact g7) (.cons (.str _) (.cons (.int _) .nil))
      told := ⟨[], by rw [upd_ne (ne (e57 _ _ g5) (fun _ z => nomatch z))]; exact e57 _ _ g5, Nat.le_refl _⟩
      left := ⟨[], by rw [upd_ne (ne (e67 _ _ g6) (fun _ z => nomatch z))]; exact e67 _ _ g6, Nat.zero_le _⟩
      frs := by rw [upd_ne (ne (e47 _ _ g4) (fun _ z => nomatch z))]; exact e47 _ _ g4
      fr := ⟨⟨.non, ktu _ _ (e37 _ _ g3), .non, [], by rw [upd_ne dq]; exact e27 _ _ g2, lth_nil⟩, trivial⟩
      nd := by simp, cap := Nat.zero_le _ }
  have kt8 : KT H (upd H7 q (.dK (stD ⟨q, lf, lt, ll⟩ .non (.ref pp) 0))) := (KT.of base7).trans ktu
  generalize upd H7 q (.dK (stD ⟨q, lf, lt, ll⟩ .non (.ref pp) 0)) = H8 at h kt8
  show tSeq _ _ _ [some v, some (.ref q)] H8
  refine q_seq ⟨v, rfl, .ref q, rfl, ?_⟩
  refine (evd_tup (evds_cons evd_str (evds_cons evd_int evds_nil)) : EvD (tTup (tCons (tC (.str "")) (tCons (tC (.int 0)) tNil))) _ H8 (encPl ⟨Str.empty, [], 0⟩)) H8 (Ex.refl H8) _ fun u H9 e9 iu => ?_
  refine ⟨E, p, H, ⟨q, lf, lt, ll⟩, _, s, v, u, ⟨Str.empty, [], 0⟩, rfl, ok, pok, lp, ⟨_, _, _, h.ex e9⟩, (iv.mono kt8).ex e9, iu, hst, fun H10 r10 kt10 => ?_⟩
  exact ⟨.ref q, rfl, k ⟨q, lf, lt, ll⟩ H10 r10⟩
end
end K16

set_option Elab.async false
set_option linter.all false
set_option maxRecDepth 100000
set_option maxHeartbeats 4000000
/-! KDraw: the deck and what is drawn from it: only the range of what is drawn is kept -/
namespace K16
open PySem PySem.Spec PyProof.Rows L2 Evl
def Dk (H : Hp) (l : Addr) : Prop := ∃ (a b : Int) (xs : List Int), H l = some (.lst ((a :: b :: xs).map V.int)) ∧ xs.length ≤ 63
def spLDraw : Sp := fun vs H Q _ => ∃ l m, vs = [.ref l, .int m] ∧ Dk H l ∧ 0 < m ∧ m < 1000000000 ∧ ∀ r H', 0 ≤ r → r < m → Dk H' l → Kp [l] H H' → KT H H' → Q (.int r) H'
theorem ims_int {H : Hp} : ∀ {xs : List Int}, Ims H (xs.map V.int) (xs.map PyData.int)
  | [] => .nil
  | x :: xs => .cons (.int x) ims_int
theorem ixN0 {n : Nat} : ixN (n + 1) 0 = some 0 := by simp [ixN]
section
variable {P : Program} {w : World} {K : PySem.W.Frag} {mg : Str → Option Value} {base : Heap}
theorem sc_law_draw : FnScope ["_law_deck_here", "_law_most", "_law_cell", "_law_number"] ["_law_deck_here", "_law_most"] (defScope s_law_draw) := ⟨rfl, rfl, rfl, by decide +kernel, rfl, by decide +kernel, by decide +kernel⟩
theorem ok_law_draw (T : Fx K mg) : C8.Cal P w K mg base 1 "_law_draw" spLDraw [] := by
  obtain ⟨fd, F⟩ := T.f_law_draw
  refine cal_of F T.g_law_draw sc_law_draw (fun _ _ _ _ _ _ us hl => match us, hl with | [_, _], _ => rfl) (by rintro vs H Q E ⟨_, _, rfl, _⟩; rfl) fun cdv A outer s0 H vs Q E0 hr hsp => ?_
  obtain ⟨l, m, rfl, ⟨a, b, xs, hl, hxl⟩, hm0, hm1, k⟩ := hsp
  have hu := hu_of hr
  refine ⟨_, (pss_cons (ps_asg (pe_op op_add (pe_ix ix_list (pv 0) pe_int (fun _ _ => rfl)) pe_int) (pg_sub (pv 0) pe_int set_list))
(pss_cons (ps_set (i := 2) sc_law_draw.nd rfl (.inl rfl) (pe_op op_add (pe_ix ix_list (pv 0) pe_int (fun _ _ => rfl)) (pe_op op_mul pe_int (pe_ix ix_list (pv 0) pe_int (fun _ _ => rfl)))))
(pss_cons (ps_if (pt_cmpR op_gt (pe_callB call_len_seq (by rfl) T.len_ boot_len (pa_cons (pv 0) pa_nil)) pe_int (nomark _))
(pss_cons (ps_set (i := 2) sc_law_draw.nd rfl (.inl rfl) (pe_bm0 PySem.F.plainAttrs_list PySem.F.slot_list_pop PySem.F.type_list_pop mt_pop (pv 0)))
(pss_one (ps_if (pt_cmpR op_ge (pv 2) (pe_op op_pow pe_int pe_int) (nomark _))
(pss_cons (ps_expr (pe_bm PySem.F.plainAttrs_list PySem.F.slot_list_append PySem.F.type_list_append mt_append (pv 0) (pa_cons (pe_op op_fdiv (pv 2) (pv 1)) pa_nil)))
(pss_one (ps_ret (pe_op op_mod (pv 2) (pv 1)))))
pss_nil)))
pss_nil)
(pss_cons (ps_set (i := 3) sc_law_draw.nd rfl (.inl rfl) (pe_op op_mod (pe_op op_mul (pe_op op_add (pe_op op_mod (pv 2) pe_int) (pe_op op_mul pe_int (pe_ix ix_list (pv 0) pe_int (fun _ _ => rfl)))) pe_int) pe_int))
(pss_cons (ps_set (i := 3) sc_law_draw.nd rfl (.inl rfl) (pe_op op_mod (pe_op op_add (pe_op op_add (pe_op op_mul (pv 3) (pv 3)) (pe_op op_mul pe_int (pv 3))) (pe_ix ix_list (pv 0) pe_int (fun _ _ => rfl))) pe_int))
(pss_one (ps_ret (pe_op op_mod (pe_op op_fdiv (pv 3) pe_int) (pv 1))))))))), ?_⟩
  have nt := nt_lst hl
  -- deck[0] = deck[0] + 1
  refine ⟨.ref l, rfl, l, _, 0, .int a, rfl, rfl, SqL.of hl, atI_nat (j := 0) rfl, a, 1, rfl, rfl, ?_⟩
  refine ⟨.ref l, rfl, l, _, 0, 0, rfl, rfl, hl, ixN0, ?_⟩
  have hl3 : (upd H l (.lst ((((a :: b :: xs).map V.int)).set 0 (.int (a + 1))))) l = some (.lst (((a + 1) :: b :: xs).map V.int)) := upd_same
  have kp3 : Kp [l] H (upd H l (.lst ((((a :: b :: xs).map V.int)).set 0 (.int (a + 1))))) := (Kp.refl H).mut (by simp)
  have kt3 : KT H (upd H l (.lst ((((a :: b :: xs).map V.int)).set 0 (.int (a + 1))))) := (KT.refl H).upd (nt_lst hl)
  show tSeq _ _ _ _ (upd H l (.lst ((((a :: b :: xs).map V.int)).set 0 (.int (a + 1)))))
  generalize upd H l (.lst ((((a :: b :: xs).map V.int)).set 0 (.int (a + 1)))) = H3 at hl3 kp3 kt3
  refine qd_set (d := .int (b + 104729 * (a + 1))) (evd_add (evd_ixLR (n := 1) (ev_var rfl) hl3 ims_int rfl) (evd_I evd_int (evd_ixLR (n := 0) (ev_var rfl) hl3 ims_int rfl) (.inl ⟨by decide, by decide⟩))) fun vc H4 e4 ic => ?_
  have := ic.int_
  subst this
  have hl4 := e4 _ _ hl3
  have kp4 := kp3.trans (Kp.of e4)
  have kt4 := kt3.trans (KT.of e4)
  rcases List.eq_nil_or_concat xs with rfl | ⟨ys, y, rfl⟩
  · refine q_no (et_test (b := false) fun H5 e5 Q5 q5 => ⟨.ref l, rfl, l, _, rfl, .inl (SqL.of (e5 _ _ hl4)), _, 2, rfl, rfl, q5 H5 (Ex.refl H5)⟩) fun H5 e5 => ?_
    have hl5 := e5 _ _ hl4
    have kp5 := kp4.trans (Kp.of e5)
    have kt5 := kt4.trans (KT.of e5)
    refine qd_set (d := .int ((((b + 104729 * (a + 1)) % 2147483629 + 7919 * (a + 1)) * 48271) % 2147483647)) (evd_I (evd_I (evd_add (evd_I (evd_var rfl (.int (b + 104729 * (a + 1)))) (evd_int (i := 2147483629)) (by decide)) (evd_I evd_int (evd_ixLR (n := 0) (ev_var rfl) hl5 ims_int rfl) (.inl ⟨by decide, by decide⟩))) (evd_int (i := 48271)) (.inr ⟨by decide, by decide⟩)) (evd_int (i := 2147483647)) (by decide)) fun v1 J6 j6 i6 => ?_
    have hn : 0 ≤ ((((b + 104729 * (a + 1)) % 2147483629 + 7919 * (a + 1)) * 48271) % 2147483647) ∧ ((((b + 104729 * (a + 1)) % 2147483629 + 7919 * (a + 1)) * 48271) % 2147483647) < 2147483647 := ⟨Int.emod_nonneg _ (by decide), Int.emod_lt_of_pos _ (by decide)⟩
    generalize ((((b + 104729 * (a + 1)) % 2147483629 + 7919 * (a + 1)) * 48271) % 2147483647) = n1 at hn i6
    obtain ⟨hn1, hn2⟩ := hn
    refine qd_set (d := .int ((n1 * n1 + 69621 * n1 + (a + 1)) % 2147483587)) (evd_I (evd_add (evd_add (evd_I (evd_var rfl i6) (evd_var rfl i6) (.inl ⟨by omega, by omega⟩)) (evd_I evd_int (evd_var rfl i6) (.inl ⟨by decide, by decide⟩))) (evd_ixLR (n := 0) (ev_var rfl) (j6 _ _ hl5) ims_int rfl)) (evd_int (i := 2147483587)) (by decide)) fun v2 J7 j7 i7 => ?_
    generalize (n1 * n1 + 69621 * n1 + (a + 1)) % 2147483587 = n2 at i7
    refine qd_ret (d := .int ((n2 / 64) % m)) (evd_I (evd_I (evd_var rfl i7) (evd_int (i := 64)) ⟨by decide, by decide⟩) (evd_var (i := 1) rfl (.int m)) hm0) fun v3 J8 j8 i8 => ?_
    rw [i8.int_]
    have j := (j6.trans j7).trans j8
    exact k _ J8 (Int.emod_nonneg _ (by omega)) (Int.emod_lt_of_pos _ hm0) ⟨(a + 1), b, [], j _ _ hl5, (by simp)⟩ (kp5.trans (Kp.of j)) (kt5.trans (KT.of j))
  · rw [List.concat_eq_append] at hl4 hxl
    rw [List.length_append] at hxl
    simp only [List.length_cons, List.length_nil] at hxl
    have elen : (((a + 1) :: b :: (ys ++ [y])).map V.int) = ((a + 1) :: b :: ys).map V.int ++ [.int y] := by simp
    rw [elen] at hl4
    refine q_yes (et_test (b := true) fun H5 e5 Q5 q5 => ⟨.ref l, rfl, l, _, rfl, .inl (SqL.of (e5 _ _ hl4)), _, 2, rfl, rfl, by
      have : decide ((2 : Int) < ((((a + 1) :: b :: ys).map V.int ++ [V.int y]).length : Nat)) = true := by simp; omega
      show Q5 (.bl (decide ((2 : Int) < ((((a + 1) :: b :: ys).map V.int ++ [V.int y]).length : Nat)))) H5
      rw [this]
      exact q5 H5 (Ex.refl H5)⟩) fun H5 e5 => ?_
    have hl5 := e5 _ _ hl4
    have kp5 := kp4.trans (Kp.of e5)
    have kt5 := kt4.trans (KT.of e5)
    refine qd_pop (ev_var rfl) hl5 fun H6 e6 => ?_
    have hl7 : (upd H6 l (.lst (((a + 1) :: b :: ys).map V.int))) l = some (.lst (((a + 1) :: b :: ys).map V.int)) := upd_same
    have kp7 : Kp [l] H (upd H6 l (.lst (((a + 1) :: b :: ys).map V.int))) := (kp5.trans (Kp.of e6)).mut (by simp)
    have kt7 : KT H (upd H6 l (.lst (((a + 1) :: b :: ys).map V.int))) := (kt5.trans (KT.of e6)).upd (nt_lst hl)
    generalize upd H6 l (.lst (((a + 1) :: b :: ys).map V.int)) = H7 at hl7 kp7 kt7
    have tge : ∀ bb : Bool, decide ((10 : Int) ^ (18 : Int).toNat ≤ y) = bb → EvT (tTest (tOp (rI0 fun i j => .bl (decide (j ≤ i))) (tVar 2) (tOp (rI CPow fun i j => .int (i ^ j.toNat)) (tC (.int 10)) (tC (.int 18))))) [some (.ref l), some (.int m), some (.int y), none] H7 bb := fun bb hb => et_test fun H8 e8 Q8 q8 => ⟨_, rfl, 10, 18, rfl, rfl, ⟨by decide, by decide, by decide⟩, y, _, rfl, rfl, by show Q8 (.bl (decide ((10 : Int) ^ (18 : Int).toNat ≤ y))) H8; rw [hb]; exact q8 H8 (Ex.refl H8)⟩
    by_cases hge : (10 : Int) ^ (18 : Int).toNat ≤ y
    · refine q_yesE (tge true (decide_eq_true hge)) fun H8 e8 => ?_
      have hl8 := e8 _ _ hl7
      refine q_seq (sd_app (d := .int (y / m)) (ev_var rfl) hl8 (evd_I (evd_var (i := 2) rfl (.int y)) (evd_var (i := 1) rfl (.int m)) ⟨hm0, by omega⟩) (by simp; omega) fun v9 H9 e9 i9 => ?_)
      rw [i9.int_]
      have hl9 : (upd H9 l (.lst (((a + 1) :: b :: ys).map V.int ++ [.int (y / m)]))) l = some (.lst (((a + 1) :: b :: (ys ++ [y / m])).map V.int)) := by rw [upd_same]; simp
      have kp9 : Kp [l] H (upd H9 l (.lst (((a + 1) :: b :: ys).map V.int ++ [.int (y / m)]))) := (kp7.trans (Kp.of (e8.trans e9))).mut (by simp)
      have kt9 : KT H (upd H9 l (.lst (((a + 1) :: b :: ys).map V.int ++ [.int (y / m)]))) := (kt7.trans (KT.of (e8.trans e9))).upd (nt_lst hl)
      generalize upd H9 l (.lst (((a + 1) :: b :: ys).map V.int ++ [.int (y / m)])) = HA at hl9 kp9 kt9
      refine qd_ret (d := .int (y % m)) (evd_I (evd_var (i := 2) rfl (.int y)) (evd_var (i := 1) rfl (.int m)) hm0) fun v3 J8 j8 i8 => ?_
      rw [i8.int_]
      exact k _ J8 (Int.emod_nonneg _ (by omega)) (Int.emod_lt_of_pos _ hm0) ⟨a + 1, b, ys ++ [y / m], j8 _ _ hl9, by simp; omega⟩ (kp9.trans (Kp.of j8)) (kt9.trans (KT.of j8))
    · refine q_noE (tge false (decide_eq_false hge)) fun H8 e8 => ?_
      have hl8 := e8 _ _ hl7
      have kp8 := kp7.trans (Kp.of e8)
      have kt8 := kt7.trans (KT.of e8)
      have hx8 : ys.length ≤ 63 := by omega
      show tSeq _ _ _ [some (.ref l), some (.int m), some (.int y), none] H8
      refine qd_set (d := .int (((y % 2147483629 + 7919 * (a + 1)) * 48271) % 2147483647)) (evd_I (evd_I (evd_add (evd_I (evd_var rfl (.int y)) (evd_int (i := 2147483629)) (by decide)) (evd_I evd_int (evd_ixLR (n := 0) (ev_var rfl) hl8 ims_int rfl) (.inl ⟨by decide, by decide⟩))) (evd_int (i := 48271)) (.inr ⟨by decide, by decide⟩)) (evd_int (i := 2147483647)) (by decide)) fun v1 J6 j6 i6 => ?_
      have hn : 0 ≤ (((y % 2147483629 + 7919 * (a + 1)) * 48271) % 2147483647) ∧ (((y % 2147483629 + 7919 * (a + 1)) * 48271) % 2147483647) < 2147483647 := ⟨Int.emod_nonneg _ (by decide), Int.emod_lt_of_pos _ (by decide)⟩
      generalize (((y % 2147483629 + 7919 * (a + 1)) * 48271) % 2147483647) = n1 at hn i6
      obtain ⟨hn1, hn2⟩ := hn
      refine qd_set (d := .int ((n1 * n1 + 69621 * n1 + (a + 1)) % 2147483587)) (evd_I (evd_add (evd_add (evd_I (evd_var rfl i6) (evd_var rfl i6) (.inl ⟨by omega, by omega⟩)) (evd_I evd_int (evd_var rfl i6) (.inl ⟨by decide, by decide⟩))) (evd_ixLR (n := 0) (ev_var rfl) (j6 _ _ hl8) ims_int rfl)) (evd_int (i := 2147483587)) (by decide)) fun v2 J7 j7 i7 => ?_
      generalize (n1 * n1 + 69621 * n1 + (a + 1)) % 2147483587 = n2 at i7
      refine qd_ret (d := .int ((n2 / 64) % m)) (evd_I (evd_I (evd_var rfl i7) (evd_int (i := 64)) ⟨by decide, by decide⟩) (evd_var (i := 1) rfl (.int m)) hm0) fun v3 J8 j8 i8 => ?_
      rw [i8.int_]
      have j := (j6.trans j7).trans j8
      exact k _ J8 (Int.emod_nonneg _ (by omega)) (Int.emod_lt_of_pos _ hm0) ⟨(a + 1), b, ys, j _ _ hl8, hx8⟩ (kp8.trans (Kp.of j)) (kt8.trans (KT.of j))
end
end K16

set_option Elab.async false
set_option linter.all false
set_option maxRecDepth 100000
set_option maxHeartbeats 4000000
/-! KPlayed: the play: the answers and the others that a program is run by -/
namespace K16
open PySem PySem.Spec PyProof.Rows L2 Evl
/-- the heap without some addresses -/
def hide (S : List Addr) (H : Hp) : Hp := fun a => if a ∈ S then none else H a
theorem hide_in {S : List Addr} {H : Hp} {a : Addr} (h : a ∈ S) : hide S H a = none := if_pos h
theorem hide_out {S : List Addr} {H : Hp} {a : Addr} (h : a ∉ S) : hide S H a = H a := if_neg h
theorem hide_ex {S : List Addr} {H : Hp} : Ex (hide S H) H := fun a o h => by
  unfold hide at h
  split at h
  · cases h
  · exact h
section
variable {E : Env} {H0 Hb : Hp} {c : LC} {fs : List (Addr × Addr)} {ve vp : V} {H H' : Hp} {s s' : MS ctl}
theorem LX.weak (h : LX E H0 c fs ve vp H s) (e : Ex Hb H0) : LX E Hb c fs ve vp H s := { h with base := e.trans h.base, news := fresh_back e h.news, newf := fresh_back e h.newf, newt := fresh_back e h.newt, newl := fresh_back e h.newl, newd := fun x hx => fresh_back e (h.newd x hx) }
def own (c : LC) (fs : List (Addr × Addr)) : List Addr := c.st :: c.lf :: c.lt :: c.ll :: fs.map (·.2)
theorem LX.rebase (h : LX E Hb c fs ve vp H s) : LX E (hide (own c fs) H) c fs ve vp H s :=
  { h with base := hide_ex, news := hide_in (by simp [own]), newf := hide_in (by simp [own]), newt := hide_in (by simp [own]), newl := hide_in (by simp [own]), newd := fun x hx => hide_in (by simp only [own, List.mem_cons]; exact .inr (.inr (.inr (.inr (List.mem_map.mpr ⟨x, hx, rfl⟩))))) }
theorem LX.own_none (h : LX E Hb c fs ve vp H s) : ∀ a ∈ own c fs, Hb a = none := fun a ha => by
  simp only [own, List.mem_cons, List.mem_map] at ha
  rcases ha with rfl | rfl | rfl | rfl | ⟨x, hx, rfl⟩
  · exact h.news
  · exact h.newf
  · exact h.newt
  · exact h.newl
  · exact h.newd x hx
theorem LX.back (h : LX E Hb c fs ve vp H s) (r : LAt E (hide (own c fs) H) c H' s') : LAt E Hb c H' s' := by
  obtain ⟨fs', ve', vp', r⟩ := r
  refine ⟨fs', ve', vp', { r with base := fun a o e => ?_, news := h.news, newf := h.newf, newt := h.newt, newl := h.newl, newd := fun x hx => ?_ }⟩
  · have na : a ∉ own c fs := fun ha => by rw [h.own_none a ha] at e; cases e
    exact r.base a o (by rw [hide_out na]; exact h.base a o e)
  · by_cases ha : x.2 ∈ own c fs
    · exact h.own_none _ ha
    · have := r.newd x hx
      rw [hide_out ha] at this
      exact fresh_back h.base this
/-- a list that is no part of the state -/
theorem LX.away (h : LX E Hb c fs ve vp H s) {l : Addr} {xs : List V} (hl : H l = some (.lst xs)) (n1 : l ≠ c.lf) (n2 : l ≠ c.lt) (n3 : l ≠ c.ll) : l ∉ own c fs := fun hm => by
  simp only [own, List.mem_cons, List.mem_map] at hm
  rcases hm with rfl | rfl | rfl | rfl | ⟨x, hx, rfl⟩
  · rw [h.obj] at hl; cases hl
  · exact n1 rfl
  · exact n2 rfl
  · exact n3 rfl
  · exact h.nod hl x hx rfl
theorem LX.lst (h : LX E Hb c fs ve vp H s) {l : Addr} {xs : List V} (hl : H l = some (.lst xs)) (n1 : l ≠ c.lf) (n2 : l ≠ c.lt) (n3 : l ≠ c.ll) (h0 : Hb l = none) (k : Kp [l] H H') (kt : KT H H') : LX E Hb c fs ve vp H' s := by
  obtain ⟨xs1, h1, h2⟩ := h.told
  obtain ⟨ys, h3, h4⟩ := h.left
  have ns : c.st ≠ l := fun z => by rw [← z, h.obj] at hl; cases hl
  exact { h with
    base := ex_kp h.base k h0, obj := k _ _ h.obj (by simpa using ns), over := h.over.mono kt, place := h.place.mono kt, told := ⟨xs1, k _ _ h1 (by simpa using Ne.symm n2), h2⟩, left := ⟨ys, k _ _ h3 (by simpa using Ne.symm n3), h4⟩,
    frs := k _ _ h.frs (by simpa using Ne.symm n1), fr := h.fr.kp k kt fun x hx => by simpa using h.nod hl x hx }
end
def spLPlayed : Sp := fun vs H Q _ => ∃ E p l v, vs = [.ref l, v, .int 60, .int 12] ∧ EnvOk E ∧ ProgOk E p ∧ Dk H l ∧ Im H v (encProg p) ∧
  ∀ gs hs (c : MS ctl) u H', Reach p gs hs c → c.steps ≤ 60 → (c.over = none → c.frames ≠ []) → (c.over ≠ none ∨ c.steps = 60 ∨ ∃ w, wordAt p c.place = some (some w) ∧ (need w).isSome = true) → gs.length ≤ 12 → Im H' u (.tuple [.tuple (gs.map PyData.int), .tuple (hs.map PyData.int)]) → KT H H' → Kp [l] H H' → Q u H'
section
variable {P : Program} {w : World} {K : PySem.W.Frag} {mg : Str → Option Value} {base : Heap}
theorem sc_law_played : FnScope ["_law_deck_here", "_law_program_here", "_law_most", "_law_many", "_law_state", "_law_answers", "_law_others", "_law_wanted_here", "_law_answer"] ["_law_deck_here", "_law_program_here", "_law_most", "_law_many"] (defScope s_law_played) := ⟨rfl, rfl, rfl, by decide +kernel, rfl, by decide +kernel, by decide +kernel⟩
theorem ok_law_played (T : Fx K mg) : C8.Cal P w K mg base 15 "_law_played" spLPlayed [] := by
  obtain ⟨fd, F⟩ := T.f_law_played
  have c_law_started := ok_law_started (P := P) (w := w) (base := base) T
  have c_law_wanted := ok_law_wanted (P := P) (w := w) (base := base) T
  have c_law_draw := ok_law_draw (P := P) (w := w) (base := base) T
  have c_law_step := ok_law_step (P := P) (w := w) (base := base) T
  refine cal_of F T.g_law_played sc_law_played (fun _ _ _ _ _ _ us hl => match us, hl with | [_, _, _, _], _ => rfl) (by rintro vs H Q E ⟨_, _, _, _, rfl, _⟩; rfl) fun cdv A outer s0 H vs Q E0 hr hsp => ?_
  obtain ⟨E, p, l, v, rfl, ok, pok, hdk, iv, k⟩ := hsp
  have hu := hu_of hr
  refine ⟨_, (pss_cons (ps_set (i := 4) sc_law_played.nd rfl (.inl rfl) (C8.pe_c c_law_started hr (by omega) rfl (pa_cons (pv 1) pa_nil)))
(pss_cons (ps_set (i := 5) sc_law_played.nd rfl (.inl rfl) (pe_lst pa_nil))
(pss_cons (ps_set (i := 6) sc_law_played.nd rfl (.inl rfl) (pe_lst pa_nil))
(pss_cons (ps_while PassesOwn.never (PW.pt (pw_and (pt_cmpR op_isN (pe_dget hu (pv 4) pe_str (fun _ _ => rfl)) pe_non (nomark _)) (pw_and1 (pt_cmpR op_lt (pe_dget hu (pv 4) pe_str (fun _ _ => rfl)) (pv 2) (nomark _)))))
(pss_cons (ps_set (i := 7) sc_law_played.nd rfl (.inl rfl) (C8.pe_c c_law_wanted hr (by omega) rfl (pa_cons (pv 1) (pa_cons (pv 4) pa_nil))))
(pss_cons (ps_set (i := 8) sc_law_played.nd rfl (.inl rfl) pe_non)
(pss_cons (ps_if (PW.pt (pw_and (pt_cmpR op_gt (pv 7) pe_int (nomark _)) (pw_and1 (pt_cmpR op_eq (pe_callB call_len_seq (by rfl) T.len_ boot_len (pa_cons (pv 5) pa_nil)) (pv 3) (nomark _)))))
(pss_one ps_break)
pss_nil)
(pss_cons (ps_if (pt_cmpR op_gt (pv 7) pe_int (nomark _))
(pss_cons (ps_set (i := 8) sc_law_played.nd rfl (.inl rfl) (pe_ix ix_list (pe_lst (pa_cons pe_int (pa_cons pe_int (pa_cons pe_int (pa_cons (C8.pe_c c_law_draw hr (by omega) rfl (pa_cons (pv 0) (pa_cons pe_int pa_nil))) pa_nil))))) (C8.pe_c c_law_draw hr (by omega) rfl (pa_cons (pv 0) (pa_cons pe_int pa_nil))) (fun _ _ => rfl)))
(pss_cons (ps_if (pt_cmpR op_lt (pv 7) pe_int (nomark _))
(pss_one (ps_set (i := 8) sc_law_played.nd rfl (.inl rfl) (pe_op op_mul (C8.pe_c c_law_draw hr (by omega) rfl (pa_cons (pv 0) (pa_cons (pv 7) pa_nil))) (pe_callTy call_int1 (by rfl) T.int_ boot_int (pa_cons (pe_or (pe_cmpR op_ne (pv 7) pe_int (nomark _)) (pe_one (pe_cmpR op_gt (C8.pe_c c_law_draw hr (by omega) rfl (pa_cons (pv 0) (pa_cons pe_int pa_nil))) pe_int (nomark _)))) pa_nil)))))
pss_nil)
(pss_cons (ps_expr (pe_bm PySem.F.plainAttrs_list PySem.F.slot_list_append PySem.F.type_list_append mt_append (pv 5) (pa_cons (pv 8) pa_nil)))
(pss_one (ps_expr (pe_bm PySem.F.plainAttrs_list PySem.F.slot_list_append PySem.F.type_list_append mt_append (pv 6) (pa_cons (pe_ix ix_list (pe_lst (pa_cons (pv 8) (pa_cons (C8.pe_c c_law_draw hr (by omega) rfl (pa_cons (pv 0) (pa_cons pe_int pa_nil))) pa_nil))) (pe_callTy call_int1 (by rfl) T.int_ boot_int (pa_cons (pe_cmpR op_eq (pv 7) pe_int (nomark _)) pa_nil)) (fun _ _ => rfl)) pa_nil)))))))
pss_nil)
(pss_cons (ps_expr (C8.pe_c c_law_step hr (by omega) rfl (pa_cons (pv 1) (pa_cons (pv 4) (pa_cons (pv 8) pa_nil)))))
(pss_one (ps_dput hu (pv 4) pe_str (pe_op op_add (pe_dget hu (pv 4) pe_str (fun _ _ => rfl)) pe_int) rfl))))))))
(pss_one (ps_ret (pe_tup (pa_cons (pe_callTy call_tuple_of (by rfl) T.tuple_ boot_tuple (pa_cons (pv 5) pa_nil)) (pa_cons (pe_callTy call_tuple_of (by rfl) T.tuple_ boot_tuple (pa_cons (pv 6) pa_nil)) pa_nil))))))))), ?_⟩
  have lp := LP_of ok pok
  obtain ⟨st0, hst, hgo⟩ := start_ok pok
  obtain ⟨da, db, dx, hld, hdx⟩ := id hdk
  -- state = _law_started(program)
  refine ⟨v, rfl, E, p, v, st0, rfl, ok, pok, lp, iv, hst, fun c H1 r1 => ?_⟩
  obtain ⟨fs1, ve1, vp1, h1'⟩ := r1
  have b1 : Ex H H1 := h1'.base
  have h1 := h1'.weak (hide_ex (S := [l]))
  show tSeq _ _ _ _ H1
  refine qd_lst (ds := []) evds_nil (by simp) fun la vs5 H2 nla e2 hla i2 => ?_
  cases i2
  refine qd_lst (ds := []) evds_nil (by simp) fun lo vs6 H3 nlo e3 hlo i3 => ?_
  cases i3
  have h3 := h1.ex (e2.trans e3)
  have hla3 := e3 _ _ hla
  have st_ne : ∀ {a : Addr}, H1 a = none → a ≠ c.lf ∧ a ≠ c.lt ∧ a ≠ c.ll := fun ha => by
    obtain ⟨xs, q1, _⟩ := h1.told
    obtain ⟨ys, q2, _⟩ := h1.left
    exact ⟨fun z => (by rw [z, h1.frs] at ha; cases ha), fun z => (by rw [z, q1] at ha; cases ha), fun z => (by rw [z, q2] at ha; cases ha)⟩
  obtain ⟨la1, la2, la3⟩ := st_ne nla
  obtain ⟨lo1, lo2, lo3⟩ := st_ne (fresh_back e2 nlo)
  have lalo : la ≠ lo := fun z => by rw [← z, hla] at nlo; cases nlo
  have l_none : ∀ {a : Addr}, H a = none → a ≠ l := fun ha z => by rw [z, hld] at ha; cases ha
  have l1 : l ≠ c.lf := Ne.symm (l_none h1'.newf)
  have l2 : l ≠ c.lt := Ne.symm (l_none h1'.newt)
  have l3 : l ≠ c.ll := Ne.symm (l_none h1'.newl)
  have nlaH : H la = none := fresh_back b1 nla
  have nloH : H lo = none := fresh_back (b1.trans e2) nlo
  have lal : la ≠ l := l_none nlaH
  have lol : lo ≠ l := l_none nloH
  have hb : ∀ {a : Addr}, H a = none → hide [l] H a = none := fun ha => by
    unfold hide
    split
    · rfl
    · exact ha
  have hbl : hide [l] H l = none := hide_in (by simp)
  have ret : ∀ {H5 : Hp} {x y : Option V} {gs hs : List Int} {s : MS ctl}, H5 la = some (.lst (gs.map V.int)) → H5 lo = some (.lst (hs.map V.int)) → Reach p gs hs s → s.steps ≤ 60 → (s.over = none → s.frames ≠ []) → (s.over ≠ none ∨ s.steps = 60 ∨ ∃ w, wordAt p s.place = some (some w) ∧ (need w).isSome = true) → gs.length ≤ 12 → KT H H5 → Kp [l] H H5 →
      tRet (tTup (tCons (tCB (rTupQ K) (tCons (tVar 5) tNil)) (tCons (tCB (rTupQ K) (tCons (tVar 6) tNil)) tNil))) { nx := fun _ H' => Q .non H', rt := Q } [some (.ref l), some v, some (.int 60), some (.int 12), some (.ref c.st), some (.ref la), some (.ref lo), x, y] H5 := fun {H5 x y gs hs s} q1 q2 q3 q4 q5 q6 q7 kt kp =>
    qd_ret (d := .tuple [.tuple (gs.map PyData.int), .tuple (hs.map PyData.int)]) (evd_tup (evds_cons (evd_tupR (ev_var rfl) q1 ims_int) (evds_cons (evd_tupR (ev_var rfl) q2 ims_int) evds_nil))) fun u H6 e6 i6 => k gs hs s u H6 q3 q4 q5 q6 q7 i6 (kt.trans (KT.of e6)) (kp.trans (Kp.of e6))
  have st0s : st0.steps = 0 := (comeTo_steps' hst).1
  refine q_seq (s_while (fun m σ' H' => ∃ (x y : Option V) (gs hs : List Int) (s : MS ctl) (fs : List (Addr × Addr)) (ve vp : V), σ' = [some (.ref l), some v, some (.int 60), some (.int 12), some (.ref c.st), some (.ref la), some (.ref lo), x, y] ∧ LX E (hide [l] H) c fs ve vp H' s ∧ Reach p gs hs s ∧ H' la = some (.lst (gs.map V.int)) ∧ H' lo = some (.lst (hs.map V.int)) ∧ Dk H' l ∧ Kp [l] H H' ∧ KT H H' ∧ s.steps + m = 60 ∧
      (s.over = none → Go p s (1 + 2 * s.steps)) ∧ s.frames.length ≤ 1 + s.steps ∧ gs.length ≤ 12 ∧ hs.length = gs.length) 60
    ⟨none, none, [], [], st0, fs1, ve1, vp1, rfl, h3, .start hst, hla3, hlo, ⟨da, db, dx, (b1.trans (e2.trans e3)) _ _ hld, hdx⟩, Kp.of (b1.trans (e2.trans e3)), KT.of (b1.trans (e2.trans e3)), by omega, fun _ => by rw [st0s]; exact hgo, by have := hgo.count; simp only [st0s]; exact Nat.le_trans (Nat.le_add_left _ _) this, by simp, rfl⟩ ?_)
  rintro m σ' H' ⟨x, y, gs, hs, s, fs, ve, vp, rfl, h, hre, hga, hgo', hdk', kp, kt, hsm, hG, hfl, hgl, hhl⟩
  have tlt : EvT (tTest (tOp (rI0 fun i j => .bl (decide (i < j))) (tDGet (tVar 4) (tC (.str "steps"))) (tVar 2))) [some (.ref l), some v, some (.int 60), some (.int 12), some (.ref c.st), some (.ref la), some (.ref lo), x, y] H' (decide ((s.steps : Int) < 60)) :=
    et_test fun H5 e5 Q5 q5 => (h.eSteps (ev_var rfl)) H5 e5 _ fun u H6 e6 iu => ⟨_, rfl, _, 60, iu.int_, rfl, q5 H6 e6⟩
  cases hov : s.over with
  | some o =>
    refine ⟨false, et_is (et_and (a := false) (b := false) (et_is (evt_none (h.eEnd (ev_var rfl))) (by rw [hov]; cases o <;> rfl)) fun z => nomatch z) rfl, (fun z => nomatch z), fun _ H5 e5 => ?_⟩
    exact ret (e5 _ _ hga) (e5 _ _ hgo') hre (by omega) (fun z => by rw [hov] at z; cases z) (.inl (by rw [hov]; simp)) hgl (kt.trans (KT.of e5)) (kp.trans (Kp.of e5))
  | none =>
  have G := hG hov
  cases m with
  | zero =>
    refine ⟨false, et_is (et_and (a := true) (b := false) (et_is (evt_none (h.eEnd (ev_var rfl))) (by rw [hov]; rfl)) fun _ => et_is tlt (by simp; omega)) rfl, (fun z => nomatch z), fun _ H5 e5 => ?_⟩
    exact ret (e5 _ _ hga) (e5 _ _ hgo') hre (by omega) (fun _ => G.some_ hov) (.inr (.inl (by omega))) hgl (kt.trans (KT.of e5)) (kp.trans (Kp.of e5))
  | succ m =>
  obtain ⟨wd, hw⟩ := G.here hov
  refine ⟨true, et_is (et_and (a := true) (b := true) (et_is (evt_none (h.eEnd (ev_var rfl))) (by rw [hov]; rfl)) fun _ => et_is tlt (by simp; omega)) rfl, fun _ H3 e3 => ⟨_, fun σ4 H4 q => ⟨m, Nat.lt_succ_self m, q⟩, ?_⟩, fun z => nomatch z⟩
  -- what a step keeps
  have keep : ∀ {fs : List (Addr × Addr)} {ve vp : V} {HE HF : Hp} {s s1 : MS ctl}, LX E (hide [l] H) c fs ve vp HE s → LAt E (hide (own c fs) HE) c HF s1 → ∀ {a : Addr} {xs : List V}, HE a = some (.lst xs) → a ≠ c.lf → a ≠ c.lt → a ≠ c.ll → HF a = some (.lst xs) := fun {fs ve vp HE HF s s1} hE r {a xs} ha n1 n2 n3 => by
    obtain ⟨_, _, _, r⟩ := r
    exact r.base _ _ (by rw [hide_out (hE.away ha n1 n2 n3)]; exact ha)
  have kpl : ∀ {HF : Hp} {s1 : MS ctl}, LAt E (hide [l] H) c HF s1 → Kp [l] H HF := fun {HF s1} r => by
    obtain ⟨_, _, _, r⟩ := r
    intro a o ha hn
    exact r.base a o (by rw [hide_out hn]; exact ha)
  -- the end of a turn
  have fin : ∀ {HF : Hp} {x y : Option V} {gs hs : List Int} {s1 : MS ctl}, LAt E (hide [l] H) c HF s1 → HF la = some (.lst (gs.map V.int)) → HF lo = some (.lst (hs.map V.int)) → Dk HF l → KT H HF → Reach p gs hs (tick s1) → s1.steps + 1 + m = 60 → (s1.over = none → Go p s1 (1 + 2 * (s1.steps + 1))) → s1.frames.length ≤ 1 + (s1.steps + 1) → gs.length ≤ 12 → hs.length = gs.length →
      ∀ {D : Ends}, (∀ HG, (∃ (x' y' : Option V) (gs hs : List Int) (s : MS ctl) (fs : List (Addr × Addr)) (ve vp : V), [some (.ref l), some v, some (.int 60), some (.int 12), some (.ref c.st), some (.ref la), some (.ref lo), x, y] = [some (.ref l), some v, some (.int 60), some (.int 12), some (.ref c.st), some (.ref la), some (.ref lo), x', y'] ∧ LX E (hide [l] H) c fs ve vp HG s ∧ Reach p gs hs s ∧ HG la = some (.lst (gs.map V.int)) ∧ HG lo = some (.lst (hs.map V.int)) ∧ Dk HG l ∧ Kp [l] H HG ∧ KT H HG ∧ s.steps + m = 60 ∧
        (s.over = none → Go p s (1 + 2 * s.steps)) ∧ s.frames.length ≤ 1 + s.steps ∧ gs.length ≤ 12 ∧ hs.length = gs.length) → D.nx [some (.ref l), some v, some (.int 60), some (.int 12), some (.ref c.st), some (.ref la), some (.ref lo), x, y] HG) →
      sDPut (tVar 4) (tC (.str "steps")) (tOp (rI0 fun i j => .int (i + j)) (tDGet (tVar 4) (tC (.str "steps"))) (tC (.int 1))) D [some (.ref l), some v, some (.int 60), some (.int 12), some (.ref c.st), some (.ref la), some (.ref lo), x, y] HF := fun {HF x y gs hs s1} r qa qo qd kt hre hm hG hfl hgl hhl {D} kk => by
    obtain ⟨fs', ve', vp', hF⟩ := r
    have hR := hF.rebase
    refine hR.sSteps (n := s1.steps + 1) (fun _ => ev_var rfl) (evd_add (hR.eSteps (ev_var rfl)) evd_int) fun HG hG' ktG => ?_
    have rG : LAt E (hide (own c fs') HF) c HG (tick s1) := ⟨_, _, _, hG'⟩
    have rB := hF.back rG
    obtain ⟨a0, b0, x0, hl0, hx0⟩ := qd
    have dk : Dk HG l := ⟨a0, b0, x0, keep hF rG hl0 l1 l2 l3, hx0⟩
    have kpG := kpl rB
    obtain ⟨fs2, ve2, vp2, hB⟩ := rB
    exact kk HG ⟨x, y, gs, hs, tick s1, fs2, ve2, vp2, rfl, hB, hre, keep hF rG qa la1 la2 la3, keep hF rG qo lo1 lo2 lo3, dk, kpG, kt.trans ktG, hm, fun ho => (fun g => ⟨g.chain, g.some_, g.here, g.count⟩) (hG ho), hfl, hgl, hhl⟩
  have hs60 : s.steps < 60 := by omega
  -- wanted = _law_wanted(program, state)
  refine ⟨v, rfl, .ref c.st, rfl, E, p, _, c, s, v, wd, rfl, lp, ⟨_, _, _, h.ex e3⟩, (iv.mono kt).ex e3, hw, fun H4 e4 => ?_⟩
  dsimp only [gName, List.set]
  refine qe_set ev_c fun H5 e5 => ?_
  dsimp only [List.set]
  have e35 := (e3.trans e4).trans e5
  have h5 := h.ex e35
  have kt5 := kt.trans (KT.of e35)
  cases hnw : need wd with
  | none =>
    refine q_no (et_and (a := false) (b := false) (et_test fun H6 e6 Q6 q6 => ⟨_, rfl, 0, 0, rfl, rfl, q6 H6 (Ex.refl H6)⟩) fun z => nomatch z) fun H6 e6 => ?_
    refine q_no (et_test (b := false) fun H7 e7 Q7 q7 => ⟨_, rfl, 0, 0, rfl, rfl, q7 H7 (Ex.refl H7)⟩) fun H7 e7 => ?_
    have e57 := e6.trans e7
    have h7 := h5.ex e57
    obtain ⟨s', hst', hgo2, hfl2⟩ := step_ok pok (B := 1 + 2 * s.steps) (by omega) (a := none) G hov hw (by omega) (fun mm hm => by rw [hnw] at hm; cases hm)
    have hss := (stepW_steps' hst').1
    refine q_seq ⟨v, rfl, .ref c.st, rfl, .non, rfl, E, p, _, c, s, s', wd, none, v, .non, rfl, ok, pok, lp, ⟨_, _, _, h7.rebase⟩, iv.mono (kt5.trans (KT.of e57)), hw, fun _ => rfl, (fun x hx => nomatch hx), hst', (fun z => by rw [hnw] at z; cases z), fun _ => rfl, fun HF rF ktF => ?_⟩
    obtain ⟨a0, b0, x0, hl0, hx0⟩ := hdk'
    have e07 := e35.trans e57
    exact fin (x := some (.int ((none : Option Nat).getD 0 : Nat))) (y := some .non) (h7.back rF) (keep h7 rF (e07 _ _ hga) la1 la2 la3) (keep h7 rF (e07 _ _ hgo') lo1 lo2 lo3) ⟨a0, b0, x0, keep h7 rF (e07 _ _ hl0) l1 l2 l3, hx0⟩ ((kt5.trans (KT.of e57)).trans ktF) (.quiet hre hov hw hnw hst') (by omega) (fun ho => by rw [hss]; exact hgo2 ho) (by omega) hgl hhl fun HG q => q
  | some mm =>
    have hmm : 0 < mm ∧ mm ≤ 10000 ∧ (freeW wd = false → mm ≤ 8) := by
      obtain ⟨r0, _, _, hkw⟩ := word_ok pok hw
      cases wd <;> simp only [need, reduceCtorEq, Option.some.injEq] at hnw
      case take => subst hnw; exact ⟨by omega, by omega, fun z => by cases z⟩
      case ask => subst hnw; exact ⟨by omega, by omega, fun z => by cases z⟩
      case choose rows =>
        subst hnw
        simp only [okW] at hkw
        have := List.length_pos_iff.mpr hkw.2.1
        exact ⟨this, by omega, fun _ => hkw.2.2.1.1⟩
      case risk => subst hnw; exact ⟨by omega, by omega, fun _ => by omega⟩
    obtain ⟨hm0, hm1, hm2⟩ := hmm
    have tgt : ∀ {H' : Hp} {x : Option V}, EvT (tTest (tOp (rI0 fun i j => .bl (decide (j < i))) (tVar 7) (tC (.int 0)))) [some (.ref l), some v, some (.int 60), some (.int 12), some (.ref c.st), some (.ref la), some (.ref lo), some (.int (mm : Nat)), x] H' true := fun {H' x} => et_test fun H6 e6 Q6 q6 => ⟨_, rfl, (mm : Nat), 0, rfl, rfl, by
      show Q6 (.bl (decide ((0 : Int) < (mm : Nat)))) H6
      rw [decide_eq_true (by omega : (0 : Int) < (mm : Nat))]
      exact q6 H6 (Ex.refl H6)⟩
    have teq := evt_eq (σ := [some (.ref l), some v, some (.int 60), some (.int 12), some (.ref c.st), some (.ref la), some (.ref lo), some (.int (mm : Nat)), some .non]) (H := H5) (d := .int ((gs.map V.int).length : Nat)) (e := .int 12) (ta := tCB (fun xs H1 Q => ∃ p ys, xs = [.ref p] ∧ (SqL K H1 p ys ∨ SqT K H1 p ys) ∧ Q (.int ys.length) H1) (tCons (tVar 5) tNil)) (fun H6 e6 Q6 q6 => ⟨.ref la, rfl, la, _, rfl, .inl (SqL.of ((e35.trans e6) _ _ hga)), q6 _ H6 (Ex.refl H6) (.int _)⟩) (evd_var (i := 3) rfl (.int 12)) rfl
    by_cases hg12 : gs.length = 12
    · refine q_yes (et_and (a := true) (b := true) tgt fun _ => evt_is teq (by simp [eqD, hg12])) fun H6 e6 => ?_
      have e06 := e35.trans e6
      exact ret (e06 _ _ hga) (e06 _ _ hgo') hre (by omega) (fun _ => G.some_ hov) (.inr (.inr ⟨wd, hw, by rw [hnw]; rfl⟩)) hgl (kt.trans (KT.of e06)) (kp.trans (Kp.of e06))
    · refine q_no (et_and (a := true) (b := false) tgt fun _ => evt_is teq (by simp [eqD]; omega)) fun H6 e6 => ?_
      refine q_yes tgt fun H7 e7 => ?_
      let J : Hp → Prop := fun Hx => LX E (hide [l] H) c fs ve vp Hx s ∧ Hx la = some (.lst (gs.map V.int)) ∧ Hx lo = some (.lst (hs.map V.int)) ∧ Dk Hx l ∧ Kp [l] H Hx ∧ KT H Hx
      have jex : ∀ {Hx Hy : Hp}, J Hx → Ex Hx Hy → J Hy := fun {Hx Hy} j e => by
        obtain ⟨j1, j2, j3, ⟨a0, b0, x0, j4, j5⟩, j6, j7⟩ := j
        exact ⟨j1.ex e, e _ _ j2, e _ _ j3, ⟨a0, b0, x0, e _ _ j4, j5⟩, j6.trans (Kp.of e), j7.trans (KT.of e)⟩
      have jdr : ∀ {Hx Hy : Hp}, J Hx → Dk Hy l → Kp [l] Hx Hy → KT Hx Hy → J Hy := fun {Hx Hy} j dk kp kt => by
        obtain ⟨j1, j2, j3, ⟨a0, b0, x0, j4, j5⟩, j6, j7⟩ := j
        exact ⟨j1.lst j4 l1 l2 l3 hbl kp kt, kp _ _ j2 (by simpa using lal), kp _ _ j3 (by simpa using lol), dk, j6.trans kp, j7.trans kt⟩
      have J7 : J H7 := jex (jex ⟨h5, e35 _ _ hga, e35 _ _ hgo', (by obtain ⟨a0, b0, x0, j4, j5⟩ := hdk'; exact ⟨a0, b0, x0, e35 _ _ j4, j5⟩), kp.trans (Kp.of e35), kt5⟩ e6) e7
      refine q_seq ?_
      -- answer = [0, 1, 9999, draw(10000)][draw(4)]
      refine ⟨.ref l, rfl, l, 10000, rfl, J7.2.2.2.1, by decide, by decide, fun r1 H8 r1a r1b dk8 kp8 kt8 => ⟨sz_of (by simp), fun lx hlx => ?_⟩⟩
      have J8 := jdr J7 dk8 kp8 kt8
      have J8' := jex J8 (Ex.new (o := .lst [.int 0, .int 1, .int 9999, .int r1]) hlx)
      have lxl : lx ≠ l := fun z => by
        obtain ⟨_, _, _, q, _⟩ := dk8
        rw [z, q] at hlx
        cases hlx
      refine ⟨.ref l, rfl, l, 4, rfl, J8'.2.2.2.1, by decide, by decide, fun r2 H9 r2a r2b dk9 kp9 kt9 => ?_⟩
      have J9 := jdr J8' dk9 kp9 kt9
      obtain ⟨x1, hx1, x1a, x1b⟩ : ∃ x1 : Int, atI [V.int 0, V.int 1, V.int 9999, V.int r1] r2 = some (.int x1) ∧ 0 ≤ x1 ∧ x1 < 10000 := by
        have : r2 = 0 ∨ r2 = 1 ∨ r2 = 2 ∨ r2 = 3 := by omega
        rcases this with rfl | rfl | rfl | rfl
        · exact ⟨0, atI_nat (j := 0) rfl, by decide, by decide⟩
        · exact ⟨1, atI_nat (j := 1) rfl, by decide, by decide⟩
        · exact ⟨9999, atI_nat (j := 2) rfl, by decide, by decide⟩
        · exact ⟨r1, atI_nat (j := 3) rfl, r1a, r1b⟩
      refine ⟨lx, _, r2, .int x1, rfl, rfl, SqL.of (kp9 _ _ upd_same (by simpa using lxl)), hx1, ?_⟩
      dsimp only [gName, List.set]
      have lt9 : ∀ {Hx : Hp} {z : Option V} (bb : Bool), decide (((mm : Nat) : Int) < 9) = bb → EvT (tTest (tOp (rI0 fun i j => .bl (decide (i < j))) (tVar 7) (tC (.int 9)))) [some (.ref l), some v, some (.int 60), some (.int 12), some (.ref c.st), some (.ref la), some (.ref lo), some (.int (mm : Nat)), z] Hx bb := fun {Hx z} bb hb => et_test fun H6 e6 Q6 q6 => ⟨_, rfl, (mm : Nat), 9, rfl, rfl, by
        show Q6 (.bl (decide (((mm : Nat) : Int) < 9))) H6
        rw [hb]
        exact q6 H6 (Ex.refl H6)⟩
      by_cases h9 : mm < 9
      · refine q_yes (lt9 true (decide_eq_true (by omega))) fun HA eA => ?_
        have JA := jex J9 eA
        refine ⟨.ref l, rfl, .int (mm : Nat), rfl, l, (mm : Nat), rfl, JA.2.2.2.1, by omega, by omega, fun r3 HB ra rb dkB kpB ktB => ?_⟩
        have JB := jdr JA dkB kpB ktB
        dsimp only
        refine (ev_op (ev_var (i := 7) rfl) ev_c (rv_ne rfl)) HB (Ex.refl HB) _ fun HC0 eC0 => ⟨_, rfl, ?_⟩
        have JC0 := jex JB eC0
        by_cases h2 : mm = 2
        · rw [if_neg (by rw [decide_eq_true (by rw [h2]; rfl)]; decide)]
          refine ⟨.ref l, rfl, l, 3, rfl, JC0.2.2.2.1, by decide, by decide, fun r5 HD0 r5a r5b dkD0 kpD0 ktD0 => ⟨r5, 0, rfl, rfl, .inr ⟨_, rfl, r3, (if decide (0 < r5) = true then 1 else 0), rfl, rfl, .inr (by split <;> exact ⟨by decide, by decide⟩), ?_⟩⟩⟩
          have HAJ := jdr JC0 dkD0 kpD0 ktD0
          obtain ⟨xx, exx, xxa, xxb⟩ : ∃ xx : Int, r3 * (if decide (0 < r5) = true then 1 else 0) = xx ∧ 0 ≤ xx ∧ xx < (mm : Int) := ⟨_, rfl, by split <;> omega, by split <;> omega⟩
          dsimp only [gName, List.set]
          rw [exx]
          show tSeq (tDrop _) _ _ [some (.ref l), some v, some (.int 60), some (.int 12), some (.ref c.st), some (.ref la), some (.ref lo), some (.int (mm : Nat)), some (.int xx)] HD0
          refine qd_app (d := .int xx) (ev_var rfl) HAJ.2.1 (evd_var rfl (.int xx)) (by rw [List.length_map]; omega) fun vx HB eB iB => ?_
          have := iB.int_
          subst this
          have JB := jex HAJ eB
          have ga : (upd HB la (.lst (gs.map V.int ++ [.int xx]))) la = some (.lst ((gs ++ [xx]).map V.int)) := by rw [upd_same]; simp
          have kpa : Kp [la] HB (upd HB la (.lst (gs.map V.int ++ [.int xx]))) := (Kp.refl HB).mut (by simp)
          have kta : KT HB (upd HB la (.lst (gs.map V.int ++ [.int xx]))) := (KT.refl HB).upd (nt_lst JB.2.1)
          have hC := JB.1.lst JB.2.1 la1 la2 la3 (hb nlaH) kpa kta
          have goC := kpa _ _ JB.2.2.1 (by simpa using Ne.symm lalo)
          generalize upd HB la (.lst (gs.map V.int ++ [.int xx])) = HC at ga kpa kta hC goC
          have dkC : Dk HC l := by
            obtain ⟨a0, b0, x0, j4, j5⟩ := JB.2.2.2.1
            exact ⟨a0, b0, x0, kpa _ _ j4 (by simpa using Ne.symm lal), j5⟩
          refine ⟨.ref lo, rfl, .inl ⟨rfl, _, sq_of goC⟩, ?_⟩
          refine ⟨.int xx, rfl, .ref l, rfl, l, 10000, rfl, dkC, by decide, by decide, fun r4 HD r4a r4b dkD kpD ktD => ⟨sz_of (by simp), fun ly hly => ?_⟩⟩
          obtain ⟨x2, hx2, x2a, x2b, x2c⟩ : ∃ x2 : Int, atI [V.int xx, V.int r4] (if decide (V.int (mm : Nat) = V.int 10000) = true then 1 else 0) = some (.int x2) ∧ 0 ≤ x2 ∧ (mm = 10000 → x2 < 10000) ∧ (mm ≠ 10000 → x2 = xx) := by
            by_cases hk : mm = 10000
            · refine ⟨r4, ?_, r4a, fun _ => r4b, fun z => absurd hk z⟩
              rw [if_pos (decide_eq_true (by rw [hk]; rfl))]
              exact atI_nat (j := 1) rfl
            · refine ⟨xx, ?_, xxa, fun z => absurd z hk, fun _ => rfl⟩
              rw [if_neg (by intro z; have := of_decide_eq_true z; simp only [V.int.injEq] at this; omega)]
              exact atI_nat (j := 0) rfl
          have goD := kpD _ _ goC (by simpa using lol)
          have eY : Ex HD (upd HD ly (.lst [.int xx, .int r4])) := Ex.new hly
          refine ⟨_, rfl, rfl, .inr ⟨_, rfl, ly, _, _, .int x2, rfl, rfl, SqL.of upd_same, hx2, lo, _, _, rfl, rfl, eY _ _ goD, sz_lt (by rw [List.length_map]; omega), ?_⟩⟩
          obtain ⟨a0, b0, x0, j4, j5⟩ := dkC
          have hE0 := (hC.lst j4 l1 l2 l3 hbl kpD ktD).ex eY
          have gaD := eY _ _ (kpD _ _ ga (by simpa using lal))
          have goE0 := eY _ _ goD
          obtain ⟨a1, b1', x1', j6, j7⟩ := dkD
          have dkE0 := eY _ _ j6
          have ktE0 := ((JB.2.2.2.2.2.trans kta).trans ktD).trans (KT.of eY)
          generalize upd HD ly (.lst [.int xx, .int r4]) = HE at hE0 gaD goE0 dkE0 ktE0
          have kpo : Kp [lo] HE (upd HE lo (.lst (hs.map V.int ++ [.int x2]))) := (Kp.refl HE).mut (by simp)
          have kto : KT HE (upd HE lo (.lst (hs.map V.int ++ [.int x2]))) := (KT.refl HE).upd (nt_lst goE0)
          have hF := hE0.lst goE0 lo1 lo2 lo3 (hb nloH) kpo kto
          have gaF := kpo _ _ gaD (by simpa using lalo)
          have goF : (upd HE lo (.lst (hs.map V.int ++ [.int x2]))) lo = some (.lst ((hs ++ [x2]).map V.int)) := by rw [upd_same]; simp
          have dkF := kpo _ _ dkE0 (by simpa using Ne.symm lol)
          have ktF := ktE0.trans kto
          show tSeq _ _ _ [some (.ref l), some v, some (.int 60), some (.int 12), some (.ref c.st), some (.ref la), some (.ref lo), some (.int (mm : Nat)), some (.int xx)] (upd HE lo (.lst (hs.map V.int ++ [.int x2])))
          generalize upd HE lo (.lst (hs.map V.int ++ [.int x2])) = HF at hF gaF goF dkF ktF
          have hx2r : x2 < (mm : Int) := by
            by_cases z : mm = 10000
            · have := x2b z; omega
            · rw [x2c z]; exact xxb
          have hF2 : LX E (hide [l] H) c fs ve vp HF { s with used := s.used + 1 } := { hF with }
          obtain ⟨s', hst', hgo2, hfl2⟩ := step_ok pok (B := 1 + 2 * s.steps) (by omega) (s := { s with used := s.used + 1 }) (a := some xx) ⟨G.chain, G.some_, G.here, G.count⟩ hov hw (by show s.frames.length ≤ 900; omega) (fun m3 h3 => ⟨xx, rfl, xxa, by rw [hnw] at h3; cases h3; omega⟩)
          have hss : s'.steps = s.steps := (stepW_steps' hst').1
          have hfl3 : s'.frames.length ≤ s.frames.length + 1 := hfl2
          refine q_seq ⟨v, rfl, .ref c.st, rfl, .int xx, rfl, E, p, _, c, { s with used := s.used + 1 }, s', wd, some xx, v, .int xx, rfl, ok, pok, lp, ⟨_, _, _, hF2.rebase⟩, iv.mono ktF, hw, (fun z => nomatch z), (fun z hz => by cases hz; exact ⟨rfl, xxa⟩), hst', (fun _ => rfl), (fun z => by rw [hnw] at z; cases z), fun HG rG ktG => ?_⟩
          exact fin (x := some (.int (mm : Nat))) (y := some (.int xx)) (gs := gs ++ [xx]) (hs := hs ++ [x2]) (hF2.back rG) (keep hF2 rG gaF la1 la2 la3) (keep hF2 rG goF lo1 lo2 lo3) ⟨a1, b1', x1', keep hF2 rG dkF l1 l2 l3, j7⟩ (ktF.trans ktG) (.asked hre hov hw hnw xxa (by omega) x2a (by omega) (fun z => x2c (by have := hm2 z; omega)) hst') (by omega) (fun ho => by rw [hss]; exact hgo2 ho) (by omega) (by rw [List.length_append]; simp only [List.length_cons, List.length_nil]; omega) (by rw [List.length_append, List.length_append, hhl]; rfl) fun HG q => q
        · rw [if_pos (by rw [decide_eq_false (by intro z; simp only [V.int.injEq] at z; apply h2; exact_mod_cast z)]; rfl)]
          refine .inr ⟨true, rfl, r3, 1, rfl, rfl, .inr ⟨by decide, by decide⟩, ?_⟩
          have HAJ := JC0
          obtain ⟨xx, exx, xxa, xxb⟩ : ∃ xx : Int, r3 * 1 = xx ∧ 0 ≤ xx ∧ xx < (mm : Int) := ⟨_, rfl, by omega, by omega⟩
          dsimp only [gName, List.set]
          rw [exx]
          show tSeq (tDrop _) _ _ [some (.ref l), some v, some (.int 60), some (.int 12), some (.ref c.st), some (.ref la), some (.ref lo), some (.int (mm : Nat)), some (.int xx)] HC0
          refine qd_app (d := .int xx) (ev_var rfl) HAJ.2.1 (evd_var rfl (.int xx)) (by rw [List.length_map]; omega) fun vx HB eB iB => ?_
          have := iB.int_
          subst this
          have JB := jex HAJ eB
          have ga : (upd HB la (.lst (gs.map V.int ++ [.int xx]))) la = some (.lst ((gs ++ [xx]).map V.int)) := by rw [upd_same]; simp
          have kpa : Kp [la] HB (upd HB la (.lst (gs.map V.int ++ [.int xx]))) := (Kp.refl HB).mut (by simp)
          have kta : KT HB (upd HB la (.lst (gs.map V.int ++ [.int xx]))) := (KT.refl HB).upd (nt_lst JB.2.1)
          have hC := JB.1.lst JB.2.1 la1 la2 la3 (hb nlaH) kpa kta
          have goC := kpa _ _ JB.2.2.1 (by simpa using Ne.symm lalo)
          generalize upd HB la (.lst (gs.map V.int ++ [.int xx])) = HC at ga kpa kta hC goC
          have dkC : Dk HC l := by
            obtain ⟨a0, b0, x0, j4, j5⟩ := JB.2.2.2.1
            exact ⟨a0, b0, x0, kpa _ _ j4 (by simpa using Ne.symm lal), j5⟩
          refine ⟨.ref lo, rfl, .inl ⟨rfl, _, sq_of goC⟩, ?_⟩
          refine ⟨.int xx, rfl, .ref l, rfl, l, 10000, rfl, dkC, by decide, by decide, fun r4 HD r4a r4b dkD kpD ktD => ⟨sz_of (by simp), fun ly hly => ?_⟩⟩
          obtain ⟨x2, hx2, x2a, x2b, x2c⟩ : ∃ x2 : Int, atI [V.int xx, V.int r4] (if decide (V.int (mm : Nat) = V.int 10000) = true then 1 else 0) = some (.int x2) ∧ 0 ≤ x2 ∧ (mm = 10000 → x2 < 10000) ∧ (mm ≠ 10000 → x2 = xx) := by
            by_cases hk : mm = 10000
            · refine ⟨r4, ?_, r4a, fun _ => r4b, fun z => absurd hk z⟩
              rw [if_pos (decide_eq_true (by rw [hk]; rfl))]
              exact atI_nat (j := 1) rfl
            · refine ⟨xx, ?_, xxa, fun z => absurd z hk, fun _ => rfl⟩
              rw [if_neg (by intro z; have := of_decide_eq_true z; simp only [V.int.injEq] at this; omega)]
              exact atI_nat (j := 0) rfl
          have goD := kpD _ _ goC (by simpa using lol)
          have eY : Ex HD (upd HD ly (.lst [.int xx, .int r4])) := Ex.new hly
          refine ⟨_, rfl, rfl, .inr ⟨_, rfl, ly, _, _, .int x2, rfl, rfl, SqL.of upd_same, hx2, lo, _, _, rfl, rfl, eY _ _ goD, sz_lt (by rw [List.length_map]; omega), ?_⟩⟩
          obtain ⟨a0, b0, x0, j4, j5⟩ := dkC
          have hE0 := (hC.lst j4 l1 l2 l3 hbl kpD ktD).ex eY
          have gaD := eY _ _ (kpD _ _ ga (by simpa using lal))
          have goE0 := eY _ _ goD
          obtain ⟨a1, b1', x1', j6, j7⟩ := dkD
          have dkE0 := eY _ _ j6
          have ktE0 := ((JB.2.2.2.2.2.trans kta).trans ktD).trans (KT.of eY)
          generalize upd HD ly (.lst [.int xx, .int r4]) = HE at hE0 gaD goE0 dkE0 ktE0
          have kpo : Kp [lo] HE (upd HE lo (.lst (hs.map V.int ++ [.int x2]))) := (Kp.refl HE).mut (by simp)
          have kto : KT HE (upd HE lo (.lst (hs.map V.int ++ [.int x2]))) := (KT.refl HE).upd (nt_lst goE0)
          have hF := hE0.lst goE0 lo1 lo2 lo3 (hb nloH) kpo kto
          have gaF := kpo _ _ gaD (by simpa using lalo)
          have goF : (upd HE lo (.lst (hs.map V.int ++ [.int x2]))) lo = some (.lst ((hs ++ [x2]).map V.int)) := by rw [upd_same]; simp
          have dkF := kpo _ _ dkE0 (by simpa using Ne.symm lol)
          have ktF := ktE0.trans kto
          show tSeq _ _ _ [some (.ref l), some v, some (.int 60), some (.int 12), some (.ref c.st), some (.ref la), some (.ref lo), some (.int (mm : Nat)), some (.int xx)] (upd HE lo (.lst (hs.map V.int ++ [.int x2])))
          generalize upd HE lo (.lst (hs.map V.int ++ [.int x2])) = HF at hF gaF goF dkF ktF
          have hx2r : x2 < (mm : Int) := by
            by_cases z : mm = 10000
            · have := x2b z; omega
            · rw [x2c z]; exact xxb
          have hF2 : LX E (hide [l] H) c fs ve vp HF { s with used := s.used + 1 } := { hF with }
          obtain ⟨s', hst', hgo2, hfl2⟩ := step_ok pok (B := 1 + 2 * s.steps) (by omega) (s := { s with used := s.used + 1 }) (a := some xx) ⟨G.chain, G.some_, G.here, G.count⟩ hov hw (by show s.frames.length ≤ 900; omega) (fun m3 h3 => ⟨xx, rfl, xxa, by rw [hnw] at h3; cases h3; omega⟩)
          have hss : s'.steps = s.steps := (stepW_steps' hst').1
          have hfl3 : s'.frames.length ≤ s.frames.length + 1 := hfl2
          refine q_seq ⟨v, rfl, .ref c.st, rfl, .int xx, rfl, E, p, _, c, { s with used := s.used + 1 }, s', wd, some xx, v, .int xx, rfl, ok, pok, lp, ⟨_, _, _, hF2.rebase⟩, iv.mono ktF, hw, (fun z => nomatch z), (fun z hz => by cases hz; exact ⟨rfl, xxa⟩), hst', (fun _ => rfl), (fun z => by rw [hnw] at z; cases z), fun HG rG ktG => ?_⟩
          exact fin (x := some (.int (mm : Nat))) (y := some (.int xx)) (gs := gs ++ [xx]) (hs := hs ++ [x2]) (hF2.back rG) (keep hF2 rG gaF la1 la2 la3) (keep hF2 rG goF lo1 lo2 lo3) ⟨a1, b1', x1', keep hF2 rG dkF l1 l2 l3, j7⟩ (ktF.trans ktG) (.asked hre hov hw hnw xxa (by omega) x2a (by omega) (fun z => x2c (by have := hm2 z; omega)) hst') (by omega) (fun ho => by rw [hss]; exact hgo2 ho) (by omega) (by rw [List.length_append]; simp only [List.length_cons, List.length_nil]; omega) (by rw [List.length_append, List.length_append, hhl]; rfl) fun HG q => q
      · refine q_no (lt9 false (decide_eq_false (by omega))) fun HA eA => ?_
        have JA := jex J9 eA
        show tSeq (tDrop _) _ _ [some (.ref l), some v, some (.int 60), some (.int 12), some (.ref c.st), some (.ref la), some (.ref lo), some (.int (mm : Nat)), some (.int x1)] HA
        refine qd_app (d := .int x1) (ev_var rfl) JA.2.1 (evd_var rfl (.int x1)) (by rw [List.length_map]; omega) fun vx HB eB iB => ?_
        have := iB.int_
        subst this
        have JB := jex JA eB
        have ga : (upd HB la (.lst (gs.map V.int ++ [.int x1]))) la = some (.lst ((gs ++ [x1]).map V.int)) := by rw [upd_same]; simp
        have kpa : Kp [la] HB (upd HB la (.lst (gs.map V.int ++ [.int x1]))) := (Kp.refl HB).mut (by simp)
        have kta : KT HB (upd HB la (.lst (gs.map V.int ++ [.int x1]))) := (KT.refl HB).upd (nt_lst JB.2.1)
        have hC := JB.1.lst JB.2.1 la1 la2 la3 (hb nlaH) kpa kta
        have goC := kpa _ _ JB.2.2.1 (by simpa using Ne.symm lalo)
        generalize upd HB la (.lst (gs.map V.int ++ [.int x1])) = HC at ga kpa kta hC goC
        have dkC : Dk HC l := by
          obtain ⟨a0, b0, x0, j4, j5⟩ := JB.2.2.2.1
          exact ⟨a0, b0, x0, kpa _ _ j4 (by simpa using Ne.symm lal), j5⟩
        refine ⟨.ref lo, rfl, .inl ⟨rfl, _, sq_of goC⟩, ?_⟩
        refine ⟨.int x1, rfl, .ref l, rfl, l, 10000, rfl, dkC, by decide, by decide, fun r4 HD r4a r4b dkD kpD ktD => ⟨sz_of (by simp), fun ly hly => ?_⟩⟩
        obtain ⟨x2, hx2, x2a, x2b, x2c⟩ : ∃ x2 : Int, atI [V.int x1, V.int r4] (if decide (V.int (mm : Nat) = V.int 10000) = true then 1 else 0) = some (.int x2) ∧ 0 ≤ x2 ∧ (mm = 10000 → x2 < 10000) ∧ (mm ≠ 10000 → x2 = x1) := by
          by_cases hk : mm = 10000
          · refine ⟨r4, ?_, r4a, fun _ => r4b, fun z => absurd hk z⟩
            rw [if_pos (decide_eq_true (by rw [hk]; rfl))]
            exact atI_nat (j := 1) rfl
          · refine ⟨x1, ?_, x1a, fun z => absurd z hk, fun _ => rfl⟩
            rw [if_neg (by intro z; have := of_decide_eq_true z; simp only [V.int.injEq] at this; omega)]
            exact atI_nat (j := 0) rfl
        have goD := kpD _ _ goC (by simpa using lol)
        have eY : Ex HD (upd HD ly (.lst [.int x1, .int r4])) := Ex.new hly
        refine ⟨_, rfl, rfl, .inr ⟨_, rfl, ly, _, _, .int x2, rfl, rfl, SqL.of upd_same, hx2, lo, _, _, rfl, rfl, eY _ _ goD, sz_lt (by rw [List.length_map]; omega), ?_⟩⟩
        obtain ⟨a0, b0, x0, j4, j5⟩ := dkC
        have hE0 := (hC.lst j4 l1 l2 l3 hbl kpD ktD).ex eY
        have gaD := eY _ _ (kpD _ _ ga (by simpa using lal))
        have goE0 := eY _ _ goD
        obtain ⟨a1, b1', x1', j6, j7⟩ := dkD
        have dkE0 := eY _ _ j6
        have ktE0 := ((JB.2.2.2.2.2.trans kta).trans ktD).trans (KT.of eY)
        generalize upd HD ly (.lst [.int x1, .int r4]) = HE at hE0 gaD goE0 dkE0 ktE0
        have kpo : Kp [lo] HE (upd HE lo (.lst (hs.map V.int ++ [.int x2]))) := (Kp.refl HE).mut (by simp)
        have kto : KT HE (upd HE lo (.lst (hs.map V.int ++ [.int x2]))) := (KT.refl HE).upd (nt_lst goE0)
        have hF := hE0.lst goE0 lo1 lo2 lo3 (hb nloH) kpo kto
        have gaF := kpo _ _ gaD (by simpa using lalo)
        have goF : (upd HE lo (.lst (hs.map V.int ++ [.int x2]))) lo = some (.lst ((hs ++ [x2]).map V.int)) := by rw [upd_same]; simp
        have dkF := kpo _ _ dkE0 (by simpa using Ne.symm lol)
        have ktF := ktE0.trans kto
        show tSeq _ _ _ [some (.ref l), some v, some (.int 60), some (.int 12), some (.ref c.st), some (.ref la), some (.ref lo), some (.int (mm : Nat)), some (.int x1)] (upd HE lo (.lst (hs.map V.int ++ [.int x2])))
        generalize upd HE lo (.lst (hs.map V.int ++ [.int x2])) = HF at hF gaF goF dkF ktF
        have free : freeW wd = true := by
          cases q : freeW wd with
          | true => rfl
          | false => exact absurd (hm2 q) (by omega)
        have mm4 : mm = 10000 := by
          cases wd <;> simp only [freeW, reduceCtorEq] at free <;> simp only [need, Option.some.injEq] at hnw <;> omega
        have hx2r := x2b mm4
        have hF2 : LX E (hide [l] H) c fs ve vp HF { s with used := s.used + 1 } := { hF with }
        obtain ⟨s', hst', hgo2, hfl2⟩ := step_ok pok (B := 1 + 2 * s.steps) (by omega) (s := { s with used := s.used + 1 }) (a := some x1) ⟨G.chain, G.some_, G.here, G.count⟩ hov hw (by show s.frames.length ≤ 900; omega) (fun m3 h3 => ⟨x1, rfl, x1a, by rw [hnw] at h3; cases h3; omega⟩)
        have hss : s'.steps = s.steps := (stepW_steps' hst').1
        have hfl3 : s'.frames.length ≤ s.frames.length + 1 := hfl2
        refine q_seq ⟨v, rfl, .ref c.st, rfl, .int x1, rfl, E, p, _, c, { s with used := s.used + 1 }, s', wd, some x1, v, .int x1, rfl, ok, pok, lp, ⟨_, _, _, hF2.rebase⟩, iv.mono ktF, hw, (fun z => nomatch z), (fun z hz => by cases hz; exact ⟨rfl, x1a⟩), hst', (fun _ => rfl), (fun z => by rw [hnw] at z; cases z), fun HG rG ktG => ?_⟩
        exact fin (x := some (.int (mm : Nat))) (y := some (.int x1)) (gs := gs ++ [x1]) (hs := hs ++ [x2]) (hF2.back rG) (keep hF2 rG gaF la1 la2 la3) (keep hF2 rG goF lo1 lo2 lo3) ⟨a1, b1', x1', keep hF2 rG dkF l1 l2 l3, j7⟩ (ktF.trans ktG) (.asked hre hov hw hnw x1a (by omega) x2a (by omega) (fun z => by rw [free] at z; cases z) hst') (by omega) (fun ho => by rw [hss]; exact hgo2 ho) (by omega) (by rw [List.length_append]; simp only [List.length_cons, List.length_nil]; omega) (by rw [List.length_append, List.length_append, hhl]; rfl) fun HG q => q
end
end K16

set_option Elab.async false
set_option linter.all false
set_option maxRecDepth 100000
set_option maxHeartbeats 4000000
/-! KGen: the generator: small parts -/
namespace K16
open PySem PySem.Spec PyProof.Rows L2 Evl
def spLSome : Sp := fun vs H Q _ => ∃ l f m, vs = [.ref l, .int f, .int m] ∧ Dk H l ∧ 0 ≤ f ∧ f < 1000 ∧ ∀ r H', (0 ≤ r ∧ r ≤ f) ∨ r = m → Dk H' l → Kp [l] H H' → KT H H' → Q (.int r) H'
def spLOneOf : Sp := fun vs H Q _ => ∃ l a xs, vs = [.ref l, .ref a] ∧ Dk H l ∧ H a = some (.lst xs) ∧ a ≠ l ∧ 0 < xs.length ∧ xs.length < 1000 ∧ ∀ x H', x ∈ xs → Dk H' l → Kp [l] H H' → KT H H' → Q x H'
section
variable {P : Program} {w : World} {K : PySem.W.Frag} {mg : Str → Option Value} {base : Heap}
theorem sc_law_some : FnScope ["_law_deck_here", "_law_few", "_law_most"] ["_law_deck_here", "_law_few", "_law_most"] (defScope s_law_some) := ⟨rfl, rfl, rfl, by decide +kernel, rfl, by decide +kernel, by decide +kernel⟩
theorem ok_law_some (T : Fx K mg) : C8.Cal P w K mg base 2 "_law_some" spLSome [] := by
  obtain ⟨fd, F⟩ := T.f_law_some
  have c_law_draw := ok_law_draw (P := P) (w := w) (base := base) T
  refine cal_of F T.g_law_some sc_law_some (fun _ _ _ _ _ _ us hl => match us, hl with | [_, _, _], _ => rfl) (by rintro vs H Q E ⟨_, _, _, rfl, _⟩; rfl) fun cdv A outer s0 H vs Q E0 hr hsp => ?_
  obtain ⟨l, f, m, rfl, hdk, hf0, hf1, k⟩ := hsp
  have hu := hu_of hr
  refine ⟨_, (pss_one (ps_ret (pe_ix ix_list (pe_lst (pa_cons (C8.pe_c c_law_draw hr (by omega) rfl (pa_cons (pv 0) (pa_cons (pe_op op_add (pv 1) pe_int) pa_nil))) (pa_cons (pv 2) pa_nil))) (pe_callTy call_int1 (by rfl) T.int_ boot_int (pa_cons (pe_cmpR op_eq (C8.pe_c c_law_draw hr (by omega) rfl (pa_cons (pv 0) (pa_cons pe_int pa_nil))) pe_int (nomark _)) pa_nil)) (fun _ _ => rfl)))), ?_⟩
  refine ⟨.ref l, rfl, .int f, rfl, f, 1, rfl, rfl, l, f + 1, rfl, hdk, by omega, by omega, fun r1 H1 a1 b1 d1 k1 t1 => ⟨.int m, rfl, sz_of (by simp), fun lx hlx => ?_⟩⟩
  have e1 : Ex H1 (upd H1 lx (.lst [.int r1, .int m])) := Ex.new hlx
  have d1' : Dk (upd H1 lx (.lst [.int r1, .int m])) l := by
    obtain ⟨a0, b0, x0, j4, j5⟩ := d1
    exact ⟨a0, b0, x0, e1 _ _ j4, j5⟩
  have lxl : lx ≠ l := fun z => by
    obtain ⟨_, _, _, q, _⟩ := d1
    rw [z, q] at hlx
    cases hlx
  refine ⟨.ref l, rfl, l, 8, rfl, d1', by decide, by decide, fun r2 H2 a2 b2 d2 k2 t2 => ⟨rfl, ?_⟩⟩
  have hx := k2 _ _ (upd_same (H := H1) (a := lx) (o := .lst [.int r1, .int m])) (by simpa using lxl)
  have kp := (k1.trans (Kp.of e1)).trans k2
  have kt := (t1.trans (KT.of e1)).trans t2
  by_cases h : r2 = 1
  · refine .inr ⟨_, rfl, lx, _, (if decide (V.int r2 = V.int 1) = true then 1 else 0), .int m, rfl, rfl, SqL.of hx, ?_, k m H2 (.inr rfl) d2 kp kt⟩
    rw [if_pos (decide_eq_true (by rw [h]))]
    exact atI_nat (j := 1) rfl
  · refine .inr ⟨_, rfl, lx, _, (if decide (V.int r2 = V.int 1) = true then 1 else 0), .int r1, rfl, rfl, SqL.of hx, ?_, k r1 H2 (.inl ⟨a1, by omega⟩) d2 kp kt⟩
    rw [if_neg (by intro z; have := of_decide_eq_true z; simp only [V.int.injEq] at this; exact h this)]
    exact atI_nat (j := 0) rfl
theorem sc_law_one_of : FnScope ["_law_deck_here", "_law_some_here"] ["_law_deck_here", "_law_some_here"] (defScope s_law_one_of) := ⟨rfl, rfl, rfl, by decide +kernel, rfl, by decide +kernel, by decide +kernel⟩
theorem ok_law_one_of (T : Fx K mg) : C8.Cal P w K mg base 2 "_law_one_of" spLOneOf [] := by
  obtain ⟨fd, F⟩ := T.f_law_one_of
  have c_law_draw := ok_law_draw (P := P) (w := w) (base := base) T
  refine cal_of F T.g_law_one_of sc_law_one_of (fun _ _ _ _ _ _ us hl => match us, hl with | [_, _], _ => rfl) (by rintro vs H Q E ⟨_, _, _, rfl, _⟩; rfl) fun cdv A outer s0 H vs Q E0 hr hsp => ?_
  obtain ⟨l, a, xs, rfl, hdk, ha, hal, h0, h1, k⟩ := hsp
  have hu := hu_of hr
  refine ⟨_, (pss_one (ps_ret (pe_ix ix_list (pv 1) (C8.pe_c c_law_draw hr (by omega) rfl (pa_cons (pv 0) (pa_cons (pe_callB call_len_seq (by rfl) T.len_ boot_len (pa_cons (pv 1) pa_nil)) pa_nil))) (fun _ _ => rfl)))), ?_⟩
  refine ⟨.ref a, rfl, .ref l, rfl, .ref a, rfl, a, xs, rfl, .inl (SqL.of ha), l, (xs.length : Nat), rfl, hdk, by omega, by omega, fun r H1 r0 r1 d1 k1 t1 => ?_⟩
  obtain ⟨n, rfl⟩ := Int.eq_ofNat_of_zero_le r0
  have hn : n < xs.length := by omega
  exact ⟨a, xs, (n : Nat), xs[n], rfl, rfl, SqL.of (k1 _ _ ha (by simpa using hal)), atI_nat (List.getElem?_eq_getElem hn), k _ H1 (List.getElem_mem hn) d1 k1 t1⟩
end
end K16

set_option Elab.async false
set_option linter.all false
set_option maxRecDepth 100000
set_option maxHeartbeats 4000000
/-! KGen2: picked -/
namespace K16
open PySem PySem.Spec PyProof.Rows L2 Evl
theorem ims_strs {H : Hp} : ∀ {xs : List Str}, Ims H (xs.map V.str) (xs.map PyData.str)
  | [] => .nil
  | x :: xs => .cons (.str x) ims_strs
theorem map_erase {α β : Type} {f : α → β} : ∀ (n : Nat) (xs : List α), (xs.map f).eraseIdx n = (xs.eraseIdx n).map f
  | _, [] => rfl
  | 0, _ :: _ => rfl
  | n + 1, x :: xs => congrArg (f x :: ·) (map_erase n xs)
def spLPicked : Sp := fun vs H Q _ => ∃ (l a : Addr) (bs : List Str) (m : Int), vs = [.ref l, .ref a, .int m] ∧ Dk H l ∧ H a = some (.lst (bs.map V.str)) ∧ a ≠ l ∧ bs.length < 1000 ∧ 0 ≤ m ∧ ∀ (ys : List Str) u H', (∀ y ∈ ys, y ∈ bs) → (ys.length : Int) = min m bs.length → Im H' u (tstr ys) → Dk H' l → Kp [l] H H' → KT H H' → Q u H'
section
variable {P : Program} {w : World} {K : PySem.W.Frag} {mg : Str → Option Value} {base : Heap}
theorem sc_law_picked : FnScope ["_law_deck_here", "_law_some_here", "_law_many", "_law_rest", "_law_found", "_law_k"] ["_law_deck_here", "_law_some_here", "_law_many"] (defScope s_law_picked) := ⟨rfl, rfl, rfl, by decide +kernel, rfl, by decide +kernel, by decide +kernel⟩
theorem ok_law_picked (T : Fx K mg) : C8.Cal P w K mg base 2 "_law_picked" spLPicked [] := by
  obtain ⟨fd, F⟩ := T.f_law_picked
  have c_law_draw := ok_law_draw (P := P) (w := w) (base := base) T
  refine cal_of F T.g_law_picked sc_law_picked (fun _ _ _ _ _ _ us hl => match us, hl with | [_, _, _], _ => rfl) (by rintro vs H Q E ⟨_, _, _, _, rfl, _⟩; rfl) fun cdv A outer s0 H vs Q E0 hr hsp => ?_
  obtain ⟨l, a, bs, m, rfl, hdk, ha, hal, hbl, hm, k⟩ := hsp
  have hu := hu_of hr
  refine ⟨_, (pss_cons (ps_set (i := 3) sc_law_picked.nd rfl (.inl rfl) (pe_callTy call_list_of (by rfl) T.list_ boot_list (pa_cons (pv 1) pa_nil)))
(pss_cons (ps_set (i := 4) sc_law_picked.nd rfl (.inl rfl) (pe_lst pa_nil))
(pss_cons (ps_for PassesOwn.never rfl (pi_range1 (by rfl) T.range_ (pa_cons (pe_callB (call_min2 rfl) (by rfl) T.min_ boot_min (pa_cons (pv 2) (pa_cons (pe_callB call_len_seq (by rfl) T.len_ boot_len (pa_cons (pv 3) pa_nil)) pa_nil))) pa_nil)) (pg_name (i := 5) sc_law_picked.nd rfl (.inl rfl))
(pss_one (ps_expr (pe_bm PySem.F.plainAttrs_list PySem.F.slot_list_append PySem.F.type_list_append mt_append (pv 4) (pa_cons (pe_bm PySem.F.plainAttrs_list PySem.F.slot_list_pop PySem.F.type_list_pop mt_popAt (pv 3) (pa_cons (C8.pe_c c_law_draw hr (by omega) rfl (pa_cons (pv 0) (pa_cons (pe_callB call_len_seq (by rfl) T.len_ boot_len (pa_cons (pv 3) pa_nil)) pa_nil))) pa_nil)) pa_nil)))))
(pss_one (ps_ret (pe_callTy call_tuple_of (by rfl) T.tuple_ boot_tuple (pa_cons (pv 4) pa_nil))))))), ?_⟩
  refine ⟨.ref a, rfl, a, _, rfl, .inl (SqL.of ha), fun r hr0 => ?_⟩
  have e1 : Ex H (upd H r (.lst (bs.map V.str))) := Ex.new hr0
  have hr1 : (upd H r (.lst (bs.map V.str))) r = some (.lst (bs.map V.str)) := upd_same
  generalize upd H r (.lst (bs.map V.str)) = H1 at e1 hr1
  dsimp only [gName, List.set]
  have ldk : ∀ {Hx : Hp}, Ex H Hx → Dk Hx l := fun e => by
    obtain ⟨a0, b0, x0, j4, j5⟩ := hdk
    exact ⟨a0, b0, x0, e _ _ j4, j5⟩
  have rl : r ≠ l := fun z => by
    obtain ⟨a0, b0, x0, j4, j5⟩ := hdk
    rw [z, j4] at hr0
    cases hr0
  refine qd_lst (ds := []) evds_nil (by simp) fun fo vs H2 nfo e2 hfo i2 => ?_
  cases i2
  have nfoH := fresh_back e1 nfo
  have fl : fo ≠ l := fun z => by
    obtain ⟨a0, b0, x0, j4, j5⟩ := hdk
    rw [z, j4] at nfoH
    cases nfoH
  have fr : fo ≠ r := fun z => by rw [z, hr1] at nfo; cases nfo
  have hr2 := e2 _ _ hr1
  refine q_seq (s_forR1 (j := 5) (n := (if ((bs.map V.str).length : Int) < m then ((bs.map V.str).length : Int) else m)) (fun H3 e3 Q3 q3 => ⟨_, rfl, .ref r, rfl, r, _, rfl, .inl (SqL.of (e3 _ _ hr2)), m, _, rfl, q3 _ (Ex.refl H3)⟩) ⟨by split <;> omega, by rw [List.length_map]; split <;> omega⟩
    (fun i σ' H' => ∃ (x : Option V) (rs ys : List Str), σ' = [some (.ref l), some (.ref a), some (.int m), some (.ref r), some (.ref fo), x] ∧ H' r = some (.lst (rs.map V.str)) ∧ H' fo = some (.lst (ys.map V.str)) ∧ rs.length + i = bs.length ∧ ys.length = i ∧ (∀ y ∈ rs, y ∈ bs) ∧ (∀ y ∈ ys, y ∈ bs) ∧ Dk H' l ∧ Kp [l] H H' ∧ KT H H')
    (fun H3 e3 => ⟨none, bs, [], rfl, e3 _ _ hr2, e3 _ _ hfo, by simp, rfl, fun _ h => h, (fun _ h => by cases h), ldk ((e1.trans e2).trans e3), Kp.of ((e1.trans e2).trans e3), KT.of ((e1.trans e2).trans e3)⟩) ?_ ?_)
  · rintro i σ' H' hi ⟨x, rs, ys, rfl, q1, q2, q3, q4, q5, q6, q7, q8, q9⟩
    have hrs : 0 < rs.length := by
      rw [List.length_map] at hi
      split at hi <;> omega
    dsimp only [List.set]
    refine ⟨.ref fo, rfl, .inl ⟨rfl, _, sq_of q2⟩, ?_⟩
    refine ⟨.ref r, rfl, .inl ⟨rfl, _, sq_of q1⟩, .ref l, rfl, .ref r, rfl, r, _, rfl, .inl (SqL.of q1), l, ((rs.map V.str).length : Nat), rfl, q7, by rw [List.length_map]; omega, by rw [List.length_map]; omega, fun v H1' v0 v1 d1 k1 t1 => ?_⟩
    have r1 := k1 _ _ q1 (by simpa using rl)
    have f1 := k1 _ _ q2 (by simpa using fl)
    rw [List.length_map] at v1
    obtain ⟨n, rfl⟩ := Int.eq_ofNat_of_zero_le v0
    have hn : n < rs.length := by omega
    have key : (rs.map V.str)[n]? = some (.str rs[n]) := by rw [List.getElem?_map, List.getElem?_eq_getElem hn]; rfl
    have e0 : (rs.map V.str).eraseIdx n = (rs.eraseIdx n).map V.str := map_erase n rs
    refine ⟨r, _, (n : Nat), n, _, rfl, rfl, r1, by omega, by omega, (ixN_seq (by unfold ixN; rw [if_pos (by omega), if_pos (by rw [List.length_map]; omega)]; simp)).1, key, ?_⟩
    rw [e0]
    have hP : (upd H1' r (.lst ((rs.eraseIdx n).map V.str))) r = some (.lst ((rs.eraseIdx n).map V.str)) := upd_same
    have fP : (upd H1' r (.lst ((rs.eraseIdx n).map V.str))) fo = some (.lst (ys.map V.str)) := by rw [upd_ne fr]; exact f1
    have dP : Dk (upd H1' r (.lst ((rs.eraseIdx n).map V.str))) l := by
      obtain ⟨a0, b0, x0, j4, j5⟩ := d1
      exact ⟨a0, b0, x0, by rw [upd_ne (Ne.symm rl)]; exact j4, j5⟩
    have kP : Kp [l] H (upd H1' r (.lst ((rs.eraseIdx n).map V.str))) := fun b o hb hn => by
      rw [upd_ne (fun z => by rw [z, hr0] at hb; cases hb)]
      exact k1 _ _ (q8 b o hb hn) hn
    have tP : KT H (upd H1' r (.lst ((rs.eraseIdx n).map V.str))) := (q9.trans t1).trans ((KT.refl H1').upd (nt_lst r1))
    generalize upd H1' r (.lst ((rs.eraseIdx n).map V.str)) = HP at hP fP dP kP tP
    refine ⟨fo, _, _, rfl, rfl, fP, sz_lt (by rw [List.length_map]; omega), ?_⟩
    have mem : rs[n] ∈ bs := q5 _ (List.getElem_mem hn)
    refine ⟨_, rs.eraseIdx n, ys ++ [rs[n]], rfl, by rw [upd_ne (Ne.symm fr)]; exact hP, by rw [upd_same]; simp, by rw [List.length_eraseIdx_of_lt hn]; omega, by simp [q4], fun y hy => q5 y (List.mem_of_mem_eraseIdx hy), fun y hy => ?_, ?_, ?_, tP.trans ((KT.refl HP).upd (nt_lst fP))⟩
    · rcases List.mem_append.mp hy with hy | hy
      · exact q6 y hy
      · rw [List.mem_singleton.mp hy]; exact mem
    · obtain ⟨a0, b0, x0, j4, j5⟩ := dP
      exact ⟨a0, b0, x0, by rw [upd_ne (Ne.symm fl)]; exact j4, j5⟩
    · intro b o hb hn
      rw [upd_ne (fun z => by rw [z, nfoH] at hb; cases hb)]
      exact kP b o hb hn
  · rintro σ' H' ⟨x, rs, ys, rfl, q1, q2, q3, q4, q5, q6, q7, q8, q9⟩
    refine qd_ret (d := tstr ys) (evd_tupR (ev_var (i := 4) rfl) q2 ims_strs) fun u H6 e6 i6 => ?_
    exact k ys u H6 q6 (by rw [q4, List.length_map]; split <;> omega) i6 (by obtain ⟨a0, b0, x0, j4, j5⟩ := q7; exact ⟨a0, b0, x0, e6 _ _ j4, j5⟩) (q8.trans (Kp.of e6)) (q9.trans (KT.of e6))
end
end K16

set_option Elab.async false
set_option linter.all false
set_option maxRecDepth 100000
set_option maxHeartbeats 4000000
/-! KTxt: texts called otherwise; short words; comprehensions over tuples of tuples -/
namespace K16
open PySem PySem.Spec PyProof.Rows L2 Evl
theorem spl_ne (S : List Nat) : ∀ (l : List Nat) (k : Nat) (acc : List Nat), TL.spl S k acc l ≠ []
  | [], k, acc => by rw [TL.spl_nil]; simp
  | c :: l, 0, acc => by
    cases h : TL.pre S (c :: l) with
    | true => rw [TL.spl_hit h]; simp
    | false => rw [TL.spl_miss h]; exact spl_ne S l 0 _
  | c :: l, k + 1, acc => spl_ne S l k acc
theorem join_spl : ∀ (l acc : List Nat), TL.joinL [dot, 97] (TL.spl [dot] 0 acc l) = acc ++ flatL l
  | [], acc => by simp [TL.spl_nil, TL.joinL, flatL]
  | c :: l, acc => by
    by_cases h : c = dot
    · rw [TL.spl_hit (by simp [TL.pre, h])]
      have ih := join_spl l []
      show TL.joinL [dot, 97] (acc :: TL.spl [dot] 0 [] l) = _
      cases q : TL.spl [dot] 0 [] l with
      | nil => exact absurd q (spl_ne _ _ _ _)
      | cons x xs =>
        rw [q] at ih
        rw [flatL_cons, if_pos h]
        show acc ++ ([dot, 97] ++ TL.joinL [dot, 97] (x :: xs)) = _
        rw [ih]
        simp
    · rw [TL.spl_miss (by simp [TL.pre, h]), join_spl l, flatL_cons, if_neg h]
      simp
theorem box_repl (b : Str) : (Str.ofString "a" : Str) ++ Txt.replace b (Str.ofString ".") (Str.ofString ".a") = box b := by
  have e1 : (Str.ofString ".a" : Str) = ⟨#[dot, 97]⟩ := by decide +kernel
  have e2 : (Str.ofString "a" : Str) = ⟨#[97]⟩ := by decide +kernel
  have hk : ((⟨#[dot]⟩ : Str).cps.all (· < 256)) = true := by decide +kernel
  rw [dot_str, e1, e2, StrLaws.replace_one]
  apply TL.ext_tl
  rw [TL.tl_append, TL.tl_join, TL.split_spl b ⟨#[dot]⟩ (by simp [TL.tl]) (TL.kind_ok hk)]
  show [97] ++ TL.joinL [dot, 97] (TL.spl [dot] 0 [] (TL.tl b)) = _
  rw [join_spl]
  rfl
theorem box_len (b : Str) : (box b).length ≤ 2 * b.length + 1 := by
  have h2 := flat_len b.cps.toList
  have h3 : (box b).length = (flatL b.cps.toList).length + 1 := by simp [Str.length, box]
  have h4 : b.length = b.cps.toList.length := by simp [Str.length]
  omega
theorem a_dnm {d : Str} (h : d ≠ Str.empty) : (Str.ofString "a" : Str) ++ d = dnm d := by
  have e2 : (Str.ofString "a" : Str) = ⟨#[97]⟩ := by decide +kernel
  rw [e2]
  unfold dnm
  rw [if_neg h]
  apply TL.ext_tl
  rw [TL.tl_append]
  rfl
theorem a_box {d : Str} (h : noDot d) : (Str.ofString "a" : Str) ++ d = box d := by
  have e2 : (Str.ofString "a" : Str) = ⟨#[97]⟩ := by decide +kernel
  rw [e2]
  apply TL.ext_tl
  rw [TL.tl_append]
  show [97] ++ TL.tl d = 97 :: flatL d.cps.toList
  rw [flatL_nodot h]
  rfl
/-! ### short words -/
mutual
def shW : Word → Prop
  | .choose rows => shRs rows
  | .loop row => shR row
  | .risk f => f.length ≤ 400 | .fault f => f.length ≤ 400 | .clear r => r.length ≤ 400
  | .call d _ _ => d.length ≤ 400
  | _ => True
def shR : List Word → Prop
  | [] => True
  | w :: r => shW w ∧ shR r
def shRs : List (List Word) → Prop
  | [] => True
  | r :: rs => shR r ∧ shRs rs
end
theorem shR_mem : ∀ {r : Row} {w : Word}, shR r → w ∈ r → shW w
  | v :: r, w, h, hw => by
    simp only [shR] at h
    rcases List.mem_cons.mp hw with rfl | hw
    · exact h.1
    · exact shR_mem h.2 hw
theorem shRs_mem : ∀ {rs : List Row} {r : Row}, shRs rs → r ∈ rs → shR r
  | q :: rs, r, h, hr => by
    simp only [shRs] at h
    rcases List.mem_cons.mp hr with rfl | hr
    · exact h.1
    · exact shRs_mem h.2 hr
theorem shR_app : ∀ {r q : Row}, shR r → shR q → shR (r ++ q)
  | [], q, _, h => h
  | w :: r, q, h, h' => by
    simp only [shR, List.cons_append] at h ⊢
    exact ⟨h.1, shR_app h.2 h'⟩
theorem shRs_of : ∀ {rs : List Row}, (∀ r ∈ rs, shR r) → shRs rs
  | [], _ => by simp [shRs]
  | r :: rs, h => by
    simp only [shRs]
    exact ⟨h r (by simp), shRs_of fun q hq => h q (by simp [hq])⟩
theorem rowsIn_sh {w : Word} (h : shW w) : ∀ r ∈ rowsIn w, shR r := by
  cases w with
  | choose rows => simp only [shW] at h; exact fun r hr => shRs_mem h hr
  | loop row => simp only [shW] at h; exact fun r hr => by rw [List.mem_singleton.mp hr]; exact h
  | _ => intro r hr; cases hr
structure EnvS (E : Env) : Prop where
  b : ∀ b ∈ E.Bs, b.length ≤ 400
  w : ∀ w ∈ E.Ws, w.length ≤ 400
structure ProgS (p : Prog) : Prop where
  rows : ∀ D ∈ p.defs, shR D.row
  main : shR p.main
  names : ∀ D ∈ p.defs, D.name.length ≤ 400
section
variable {E : Env} {p : Prog}
theorem rowAt_sh (h : ProgS p) {nm : Str} : ∀ {ps : List (Nat × Nat)} {r : Row}, rowAt p nm ps = some r → shR r
  | [], r, hr => by
    obtain ⟨R, hR, hr⟩ := Option.bind_eq_some_iff.mp hr
    cases hr
    unfold rowOf at hR
    split at hR
    · cases hR; exact h.main
    · obtain ⟨D, hD, rfl⟩ := Option.map_eq_some_iff.mp hR
      exact h.rows D (defOf_mem hD).1
  | (n, c) :: ps, r, hr => by
    obtain ⟨r0, w, h0, hw, hc, hat⟩ := rowAt_step hr
    exact rowsIn_sh (shR_mem (rowAt_sh h h0) (List.mem_of_getElem? hw)) r (List.mem_of_getElem? hc)
theorem word_sh (h : ProgS p) {pl : Place} {w : Word} (hw : wordAt p pl = some (some w)) : shW w := by
  obtain ⟨r, hr, hw⟩ := Option.bind_eq_some_iff.mp hw
  unfold wordR at hw
  split at hw
  · cases hw
  · obtain ⟨w', hw2, e⟩ := Option.map_eq_some_iff.mp hw
    obtain rfl := Option.some.inj e
    exact shR_mem (rowAt_sh h hr) (List.mem_of_getElem? hw2)
/-- a fault that is told -/
theorem wf_ok (pok : ProgOk E p) (h : ProgS p) {f : Str} (hf : WF p f) : noDot f ∧ PyData.strOk f = true ∧ f.length ≤ 400 := by
  obtain ⟨pl, hw | hw⟩ := hf
  · obtain ⟨_, _, _, hk⟩ := word_ok pok hw
    have := word_sh h hw
    simp only [okW] at hk
    simp only [shW] at this
    exact ⟨hk.1, hk.2, this⟩
  · obtain ⟨_, _, _, hk⟩ := word_ok pok hw
    have := word_sh h hw
    simp only [okW] at hk
    simp only [shW] at this
    exact ⟨hk.1, hk.2, this⟩
theorem plok_ok (pok : ProgOk E p) (h : ProgS p) {pl : Place} (hp : PlOk p pl) : PyData.strOk pl.nm = true ∧ pl.nm.length ≤ 400 ∧ pl.path.length ≤ 8 := by
  obtain ⟨r, hr⟩ := hp
  have h1 := (rowAt_ok pok hr).1.1
  refine ⟨?_, ?_, by omega⟩
  · obtain ⟨R, hR, _⟩ := Option.bind_eq_some_iff.mp hr
    unfold rowOf at hR
    split at hR
    · next e => rw [e]; decide +kernel
    · obtain ⟨D, hD, _⟩ := Option.map_eq_some_iff.mp hR
      rw [← (defOf_mem hD).2]
      exact (pok.good D (defOf_mem hD).1).2.2
  · obtain ⟨R, hR, _⟩ := Option.bind_eq_some_iff.mp hr
    unfold rowOf at hR
    split at hR
    · next e => rw [e]; decide +kernel
    · obtain ⟨D, hD, _⟩ := Option.map_eq_some_iff.mp hR
      rw [← (defOf_mem hD).2]
      exact h.names D (defOf_mem hD).1
end
/-! ### comprehensions -/
section
variable {K : PySem.W.Frag} {σ : L2.St} {H H' : Hp} {ta tb te tl td tx ty : TE} {d e f : PyData} {ds es : List PyData} {D : Ends} {tz tu tw : TS} {t tt : TT} {v : V}
/-- [te for .. in tuple], any target -/
theorem evl_lcG {α : Type} {g : TG} {vs : List Nat} (enc f : α → PyData) {l : List α} (h1 : EvD tl σ H (.tuple (l.map enc))) (hl : l.length ≤ 100000)
    (hs : ∀ x v H' (Q : L2.St → Hp → Prop), x ∈ l → Ex H H' → Im H' v (enc x) → (∀ σ2 H2, Ex H' H2 → wipe σ2 vs = wipe σ vs → EvD te σ2 H2 (f x) → Q σ2 H2) → g v (wipe σ vs) H' Q) : EvLD (tLc (iTup K tl) g tYes te vs) σ H (l.map f) := fun H1 a Q q =>
  h1 H1 a _ fun v H2 e2 hv => by
    obtain ⟨p, xs, rfl, hp, hx⟩ := hv.tup_
    refine ⟨p, rfl, ⟨xs, SqT.of hp⟩, fun D hD => lc_tup (K := K) (a := p) (xs := xs) (fun i H' => Ex H2 H' ∧ ∃ acc, H' D = some (.lst acc) ∧ Ims H' acc ((l.take i).map f)) ⟨Ex.new hD, [], upd_same, .nil⟩ (fun i H3 _ h => SqT.of (h.1 _ _ hp)) ?_ ?_⟩
    · rintro i x H3 hi ⟨e3, acc, ha, hi2⟩
      obtain ⟨d, hd, id⟩ := (hx.ex e3).get' hi
      rw [List.getElem?_map] at hd
      cases hd0 : l[i]? with
      | none => rw [hd0] at hd; cases hd
      | some y0 =>
      rw [hd0] at hd
      obtain rfl : enc y0 = d := Option.some.inj hd
      refine hs y0 x H3 _ (List.mem_of_getElem? hd0) ((a.trans e2).trans e3) id fun σ2 H4 e4 hw he => ⟨hw, ?_⟩
      refine evt_all (σ := σ2) (H := H4) H4 (Ex.refl H4) _ fun H4' e4' => ?_
      rw [if_pos rfl]
      refine he H4' e4' _ fun y H5 e5' iy => ?_
      have e5 := e4'.trans e5'
      refine ⟨acc, e5 _ _ (e4 _ _ ha), ?_, ?_⟩
      · have := hi2.len
        rw [List.length_map, List.length_take] at this
        have := (List.getElem?_eq_some_iff.mp hd0).1
        exact sz_lt (by omega)
      · have nl : ∀ ys, H5 D ≠ some (.tup ys) := nt_lst (e5 _ _ (e4 _ _ ha))
        refine ⟨((e3.trans e4).trans e5).mut hD, acc ++ [y], upd_same, ?_⟩
        rw [List.take_add_one, hd0, List.map_append]
        exact (Ims.append (hi2.ex (e4.trans e5)) (.cons iy .nil)).upd nl
    · rintro H3 ⟨e3, acc, ha, hi2⟩
      rw [hx.len, List.length_map, List.take_length] at hi2
      exact q D acc H3 (fresh_back e2 hD) (e2.trans e3) ha hi2
theorem evl_lc1 {α : Type} {j : Nat} (enc f : α → PyData) {l : List α} (h1 : EvD tl σ H (.tuple (l.map enc))) (hl : l.length ≤ 100000)
    (he : ∀ x v H', x ∈ l → Ex H H' → Im H' v (enc x) → EvD te ((wipe σ [j]).set j (some v)) H' (f x)) : EvLD (tLc (iTup K tl) (gName j) tYes te [j]) σ H (l.map f) :=
  evl_lcG enc f h1 hl fun d v H' Q hd e iv q => q _ H' (Ex.refl H') (by
    show (((σ.set j none).set j (some v)).set j none : L2.St) = σ.set j none
    rw [List.set_set, List.set_set]) (he d v H' hd e iv)
/-- [te for i, j, k in tuple of tuples] -/
theorem evl_lc3 {α : Type} {i j k : Nat} (ea eb ec f : α → PyData) {l : List α} (h1 : EvD tl σ H (.tuple (l.map fun x => .tuple [ea x, eb x, ec x]))) (hl : l.length ≤ 100000)
    (hw : ∀ a b c : Option V, wipe ((((wipe σ [i, j, k]).set i a).set j b).set k c) [i, j, k] = wipe σ [i, j, k])
    (he : ∀ x H' va vb vc, x ∈ l → Ex H H' → Im H' va (ea x) → Im H' vb (eb x) → Im H' vc (ec x) → EvD te ((((wipe σ [i, j, k]).set i (some va)).set j (some vb)).set k (some vc)) H' (f x)) :
    EvLD (tLc (iTup K tl) (gTup K 3 (gCons (gName i) (gCons (gName j) (gCons (gName k) gNil)))) tYes te [i, j, k]) σ H (l.map f) :=
  evl_lcG _ f h1 hl fun d v H' Q hd e iv q => by
    obtain ⟨p, xs, rfl, hp, hx⟩ := iv.tup_
    obtain ⟨va, vb, vc, rfl, ia, ib, ic⟩ := hx.three
    exact ⟨p, _, rfl, SqT.of hp, rfl, va, _, rfl, vb, _, rfl, vc, _, rfl, rfl, q _ H' (Ex.refl H') (hw _ _ _) (he d H' va vb vc hd e ia ib ic)⟩
end
end K16

set_option Elab.async false
set_option linter.all false
set_option maxRecDepth 100000
set_option maxHeartbeats 4000000
/-! KRen: the law's renaming: box, boxed, place, left, called_anew, numberless -/
namespace K16
open PySem PySem.Spec PyProof.Rows L2 Evl
/-- what is left may be called otherwise -/
structure LvS (x : Leav) : Prop where
  nm : x.place.nm.length ≤ 400
  path : x.place.path.length ≤ 8
  box : x.box.length ≤ 400
  ws : (∀ w ∈ x.worths, w.length ≤ 400 ∧ PyData.strOk w = true) ∧ x.worths.length ≤ 1000
def HdS (x : Str × Thing) : Prop := x.1.length ≤ 400 ∧ (∀ w ∈ x.2.2, w.length ≤ 400 ∧ PyData.strOk w = true) ∧ x.2.2.length ≤ 1000
def LvsS (l : List Leav) : Prop := l.length ≤ 100000 ∧ ∀ x ∈ l, LvS x
def resS : Res → Prop
  | .ended _ _ l => LvsS l
  | .fault f _ _ l => (noDot f ∧ f.length ≤ 400) ∧ LvsS l
  | .on pl _ _ l h => (pl.nm.length ≤ 400 ∧ pl.path.length ≤ 8) ∧ LvsS l ∧ h.length ≤ 1000 ∧ ∀ x ∈ h, HdS x
theorem resS_of {E : Env} {p : Prog} (ok : EnvOk E) (es : EnvS E) (pok : ProgOk E p) (ps : ProgS p) {r : Res} (h : resOk E p r) : resS r := by
  have wl := ok.wl
  have ww : ∀ {ws : List Str}, WsOk E ws → (∀ w ∈ ws, w.length ≤ 400 ∧ PyData.strOk w = true) ∧ ws.length ≤ 1000 := fun h => ⟨fun w hw => ⟨es.w w (h.1 w hw), ok.wok w (h.1 w hw)⟩, by have := h.2; omega⟩
  have lv : ∀ {t : List Int} {l : List Leav}, LogOk E p (t, l) → LvsS l := fun h => ⟨h.2, fun x hx => by
    obtain ⟨h1, h2, h3⟩ := h.1 x hx
    obtain ⟨_, p2, p3⟩ := plok_ok pok ps h1
    exact ⟨p2, p3, es.b _ h2, ww h3⟩⟩
  cases r with
  | ended n t l => exact lv h
  | fault f n t l =>
    obtain ⟨h1, h2⟩ := h
    obtain ⟨w1, _, w3⟩ := wf_ok pok ps h1
    exact ⟨⟨w1, w3⟩, lv h2⟩
  | on pl n t l hl =>
    obtain ⟨h1, h2, h3, h4⟩ := h
    obtain ⟨_, p2, p3⟩ := plok_ok pok ps h1
    have bl := ok.bl
    exact ⟨⟨p2, p3⟩, lv h2, by omega, fun x hx => ⟨es.b _ (h4 x hx).1, ww (h4 x hx).2⟩⟩
def fBox : List PyData → PyData → Prop := fun ds d => ∃ b, ds = [.str b] ∧ b.length ≤ 400 ∧ d = .str (box b)
def fBoxed : List PyData → PyData → Prop := fun ds d => ∃ bs, ds = [tstr bs] ∧ (∀ b ∈ bs, b.length ≤ 400) ∧ bs.length ≤ 1000 ∧ d = tstr (bs.map box)
def fLPlace : List PyData → PyData → Prop := fun ds d => ∃ pl, ds = [encPl pl] ∧ pl.nm.length ≤ 400 ∧ pl.path.length ≤ 8 ∧ d = encPl (renPl dnm pl)
def fLLeft : List PyData → PyData → Prop := fun ds d => ∃ ls, ds = [.tuple (ls.map encLv)] ∧ LvsS ls ∧ d = .tuple ((ls.map renLv).map encLv)
def fCalled : List PyData → PyData → Prop := fun ds d => ∃ r, ds = [encRes r] ∧ resS r ∧ d = encRes (renRes r)
def heldW (h : List (Str × Thing)) : List PyData := ((h.filter fun x => decide (x.2.2 ≠ [])).map fun x => (x.1, x.2.2)).map fun x => .tuple [.str x.1, tstr x.2]
def numD : Res → PyData
  | .ended n t l => .tuple [.str "ended", .int n, .int (t.length : Nat), .tuple (l.map encLv)]
  | .fault f n t l => .tuple [.str "fault", .str f, .int n, .int (t.length : Nat), .tuple (l.map encLv)]
  | .on pl n t l h => .tuple ([.str "on", encPl pl, .int n, .int (t.length : Nat), .tuple (l.map encLv)] ++ heldW h)
def fNumless : List PyData → PyData → Prop := fun ds d => ∃ r, ds = [encRes r] ∧ resS r ∧ d = numD r
section
variable {K : PySem.W.Frag} {σ : L2.St} {H H' : Hp} {ta tb te tl td tx ty : TE} {d e f : PyData} {ds es : List PyData} {D : Ends} {tz tu tw : TS} {t tt : TT} {v : V}
/-- s + t -/
theorem evd_adds {a b : Str} (h1 : EvD ta σ H (.str a)) (h2 : EvD tb σ H (.str b)) (hl : a.length + b.length ≤ 100000) : EvD (tOp (fun x y H Q => ∃ i j, x = .str i ∧ y = .str j ∧ i.length + j.length ≤ sizeLine ∧ Q (.str (i ++ j)) H) ta tb) σ H (.str (a ++ b)) :=
  evd_op h1 h2 fun v u H1 _ i1 i2 Q q => ⟨a, b, i1.str_, i2.str_, sz_of hl, q _ H1 (Ex.refl H1) (.str _)⟩
/-- int(b) -/
theorem ev_int1 {b : Bool} (h : Ev te σ H (.bl b)) : Ev (tCB (fun xs H Q => (∃ i, xs = [.int i] ∧ Q (.int i) H) ∨ ∃ k, xs = [.bl k] ∧ Q (.int (if k then 1 else 0)) H) (tCons te tNil)) σ H (.int (if b = true then 1 else 0)) := fun H1 e Q q =>
  h H1 e _ fun H2 e2 => .inr ⟨b, rfl, q H2 e2⟩
/-- a == b, a != b as values -/
theorem ev_eqD (h1 : EvD ta σ H d) (h2 : EvD tb σ H e) (hs : scalD d e = true) : Ev (tOp rEq ta tb) σ H (.bl (eqD d e)) := fun H1 a Q q =>
  h1 H1 a _ fun v H2 e2 i2 => h2 H2 (a.trans e2) _ fun u H3 e3 i3 => by
    obtain ⟨x1, x2⟩ := scal_of (i2.ex e3) i3 hs
    refine ⟨x1, ?_⟩
    rw [x2]
    exact q H3 (e2.trans e3)
theorem ev_neD (h1 : EvD ta σ H d) (h2 : EvD tb σ H e) (hs : scalD d e = true) : Ev (tOp rNe ta tb) σ H (.bl (!eqD d e)) := fun H1 a Q q =>
  h1 H1 a _ fun v H2 e2 i2 => h2 H2 (a.trans e2) _ fun u H3 e3 i3 => by
    obtain ⟨x1, x2⟩ := scal_of (i2.ex e3) i3 hs
    refine ⟨x1, ?_⟩
    rw [x2]
    exact q H3 (e2.trans e3)
/-- [a, b][i] -/
theorem evd_ixLst {t : TA} {i : Nat} (h : EvDs t σ H ds) (hl : ds.length ≤ 100000) (hi : Ev tb σ H (.int (i : Nat))) (hd : ds[i]? = some d) : EvD (tOp (rIxL K) (tLst t) tb) σ H d := fun H1 a Q q =>
  h H1 a _ fun vs H2 e2 i2 => ⟨sz_of (by rw [i2.len]; exact hl), fun p hp => hi _ ((a.trans e2).trans (Ex.new hp)) _ fun H3 e3 => by
    obtain ⟨z, hz, iz⟩ := i2.get hd
    exact ⟨p, vs, (i : Nat), z, rfl, rfl, SqL.of (e3 _ _ upd_same), atI_nat hz, q z H3 ((e2.trans (Ex.new hp)).trans e3) (iz.ex ((Ex.new hp).trans e3))⟩⟩
theorem evd_addRepl {b : Str} (h : EvD te σ H (.str b)) (hl : b.length ≤ 400) : EvD (tAddRepl (Str.ofString "a") (Str.ofString ".") (Str.ofString ".a") te) σ H (.str (box b)) := fun H1 a Q q =>
  h H1 a _ fun v H2 e2 iv => by
    have e3 : (Str.ofString ".a").length = 2 := by decide +kernel
    have e4 : (Str.ofString "a").length = 1 := by decide +kernel
    have bl := box_len b
    have e5 := congrArg Str.length (box_repl b)
    have e6 : ((Str.ofString "a" : Str) ++ Txt.replace b (Str.ofString ".") (Str.ofString ".a")).length = (Str.ofString "a").length + (Txt.replace b (Str.ofString ".") (Str.ofString ".a")).length := by
      rw [TL.len_tl, TL.tl_append, List.length_append, ← TL.len_tl, ← TL.len_tl]
    refine ⟨b, iv.str_, by rw [e3]; omega, _, rfl, sz_of (by omega), ?_⟩
    rw [box_repl]
    exact q _ H2 e2 (.str _)
end
section
variable {P : Program} {w : World} {K : PySem.W.Frag} {mg : Str → Option Value} {base : Heap}
theorem sc_law_box : FnScope ["_law_box_here"] ["_law_box_here"] (defScope s_law_box) := ⟨rfl, rfl, rfl, by decide +kernel, rfl, by decide +kernel, by decide +kernel⟩
theorem ok_law_box (T : Fx K mg) : C8.Cal P w K mg base 1 "_law_box" (spD fBox) [] := by
  obtain ⟨fd, F⟩ := T.f_law_box
  refine cal_of F T.g_law_box sc_law_box (fun _ _ _ _ _ _ us hl => match us, hl with | [_], _ => rfl) (spD_len (n := 1) (by rintro _ _ ⟨b, rfl, _⟩; rfl)) fun cdv A outer s H vs Q E hr hsp => ?_
  obtain ⟨_, _, ⟨b, rfl, hl, rfl⟩, hi, k⟩ := hsp
  obtain ⟨v, rfl, iv⟩ := hi.one
  refine ⟨_, (pss_one (ps_ret (pe_addRepl (pv 0) (by decide +kernel)))), ?_⟩
  exact qd_ret (evd_addRepl (evd_var rfl iv) hl) k
theorem sc_law_boxed : FnScope ["_law_boxes_here", "_law_box_here"] ["_law_boxes_here"] (defScope s_law_boxed) := ⟨rfl, rfl, rfl, by decide +kernel, rfl, by decide +kernel, by decide +kernel⟩
theorem ok_law_boxed (T : Fx K mg) : C8.Cal P w K mg base 2 "_law_boxed" (spD fBoxed) [] := by
  obtain ⟨fd, F⟩ := T.f_law_boxed
  have c_law_box := ok_law_box (P := P) (w := w) (base := base) T
  refine cal_of F T.g_law_boxed sc_law_boxed (fun _ _ _ _ _ _ us hl => match us, hl with | [_], _ => rfl) (spD_len (n := 1) (by rintro _ _ ⟨b, rfl, _⟩; rfl)) fun cdv A outer s H vs Q E hr hsp => ?_
  obtain ⟨_, _, ⟨bs, rfl, hb, hl, rfl⟩, hi, k⟩ := hsp
  obtain ⟨v, rfl, iv⟩ := hi.one
  refine ⟨_, (pss_one (ps_ret (pe_callTy call_tuple_of (by rfl) T.tuple_ boot_tuple (pa_cons (pe_lc (own := [("_law_box_here", 1)]) rfl sc_law_boxed.nd (pi_tup (pv 0)) (blkOk_by (own := [("_law_box_here", 1)]) (N := ["_law_boxes_here", "_law_box_here"]) (sc := defScope s_law_boxed) (by decide +kernel)) (fun _ _ _ _ _ => pg_name (i := 1) sc_law_boxed.nd rfl (.inl rfl)) (fun _ _ _ _ _ => pts_nil) (fun _ _ _ _ _ => by exact (C8.pe_c c_law_box hr (by omega) rfl (pa_cons (pv 1) pa_nil)))) pa_nil)))), ?_⟩
  refine qd_ret (d := tstr (bs.map box)) (evd_is (evd_tupL (evl_lc1 (K := K) (j := 1) PyData.str (fun b => PyData.str (box b)) (evd_var rfl iv) (by omega) fun b u H1 hd e1 iu => ?_)) (by show _ = PyData.tuple ((bs.map box).map PyData.str); rw [List.map_map]; rfl)) k
  exact evd_call (evds_cons (evd_var rfl iu) evds_nil) ⟨b, rfl, hb b hd, rfl⟩
theorem sc_law_place : FnScope ["_law_place_here"] ["_law_place_here"] (defScope s_law_place) := ⟨rfl, rfl, rfl, by decide +kernel, rfl, by decide +kernel, by decide +kernel⟩
theorem cut_from1 (x : PyData) (xs : List PyData) : cutD (x :: xs) (some 1) none = xs := by
  have e1 : HT.sIx (x :: xs).length 0 (some 1) = 1 := by
    unfold HT.sIx
    simp
  have e2 : HT.sIx (x :: xs).length (x :: xs).length none = xs.length + 1 := by
    unfold HT.sIx
    simp
  unfold cutD
  rw [e1, e2]
  simp
theorem ok_law_place (T : Fx K mg) : C8.Cal P w K mg base 1 "_law_place" (spD fLPlace) [] := by
  obtain ⟨fd, F⟩ := T.f_law_place
  refine cal_of F T.g_law_place sc_law_place (fun _ _ _ _ _ _ us hl => match us, hl with | [_], _ => rfl) (spD_len (n := 1) (by rintro _ _ ⟨b, rfl, _⟩; rfl)) fun cdv A outer s H vs Q E hr hsp => ?_
  obtain ⟨_, _, ⟨pl, rfl, hnm, hpath, rfl⟩, hi, k⟩ := hsp
  obtain ⟨v, rfl, iv⟩ := hi.one
  refine ⟨_, (pss_one (ps_ret (pe_op op_catA (pe_tup (pa_cons (pe_ix ix_list (pe_lst (pa_cons (pe_op op_add_str pe_str (pe_ix ix_tup (pv 0) pe_int (fun _ _ => rfl))) (pa_cons pe_str pa_nil))) (pe_callTy call_int1 (by rfl) T.int_ boot_int (pa_cons (pe_cmpR op_eq (pe_ix ix_tup (pv 0) pe_int (fun _ _ => rfl)) pe_str (nomark _)) pa_nil)) (fun _ _ => rfl)) pa_nil)) (pe_slice sl_tupA (pv 0) (po_some pe_int) po_none)))), ?_⟩
  have nm0 : ∀ {H1}, Ex H H1 → EvD (tOp (rIxT K) (tVar 0) (tC (.int 0))) [some v] H1 (.str pl.nm) := fun e => evd_at 0 (evd_var rfl (iv.ex e)) rfl
  have eE : (Str.ofString "" : Str) = Str.empty := by decide +kernel
  have e4 : (Str.ofString "a").length = 1 := by decide +kernel
  have el := encPath_len pl.path
  have hnm2 : EvD (tOp (rIxL K) (tLst (tCons (tOp (fun x y H Q => ∃ i j, x = .str i ∧ y = .str j ∧ i.length + j.length ≤ sizeLine ∧ Q (.str (i ++ j)) H) (tC (.str "a")) (tOp (rIxT K) (tVar 0) (tC (.int 0)))) (tCons (tC (.str "")) tNil))) (tCB (fun xs H Q => (∃ i, xs = [.int i] ∧ Q (.int i) H) ∨ ∃ k, xs = [.bl k] ∧ Q (.int (if k then 1 else 0)) H) (tCons (tOp rEq (tOp (rIxT K) (tVar 0) (tC (.int 0))) (tC (.str ""))) tNil))) [some v] H (.str (dnm pl.nm)) := by
    by_cases hn : pl.nm = Str.empty
    · refine evd_ixLst (i := 1) (evds_cons (evd_adds evd_str (nm0 (Ex.refl H)) (by rw [e4]; omega)) (evds_cons evd_str evds_nil)) (by simp) (ev_is (ev_int1 (ev_eqD (nm0 (Ex.refl H)) evd_str rfl)) ?_) ?_
      · rw [show eqD (.str pl.nm) (.str "") = true from decide_eq_true (by rw [hn]; exact eE.symm)]; rfl
      · rw [hn]; rfl
    · refine evd_ixLst (i := 0) (evds_cons (evd_adds evd_str (nm0 (Ex.refl H)) (by rw [e4]; omega)) (evds_cons evd_str evds_nil)) (by simp) (ev_is (ev_int1 (ev_eqD (nm0 (Ex.refl H)) evd_str rfl)) ?_) ?_
      · rw [show eqD (.str pl.nm) (.str "") = false from decide_eq_false (fun z => hn (z.trans eE))]; rfl
      · rw [← a_dnm hn]; rfl
  exact qd_ret (d := encPl (renPl dnm pl)) (evd_cat (es := encPath pl.path ++ [.int pl.at_]) (evd_tup (evds_cons hnm2 evds_nil)) (evd_slice (evd_var rfl iv) (evo_some evd_int) eo_none (cut_from1 _ _)) (by simp [el]; omega)) k
theorem sc_law_left : FnScope ["_law_some_here", "_law_place_here", "_law_box_here", "_law_worths"] ["_law_some_here"] (defScope s_law_left) := ⟨rfl, rfl, rfl, by decide +kernel, rfl, by decide +kernel, by decide +kernel⟩
theorem ok_law_left (T : Fx K mg) : C8.Cal P w K mg base 3 "_law_left" (spD fLLeft) [] := by
  obtain ⟨fd, F⟩ := T.f_law_left
  have c_law_box := ok_law_box (P := P) (w := w) (base := base) T
  have c_law_boxed := ok_law_boxed (P := P) (w := w) (base := base) T
  have c_law_place := ok_law_place (P := P) (w := w) (base := base) T
  refine cal_of F T.g_law_left sc_law_left (fun _ _ _ _ _ _ us hl => match us, hl with | [_], _ => rfl) (spD_len (n := 1) (by rintro _ _ ⟨b, rfl, _⟩; rfl)) fun cdv A outer s H vs Q E hr hsp => ?_
  obtain ⟨_, _, ⟨ls, rfl, hls, rfl⟩, hi, k⟩ := hsp
  obtain ⟨v, rfl, iv⟩ := hi.one
  refine ⟨_, (pss_one (ps_ret (pe_callTy call_tuple_of (by rfl) T.tuple_ boot_tuple (pa_cons (pe_lc (own := [("_law_place_here", 1), ("_law_box_here", 2), ("_law_worths", 3)]) rfl sc_law_left.nd (pi_tup (pv 0)) (blkOk_by (own := [("_law_place_here", 1), ("_law_box_here", 2), ("_law_worths", 3)]) (N := ["_law_some_here", "_law_place_here", "_law_box_here", "_law_worths"]) (sc := defScope s_law_left) (by decide +kernel)) (fun _ _ _ _ _ => by exact pg_tupK K (n := 3) rfl (pgs_cons (pg_name (i := 1) sc_law_left.nd rfl (.inl rfl)) (pgs_cons (pg_name (i := 2) sc_law_left.nd rfl (.inl rfl)) (pgs_cons (pg_name (i := 3) sc_law_left.nd rfl (.inl rfl)) pgs_nil)))) (fun _ _ _ _ _ => pts_nil) (fun _ _ _ _ _ => by exact (pe_tup (pa_cons (C8.pe_c c_law_place hr (by omega) rfl (pa_cons (pv 1) pa_nil)) (pa_cons (C8.pe_c c_law_box hr (by omega) rfl (pa_cons (pv 2) pa_nil)) (pa_cons (C8.pe_c c_law_boxed hr (by omega) rfl (pa_cons (pv 3) pa_nil)) pa_nil)))))) pa_nil)))), ?_⟩
  refine qd_ret (d := .tuple ((ls.map renLv).map encLv)) (evd_is (evd_tupL (evl_lc3 (K := K) (i := 1) (j := 2) (k := 3) (fun x : Leav => encPl x.place) (fun x => .str x.box) (fun x => tstr x.worths) (fun x => encLv (renLv x)) (evd_var rfl iv) hls.1 (fun _ _ _ => rfl) fun x H1 va vb vc hx e1 ia ib ic => ?_)) (by rw [List.map_map]; rfl)) k
  have hs := hls.2 x hx
  exact evd_tup (evds_cons (evd_call (evds_cons (evd_var rfl ia) evds_nil) ⟨x.place, rfl, hs.nm, hs.path, rfl⟩) (evds_cons (evd_call (evds_cons (evd_var rfl ib) evds_nil) ⟨x.box, rfl, hs.box, rfl⟩) (evds_cons (evd_call (evds_cons (evd_var rfl ic) evds_nil) ⟨x.worths, rfl, fun b hb => (hs.ws.1 b hb).1, hs.ws.2, rfl⟩) evds_nil)))
theorem sc_law_called_anew : FnScope ["_law_found", "_law_held", "_law_box_here", "_law_number", "_law_worths"] ["_law_found"] (defScope s_law_called_anew) := ⟨rfl, rfl, rfl, by decide +kernel, rfl, by decide +kernel, by decide +kernel⟩
theorem ok_law_called_anew (T : Fx K mg) : C8.Cal P w K mg base 4 "_law_called_anew" (spD fCalled) [] := by
  obtain ⟨fd, F⟩ := T.f_law_called_anew
  have c_law_box := ok_law_box (P := P) (w := w) (base := base) T
  have c_law_boxed := ok_law_boxed (P := P) (w := w) (base := base) T
  have c_law_place := ok_law_place (P := P) (w := w) (base := base) T
  have c_law_left := ok_law_left (P := P) (w := w) (base := base) T
  refine cal_of F T.g_law_called_anew sc_law_called_anew (fun _ _ _ _ _ _ us hl => match us, hl with | [_], _ => rfl) (spD_len (n := 1) (by rintro _ _ ⟨b, rfl, _⟩; rfl)) fun cdv A outer s H vs Q E hr hsp => ?_
  obtain ⟨_, _, ⟨r, rfl, hs, rfl⟩, hi, k⟩ := hsp
  obtain ⟨v, rfl, iv⟩ := hi.one
  have e4 : (Str.ofString "a").length = 1 := by decide +kernel
  refine ⟨_, (pss_cons (ps_if (pt_cmpR op_eq (pe_ix ix_tup (pv 0) pe_int (fun _ _ => rfl)) pe_str (nomark _))
    (pss_one (ps_ret (pe_op op_catA (pe_slice sl_tupA (pv 0) po_none (po_some pe_int)) (pe_tup (pa_cons (C8.pe_c c_law_left hr (by omega) rfl (pa_cons (pe_ix ix_tup (pv 0) pe_int (fun _ _ => rfl)) pa_nil)) pa_nil)))))
    pss_nil)
    (pss_cons (ps_if (pt_cmpR op_eq (pe_ix ix_tup (pv 0) pe_int (fun _ _ => rfl)) pe_str (nomark _))
    (pss_one (ps_ret (pe_op op_catA (pe_op op_catA (pe_tup (pa_cons pe_str (pa_cons (pe_op op_add_str pe_str (pe_ix ix_tup (pv 0) pe_int (fun _ _ => rfl))) pa_nil))) (pe_slice sl_tupA (pv 0) (po_some pe_int) (po_some pe_int))) (pe_tup (pa_cons (C8.pe_c c_law_left hr (by omega) rfl (pa_cons (pe_ix ix_tup (pv 0) pe_int (fun _ _ => rfl)) pa_nil)) pa_nil)))))
    pss_nil)
    (pss_cons (ps_set (i := 1) sc_law_called_anew.nd rfl (.inl rfl) (pe_callTy call_tuple_of (by rfl) T.tuple_ boot_tuple (pa_cons (pe_lc (own := [("_law_box_here", 2), ("_law_number", 3), ("_law_worths", 4)]) rfl sc_law_called_anew.nd (pi_tup (pe_ix ix_tup (pv 0) pe_int (fun _ _ => rfl))) (blkOk_by (own := [("_law_box_here", 2), ("_law_number", 3), ("_law_worths", 4)]) (N := ["_law_found", "_law_held", "_law_box_here", "_law_number", "_law_worths"]) (sc := defScope s_law_called_anew) (by decide +kernel)) (fun _ _ _ _ _ => by exact pg_tupK K (n := 3) rfl (pgs_cons (pg_name (i := 2) sc_law_called_anew.nd rfl (.inl rfl)) (pgs_cons (pg_name (i := 3) sc_law_called_anew.nd rfl (.inl rfl)) (pgs_cons (pg_name (i := 4) sc_law_called_anew.nd rfl (.inl rfl)) pgs_nil)))) (fun _ _ _ _ _ => pts_nil) (fun _ _ _ _ _ => by exact (pe_tup (pa_cons (C8.pe_c c_law_box hr (by omega) rfl (pa_cons (pv 2) pa_nil)) (pa_cons (pv 3) (pa_cons (C8.pe_c c_law_boxed hr (by omega) rfl (pa_cons (pv 4) pa_nil)) pa_nil)))))) pa_nil)))
    (pss_one (ps_ret (pe_op op_catA (pe_op op_catA (pe_tup (pa_cons pe_str (pa_cons (C8.pe_c c_law_place hr (by omega) rfl (pa_cons (pe_ix ix_tup (pv 0) pe_int (fun _ _ => rfl)) pa_nil)) pa_nil))) (pe_slice sl_tupA (pv 0) (po_some pe_int) (po_some pe_int))) (pe_tup (pa_cons (C8.pe_c c_law_left hr (by omega) rfl (pa_cons (pe_ix ix_tup (pv 0) pe_int (fun _ _ => rfl)) pa_nil)) (pa_cons (pv 1) pa_nil))))))))), ?_⟩
  cases r with
  | ended n tt l =>
    refine q_yes (evt_yes (evt_eq (evd_at (K := K) 0 (evd_var rfl iv) rfl) evd_str rfl) (by decide +kernel)) fun H1 e1 => ?_
    have iv1 := iv.ex e1
    exact qd_ret (d := encRes (renRes (.ended n tt l))) (evd_cat (evd_slice (evd_var rfl iv1) eo_none (evo_some evd_int) (es := [.str "ended", .int n, .tuple (tt.map PyData.int)]) (by rfl)) (evd_tup (evds_cons (evd_call (evds_cons (evd_at (K := K) 3 (evd_var rfl iv1) rfl) evds_nil) ⟨l, rfl, hs, rfl⟩) evds_nil)) (by simp)) fun u H2 e2 iu => k u H2 (e1.trans e2) iu
  | fault f n tt l =>
    refine q_no (evt_no (evt_eq (evd_at (K := K) 0 (evd_var rfl iv) rfl) evd_str rfl) (by decide +kernel)) fun H1 e1 => ?_
    refine q_yes (evt_yes (evt_eq (evd_at (K := K) 0 (evd_var rfl (iv.ex e1)) rfl) evd_str rfl) (by decide +kernel)) fun H2 e2 => ?_
    have e12 := e1.trans e2
    have iv1 := iv.ex e12
    obtain ⟨⟨hf1, hf2⟩, hs⟩ := hs
    refine qd_ret (d := encRes (renRes (.fault f n tt l))) (evd_is (evd_cat (evd_cat (evd_tup (evds_cons evd_str (evds_cons (evd_adds evd_str (evd_at (K := K) (d := .str f) 1 (evd_var rfl iv1) rfl) (by rw [e4]; omega)) evds_nil))) (evd_slice (evd_var rfl iv1) (evo_some evd_int) (evo_some evd_int) (es := [.int n, .tuple (tt.map PyData.int)]) (by rfl)) (by simp)) (evd_tup (evds_cons (evd_call (evds_cons (evd_at (K := K) 4 (evd_var rfl iv1) rfl) evds_nil) ⟨l, rfl, hs, rfl⟩) evds_nil)) (by simp)) ?_) fun u H3 e3 iu => k u H3 (e12.trans e3) iu
    show PyData.tuple _ = PyData.tuple [.str "fault", .str (box f), .int n, .tuple (tt.map PyData.int), .tuple ((l.map renLv).map encLv)]
    rw [← a_box hf1]
    rfl
  | on pl n tt l hh =>
    refine q_no (evt_no (evt_eq (evd_at (K := K) 0 (evd_var rfl iv) rfl) evd_str rfl) (by decide +kernel)) fun H1 e1 => ?_
    refine q_no (evt_no (evt_eq (evd_at (K := K) 0 (evd_var rfl (iv.ex e1)) rfl) evd_str rfl) (by decide +kernel)) fun H2 e2 => ?_
    have e12 := e1.trans e2
    have iv1 := iv.ex e12
    obtain ⟨⟨hp1, hp2⟩, hs, hl, hh2⟩ := hs
    refine qd_set (d := .tuple ((hh.map fun x => (box x.1, renTh x.2)).map encHeld)) (evd_is (evd_tupL (evl_lc3 (K := K) (i := 2) (j := 3) (k := 4) (fun x : Str × Thing => .str x.1) (fun x => .int x.2.1) (fun x => tstr x.2.2) (fun x => encHeld (box x.1, renTh x.2)) (evd_at (K := K) 5 (evd_var rfl iv1) rfl) (by omega) (fun _ _ _ => rfl) fun x H3 va vb vc hx e3 ia ib ic => ?_)) (by rw [List.map_map]; rfl)) fun vh H3 e3 ih => ?_
    · obtain ⟨s1, s2, s3⟩ := hh2 x hx
      exact evd_tup (evds_cons (evd_call (evds_cons (evd_var rfl ia) evds_nil) ⟨x.1, rfl, s1, rfl⟩) (evds_cons (evd_var rfl ib) (evds_cons (evd_call (evds_cons (evd_var rfl ic) evds_nil) ⟨x.2.2, rfl, fun b hb => (s2 b hb).1, s3, rfl⟩) evds_nil)))
    · have iv3 := iv1.ex e3
      exact qd_ret (d := encRes (renRes (.on pl n tt l hh))) (evd_cat (evd_cat (evd_tup (evds_cons evd_str (evds_cons (evd_call (evds_cons (evd_at (K := K) 1 (evd_var rfl iv3) rfl) evds_nil) ⟨pl, rfl, hp1, hp2, rfl⟩) evds_nil))) (evd_slice (evd_var rfl iv3) (evo_some evd_int) (evo_some evd_int) (es := [.int n, .tuple (tt.map PyData.int)]) (by rfl)) (by simp)) (evd_tup (evds_cons (evd_call (evds_cons (evd_at (K := K) 4 (evd_var rfl iv3) rfl) evds_nil) ⟨l, rfl, hs, rfl⟩) (evds_cons (evd_var rfl ih) evds_nil))) (by simp)) fun u H4 e4 iu => k u H4 ((e12.trans e3).trans e4) iu
theorem sc_law_numberless : FnScope ["_law_found", "_law_at", "_law_some_here", "_law_held"] ["_law_found"] (defScope s_law_numberless) := ⟨rfl, rfl, rfl, by decide +kernel, rfl, by decide +kernel, by decide +kernel⟩
theorem held_fm (h : List (Str × Thing)) : (h.map encHeld).filterMap (fun d => match d with
    | .tuple [a, _, .tuple ws] => if ws = [] then none else some (.tuple [a, .tuple ws])
    | _ => none) = heldW h := by
  unfold heldW
  induction h with
  | nil => rfl
  | cons x h ih =>
    rw [List.map_cons]
    by_cases q : x.2.2 = []
    · rw [List.filterMap_cons_none (by simp [encHeld, q]), List.filter_cons_of_neg (by simp [q]), ih]
    · rw [List.filterMap_cons_some (b := .tuple [.str x.1, tstr x.2.2]) (by simp [encHeld, q]), List.filter_cons_of_pos (by simp [q]), ih]
      rfl
theorem ok_law_numberless (T : Fx K mg) : C8.Cal P w K mg base 1 "_law_numberless" (spD fNumless) [] := by
  obtain ⟨fd, F⟩ := T.f_law_numberless
  refine cal_of F T.g_law_numberless sc_law_numberless (fun _ _ _ _ _ _ us hl => match us, hl with | [_], _ => rfl) (spD_len (n := 1) (by rintro _ _ ⟨b, rfl, _⟩; rfl)) fun cdv A outer s H vs Q E hr hsp => ?_
  obtain ⟨_, _, ⟨r, rfl, hs, rfl⟩, hi, k⟩ := hsp
  obtain ⟨v, rfl, iv⟩ := hi.one
  refine ⟨_, (pss_cons (ps_set (i := 1) sc_law_numberless.nd rfl (.inl rfl) (pe_callTy call_int1 (by rfl) T.int_ boot_int (pa_cons (pe_cmpR op_ne (pe_ix ix_tup (pv 0) pe_int (fun _ _ => rfl)) pe_str (nomark _)) pa_nil)))
    (pss_cons (ps_set (i := 2) sc_law_numberless.nd rfl (.inl rfl) (pe_op op_catA (pe_slice sl_tupA (pv 0) po_none (po_some (pe_op op_add pe_int (pv 1)))) (pe_tup (pa_cons (pe_callB call_len_seq (by rfl) T.len_ boot_len (pa_cons (pe_ix ix_tup (pv 0) (pe_op op_add pe_int (pv 1)) (fun _ _ => rfl)) pa_nil)) (pa_cons (pe_ix ix_tup (pv 0) (pe_op op_add pe_int (pv 1)) (fun _ _ => rfl)) pa_nil)))))
    (pss_cons (ps_if (pt_cmpR op_eq (pe_ix ix_tup (pv 0) pe_int (fun _ _ => rfl)) pe_str (nomark _))
    (pss_one (ps_set (i := 2) sc_law_numberless.nd rfl (.inl rfl) (pe_op op_catA (pv 2) (pe_callTy call_tuple_of (by rfl) T.tuple_ boot_tuple (pa_cons (pe_lc (own := [("_law_held", 3)]) rfl sc_law_numberless.nd (pi_tup (pe_ix ix_tup (pv 0) pe_int (fun _ _ => rfl))) (blkOk_by (own := [("_law_held", 3)]) (N := ["_law_found", "_law_at", "_law_some_here", "_law_held"]) (sc := defScope s_law_numberless) (by decide +kernel)) (fun _ _ _ _ _ => pg_name (i := 3) sc_law_numberless.nd rfl (.inl rfl)) (fun _ _ _ _ _ => by exact pts_one (pt_cmpR (op_neDK K hr.units) (pe_ix (ix_tupK K) (pv 3) pe_int (fun _ _ => rfl)) (pe_tup pa_nil) (nomark _))) (fun _ _ _ _ _ => by exact (pe_tup (pa_cons (pe_ix (ix_tupK K) (pv 3) pe_int (fun _ _ => rfl)) (pa_cons (pe_ix (ix_tupK K) (pv 3) pe_int (fun _ _ => rfl)) pa_nil))))) pa_nil)))))
    pss_nil)
    (pss_one (ps_ret (pv 2)))))), ?_⟩
  cases r with
  | ended n tt l =>
    refine qe_set (v := .int 0) (ev_is (ev_int1 (ev_neD (evd_at (K := K) (d := .str "ended") 0 (evd_var rfl iv) rfl) evd_str rfl)) (by decide +kernel)) fun H1 e1 => ?_
    have iv1 := iv.ex e1
    refine qd_set (d := numD (.ended n tt l)) (evd_cat (evd_slice (evd_var rfl iv1) eo_none (evo_some (evd_add evd_int (evd_var (i := 1) rfl (.int 0)))) (es := [.str "ended", .int n]) (by rfl)) (evd_tup (evds_cons (evd_is (evd_len (evd_ix (K := K) (ds := [.str "ended", .int n, .tuple (tt.map PyData.int), .tuple (l.map encLv)]) (evd_var rfl iv1) (evd_add evd_int (evd_var (i := 1) rfl (.int 0))) (d := .tuple (tt.map PyData.int)) (by rfl))) (by rw [List.length_map])) (evds_cons (evd_ix (K := K) (evd_var rfl iv1) (evd_add evd_int (evd_var (i := 1) rfl (.int 0))) (by rfl)) evds_nil))) (by simp)) fun vn H2 e2 i2 => ?_
    refine q_no (evt_no (evt_eq (evd_at (K := K) 0 (evd_var rfl (iv1.ex e2)) rfl) evd_str rfl) (by decide +kernel)) fun H3 e3 => ?_
    exact qd_ret (evd_var rfl (i2.ex e3)) fun u H4 e4 iu => k u H4 (((e1.trans e2).trans e3).trans e4) iu
  | fault f n tt l =>
    refine qe_set (v := .int 1) (ev_is (ev_int1 (ev_neD (evd_at (K := K) (d := .str "fault") 0 (evd_var rfl iv) rfl) evd_str rfl)) (by decide +kernel)) fun H1 e1 => ?_
    have iv1 := iv.ex e1
    refine qd_set (d := numD (.fault f n tt l)) (evd_cat (evd_slice (evd_var rfl iv1) eo_none (evo_some (evd_add evd_int (evd_var (i := 1) rfl (.int 1)))) (es := [.str "fault", .str f, .int n]) (by rfl)) (evd_tup (evds_cons (evd_is (evd_len (evd_ix (K := K) (evd_var rfl iv1) (evd_add evd_int (evd_var (i := 1) rfl (.int 1))) (ds := [.str "fault", .str f, .int n, .tuple (tt.map PyData.int), .tuple (l.map encLv)]) (d := .tuple (tt.map PyData.int)) (by rfl))) (by rw [List.length_map])) (evds_cons (evd_ix (K := K) (evd_var rfl iv1) (evd_add evd_int (evd_var (i := 1) rfl (.int 1))) (by rfl)) evds_nil))) (by simp)) fun vn H2 e2 i2 => ?_
    refine q_no (evt_no (evt_eq (evd_at (K := K) 0 (evd_var rfl (iv1.ex e2)) rfl) evd_str rfl) (by decide +kernel)) fun H3 e3 => ?_
    exact qd_ret (evd_var rfl (i2.ex e3)) fun u H4 e4 iu => k u H4 (((e1.trans e2).trans e3).trans e4) iu
  | on pl n tt l hh =>
    obtain ⟨⟨hp1, hp2⟩, hs, hl, hh2⟩ := hs
    refine qe_set (v := .int 1) (ev_is (ev_int1 (ev_neD (evd_at (K := K) (d := .str "on") 0 (evd_var rfl iv) rfl) evd_str rfl)) (by decide +kernel)) fun H1 e1 => ?_
    have iv1 := iv.ex e1
    refine qd_set (d := .tuple [.str "on", encPl pl, .int n, .int (tt.length : Nat), .tuple (l.map encLv)]) (evd_cat (evd_slice (evd_var rfl iv1) eo_none (evo_some (evd_add evd_int (evd_var (i := 1) rfl (.int 1)))) (es := [.str "on", encPl pl, .int n]) (by rfl)) (evd_tup (evds_cons (evd_is (evd_len (evd_ix (K := K) (evd_var rfl iv1) (evd_add evd_int (evd_var (i := 1) rfl (.int 1))) (ds := [.str "on", encPl pl, .int n, .tuple (tt.map PyData.int), .tuple (l.map encLv), .tuple (hh.map encHeld)]) (d := .tuple (tt.map PyData.int)) (by rfl))) (by rw [List.length_map])) (evds_cons (evd_ix (K := K) (evd_var rfl iv1) (evd_add evd_int (evd_var (i := 1) rfl (.int 1))) (by rfl)) evds_nil))) (by simp)) fun vn H2 e2 i2 => ?_
    have iv2 := iv1.ex e2
    refine q_yes (evt_yes (evt_eq (evd_at (K := K) 0 (evd_var rfl iv2) rfl) evd_str rfl) (by decide +kernel)) fun H3 e3 => ?_
    have iv3 := iv2.ex e3
    refine sd_set (d := numD (.on pl n tt l hh)) (evd_cat (evd_var rfl (i2.ex e3)) (es := heldW hh) (evd_is (evd_tupL (evl_lcT (K := K) (j := 3) _ (evd_at (K := K) 5 (evd_var rfl iv3) rfl) (by rw [List.length_map]; omega) ?_ ?_)) (congrArg PyData.tuple (held_fm hh))) ?_) fun u H4 e4 iu => ?_
    · intro i d u H4 hd e4 iu
      obtain ⟨x, hx, rfl⟩ := List.mem_map.mp (List.mem_of_getElem? hd)
      obtain ⟨s1, s2, s3⟩ := hh2 x hx
      refine evt_is (evt_neD (K := K) (evd_at (d := tstr x.2.2) 2 (evd_var rfl iu) rfl) (evd_tup evds_nil) (shaped_strs fun w hw => (s2 w hw).2) shaped_nil) ?_
      rw [eqv_nil]
      cases q : x.2.2 <;> simp [encHeld, q]
    · intro i d u H4 e hd e4 iu he
      obtain ⟨x, hx, rfl⟩ := List.mem_map.mp (List.mem_of_getElem? hd)
      simp only [encHeld] at he
      split at he
      · cases he
      · cases he
        exact evd_tup (evds_cons (evd_at 0 (evd_var rfl iu) rfl) (evds_cons (evd_at 2 (evd_var rfl iu) rfl) evds_nil))
    · have h5 : (heldW hh).length ≤ 1000 := by
        unfold heldW
        rw [List.length_map, List.length_map]
        exact Nat.le_trans (List.length_filter_le _ _) hl
      simp
      omega
    · exact qd_ret (evd_var rfl iu) fun u H5 e5 iu => k u H5 ((((e1.trans e2).trans e3).trans e4).trans e5) iu
end
end K16

set_option Elab.async false
set_option linter.all false
set_option maxRecDepth 100000
set_option maxHeartbeats 4000000
/-! KRep: a tuple times 0 or 1 -/
namespace K16
open PySem PySem.Spec PyProof.Rows L2
theorem tuple_mul1 (l : Addr) (items : Array Value) (n : Nat) (dd : Option Addr) (sl : Array (Option Value)) (x : Int) (u : Tok) (c0 : (decide (x < -(2 ^ 63)) || decide (x ≥ 2 ^ 63)) = false) (c1 : (items.isEmpty || x == 1) = true) :
    Meets (Builtin.«tuple.__mul__» ⟨[.ref l, .int x u], []⟩) (fun _ R s => s.heap.get? l = some { cls := .type "tuple", dict := dd, data := .seq items n, slots := sl } ∧ R (.ok (.ret (Value.ref l))) s) :=
  .of_wp fun prog w A R s h => by
    obtain ⟨hp, g, d, tk, os⟩ := s
    obtain ⟨hl, h⟩ := h
    have f1 := AutoSeq1.idx_int
    wp_walk using wpAny_loadPart' hl
    repeat (first
      | (refine wpAny_ite_false (decide_eq_false (by rw [c0]; exact Bool.false_ne_true)) ?_; wp_walk using wpAny_loadPart' hl)
      | (refine wpAny_ite_true (decide_eq_true c1) ?_; wp_walk using wpAny_loadPart' hl))
    exact ⟨_, rfl, h⟩
theorem tuple_mul0 (l : Addr) (items : Array Value) (n : Nat) (dd : Option Addr) (sl : Array (Option Value)) (x : Int) (u : Tok) (c0 : (decide (x < -(2 ^ 63)) || decide (x ≥ 2 ^ 63)) = false) (c1 : (items.isEmpty || x == 1) = false) (c2 : (decide (x ≤ 0) || items.isEmpty) = true) :
    Meets (Builtin.«tuple.__mul__» ⟨[.ref l, .int x u], []⟩) (fun _ R s => s.heap.get? l = some { cls := .type "tuple", dict := dd, data := .seq items n, slots := sl } ∧
      R (.ok (.ret (Value.ref s.heap.objs.size))) { s with heap := s.heap.push { cls := Value.type "tuple", data := Data.seq #[] }, toks := s.toks }) :=
  .of_wp fun prog w A R s h => by
    obtain ⟨hp, g, d, tk, os⟩ := s
    obtain ⟨hl, h⟩ := h
    have f1 := AutoSeq1.idx_int
    wp_walk using wpAny_loadPart' hl
    repeat (first
      | (refine wpAny_ite_false (decide_eq_false (by rw [c0]; exact Bool.false_ne_true)) ?_; wp_walk using wpAny_loadPart' hl)
      | (refine wpAny_ite_false (decide_eq_false (by rw [c1]; exact Bool.false_ne_true)) ?_; wp_walk using wpAny_loadPart' hl)
      | (refine wpAny_ite_true (decide_eq_true c2) ?_; wp_walk using wpAny_loadPart' hl))
    exact ⟨_, rfl, h⟩
/-- t * n, n 0 or 1, t not empty -/
def rRep01 (K : PySem.W.Frag) : R2 := fun x y H Q => ∃ l k xs, x = .ref l ∧ y = .int k ∧ SqT K H l xs ∧ xs ≠ [] ∧ ((k = 1 ∧ Q (.ref l) H) ∨ (k = 0 ∧ ∀ p, H p = none → Q (.ref p) (upd H p (.tup []))))
theorem op_rep01 {X : Cx} : OpR X (binaryOp .Mult) (rRep01 X.K) := by
  intro pins s σ H x y v u Q I rx ry h
  obtain ⟨l, k, xs, rfl, rfl, hT, hne, q⟩ := h
  cases rx
  obtain ⟨t, rfl⟩ := ry
  obtain ⟨its, r, ⟨⟨cls, dd, data, sl⟩, ho, hc, n, hd⟩, hs⟩ := I.tuple hT
  simp only at hc hd
  subst hc hd
  have hle : its.length = xs.length := r.length.symm
  have hn : its ≠ [] := fun e => hne (by
    rw [e] at hle
    exact List.eq_nil_of_length_eq_zero hle.symm)
  have hi : its.toArray.isEmpty = false := by
    cases its with
    | nil => exact absurd rfl hn
    | cons a b => rfl
  rcases q with ⟨rfl, q⟩ | ⟨rfl, q⟩
  · refine wpAny_binaryOp_repeat_ref (T := "tuple") (U := "int") (by decide) ⟨_, ho, rfl⟩ (fun s' => typeIs_int s' 1 t) noFill_tuple_mul F.fills_int_mul F.slot_int_rmul repeat_tuple F.slot_int_index.lookup
      (call_meets F.slot_int_rmul (typeIs_int s 1 t) F.entry_int_rmul (F.args_int_rmul_2 _ _) (int_rmul_tuple 1 t l its.toArray n dd sl)
        ⟨ho, rfl, ⟨_, ho, rfl⟩, call_meets F.slot_tuple_mul ⟨_, ho, rfl⟩ F.entry_tuple_mul (F.args_tuple_mul_2 _ _) (tuple_mul1 l its.toArray n dd sl 1 t (by decide) (by simp)) ⟨ho, ?_⟩⟩)
    exact ⟨.ref l, H, I, rfl, q⟩
  · refine wpAny_binaryOp_repeat_ref (T := "tuple") (U := "int") (by decide) ⟨_, ho, rfl⟩ (fun s' => typeIs_int s' 0 t) noFill_tuple_mul F.fills_int_mul F.slot_int_rmul repeat_tuple F.slot_int_index.lookup
      (call_meets F.slot_int_rmul (typeIs_int s 0 t) F.entry_int_rmul (F.args_int_rmul_2 _ _) (int_rmul_tuple 0 t l its.toArray n dd sl)
        ⟨ho, rfl, ⟨_, ho, rfl⟩, call_meets F.slot_tuple_mul ⟨_, ho, rfl⟩ F.entry_tuple_mul (F.args_tuple_mul_2 _ _) (tuple_mul0 l its.toArray n dd sl 0 t (by decide) (by rw [hi]; decide) (by simp)) ⟨ho, ?_⟩⟩)
    refine ⟨.ref s.heap.objs.size, _, I.laid (t' := s.toks) (o := .tup []) (fun b ob q => Heap.get?_push_of_some _ q) (Nat.le_refl _) ?_, rfl, q _ (I.hok.fresh (Nat.le_refl _))⟩
    exact ⟨Nat.zero_le _, [], .nil, IsTup.new _ _⟩
end K16

set_option Elab.async false
set_option linter.all false
set_option maxRecDepth 100000
set_option maxHeartbeats 4000000
/-! KAnew: the law's row_anew: a row called otherwise -/
namespace K16
open PySem PySem.Spec PyProof.Rows L2 Evl
def bx : PyData → PyData
  | .str b => .str (box b)
  | d => d
def fAnew (n : Nat) : List PyData → PyData → Prop := fun ds d => ∃ E sg l r, ds = [encRow r] ∧ EnvS E ∧ (∀ q ∈ sg, q.1 ≠ Str.empty) ∧ okR E sg n l r ∧ shR r ∧ r.length ≤ 100 ∧ d = encRow (renR box dnm r)
/-- a word whose parts are texts and numbers alone -/
def flatW : Word → Bool
  | .loop _ => false
  | .choose _ => false
  | .drop _ => false
  | .call _ _ _ => false
  | _ => true
theorem flat_tl {w : Word} (h : flatW w = true) : tlD (renW box dnm w) = (tlD w).map bx ∧ hd (renW box dnm w) = hd w := by
  cases w <;> first | (cases h; done) | (simp [renW, tlD, bx, hd])
theorem flat_hd {w : Word} (h : flatW w = true) : ¬ hd w = "loop" ∧ ¬ hd w = "choose" ∧ ¬ hd w = "drop" ∧ ¬ hd w = "call" := by
  cases w <;> first | (cases h; done) | (simp only [hd]; decide +kernel)
theorem flat_parts {E : Env} {sg : List Sig} {k l : Nat} {w : Word} (es : EnvS E) (h : flatW w = true) (ho : okW E sg k l w) (hs : shW w) : ∀ d ∈ tlD w, (∃ b, d = .str b ∧ b.length ≤ 400) ∨ ∃ i, d = .int i := by
  cases w <;> first | (cases h; done) | skip
  all_goals
    simp only [okW] at ho
    simp only [shW] at hs
    intro d hd
    simp only [tlD, List.mem_cons, List.not_mem_nil, or_false] at hd
  · rcases hd with rfl | rfl
    · exact .inl ⟨_, rfl, es.b _ ho.1⟩
    · exact .inl ⟨_, rfl, es.w _ ho.2⟩
  · subst hd; exact .inl ⟨_, rfl, es.b _ ho⟩
  · rcases hd with rfl | rfl
    · exact .inl ⟨_, rfl, es.b _ ho⟩
    · exact .inr ⟨_, rfl⟩
  · rcases hd with rfl | rfl
    · exact .inl ⟨_, rfl, es.b _ ho.1⟩
    · exact .inl ⟨_, rfl, es.b _ ho.2⟩
  · rcases hd with rfl | rfl | rfl
    · exact .inl ⟨_, rfl, es.b _ ho.1⟩
    · exact .inl ⟨_, rfl, es.b _ ho.2.1⟩
    · exact .inl ⟨_, rfl, es.b _ ho.2.2⟩
  · rcases hd with rfl | rfl
    · exact .inl ⟨_, rfl, es.b _ ho.1⟩
    · exact .inl ⟨_, rfl, es.b _ ho.2⟩
  · subst hd; exact .inl ⟨_, rfl, es.b _ ho⟩
  · subst hd; exact .inl ⟨_, rfl, es.b _ ho⟩
  · subst hd; exact .inl ⟨_, rfl, hs⟩
  · subst hd; exact .inr ⟨_, rfl⟩
  · subst hd; exact .inl ⟨_, rfl, hs⟩
  · subst hd; exact .inl ⟨_, rfl, hs⟩
/-- the turns that are done -/
def AnP (H : Hp) (vr : V) (lm : Addr) (r : Row) (H2 : Hp) (i : Nat) (σ' : L2.St) (H' : Hp) : Prop := ∃ (x y : Option V) (us : List V), σ' = [some vr, some (.ref lm), x, y] ∧ Ex H H' ∧ H' lm = some (.lst us) ∧ Ims H' us ((r.take i).map fun w => encW (renW box dnm w)) ∧ KT H2 H'
section
variable {P : Program} {w : World} {K : PySem.W.Frag} {mg : Str → Option Value} {base : Heap}
theorem sc_law_row_anew : FnScope ["_law_row_here", "_law_made", "_law_word_here", "_law_one"] ["_law_row_here"] (defScope s_law_row_anew) := ⟨rfl, rfl, rfl, by decide +kernel, rfl, by decide +kernel, by decide +kernel⟩
theorem anew_step (T : Fx K mg) (n : Nat) (c_law_row_anew : n ≠ 0 → C8.Cal P w K mg base (3 + (n - 1)) "_law_row_anew" (spD (fAnew (n - 1))) []) : C8.Cal P w K mg base (3 + n) "_law_row_anew" (spD (fAnew n)) [] := by
  obtain ⟨fd, F⟩ := T.f_law_row_anew
  have c_law_box := ok_law_box (P := P) (w := w) (base := base) T
  have c_law_boxed := ok_law_boxed (P := P) (w := w) (base := base) T
  rw [Nat.add_right_comm 2 1 n]
  refine cal_of F T.g_law_row_anew sc_law_row_anew (fun _ _ _ _ _ _ us hl => match us, hl with | [_], _ => rfl) (spD_len (n := 1) (by rintro _ _ ⟨_, _, _, _, rfl, _⟩; rfl)) fun cdv A outer s H vs Q E0 hr hsp => ?_
  obtain ⟨_, _, ⟨E, sg, lo, r, rfl, es, hsg, hok, hsh, hrl, rfl⟩, hi, k⟩ := hsp
  obtain ⟨vr, rfl, ir⟩ := hi.one
  refine ⟨_, (pss_cons (ps_set (i := 1) sc_law_row_anew.nd rfl (.inl rfl) (pe_lst pa_nil))
    (pss_cons (ps_for PassesOwn.never rfl (pi_tup (pv 0)) (pg_name (i := 2) sc_law_row_anew.nd rfl (.inl rfl))
    (pss_one (ps_if (pt_cmpR op_eq (pe_ix ix_tup (pv 2) pe_int (fun _ _ => rfl)) pe_str (nomark _))
    (pss_one (ps_rec fun h0 => ps_expr (pe_bm PySem.F.plainAttrs_list PySem.F.slot_list_append PySem.F.type_list_append mt_append (pv 1) (pa_cons (pe_tup (pa_cons pe_str (pa_cons (C8.pe_c (c_law_row_anew h0) hr (by omega) rfl (pa_cons (pe_ix ix_tup (pv 2) pe_int (fun _ _ => rfl)) pa_nil)) pa_nil))) pa_nil))))
    (pss_one (ps_if (pt_cmpR op_eq (pe_ix ix_tup (pv 2) pe_int (fun _ _ => rfl)) pe_str (nomark _))
    (pss_one (ps_rec fun h0 => ps_expr (pe_bm PySem.F.plainAttrs_list PySem.F.slot_list_append PySem.F.type_list_append mt_append (pv 1) (pa_cons (pe_tup (pa_cons pe_str (pa_cons (pe_callTy call_tuple_of (by rfl) T.tuple_ boot_tuple (pa_cons (pe_lc (own := [("_law_one", 3)]) rfl sc_law_row_anew.nd (pi_tup (pe_ix ix_tup (pv 2) pe_int (fun _ _ => rfl))) (blkOk_by (own := [("_law_one", 3)]) (N := ["_law_row_here", "_law_made", "_law_word_here", "_law_one"]) (sc := defScope s_law_row_anew) (by decide +kernel)) (fun _ _ _ _ _ => pg_name (i := 3) sc_law_row_anew.nd rfl (.inl rfl)) (fun _ _ _ _ _ => pts_nil) (fun _ _ _ _ _ => by exact (C8.pe_c (c_law_row_anew h0) hr (by omega) rfl (pa_cons (pv 3) pa_nil)))) pa_nil)) pa_nil))) pa_nil))))
    (pss_one (ps_if (pt_cmpR op_eq (pe_ix ix_tup (pv 2) pe_int (fun _ _ => rfl)) pe_str (nomark _))
    (pss_one (ps_expr (pe_bm PySem.F.plainAttrs_list PySem.F.slot_list_append PySem.F.type_list_append mt_append (pv 1) (pa_cons (pe_tup (pa_cons pe_str (pa_cons (C8.pe_c c_law_boxed hr (by omega) rfl (pa_cons (pe_ix ix_tup (pv 2) pe_int (fun _ _ => rfl)) pa_nil)) pa_nil))) pa_nil))))
    (pss_one (ps_if (pt_cmpR op_eq (pe_ix ix_tup (pv 2) pe_int (fun _ _ => rfl)) pe_str (nomark _))
    (pss_one (ps_expr (pe_bm PySem.F.plainAttrs_list PySem.F.slot_list_append PySem.F.type_list_append mt_append (pv 1) (pa_cons (pe_tup (pa_cons pe_str (pa_cons (pe_op op_add_str pe_str (pe_ix ix_tup (pv 2) pe_int (fun _ _ => rfl))) (pa_cons (C8.pe_c c_law_boxed hr (by omega) rfl (pa_cons (pe_ix ix_tup (pv 2) pe_int (fun _ _ => rfl)) pa_nil)) (pa_cons (C8.pe_c c_law_boxed hr (by omega) rfl (pa_cons (pe_ix ix_tup (pv 2) pe_int (fun _ _ => rfl)) pa_nil)) pa_nil))))) pa_nil))))
    (pss_one (ps_expr (pe_bm PySem.F.plainAttrs_list PySem.F.slot_list_append PySem.F.type_list_append mt_append (pv 1) (pa_cons (pe_op op_catA (pe_slice sl_tupA (pv 2) po_none (po_some pe_int)) (pe_callTy call_tuple_of (by rfl) T.tuple_ boot_tuple (pa_cons (pe_lc (own := [("_law_one", 3)]) rfl sc_law_row_anew.nd (pi_tup (pe_slice sl_tupA (pv 2) (po_some pe_int) po_none)) (blkOk_by (own := [("_law_one", 3)]) (N := ["_law_row_here", "_law_made", "_law_word_here", "_law_one"]) (sc := defScope s_law_row_anew) (by decide +kernel)) (fun _ _ _ _ _ => pg_name (i := 3) sc_law_row_anew.nd rfl (.inl rfl)) (fun _ _ _ _ _ => pts_nil) (fun _ _ _ _ _ => by exact (pe_ifExp (pt_val (pe_callB (call_isiB K) (by rfl) T.isinstance_ boot_isinstance (pa_cons (pv 3) (pa_cons (pe_bltn (v := .ty "str") (by rfl) T.str_ boot_str rfl) pa_nil)))) (C8.pe_c c_law_box hr (by omega) rfl (pa_cons (pv 3) pa_nil)) (pv 3)))) pa_nil))) pa_nil)))))))))))))
    (pss_one (ps_ret (pe_callTy call_tuple_of (by rfl) T.tuple_ boot_tuple (pa_cons (pv 1) pa_nil)))))), ?_⟩
  have e4 : (Str.ofString "a").length = 1 := by decide +kernel
  refine qd_lst (ds := []) evds_nil (by simp) fun lm vs H1 nlm e1 hlm i1 => ?_
  cases i1
  refine qd_forT (K := K) (ds := encR r) (evd_var rfl (ir.ex e1)) (AnP H vr lm r)
    (fun H2 e2 => ⟨none, none, [], rfl, e1.trans e2, e2 _ _ hlm, .nil, KT.refl H2⟩) (fun H2 i σ' H' _ h => by obtain ⟨_, _, _, _, _, _, _, e⟩ := h; exact e) ?_ ?_
  · rintro H2 i d v σ' H' e2 hd0 iv ⟨x, y, us, rfl, e3, hus, ius, kt⟩
    rw [encR_map, List.getElem?_map] at hd0
    cases hw0 : r[i]? with
    | none => rw [hw0] at hd0; cases hd0
    | some wd =>
    rw [hw0] at hd0
    obtain rfl : encW wd = d := Option.some.inj hd0
    have hwm := List.mem_of_getElem? hw0
    have okw := okR_mem hok hwm
    have shw := shR_mem hsh hwm
    have hil : i < r.length := (List.getElem?_eq_some_iff.mp hw0).1
    have hul : us.length < 100000 := by
      have := ius.len
      rw [List.length_map, List.length_take] at this
      omega
    dsimp only [List.set]
    have W : ∀ {H3}, Ex H' H3 → EvD (tVar 2) [some vr, some (.ref lm), some v, y] H3 (encW wd) := fun e => evd_var rfl (iv.ex e)
    have app : ∀ {H3 : Hp} {te : TE} {D : Ends}, Ex H' H3 → EvD te [some vr, some (.ref lm), some v, y] H3 (encW (renW box dnm wd)) → (∀ H4, AnP H vr lm r H2 (i + 1) [some vr, some (.ref lm), some v, y] H4 → D.nx [some vr, some (.ref lm), some v, y] H4) →
        tDrop (tBM K "list" rAppend (tVar 1) (tCons te tNil)) D [some vr, some (.ref lm), some v, y] H3 := fun {H3 te D} e34 he kk => by
      refine sd_app (ev_var (i := 1) rfl) (e34 _ _ hus) he hul fun u H4 e5 iu => ?_
      have h4 := e5 _ _ (e34 _ _ hus)
      refine kk _ ⟨some v, y, us ++ [u], rfl, ((e3.trans e34).trans e5).mut nlm, upd_same, ?_, (kt.trans (KT.of (e34.trans e5))).trans ((KT.refl H4).upd (nt_lst h4))⟩
      rw [List.take_add_one, hw0, List.map_append]
      exact (Ims.append (ius.ex (e34.trans e5)) (.cons iu .nil)).upd (nt_lst h4)
    by_cases hfl : flatW wd = true
    · obtain ⟨n1, n2, n3, n4⟩ := flat_hd hfl
      refine q_noE (evt_hd0 (W (Ex.refl H')) n1) fun H3 x3 => q_noE (evt_hd0 (W x3) n2) fun H4 x4 => q_noE (evt_hd0 (W (x3.trans x4)) n3) fun H5 x5 => q_noE (evt_hd0 (W ((x3.trans x4).trans x5)) n4) fun H6 x6 => ?_
      have e6 := ((x3.trans x4).trans x5).trans x6
      obtain ⟨t1, t2⟩ := flat_tl hfl
      have cut0 : cutD (.str (hd wd) :: tlD wd) none (some 1) = [.str (hd wd)] := by
        cases wd <;> first | (cases hfl; done) | rfl
      have small : (tlD wd).length ≤ 10 := by cases wd <;> first | (cases hfl; done) | simp [tlD]
      refine app e6 (evd_is (evd_cat (es := (tlD wd).map bx) (evd_slice (W e6) eo_none (evo_some evd_int) cut0) (evd_tupL (evl_lc1 (K := K) (j := 3) id bx (evd_is (evd_slice (W e6) (evo_some evd_int) eo_none (cut_from1 _ _)) (by rw [List.map_id])) (by omega) fun d u H7 hd7 e7 iu => ?_)) (by simp; omega)) ?_) fun H7 z => z
      · rcases flat_parts es hfl okw shw d hd7 with ⟨b, rfl, hb⟩ | ⟨z, rfl⟩
        · have iu : Im H7 u (.str b) := iu
          refine evd_if (b := true) (et_test fun H8 e8 Q8 q8 => ?_) (fun _ => evd_call (evds_cons (evd_var rfl iu) evds_nil) ⟨b, rfl, hb, rfl⟩) (fun z => nomatch z)
          rw [iu.str_]
          exact ⟨_, rfl, _, _, .type "str", .type "str", true, rfl, .ty _, .base (.str _), kit_ty (by decide +kernel), q8 H8 (Ex.refl H8)⟩
        · have iu : Im H7 u (.int z) := iu
          refine evd_if (b := false) (et_test fun H8 e8 Q8 q8 => ?_) (fun z => nomatch z) (fun _ => evd_var rfl iu)
          rw [iu.int_]
          exact ⟨_, rfl, _, _, .type "int", .type "str", false, rfl, .ty _, .base (.int _), kit_ty (by decide +kernel), q8 H8 (Ex.refl H8)⟩
      · show PyData.tuple (.str (hd wd) :: (tlD wd).map bx) = .tuple (.str (hd (renW box dnm wd)) :: tlD (renW box dnm wd))
        rw [t1, t2]
    · cases wd <;> first | (exact absurd rfl hfl) | skip
      · -- drop
        rename_i bs
        simp only [okW] at okw
        refine q_noE (evt_hd0 (W (Ex.refl H')) (by simp only [hd]; decide +kernel)) fun H3 x3 => q_noE (evt_hd0 (W x3) (by simp only [hd]; decide +kernel)) fun H4 x4 => q_yesE (evt_hd1 (W (x3.trans x4)) rfl) fun H5 x5 => ?_
        have e35 := (x3.trans x4).trans x5
        refine app e35 (evd_is (evd_tup (evds_cons evd_str (evds_cons (evd_call (evds_cons (evd_at (K := K) (d := tstr bs) 1 (W e35) (by simp only [tlD]; rfl)) evds_nil) ⟨bs, rfl, fun b hb => es.b b (okw.1 b hb), by have := okw.2; omega, rfl⟩) evds_nil))) ?_) fun H7 z => z
        simp only [renW, encW, tlD, hd]
      · -- choose
        rename_i rows
        simp only [okW] at okw
        simp only [shW] at shw
        refine q_noE (evt_hd0 (W (Ex.refl H')) (by simp only [hd]; decide +kernel)) fun H3 x3 => q_yesE (evt_hd1 (W x3) rfl) fun H4 x4 => ?_
        have e34 := x3.trans x4
        refine ⟨by omega, app e34 (evd_is (evd_tup (evds_cons evd_str (evds_cons (evd_tupL (evl_lc1 (K := K) (j := 3) encRow (fun r => encRow (renR box dnm r)) (l := rows) (evd_is (evd_at (K := K) (d := .tuple (encRs rows)) 1 (W e34) (by simp only [tlD]; rfl)) (by rw [encRs_map])) (by omega) fun r2 u H7 hr2 e7 iu => ?_)) evds_nil))) ?_) fun H7 z => z⟩
        · exact evd_call (evds_cons (evd_var rfl iu) evds_nil) ⟨E, sg, lo, r2, rfl, es, hsg, okRs_mem okw.2.2.2 hr2, shRs_mem shw hr2, by have := okw.2.2.1.2 r2 hr2; omega, rfl⟩
        · simp only [renW, encW, tlD, hd]
          rw [encRs_map, renRs_map, List.map_map]
          rfl
      · -- loop
        rename_i row
        simp only [okW] at okw
        simp only [shW] at shw
        refine q_yesE (evt_hd1 (W (Ex.refl H')) rfl) fun H3 x3 => ?_
        refine ⟨by omega, app x3 (evd_is (evd_tup (evds_cons evd_str (evds_cons (evd_call (evds_cons (evd_at (K := K) (d := encRow row) 1 (W x3) (by simp only [tlD]; rfl)) evds_nil) ⟨E, sg, lo + 1, row, rfl, es, hsg, okw.2, shw, by omega, rfl⟩) evds_nil))) ?_) fun H7 z => z⟩
        simp only [renW, encW, tlD, hd]
      · -- call
        rename_i dd aa gg
        simp only [okW] at okw
        simp only [shW] at shw
        obtain ⟨q, hq, rfl, _, _, s1, s2⟩ := okw
        refine q_noE (evt_hd0 (W (Ex.refl H')) (by simp only [hd]; decide +kernel)) fun H3 x3 => q_noE (evt_hd0 (W x3) (by simp only [hd]; decide +kernel)) fun H4 x4 => q_noE (evt_hd0 (W (x3.trans x4)) (by simp only [hd]; decide +kernel)) fun H5 x5 => q_yesE (evt_hd1 (W ((x3.trans x4).trans x5)) rfl) fun H6 x6 => ?_
        have e36 := ((x3.trans x4).trans x5).trans x6
        refine app e36 (evd_is (evd_tup (evds_cons evd_str (evds_cons (evd_adds evd_str (evd_at (K := K) (d := .str q.1) 1 (W e36) (by simp only [tlD]; rfl)) (by rw [e4]; omega)) (evds_cons (evd_call (evds_cons (evd_at (K := K) (d := tstr aa) 2 (W e36) (by simp only [tlD]; rfl)) evds_nil) ⟨aa, rfl, fun b hb => es.b b (s1.1 b hb), by have := s1.2; omega, rfl⟩) (evds_cons (evd_call (evds_cons (evd_at (K := K) (d := tstr gg) 3 (W e36) (by simp only [tlD]; rfl)) evds_nil) ⟨gg, rfl, fun b hb => es.b b (s2.1 b hb), by have := s2.2; omega, rfl⟩) evds_nil))))) ?_) fun H7 z => z
        simp only [renW, encW, tlD, hd]
        rw [← a_dnm (hsg q hq)]
  · rintro H2 σ' H' e2 ⟨x, y, us, rfl, e3, hus, ius, kt⟩
    rw [encR_len, List.take_length] at ius
    refine qd_ret (d := encRow (renR box dnm r)) (evd_is (evd_tupR (ev_var (i := 1) rfl) hus ius) ?_) fun u H4 e4 iu => k u H4 (e3.trans e4) iu
    show PyData.tuple _ = PyData.tuple (encR (renR box dnm r))
    rw [encR_map, renR_map, List.map_map]
    rfl
theorem ok_law_row_anew (T : Fx K mg) : ∀ n : Nat, C8.Cal P w K mg base (3 + n) "_law_row_anew" (spD (fAnew n)) []
  | 0 => anew_step T 0 fun h => absurd rfl h
  | n + 1 => anew_step T (n + 1) fun _ => ok_law_row_anew T n
end
end K16

set_option Elab.async false
set_option linter.all false
set_option maxRecDepth 100000
set_option maxHeartbeats 4000000
/-! KDeck: the deck that is made of the script -/
namespace K16
open PySem PySem.Spec PyProof.Rows L2 Evl
def spLDeck (K : PySem.W.Frag) : Sp := fun vs H Q _ => ∃ (a : Addr) (ns : List Int), vs = [.ref a] ∧ SqL K H a (ns.map V.int) ∧ ns.length ≤ 63 ∧ ∀ l H', H l = none → Ex H H' → Dk H' l → Q (.ref l) H'
section
variable {K : PySem.W.Frag} {σ : L2.St} {H H' : Hp} {ta tb te : TE} {v : V}
/-- list(a new list) -/
theorem el_listN {xs : List V} (ha : EvL te σ H xs) : EvL (tCB (rLstT K) (tCons te tNil)) σ H xs := fun H1 e Q q =>
  ha H1 e _ fun p H2 hp e2 h2 => ⟨p, xs, rfl, .inl (SqL.of h2), fun l hl => q l _ (fresh_back e2 hl) (e2.trans (Ex.new hl)) upd_same⟩
theorem cut_ints (ns : List Int) (lo hi : Option Int) : ∃ ms : List Int, cutV (ns.map V.int) lo hi = ms.map V.int ∧ ms.length ≤ ns.length := by
  refine ⟨(ns.drop (HT.sIx (ns.map V.int).length 0 lo)).take (HT.sIx (ns.map V.int).length (ns.map V.int).length hi - HT.sIx (ns.map V.int).length 0 lo), ?_, ?_⟩
  · unfold cutV
    rw [List.map_take, List.map_drop]
  · simp
    omega
end
section
variable {P : Program} {w : World} {K : PySem.W.Frag} {mg : Str → Option Value} {base : Heap}
theorem sc_law_deck : FnScope ["_law_script", "_law_cells", "_law_k", "_law_cell"] ["_law_script"] (defScope s_law_deck) := ⟨rfl, rfl, rfl, by decide +kernel, rfl, by decide +kernel, by decide +kernel⟩
theorem ok_law_deck (T : Fx K mg) : C8.Cal P w K mg base 1 "_law_deck" (spLDeck K) [] := by
  obtain ⟨fd, F⟩ := T.f_law_deck
  refine cal_of F T.g_law_deck sc_law_deck (fun _ _ _ _ _ _ us hl => match us, hl with | [_], _ => rfl) (by rintro vs H Q E ⟨_, _, rfl, _⟩; rfl) fun cdv A outer s0 H vs Q E0 hr hsp => ?_
  obtain ⟨a, ns, rfl, hS, hns, k⟩ := hsp
  refine ⟨_, (pss_cons (ps_set (i := 1) sc_law_deck.nd rfl (.inl rfl) (pe_callTy call_list_of (by rfl) T.list_ boot_list (pa_cons (pe_slice sl_list (pv 0) po_none (po_some pe_int)) pa_nil)))
    (pss_one (ps_ret (pe_op op_cat (pe_lst (pa_cons pe_int (pa_cons (pe_op op_add pe_int (pe_op op_mod (pe_callB (cr_sum rfl) (by rfl) T.sum_ boot_sum (pa_cons (pe_lc (own := [("_law_k", 2), ("_law_cell", 3)]) rfl sc_law_deck.nd (pi_enum (by rfl) T.enumerate_ (pa_cons (pv 1) pa_nil)) (blkOk_by (own := [("_law_k", 2), ("_law_cell", 3)]) (N := ["_law_script", "_law_cells", "_law_k", "_law_cell"]) (sc := defScope s_law_deck) (by decide +kernel)) (fun _ _ _ _ _ => by exact pg_tupK K (n := 2) rfl (pgs_cons (pg_name (i := 2) sc_law_deck.nd rfl (.inl rfl)) (pgs_cons (pg_name (i := 3) sc_law_deck.nd rfl (.inl rfl)) pgs_nil))) (fun _ _ _ _ _ => pts_nil) (fun _ _ _ _ _ => by exact (pe_op op_mul (pe_op op_mod (pv 3) pe_int) (pe_op op_add (pv 2) pe_int)))) pa_nil)) pe_int)) pa_nil))) (pe_revL (pv 1)))))), ?_⟩
  obtain ⟨ms, hms, hml⟩ := cut_ints ns none (some 63)
  refine q_seq (s_asgL (el_listN (K := K) (el_sl (K := K) (ev_var (i := 0) rfl) eo_none (eo_some ev_c) hS)) fun l1 H1 n1 e1 h1 => ?_)
  rw [hms] at h1
  dsimp only [gName, List.set]
  -- the sum
  have sm : ∀ H2, Ex H1 H2 → ∀ Q2 : VK, (∀ z H3, Ex H2 H3 → Q2 (.int z) H3) → tCB (rSum K) (tCons (tLc (iEnum K (tCons (tVar 1) tNil)) (gTup K 2 (gCons (gName 2) (gCons (gName 3) gNil))) tYes (tOp (rI CMul fun i j => .int (i * j)) (tOp (rI (fun _ b => 0 < b) fun i j => .int (i % j)) (tVar 3) (tC (.int 1000003))) (tOp (rI0 fun i j => .int (i + j)) (tVar 2) (tC (.int 1)))) [2, 3]) tNil) [some (.ref a), some (.ref l1), none, none] H2 Q2 := fun H2 e2 Q2 q2 => by
    refine ⟨.ref l1, rfl, l1, _, rfl, SqL.of (e2 _ _ h1), fun D hD => lc_it (walk_enum (K := K) (a := l1) (xs := ms.map V.int)) (fun i H' => Ex H2 H' ∧ ∃ zs : List Int, H' D = some (.lst (zs.map V.int)) ∧ zs.length = i) ⟨Ex.new hD, [], upd_same, rfl⟩ (fun i H' _ p => SqL.of (p.1 _ _ (e2 _ _ h1))) ?_ ?_⟩
    · rintro i x H3 H4 hi ⟨e3, zs, hz, hzl⟩ ⟨T0, x', y', rfl, hT, rfl, hx', hy'⟩
      cases hx'
      have hy' : (ms.map V.int)[i]? = some y' := hy'
      rw [List.getElem?_map] at hy'
      cases hm : ms[i]? with
      | none => rw [hm] at hy'; cases hy'
      | some c =>
      rw [hm] at hy'
      obtain rfl : V.int c = y' := Option.some.inj hy'
      rw [List.length_map] at hi
      refine ⟨T0, _, rfl, SqT.of upd_same, rfl, _, _, rfl, _, _, rfl, rfl, rfl, ?_⟩
      have e4 := e3.trans (Ex.new (o := .tup [.int (i : Nat), .int c]) hT)
      have he : EvD (tOp (rI CMul fun i j => .int (i * j)) (tOp (rI (fun _ b => 0 < b) fun i j => .int (i % j)) (tVar 3) (tC (.int 1000003))) (tOp (rI0 fun i j => .int (i + j)) (tVar 2) (tC (.int 1)))) [some (.ref a), some (.ref l1), some (.int (i : Nat)), some (.int c)] (upd H3 T0 (.tup [.int (i : Nat), .int c])) (.int (c % 1000003 * ((i : Nat) + 1))) :=
        evd_I (evd_I (evd_var rfl (.int c)) (evd_int (i := 1000003)) (by decide)) (evd_add (evd_var rfl (.int _)) evd_int) (.inr ⟨by omega, by omega⟩)
      refine evt_all (σ := [some (.ref a), some (.ref l1), some (.int (i : Nat)), some (.int c)]) _ (Ex.refl _) _ fun H4' e4' => ?_
      rw [if_pos rfl]
      refine he H4' e4' _ fun y H5 e5' iy => ?_
      have e5 := e4'.trans e5'
      refine ⟨zs.map V.int, e5 _ _ (by rw [upd_ne (ne_of_none hz hT)]; exact hz), sz_lt (by rw [List.length_map]; omega), (e4.trans e5).mut hD, zs ++ [c % 1000003 * ((i : Nat) + 1)], ?_, by simp [hzl]⟩
      rw [iy.int_, upd_same]
      simp
    · rintro H3 ⟨e3, zs, hz, _⟩
      exact ⟨D, zs, rfl, SqL.of hz, q2 _ H3 e3⟩
  refine sm H1 (Ex.refl H1) _ fun z H2 e2 => ?_
  refine ⟨z, 2147483629, rfl, rfl, (by show (0 : Int) < 2147483629; decide), 7, _, rfl, rfl, sz_of (by simp), fun p hp => ⟨.ref l1, rfl, l1, _, rfl, SqL.of (Ex.new hp _ _ (e2 _ _ h1)), fun r hr => ⟨p, r, _, _, rfl, rfl, (Ex.new hr) _ _ upd_same, upd_same, sz_of (by simp; omega), fun q hq => ?_⟩⟩⟩
  have ep := Ex.new (o := .lst [.int 0, .int (7 + z % 2147483629)]) hp
  have er := Ex.new (o := .lst (ms.map V.int).reverse) hr
  have eq := Ex.new (o := .lst ([.int 0, .int (7 + z % 2147483629)] ++ (ms.map V.int).reverse)) hq
  have e9 := ((e1.trans e2).trans ep).trans er
  exact k q _ (fresh_back e9 hq) (e9.trans eq) ⟨0, 7 + z % 2147483629, ms.reverse, by rw [upd_same]; simp, by simp; omega⟩
end
end K16

set_option Elab.async false
set_option linter.all false
set_option maxRecDepth 100000
set_option maxHeartbeats 4000000
/-! KGo: drawing step by step: what stands while the deck is drawn from -/
namespace K16
open PySem PySem.Spec PyProof.Rows L2 Evl
/-- the deck stands, all that is not in S is as it was -/
structure DS (S : List Addr) (l : Addr) (H H' : Hp) : Prop where
  dk : Dk H' l
  kp : Kp S H H'
  kt : KT H H'
section
variable {S : List Addr} {l : Addr} {H H1 H2 : Hp}
theorem Dk.ex (h : Dk H l) (e : Ex H H1) : Dk H1 l := by
  obtain ⟨a0, b0, x0, j4, j5⟩ := h
  exact ⟨a0, b0, x0, e _ _ j4, j5⟩
theorem Dk.kp (h : Dk H l) (e : Kp S H H1) (hl : l ∉ S) : Dk H1 l := by
  obtain ⟨a0, b0, x0, j4, j5⟩ := h
  exact ⟨a0, b0, x0, e _ _ j4 hl, j5⟩
theorem Dk.mutd {p : Addr} {o : HO} (h : Dk H l) (hp : p ≠ l) : Dk (upd H p o) l := by
  obtain ⟨a0, b0, x0, j4, j5⟩ := h
  exact ⟨a0, b0, x0, by rw [upd_ne (Ne.symm hp)]; exact j4, j5⟩
theorem Dk.ne_none {p : Addr} (h : Dk H l) (hp : H p = none) : p ≠ l := fun z => by
  obtain ⟨_, _, _, q, _⟩ := h
  rw [z, q] at hp
  cases hp
theorem Dk.ne_dK {p : Addr} {kvs : List (Key × V)} (h : Dk H l) (hp : H p = some (.dK kvs)) : p ≠ l := fun z => by
  obtain ⟨_, _, _, q, _⟩ := h
  rw [z, q] at hp
  cases hp
theorem Dk.ne_strs {p : Addr} {bs : List Str} (h : Dk H l) (hp : H p = some (.lst (bs.map V.str))) : p ≠ l := fun z => by
  obtain ⟨_, _, _, q, _⟩ := h
  rw [z, q] at hp
  cases bs <;> simp at hp
theorem Dk.ne_refs {p : Addr} {bs : List Addr} (h : Dk H l) (hp : H p = some (.lst (bs.map V.ref))) : p ≠ l := fun z => by
  obtain ⟨_, _, _, q, _⟩ := h
  rw [z, q] at hp
  cases bs <;> simp at hp
theorem DS.start (h : Dk H l) : DS S l H H := ⟨h, Kp.refl H, KT.refl H⟩
theorem DS.ex (h : DS S l H H1) (e : Ex H1 H2) : DS S l H H2 := ⟨h.dk.ex e, h.kp.trans (Kp.of e), h.kt.trans (KT.of e)⟩
theorem DS.go {S' : List Addr} (h : DS S l H H1) (dk : Dk H2 l) (kp : Kp S' H1 H2) (kt : KT H1 H2) (hS : ∀ a ∈ S', a ∈ S) : DS S l H H2 := ⟨dk, h.kp.trans (kp.mono hS), h.kt.trans kt⟩
theorem DS.draw (h : DS S l H H1) (dk : Dk H2 l) (kp : Kp [l] H1 H2) (kt : KT H1 H2) (hS : l ∈ S := by simp) : DS S l H H2 := h.go dk kp kt fun a ha => by rw [List.mem_singleton.mp ha]; exact hS
theorem kp_fresh {p : Addr} (k : Kp S H H1) (hp : H1 p = none) (hS : ∀ a ∈ S, H1 a ≠ none) : H p = none := by
  cases q : H p with
  | none => rfl
  | some o =>
    have := k _ _ q fun z => hS p z hp
    rw [hp] at this
    cases this
theorem DS.fresh {p : Addr} (h : DS [l] l H H1) (hp : H1 p = none) : H p = none := kp_fresh h.kp hp fun a ha z => by
  rw [List.mem_singleton.mp ha] at z
  obtain ⟨_, _, _, q, _⟩ := h.dk
  rw [q] at z
  cases z
/-- an object that H did not know is changed -/
theorem DS.mutd {p : Addr} {o : HO} (h : DS S l H H1) (hp : H p = none) (hl : p ≠ l) (nt : ∀ xs, H1 p ≠ some (.tup xs)) : DS S l H (upd H1 p o) := ⟨h.dk.mutd hl, h.kp.new hp, h.kt.trans ((KT.refl H1).upd nt)⟩
theorem DS.new {p : Addr} {o : HO} (h : DS S l H H1) (hp : H1 p = none) : DS S l H (upd H1 p o) := h.ex (Ex.new hp)
end
section
variable {K : PySem.W.Frag} {σ : L2.St} {H : Hp} {l : Addr} {ta tb tc te : TE} {Q : VK} {E : XK} {m f : Int}
theorem go_draw (ha : Ev ta σ H (.ref l)) (hb : Ev tb σ H (.int m)) (dk : Dk H l) (hm : 0 < m ∧ m < 1000000000) (k : ∀ r H', 0 ≤ r → r < m → Dk H' l → Kp [l] H H' → KT H H' → Q (.int r) H') : tCall spLDraw [] E (tCons ta (tCons tb tNil)) σ H Q :=
  ha H (Ex.refl H) _ fun H1 e1 => hb H1 e1 _ fun H2 e2 => ⟨l, m, rfl, (dk.ex e1).ex e2, hm.1, hm.2, fun r H' h0 h1 dk' kp kt => k r H' h0 h1 dk' ((Kp.of (e1.trans e2)).trans kp) ((KT.of (e1.trans e2)).trans kt)⟩
theorem go_some (ha : Ev ta σ H (.ref l)) (hb : Ev tb σ H (.int f)) (hc : Ev tc σ H (.int m)) (dk : Dk H l) (hf : 0 ≤ f ∧ f < 1000) (k : ∀ r H', (0 ≤ r ∧ r ≤ f) ∨ r = m → Dk H' l → Kp [l] H H' → KT H H' → Q (.int r) H') : tCall spLSome [] E (tCons ta (tCons tb (tCons tc tNil))) σ H Q :=
  ha H (Ex.refl H) _ fun H1 e1 => hb H1 e1 _ fun H2 e2 => hc H2 (e1.trans e2) _ fun H3 e3 => ⟨l, f, m, rfl, ((dk.ex e1).ex e2).ex e3, hf.1, hf.2, fun r H' h0 dk' kp kt => k r H' h0 dk' ((Kp.of ((e1.trans e2).trans e3)).trans kp) ((KT.of ((e1.trans e2).trans e3)).trans kt)⟩
theorem go_one {a : Addr} {xs : List V} (ha : Ev ta σ H (.ref l)) (hb : Ev tb σ H (.ref a)) (hx : H a = some (.lst xs)) (hal : a ≠ l) (dk : Dk H l) (hl : 0 < xs.length ∧ xs.length < 1000) (k : ∀ x H', x ∈ xs → Dk H' l → Kp [l] H H' → KT H H' → Q x H') : tCall spLOneOf [] E (tCons ta (tCons tb tNil)) σ H Q :=
  ha H (Ex.refl H) _ fun H1 e1 => hb H1 e1 _ fun H2 e2 => ⟨l, a, xs, rfl, (dk.ex e1).ex e2, e2 _ _ (e1 _ _ hx), hal, hl.1, hl.2, fun x H' h0 dk' kp kt => k x H' h0 dk' ((Kp.of (e1.trans e2)).trans kp) ((KT.of (e1.trans e2)).trans kt)⟩
theorem go_pick {a : Addr} {bs : List Str} (ha : Ev ta σ H (.ref l)) (hb : Ev tb σ H (.ref a)) (hx : H a = some (.lst (bs.map V.str))) (dk : Dk H l) (hl : bs.length < 1000)
    (hc : ∀ H1, Ex H H1 → ∀ Q2 : VK, (∀ (m : Int) H2, 0 ≤ m → Dk H2 l → Kp [l] H1 H2 → KT H1 H2 → Q2 (.int m) H2) → tc σ H1 Q2)
    (k : ∀ (ys : List Str) u H', (∀ y ∈ ys, y ∈ bs) → ys.length ≤ bs.length → Im H' u (tstr ys) → Dk H' l → Kp [l] H H' → KT H H' → Q u H') : tCall spLPicked [] E (tCons ta (tCons tb (tCons tc tNil))) σ H Q :=
  ha H (Ex.refl H) _ fun H1 e1 => hb H1 e1 _ fun H2 e2 => hc H2 (e1.trans e2) _ fun m H3 h0 dk3 kp3 kt3 => ⟨l, a, bs, m, rfl, dk3, kp3 _ _ (e2 _ _ (e1 _ _ hx)) (by simpa using dk.ne_strs hx), dk.ne_strs hx, hl, h0, fun ys u H' h1 h2 iu dk' kp kt => k ys u H' h1 (by omega) iu dk' (((Kp.of (e1.trans e2)).trans kp3).trans kp) (((KT.of (e1.trans e2)).trans kt3).trans kt)⟩
/-- if draw(..) == n: .. -/
theorem go_ifd {D : Ends} {tu tw : TS} {n : Int} (ha : Ev ta σ H (.ref l)) (hb : Ev tb σ H (.int m)) (dk : Dk H l) (hm : 0 < m ∧ m < 1000000000) (h1 : ∀ H', Dk H' l → Kp [l] H H' → KT H H' → tu D σ H') (h0 : ∀ H', Dk H' l → Kp [l] H H' → KT H H' → tw D σ H') :
    tIfS (tTest (tOp rEq (tCall spLDraw [] E (tCons ta (tCons tb tNil))) (tC (.int n)))) tu tw D σ H :=
  go_draw ha hb dk hm fun r H' _ _ dk' kp kt => ⟨rfl, _, rfl, by
    dsimp only
    by_cases h : r = n
    · rw [if_pos (decide_eq_true (by rw [h]))]
      exact h1 H' dk' kp kt
    · rw [if_neg (by intro z; have := of_decide_eq_true z; simp only [V.int.injEq] at this; exact h this)]
      exact h0 H' dk' kp kt⟩
/-- xs.append(e), e drawn -/
theorem go_app {D : Ends} {i : Nat} {a : Addr} {xs : List V} (ha : σ[i]? = some (some (.ref a))) (hl : H a = some (.lst xs)) (h : te σ H fun v H1 => rAppend (.ref a) [v] H1 fun _ H2 => D.nx σ H2) : tDrop (tBM K "list" rAppend (tVar i) (tCons te tNil)) D σ H :=
  ⟨.ref a, ha, .inl ⟨rfl, xs, sq_of hl⟩, h⟩
theorem go_appEnd {D : Ends} {a : Addr} {xs : List V} {v : V} (hl : H a = some (.lst xs)) (hz : xs.length < 100000) (k : D.nx σ (upd H a (.lst (xs ++ [v])))) : rAppend (.ref a) [v] H fun _ H2 => D.nx σ H2 := ⟨a, xs, v, rfl, rfl, hl, sz_lt hz, k⟩
/-- for k in range(draw(..)): .. -/
theorem s_forD {D : Ends} {tu : TS} {j : Nat} (ha : Ev ta σ H (.ref l)) (hb : Ev tb σ H (.int m)) (dk : Dk H l) (hm : 0 < m ∧ m < 1000000000) (Pv : Nat → Nat → L2.St → Hp → Prop)
    (h0 : ∀ (n : Nat) H1, (n : Int) < m → Dk H1 l → Kp [l] H H1 → KT H H1 → Pv n 0 σ H1)
    (hs : ∀ (n i : Nat) σ' H', i < n → Pv n i σ' H' → tu { D with nx := Pv n (i + 1), ct := Pv n (i + 1), bk := D.nx } (σ'.set j (some (.int (i : Int)))) H') (hd : ∀ n σ' H', Pv n n σ' H' → D.nx σ' H') :
    tFor (iRng1 (tCons (tCall spLDraw [] E (tCons ta (tCons tb tNil))) tNil)) (gName j) tu D σ H :=
  go_draw ha hb dk hm fun r H1 r0 r1 dk1 kp1 kt1 => by
    obtain ⟨n, rfl⟩ := Int.eq_ofNat_of_zero_le r0
    refine ⟨(n : Nat), rfl, by omega, by omega, for_range (lo := 0) (n := ((n : Nat) : Int).toNat) (Pv n) (h0 n H1 r1 dk1 kp1 kt1) (fun i σ' H' hi p => ?_) fun σ' H' p => hd n σ' H' p⟩
    have e0 : (0 : Int) + (i : Int) = (i : Int) := Int.zero_add _
    show tu _ (σ'.set j (some (.int ((0 : Int) + (i : Int))))) H'
    rw [e0]
    exact hs n i σ' H' hi p
theorem tr_e {D : Ends} (h : te σ H D.rt) : tRet te D σ H := h
/-- [a, b, ..][i], i drawn -/
theorem go_ixLst {t : TA} {ds : List PyData} (h : EvDs t σ H ds) (hl : ds.length ≤ 100000) (k : ∀ p vs H1, H p = none → Ex H H1 → H1 p = some (.lst vs) → Ims H1 vs ds → tb σ H1 fun y H2 => rIxL K (.ref p) y H2 Q) : tOp (rIxL K) (tLst t) tb σ H Q :=
  h H (Ex.refl H) _ fun vs H1 e1 i1 => ⟨sz_of (by rw [i1.len]; exact hl), fun p hp => k p vs _ (fresh_back e1 hp) (e1.trans (Ex.new hp)) upd_same (i1.ex (Ex.new hp))⟩
theorem tr_go {D : Ends} {t : TA} (h : t σ H fun vs H1 => vs.length ≤ sizeLine ∧ ∀ p, H1 p = none → D.rt (.ref p) (upd H1 p (.tup vs))) : tRet (tTup t) D σ H := h
theorem tc_go {t : TA} {d : PyData} {R : List V → Hp → Prop} (h : EvD te σ H d) (k : ∀ v H1, Ex H H1 → Im H1 v d → t σ H1 fun vs H2 => R (v :: vs) H2) : tCons te t σ H R := h.go k
theorem tc_any {t : TA} {R : List V → Hp → Prop} (h : te σ H fun v H1 => t σ H1 fun vs H2 => R (v :: vs) H2) : tCons te t σ H R := h
theorem tn_go {R : List V → Hp → Prop} (h : R [] H) : tNil σ H R := h
/-- a, b, c = a list of three -/
theorem go_unl3 {i j k : Nat} {a : Addr} {x y z : V} {R : L2.St → Hp → Prop} (hl : H a = some (.lst [x, y, z])) (h : R (((σ.set i (some x)).set j (some y)).set k (some z)) H) : gUnl K 3 (gCons (gName i) (gCons (gName j) (gCons (gName k) gNil))) (.ref a) σ H R :=
  ⟨a, _, rfl, SqL.of hl, rfl, x, _, rfl, y, _, rfl, z, _, rfl, rfl, h⟩
theorem yes_go {A B : Hp → Prop} (h : A H) : tYes σ H (fun b H3 => if b = true then A H3 else B H3) := by
  show (if true = true then A H else B H)
  rw [if_pos rfl]
  exact h
end
end K16

set_option Elab.async false
set_option linter.all false
set_option maxRecDepth 100000
set_option maxHeartbeats 4000000
/-! KNms: the names that the law draws -/
namespace K16
open PySem PySem.Spec PyProof.Rows L2 Evl
/-! ### plain -/
def one (c : Nat) : Str := ⟨#[c]⟩
def nmL (bs : List Nat) (k : Nat) : List Nat := bs ++ 113 :: (if k % 2 = 1 then [122] else [])
def nmS (bs : List Nat) (k : Nat) : Str := ⟨(nmL bs k).toArray⟩
def ltr (k : Nat) : Nat := 97 + k % 26
def nmAt (bs : List Nat) (j f k : Nat) : Str := nmS (bs.set j (ltr (f + k))) k
structure NmOk (x : Str) : Prop where
  nd : noDot x
  ok : PyData.strOk x = true
  ne : x ≠ Str.empty
  len : x.length ≤ 20
def isL (c : Nat) : Prop := 97 ≤ c ∧ c < 123
theorem ltr_ok (k : Nat) : isL (ltr k) := ⟨Nat.le_add_right _ _, by unfold ltr; omega⟩
theorem nmL_mem {bs : List Nat} {k c : Nat} (h : ∀ c ∈ bs, isL c) (hc : c ∈ nmL bs k) : isL c := by
  unfold nmL at hc
  rcases List.mem_append.mp hc with hc | hc
  · exact h c hc
  · rcases List.mem_cons.mp hc with rfl | hc
    · exact ⟨by decide, by decide⟩
    · split at hc
      · rw [List.mem_singleton.mp hc]; exact ⟨by decide, by decide⟩
      · cases hc
theorem nmS_ok {bs : List Nat} {k : Nat} (h : ∀ c ∈ bs, isL c) (hl : bs.length ≤ 4) : NmOk (nmS bs k) where
  nd := fun hd => by
    have := nmL_mem (k := k) h hd
    exact absurd this.1 (by decide)
  ok := by
    rw [strOk_iff]
    intro c hc
    have := nmL_mem (k := k) h hc
    have := this.2
    omega
  ne := fun z => by
    have := congrArg (fun x : Str => x.cps.toList) z
    simp [nmS, nmL, Str.empty] at this
  len := by
    show (nmL bs k).toArray.size ≤ 20
    simp only [List.size_toArray, nmL, List.length_append, List.length_cons]
    split <;> simp <;> omega
theorem set_ok {bs : List Nat} {j c : Nat} (h : ∀ c ∈ bs, isL c) (hc : isL c) : ∀ d ∈ bs.set j c, isL d := fun d hd => by
  rcases List.mem_or_eq_of_mem_set hd with hd | rfl
  · exact h d hd
  · exact hc
theorem nmAt_ok {bs : List Nat} {j f k : Nat} (h : ∀ c ∈ bs, isL c) (hl : bs.length ≤ 4) : NmOk (nmAt bs j f k) := nmS_ok (set_ok h (ltr_ok _)) (by rw [List.length_set]; exact hl)
theorem nmAt_at {bs : List Nat} {j f k : Nat} (hj : j < bs.length) : (nmAt bs j f k).cps.toList[j]? = some (ltr (f + k)) := by
  show (nmL (bs.set j (ltr (f + k))) k)[j]? = _
  unfold nmL
  rw [List.getElem?_append_left (by rw [List.length_set]; exact hj), List.getElem?_set_self hj]
theorem nmAt_inj {bs : List Nat} {j f k k' : Nat} (hj : j < bs.length) (hk : k < 26) (hk' : k' < 26) (h : nmAt bs j f k = nmAt bs j f k') : k = k' := by
  have h1 := nmAt_at (f := f) (k := k) hj
  rw [h, nmAt_at hj] at h1
  have h2 := Option.some.inj h1
  unfold ltr at h2
  omega
def lastC (x : Str) : Option Nat := x.cps.toList.getLast?
theorem nmS_last (bs : List Nat) (k : Nat) : lastC (nmS bs k) = some 113 ∨ lastC (nmS bs k) = some 122 := by
  show (nmL bs k).getLast? = some 113 ∨ (nmL bs k).getLast? = some 122
  unfold nmL
  split
  · right; simp
  · left; simp
def specials : List Str := ["same", "way", "left", "far", "twice", "unread", "ended", "on"]
theorem special_ok : ∀ x ∈ specials, NmOk x ∧ lastC x ≠ some 113 ∧ lastC x ≠ some 122 := by
  have h : ∀ x ∈ specials, (dot ∉ x.cps.toList ∧ PyData.strOk x = true ∧ x ≠ Str.empty ∧ x.length ≤ 20) ∧ lastC x ≠ some 113 ∧ lastC x ≠ some 122 := by decide +kernel
  exact fun x hx => ⟨⟨(h x hx).1.1, (h x hx).1.2.1, (h x hx).1.2.2.1, (h x hx).1.2.2.2⟩, (h x hx).2⟩
def nmsL (bs : List Nat) (j f n : Nat) : List Str := (List.range n).map (nmAt bs j f)
theorem nmsL_nodup {bs : List Nat} {j f n : Nat} (hj : j < bs.length) (hn : n ≤ 26) : (nmsL bs j f n).Nodup := by
  unfold nmsL
  rw [List.nodup_iff_pairwise_ne, List.pairwise_map]
  refine List.Pairwise.imp_of_mem (R := fun a b => a < b) ?_ (List.pairwise_lt_range)
  intro a b ha hb hab h
  rw [List.mem_range] at ha hb
  have := nmAt_inj hj (by omega) (by omega) h
  omega
theorem nodup_set {α : Type} {x : α} : ∀ {l : List α} {i : Nat}, l.Nodup → x ∉ l → (l.set i x).Nodup
  | [], _, h, _ => h
  | y :: l, 0, h, hx => by
    rw [List.nodup_cons] at h
    show (x :: l).Nodup
    rw [List.nodup_cons]
    exact ⟨fun z => hx (List.mem_cons_of_mem _ z), h.2⟩
  | y :: l, i + 1, h, hx => by
    rw [List.nodup_cons] at h
    show (y :: l.set i x).Nodup
    rw [List.nodup_cons]
    refine ⟨fun z => ?_, nodup_set h.2 fun z => hx (List.mem_cons_of_mem _ z)⟩
    rcases List.mem_or_eq_of_mem_set z with z | rfl
    · exact h.1 z
    · exact hx List.mem_cons_self
theorem special_new {bs : List Nat} {j f n : Nat} {x : Str} (hx : x ∈ specials) : x ∉ nmsL bs j f n := fun h => by
  obtain ⟨k, _, rfl⟩ := List.mem_map.mp h
  obtain ⟨_, h1, h2⟩ := special_ok _ hx
  rcases nmS_last (bs.set j (ltr (f + k))) k with h3 | h3
  · exact h1 h3
  · exact h2 h3
def letters : Str := "abcdefghijklmnopqrstuvwxyz"
theorem letters_at : ∀ k, k < 26 → letters.cps.toList[k]? = some (97 + k) := by decide +kernel
theorem letters_len : letters.length = 26 := by decide +kernel
theorem join_one (bs : List Nat) : Txt.join (Str.ofString "") (bs.map one) = ⟨bs.toArray⟩ := by
  have e : (Str.ofString "" : Str) = ⟨#[]⟩ := by decide +kernel
  rw [TL.join_eq, e]
  exact join_ones bs
theorem nmS_eq (bs : List Nat) (k : Nat) : (⟨bs.toArray⟩ : Str) ++ (Str.ofString "q" : Str) ++ (if (k : Int) % 2 = 1 then (Str.ofString "z" : Str) else Str.empty) = nmS bs k := by
  have e1 : (Str.ofString "q" : Str) = ⟨#[113]⟩ := by decide +kernel
  have e2 : (Str.ofString "z" : Str) = ⟨#[122]⟩ := by decide +kernel
  apply TL.ext_tl
  rw [TL.tl_append, TL.tl_append, e1, e2]
  show bs ++ [113] ++ _ = nmL bs k
  unfold nmL
  by_cases h : k % 2 = 1
  · rw [if_pos h, if_pos (by omega)]; simp [TL.tl]
  · rw [if_neg h, if_neg (by omega)]; simp [TL.tl, Str.empty]
def spLNames : Sp := fun vs H Q _ => ∃ l, vs = [.ref l, .int 17] ∧ Dk H l ∧ ∀ r (ns : List Str) H', H r = none → ns.length = 17 → (∀ x ∈ ns, NmOk x) → ns.Nodup → H' r = some (.lst (ns.map V.str)) → DS [l] l H H' → Q (.ref r) H'
section
variable {P : Program} {w : World} {K : PySem.W.Frag} {mg : Str → Option Value} {base : Heap}
theorem sc_law_names : FnScope ["_law_deck_here", "_law_many", "_law_letters", "_law_base", "_law_at", "_law_first", "_law_found", "_law_k"] ["_law_deck_here", "_law_many"] (defScope s_law_names) := ⟨rfl, rfl, rfl, by decide +kernel, rfl, by decide +kernel, by decide +kernel⟩
theorem ok_law_names (T : Fx K mg) : C8.Cal P w K mg base 2 "_law_names" spLNames [] := by
  obtain ⟨fd, F⟩ := T.f_law_names
  have c_law_draw := ok_law_draw (P := P) (w := w) (base := base) T
  refine cal_of F T.g_law_names sc_law_names (fun _ _ _ _ _ _ us hl => match us, hl with | [_, _], _ => rfl) (by rintro vs H Q E ⟨_, rfl, _⟩; rfl) fun cdv A outer s0 H vs Q E0 hr hsp => ?_
  obtain ⟨l, rfl, hdk, k⟩ := hsp
  refine ⟨_, (pss_cons (ps_set (i := 2) sc_law_names.nd rfl (.inr rfl) pe_str)
    (pss_cons (ps_setLc (i := 3) (own := [("_law_k", 7)]) rfl sc_law_names.nd rfl rfl (sw_true rfl rfl rfl (by decide +kernel)) (pi_range1 (by rfl) T.range_ (pa_cons (pe_op op_add pe_int (C8.pe_c c_law_draw hr (by omega) rfl (pa_cons (pv 0) (pa_cons pe_int pa_nil)))) pa_nil)) (blkOk_by (own := [("_law_k", 7)]) (N := ["_law_deck_here", "_law_many", "_law_letters", "_law_base", "_law_at", "_law_first", "_law_found", "_law_k"]) (sc := defScope s_law_names) (by decide +kernel)) (fun _ _ _ _ _ => pg_name (i := 7) sc_law_names.nd rfl (.inl rfl)) (fun _ _ _ _ _ => pts_nil) (fun _ _ _ _ _ => by exact (pe_ix ix_str (pv 2) (C8.pe_c c_law_draw hr (by omega) rfl (pa_cons (pv 0) (pa_cons pe_int pa_nil))) (fun _ _ => rfl))))
    (pss_cons (ps_set (i := 4) sc_law_names.nd rfl (.inl rfl) (C8.pe_c c_law_draw hr (by omega) rfl (pa_cons (pv 0) (pa_cons (pe_callB call_len_seq (by rfl) T.len_ boot_len (pa_cons (pv 3) pa_nil)) pa_nil))))
    (pss_cons (ps_set (i := 5) sc_law_names.nd rfl (.inl rfl) (C8.pe_c c_law_draw hr (by omega) rfl (pa_cons (pv 0) (pa_cons pe_int pa_nil))))
    (pss_cons (ps_set (i := 6) sc_law_names.nd rfl (.inl rfl) (pe_lst pa_nil))
    (pss_cons (ps_for PassesOwn.never rfl (pi_range1 (by rfl) T.range_ (pa_cons (pv 1) pa_nil)) (pg_name (i := 7) sc_law_names.nd rfl (.inl rfl))
    (pss_cons (ps_asg (pe_ix ix_str (pv 2) (pe_op op_mod (pe_op op_add (pv 5) (pv 7)) pe_int) (fun _ _ => rfl)) (pg_sub (pv 3) (pv 4) set_list))
    (pss_one (ps_expr (pe_bm PySem.F.plainAttrs_list PySem.F.slot_list_append PySem.F.type_list_append mt_append (pv 6) (pa_cons (pe_op op_add_str (pe_op op_add_str (pe_join pe_str (pv 3)) pe_str) (pe_op op_mulS pe_str (pe_op op_mod (pv 7) pe_int))) pa_nil))))))
    (pss_cons (ps_if (pt_cmpR op_eq (C8.pe_c c_law_draw hr (by omega) rfl (pa_cons (pv 0) (pa_cons pe_int pa_nil))) pe_int (nomark _))
    (pss_one (ps_asg (pe_ix ix_list (pe_lst (pa_cons pe_str (pa_cons pe_str (pa_cons pe_str (pa_cons pe_str (pa_cons pe_str (pa_cons pe_str (pa_cons pe_str (pa_cons pe_str pa_nil))))))))) (pe_op op_mod (pv 5) pe_int) (fun _ _ => rfl)) (pg_sub (pv 6) (C8.pe_c c_law_draw hr (by omega) rfl (pa_cons (pv 0) (pa_cons (pv 1) pa_nil))) set_list)))
    pss_nil)
    (pss_one (ps_ret (pv 6)))))))))), ?_⟩
  refine qe_set (v := .str letters) ev_c fun H0 e0 => ?_
  dsimp only [List.set]
  have d0 : DS [l] l H H0 := (DS.start hdk).ex e0
  -- the base
  refine go_draw (ev_var (i := 0) rfl) ev_c d0.dk ⟨by decide, by decide⟩ fun r1 H1 r1a r1b dk1 kp1 kt1 => ?_
  have d1 := d0.draw dk1 kp1 kt1
  refine ⟨1, r1, rfl, rfl, 1 + r1, rfl, by omega, by omega, fun D hD => lc_range (fun i H' => ∃ bs : List Nat, H' D = some (.lst ((bs.map one).map V.str)) ∧ bs.length = i ∧ (∀ c ∈ bs, isL c) ∧ DS [l] l H H') ⟨[], upd_same, rfl, (fun c hc => by cases hc), d1.new hD⟩ ?_ ?_⟩
  · rintro i H2 hi ⟨bs, hb, hbl, hbo, d2⟩
    refine ⟨rfl, yes_go ?_⟩
    refine ⟨.str letters, rfl, ?_⟩
    refine go_draw (ev_var (i := 0) rfl) ev_c d2.dk ⟨by decide, by decide⟩ fun r2 H3 r2a r2b dk3 kp3 kt3 => ?_
    obtain ⟨n, rfl⟩ := Int.eq_ofNat_of_zero_le r2a
    have d3 := d2.draw dk3 kp3 kt3
    have DH := d1.fresh hD
    have Dl : D ≠ l := dk1.ne_none hD
    have hb3 := kp3 _ _ hb (by simpa using Dl)
    refine ⟨letters, (n : Nat), 97 + n, rfl, rfl, by rw [letters_len]; exact sz_of (by decide), atI_nat (letters_at n (by omega)), (bs.map one).map V.str, hb3, sz_lt (by simp; omega), bs ++ [97 + n], by rw [upd_same]; simp [one], by simp [hbl], fun c hc => ?_, d3.mutd DH Dl (nt_lst hb3)⟩
    rcases List.mem_append.mp hc with hc | hc
    · exact hbo c hc
    · rw [List.mem_singleton.mp hc]; exact ⟨by omega, by omega⟩
  rintro H2 ⟨bs, hb, hbl, hbo, d2⟩
  have DH := d1.fresh hD
  have Dl : D ≠ l := dk1.ne_none hD
  have hb1 : 0 < bs.length ∧ bs.length ≤ 4 := by omega
  dsimp only [gName, List.set]
  -- at, first
  refine go_draw (ev_var (i := 0) rfl) (ev_len (K := K) (ev_var (i := 3) rfl) (SqL.of hb)) d2.dk ⟨by simp; omega, by simp; omega⟩ fun j0 H3 j0a j0b dk3 kp3 kt3 => ?_
  obtain ⟨j, rfl⟩ := Int.eq_ofNat_of_zero_le j0a
  have hj : j < bs.length := by simp at j0b; omega
  have d3 := d2.draw dk3 kp3 kt3
  have hb3 := kp3 _ _ hb (by simpa using Dl)
  dsimp only [gName, List.set]
  refine go_draw (ev_var (i := 0) rfl) ev_c d3.dk ⟨by decide, by decide⟩ fun f0 H4 f0a f0b dk4 kp4 kt4 => ?_
  obtain ⟨f, rfl⟩ := Int.eq_ofNat_of_zero_le f0a
  have d4 := d3.draw dk4 kp4 kt4
  have hb4 := kp4 _ _ hb3 (by simpa using Dl)
  dsimp only [gName, List.set]
  refine qd_lst (ds := []) evds_nil (by simp) fun lf vs H5 nlf e5 hlf i5 => ?_
  cases i5
  have d5 := d4.ex e5
  have hb5 := e5 _ _ hb4
  have Fl : lf ≠ l := d4.dk.ne_none nlf
  have FD : lf ≠ D := fun z => by rw [z, hb4] at nlf; cases nlf
  have FH := d4.fresh nlf
  refine q_seq (s_forR1 (j := 7) (n := 17) (fun H6 e6 Q6 q6 => ⟨_, rfl, q6 H6 (Ex.refl H6)⟩) ⟨by decide, by decide⟩
    (fun i σ' H' => ∃ (x : Option V) (b' : List Nat), σ' = [some (.ref l), some (.int 17), some (.str letters), some (.ref D), some (.int (j : Nat)), some (.int (f : Nat)), some (.ref lf), x] ∧ H' D = some (.lst ((b'.map one).map V.str)) ∧ b'.length = bs.length ∧ (∀ c, b'.set j c = bs.set j c) ∧ H' lf = some (.lst ((nmsL bs j f i).map V.str)) ∧ DS [l] l H H')
    (fun H6 e6 => ⟨none, bs, rfl, e6 _ _ hb5, rfl, fun _ => rfl, e6 _ _ hlf, d5.ex e6⟩) ?_ ?_)
  · rintro i σ' H' hi ⟨x, b', rfl, q1, q2, q3, q4, q5⟩
    dsimp only [List.set]
    -- base[at] = letters[..]
    refine q_seq (s_setL (j := j) (v := .str (one (ltr (f + i)))) q1 (ev_op (ev_var (i := 2) rfl) (ev_op (ev_op (ev_var (i := 5) rfl) (ev_var (i := 7) rfl) rv_I0) ev_c (rv_I (by show (0 : Int) < 26; decide))) ?_) (ev_var (i := 3) rfl) (ev_var (i := 4) rfl) (by simp; omega) fun H6 e6 => ?_)
    · have e : ((f : Nat) : Int) + ((i : Nat) : Int) = ((f + i : Nat) : Int) := by omega
      have e2 : (((f + i : Nat) : Int) % 26) = (((f + i) % 26 : Nat) : Int) := by omega
      rw [e, e2]
      exact rv_ixS (by rw [letters_len]; decide) (atI_nat (letters_at _ (by omega)))
    have q1' : (upd H6 D (.lst (((b'.map one).map V.str).set j (.str (one (ltr (f + i))))))) D = some (.lst (((bs.set j (ltr (f + i))).map one).map V.str)) := by
      rw [upd_same, ← q3, List.map_set, List.map_set]
    have q4' : (upd H6 D (.lst (((b'.map one).map V.str).set j (.str (one (ltr (f + i))))))) lf = some (.lst ((nmsL bs j f i).map V.str)) := by
      rw [upd_ne FD]; exact e6 _ _ q4
    have q5' := (q5.ex e6).mutd (o := .lst (((b'.map one).map V.str).set j (.str (one (ltr (f + i)))))) DH Dl (nt_lst (e6 _ _ q1))
    generalize upd H6 D (.lst (((b'.map one).map V.str).set j (.str (one (ltr (f + i)))))) = H7 at q1' q4' q5'
    -- found.append(..)
    have ej : EvD (tM1 (fun x xs H Q => ∃ a p, ∃ ys : List Str, x = .str a ∧ xs = [.ref p] ∧ (SqL K H p (ys.map V.str) ∨ SqT K H p (ys.map V.str)) ∧ (ys.map (·.length)).sum + ys.length * a.length ≤ 16777216 ∧ Q (.str (Txt.join a ys)) H) (tC (.str "")) (tVar 3)) [some (.ref l), some (.int 17), some (.str letters), some (.ref D), some (.int (j : Nat)), some (.int (f : Nat)), some (.ref lf), some (.int (i : Nat))] H7 (.str ⟨(bs.set j (ltr (f + i))).toArray⟩) := fun H8 e8 Q8 k8 => by
      refine ⟨⟨_, rfl⟩, .ref D, rfl, _, D, (bs.set j (ltr (f + i))).map one, rfl, rfl, .inl (SqL.of (e8 _ _ q1')), ?_, ?_⟩
      · have : ∀ xs : List Nat, ((xs.map one).map (·.length)).sum = xs.length := fun xs => by
          induction xs with
          | nil => rfl
          | cons x xs ih => rw [List.map_cons, List.map_cons, List.sum_cons, ih]; simp [one, Str.length]; omega
        rw [this]
        have e0 : (Str.ofString "").length = 0 := by decide +kernel
        rw [e0]
        simp
        omega
      · rw [join_one]
        exact k8 _ H8 (Ex.refl H8) (.str _)
    have ez : EvD (tOp rMulS (tC (.str "z")) (tOp (rI (fun _ b => 0 < b) fun i j => .int (i % j)) (tVar 7) (tC (.int 2)))) [some (.ref l), some (.int 17), some (.str letters), some (.ref D), some (.int (j : Nat)), some (.int (f : Nat)), some (.ref lf), some (.int (i : Nat))] H7 (.str (if (i : Int) % 2 = 1 then (Str.ofString "z" : Str) else Str.empty)) :=
      evd_op evd_str (evd_I (evd_var (i := 7) rfl (.int (i : Nat))) (evd_int (i := 2)) (by decide)) fun v u H8 _ iv iu Q8 k8 => ⟨_, _, iv.str_, iu.int_, by omega, k8 _ H8 (Ex.refl H8) (.str _)⟩
    have lq : (Str.ofString "q").length = 1 := by decide +kernel
    have lz : (if (i : Int) % 2 = 1 then (Str.ofString "z" : Str) else Str.empty).length ≤ 1 := by split <;> decide +kernel
    have lb : (⟨(bs.set j (ltr (f + i))).toArray⟩ : Str).length ≤ 4 := by show (bs.set j (ltr (f + i))).toArray.size ≤ 4; rw [List.size_toArray, List.length_set]; exact hb1.2
    have lbq : ((⟨(bs.set j (ltr (f + i))).toArray⟩ : Str) ++ (Str.ofString "q" : Str)).length ≤ 5 := by
      rw [TL.len_tl, TL.tl_append, List.length_append, ← TL.len_tl, ← TL.len_tl, lq]; omega
    refine sd_app (d := .str (nmAt bs j f i)) (ev_var (i := 6) rfl) q4' (evd_is (evd_adds (evd_adds ej evd_str (by rw [lq]; omega)) ez (by omega)) (by rw [nmS_eq]; rfl)) (by unfold nmsL; simp; omega) fun v8 H8 e8 i8 => ?_
    rw [i8.str_]
    refine ⟨_, bs.set j (ltr (f + i)), rfl, by rw [upd_ne (Ne.symm FD)]; exact e8 _ _ q1', by rw [List.length_set], fun c => by rw [List.set_set], ?_, (q5'.ex e8).mutd FH Fl (nt_lst (e8 _ _ q4'))⟩
    rw [upd_same]
    unfold nmsL
    rw [List.range_succ, List.map_append, List.map_append]
    rfl
  · rintro σ' H' ⟨x, b', rfl, q1, q2, q3, q4, q5⟩
    have nn : (nmsL bs j f (17 : Int).toNat).Nodup := nmsL_nodup hj (by decide)
    have no : ∀ y ∈ nmsL bs j f (17 : Int).toNat, NmOk y := fun y hy => by
      obtain ⟨i, _, rfl⟩ := List.mem_map.mp hy
      exact nmAt_ok hbo hb1.2
    have nl : (nmsL bs j f (17 : Int).toNat).length = 17 := by unfold nmsL; simp
    have hsp : ∀ y ∈ specials, y ∉ nmsL bs j f (17 : Int).toNat := fun y hy => special_new hy
    generalize nmsL bs j f (17 : Int).toNat = ns at q4 nn no nl hsp
    -- one name another
    refine q_seq (go_ifd (ev_var (i := 0) rfl) ev_c q5.dk ⟨by decide, by decide⟩ (fun H6 dk6 kp6 kt6 => ?_) fun H6 dk6 kp6 kt6 => ?_)
    · have d6 := q5.draw dk6 kp6 kt6
      have q6 := kp6 _ _ q4 (by simpa using Fl)
      have hk : f % 8 < specials.length := by show f % 8 < 8; omega
      have e3 : ((f : Nat) : Int) % 8 = ((f % 8 : Nat) : Int) := by omega
      refine (evd_ixLst (K := K) (ds := specials.map PyData.str) (d := .str specials[f % 8]) (i := f % 8) (evds_cons evd_str (evds_cons evd_str (evds_cons evd_str (evds_cons evd_str (evds_cons evd_str (evds_cons evd_str (evds_cons evd_str (evds_cons evd_str evds_nil)))))))) (by decide) (ev_is (ev_op (ev_var (i := 5) rfl) ev_c (rv_I (by show (0 : Int) < 8; decide))) (congrArg V.int e3)) (by rw [List.getElem?_map, List.getElem?_eq_getElem hk]; rfl)).go fun v H7 e7 iv => ?_
      rw [iv.str_]
      have hm := List.getElem_mem hk
      generalize specials[f % 8] = sp at hm
      have d7 := d6.ex e7
      refine ⟨.ref lf, rfl, go_draw (ev_var (i := 0) rfl) (ev_var (i := 1) rfl) d7.dk ⟨by decide, by decide⟩ fun r4 H8 r4a r4b dk8 kp8 kt8 => ?_⟩
      obtain ⟨n, rfl⟩ := Int.eq_ofNat_of_zero_le r4a
      have d8 := d7.draw dk8 kp8 kt8
      have q8 := kp8 _ _ (e7 _ _ q6) (by simpa using Fl)
      refine ⟨lf, _, (n : Nat), n, rfl, rfl, q8, ixN_nat (by rw [List.length_map]; omega), ?_⟩
      refine ⟨.ref lf, rfl, k lf (ns.set n sp) _ FH (by rw [List.length_set]; exact nl) (fun y hy => ?_) (nodup_set nn (hsp sp hm)) (by rw [upd_same, List.map_set]) (d8.mutd FH Fl (nt_lst q8))⟩
      rcases List.mem_or_eq_of_mem_set hy with hy | rfl
      · exact no y hy
      · exact (special_ok _ hm).1
    · exact ⟨.ref lf, rfl, k lf ns H6 FH nl no nn (kp6 _ _ q4 (by simpa using Fl)) (q5.draw dk6 kp6 kt6)⟩
end
end K16

set_option Elab.async false
set_option linter.all false
set_option maxRecDepth 100000
set_option maxHeartbeats 4000000
/-! KBxs: the boxes that the law draws -/
namespace K16
open PySem PySem.Spec PyProof.Rows L2 Evl
structure BxOk (x : Str) : Prop where
  ok : PyData.strOk x = true
  len : x.length ≤ 100
theorem NmOk.bx {x : Str} (h : NmOk x) : BxOk x := ⟨h.ok, by have := h.len; omega⟩
theorem strOk_app {a b : Str} (ha : PyData.strOk a = true) (hb : PyData.strOk b = true) : PyData.strOk (a ++ b) = true := by
  rw [strOk_iff] at ha hb ⊢
  intro c hc
  have hc : c ∈ TL.tl (a ++ b) := hc
  rw [TL.tl_append] at hc
  rcases List.mem_append.mp hc with hc | hc
  · exact ha c hc
  · exact hb c hc
theorem len_app (a b : Str) : (a ++ b).length = a.length + b.length := by rw [TL.len_tl, TL.tl_append, List.length_append, ← TL.len_tl, ← TL.len_tl]
theorem bx_cat {a b c : Str} (ha : NmOk a) (hb : PyData.strOk b = true ∧ b.length ≤ 5) (hc : NmOk c) : BxOk (a ++ b ++ c) := ⟨strOk_app (strOk_app ha.ok hb.1) hc.ok, by
  rw [len_app, len_app]
  have := ha.len
  have := hc.len
  omega⟩
theorem dot_ok : PyData.strOk (Str.ofString ".") = true ∧ (Str.ofString ".").length ≤ 5 := by decide +kernel
theorem kdot_ok : PyData.strOk (Str.ofString "k.") = true ∧ (Str.ofString "k.").length ≤ 5 := by decide +kernel
theorem cut_boxes (b0 b1 b2 b3 b4 b5 b6 b7 b8 : Str) {r r2 : Int} (hr : 0 ≤ r ∧ r < 4) (h2 : (0 ≤ r2 ∧ r2 ≤ 2) ∨ r2 = 5) :
    ∃ cs : List Str, cutV (cutV ([b0, b1, b2, b3, b4, b5, b6, b7, b8].map V.str) (some r) none) none (some (3 + r2)) = cs.map V.str ∧ 0 < cs.length ∧ cs.length ≤ 9 ∧ ∀ c ∈ cs, c ∈ [b0, b1, b2, b3, b4, b5, b6, b7, b8] := by
  have h1 : r = 0 ∨ r = 1 ∨ r = 2 ∨ r = 3 := by omega
  have h2 : r2 = 0 ∨ r2 = 1 ∨ r2 = 2 ∨ r2 = 5 := by omega
  rcases h1 with rfl | rfl | rfl | rfl <;> rcases h2 with rfl | rfl | rfl | rfl
  · exact ⟨[b0, b1, b2], rfl, by simp, by simp, by simp⟩
  · exact ⟨[b0, b1, b2, b3], rfl, by simp, by simp, by simp⟩
  · exact ⟨[b0, b1, b2, b3, b4], rfl, by simp, by simp, by simp⟩
  · exact ⟨[b0, b1, b2, b3, b4, b5, b6, b7], rfl, by simp, by simp, by simp⟩
  · exact ⟨[b1, b2, b3], rfl, by simp, by simp, by simp⟩
  · exact ⟨[b1, b2, b3, b4], rfl, by simp, by simp, by simp⟩
  · exact ⟨[b1, b2, b3, b4, b5], rfl, by simp, by simp, by simp⟩
  · exact ⟨[b1, b2, b3, b4, b5, b6, b7, b8], rfl, by simp, by simp, by simp⟩
  · exact ⟨[b2, b3, b4], rfl, by simp, by simp, by simp⟩
  · exact ⟨[b2, b3, b4, b5], rfl, by simp, by simp, by simp⟩
  · exact ⟨[b2, b3, b4, b5, b6], rfl, by simp, by simp, by simp⟩
  · exact ⟨[b2, b3, b4, b5, b6, b7, b8], rfl, by simp, by simp, by simp⟩
  · exact ⟨[b3, b4, b5], rfl, by simp, by simp, by simp⟩
  · exact ⟨[b3, b4, b5, b6], rfl, by simp, by simp, by simp⟩
  · exact ⟨[b3, b4, b5, b6, b7], rfl, by simp, by simp, by simp⟩
  · exact ⟨[b3, b4, b5, b6, b7, b8], rfl, by simp, by simp, by simp⟩
def spLBoxes : Sp := fun vs H Q _ => ∃ (l a : Addr) (ns : List Str), vs = [.ref l, .ref a] ∧ Dk H l ∧ H a = some (.lst (ns.map V.str)) ∧ ns.length = 17 ∧ (∀ x ∈ ns, NmOk x) ∧
  ∀ r (bs : List Str) H', H r = none → 0 < bs.length → bs.length ≤ 9 → (∀ b ∈ bs, BxOk b) → H' r = some (.lst (bs.map V.str)) → DS [l] l H H' → Q (.ref r) H'
section
variable {P : Program} {w : World} {K : PySem.W.Frag} {mg : Str → Option Value} {base : Heap}
theorem sc_law_boxes : FnScope ["_law_deck_here", "_law_names_here", "_law_some_here"] ["_law_deck_here", "_law_names_here"] (defScope s_law_boxes) := ⟨rfl, rfl, rfl, by decide +kernel, rfl, by decide +kernel, by decide +kernel⟩
theorem ok_law_boxes (T : Fx K mg) : C8.Cal P w K mg base 3 "_law_boxes" spLBoxes [] := by
  obtain ⟨fd, F⟩ := T.f_law_boxes
  have c_law_draw := ok_law_draw (P := P) (w := w) (base := base) T
  have c_law_some := ok_law_some (P := P) (w := w) (base := base) T
  refine cal_of F T.g_law_boxes sc_law_boxes (fun _ _ _ _ _ _ us hl => match us, hl with | [_, _], _ => rfl) (by rintro vs H Q E ⟨_, _, _, rfl, _⟩; rfl) fun cdv A outer s0 H vs Q E0 hr hsp => ?_
  obtain ⟨l, a, ns, rfl, hdk, ha, hnl, hno, k⟩ := hsp
  refine ⟨_, (pss_cons (ps_set (i := 2) sc_law_boxes.nd rfl (.inl rfl) (pe_lst (pa_cons (pe_ix ix_list (pv 1) pe_int (fun _ _ => rfl)) (pa_cons (pe_ix ix_list (pv 1) pe_int (fun _ _ => rfl)) (pa_cons (pe_ix ix_list (pv 1) pe_int (fun _ _ => rfl)) (pa_cons (pe_op op_add_str (pe_op op_add_str (pe_ix ix_list (pv 1) pe_int (fun _ _ => rfl)) pe_str) (pe_ix ix_list (pv 1) pe_int (fun _ _ => rfl))) (pa_cons (pe_op op_add_str (pe_op op_add_str (pe_ix ix_list (pv 1) pe_int (fun _ _ => rfl)) pe_str) (pe_ix ix_list (pv 1) pe_int (fun _ _ => rfl))) (pa_cons (pe_ix ix_list (pv 1) pe_int (fun _ _ => rfl)) pa_nil))))))))
    (pss_cons (ps_set (i := 2) sc_law_boxes.nd rfl (.inl rfl) (pe_op op_cat (pv 2) (pe_lst (pa_cons (pe_op op_add_str (pe_op op_add_str (pe_ix ix_list (pv 1) pe_int (fun _ _ => rfl)) pe_str) (pe_ix ix_list (pv 1) pe_int (fun _ _ => rfl))) (pa_cons (pe_ix ix_list (pv 1) pe_int (fun _ _ => rfl)) (pa_cons (pe_ix ix_list (pv 1) pe_int (fun _ _ => rfl)) pa_nil))))))
    (pss_cons (ps_if (pt_cmpR op_eq (C8.pe_c c_law_draw hr (by omega) rfl (pa_cons (pv 0) (pa_cons pe_int pa_nil))) pe_int (nomark _))
    (pss_one (ps_asg (pe_op op_add_str (pe_op op_add_str (pe_ix ix_list (pv 1) pe_int (fun _ _ => rfl)) pe_str) (pe_ix ix_list (pv 1) pe_int (fun _ _ => rfl))) (pg_sub (pv 2) pe_int set_list)))
    pss_nil)
    (pss_one (ps_ret (pe_slice sl_list (pe_slice sl_list (pv 2) (po_some (C8.pe_c c_law_draw hr (by omega) rfl (pa_cons (pv 0) (pa_cons pe_int pa_nil)))) po_none) po_none (po_some (pe_op op_add pe_int (C8.pe_c c_law_some hr (by omega) rfl (pa_cons (pv 0) (pa_cons pe_int (pa_cons pe_int pa_nil)))))))))))), ?_⟩
  obtain ⟨n0, n1, n2, n3, n4, n5, rest, rfl⟩ : ∃ n0 n1 n2 n3 n4 n5 rest, ns = n0 :: n1 :: n2 :: n3 :: n4 :: n5 :: rest := by
    rcases ns with _ | ⟨n0, _ | ⟨n1, _ | ⟨n2, _ | ⟨n3, _ | ⟨n4, _ | ⟨n5, rest⟩⟩⟩⟩⟩⟩ <;> first | (simp at hnl; done) | exact ⟨_, _, _, _, _, _, _, rfl⟩
  have o0 := hno n0 (by simp)
  have o1 := hno n1 (by simp)
  have o2 := hno n2 (by simp)
  have o3 := hno n3 (by simp)
  have o4 := hno n4 (by simp)
  have o5 := hno n5 (by simp)
  have lens := And.intro o0.len (And.intro o1.len (And.intro o2.len o3.len))
  have al : a ≠ l := hdk.ne_strs ha
  have nm : ∀ {H' : Hp} {x : Option V} (i : Nat) (d : PyData), H' a = some (.lst ((n0 :: n1 :: n2 :: n3 :: n4 :: n5 :: rest).map V.str)) → ((n0 :: n1 :: n2 :: n3 :: n4 :: n5 :: rest).map PyData.str)[i]? = some d → EvD (tOp (rIxL K) (tVar 1) (tC (.int (i : Nat)))) [some (.ref l), some (.ref a), x] H' d := fun i d h1 h2 => evd_ixLR (K := K) (n := i) (ev_var rfl) h1 ims_strs h2
  have cat : ∀ {H' : Hp} {x : Option V} {ta tb : TE} {p q z : Str}, EvD ta [some (.ref l), some (.ref a), x] H' (.str p) → EvD tb [some (.ref l), some (.ref a), x] H' (.str q) → p.length ≤ 20 → q.length ≤ 20 → z.length ≤ 5 → EvD (tOp (fun x y H Q => ∃ i j, x = .str i ∧ y = .str j ∧ i.length + j.length ≤ sizeLine ∧ Q (.str (i ++ j)) H) (tOp (fun x y H Q => ∃ i j, x = .str i ∧ y = .str j ∧ i.length + j.length ≤ sizeLine ∧ Q (.str (i ++ j)) H) ta (tC (.str z))) tb) [some (.ref l), some (.ref a), x] H' (.str (p ++ z ++ q)) := fun {H' x ta tb p q z} h1 h2 hp hq hz => evd_adds (evd_adds h1 evd_str (by omega)) h2 (by rw [len_app]; omega)
  have dl := dot_ok.2
  have kl := kdot_ok.2
  -- the first six
  refine qd_lst (ds := [n0, n1, n2, n0 ++ Str.ofString "." ++ n1, n0 ++ Str.ofString "." ++ n2, n3].map PyData.str) (evds_cons (nm 0 _ ha rfl) (evds_cons (nm 1 _ ha rfl) (evds_cons (nm 2 _ ha rfl) (evds_cons (cat (nm 0 _ ha rfl) (nm 1 _ ha rfl) o0.len o1.len dl) (evds_cons (cat (nm 0 _ ha rfl) (nm 2 _ ha rfl) o0.len o2.len dl) (evds_cons (nm 3 _ ha rfl) evds_nil)))))) (by simp) fun s1 vs1 H1 ns1 e1 h1 i1 => ?_
  have := i1.strs_
  subst this
  have ha1 := e1 _ _ ha
  have d1 : DS [l] l H H1 := (DS.start hdk).ex e1
  -- and three more
  refine ⟨.ref s1, rfl, ?_⟩
  refine (evds_cons (cat (x := some (.ref s1)) (nm 3 _ ha1 rfl) (nm 0 _ ha1 rfl) o3.len o0.len dl) (evds_cons (nm 4 _ ha1 rfl) (evds_cons (nm 5 _ ha1 rfl) evds_nil))) H1 (Ex.refl H1) _ fun vs2 H2 e2 i2 => ⟨sz_of (by rw [i2.len]; simp), fun p hp => ?_⟩
  have := Ims.strs_ (l := [n3 ++ Str.ofString "." ++ n0, n4, n5]) i2
  subst this
  have e3 := e2.trans (Ex.new (o := .lst ([n3 ++ Str.ofString "." ++ n0, n4, n5].map V.str)) hp)
  refine ⟨s1, p, _, _, rfl, rfl, e3 _ _ h1, upd_same, sz_of (by simp), fun s2 hs2 => ?_⟩
  have d2 := (d1.ex e3).new (o := .lst ([n0, n1, n2, n0 ++ Str.ofString "." ++ n1, n0 ++ Str.ofString "." ++ n2, n3].map V.str ++ [n3 ++ Str.ofString "." ++ n0, n4, n5].map V.str)) hs2
  have S2H := (d1.ex e3).fresh hs2
  have S2l := (d1.ex e3).dk.ne_none hs2
  have h2 := upd_same (H := upd H2 p (.lst ([n3 ++ Str.ofString "." ++ n0, n4, n5].map V.str))) (a := s2) (o := .lst ([n0, n1, n2, n0 ++ Str.ofString "." ++ n1, n0 ++ Str.ofString "." ++ n2, n3].map V.str ++ [n3 ++ Str.ofString "." ++ n0, n4, n5].map V.str))
  have ha3 := (e3.trans (Ex.new (o := .lst ([n0, n1, n2, n0 ++ Str.ofString "." ++ n1, n0 ++ Str.ofString "." ++ n2, n3].map V.str ++ [n3 ++ Str.ofString "." ++ n0, n4, n5].map V.str)) hs2)) _ _ ha1
  generalize upd (upd H2 p (.lst ([n3 ++ Str.ofString "." ++ n0, n4, n5].map V.str))) s2 (.lst ([n0, n1, n2, n0 ++ Str.ofString "." ++ n1, n0 ++ Str.ofString "." ++ n2, n3].map V.str ++ [n3 ++ Str.ofString "." ++ n0, n4, n5].map V.str)) = H3 at d2 h2 ha3
  have h2 : H3 s2 = some (.lst ([n0, n1, n2, n0 ++ Str.ofString "." ++ n1, n0 ++ Str.ofString "." ++ n2, n3, n3 ++ Str.ofString "." ++ n0, n4, n5].map V.str)) := h2
  dsimp only [gName, List.set]
  -- the end
  have fin : ∀ {H4 : Hp} {b5 : Str}, BxOk b5 → DS [l] l H H4 → H4 s2 = some (.lst ([n0, n1, n2, n0 ++ Str.ofString "." ++ n1, n0 ++ Str.ofString "." ++ n2, b5, n3 ++ Str.ofString "." ++ n0, n4, n5].map V.str)) →
      tRet (tSl (rSlL K) (tSl (rSlL K) (tVar 2) (tPart (tCall spLDraw [] C8.E0 (tCons (tVar 0) (tCons (tC (.int 4)) tNil)))) tNoPart) tNoPart (tPart (tOp (rI0 fun i j => .int (i + j)) (tC (.int 3)) (tCall spLSome [] C8.E0 (tCons (tVar 0) (tCons (tC (.int 2)) (tCons (tC (.int 5)) tNil))))))) { nx := fun _ H' => Q .non H', rt := Q } [some (.ref l), some (.ref a), some (.ref s2)] H4 := fun {H4 b5} ob d4 h4 => by
    refine ⟨.ref s2, rfl, ?_⟩
    refine go_draw (ev_var (i := 0) rfl) ev_c d4.dk ⟨by decide, by decide⟩ fun r H5 ra rb dk5 kp5 kt5 => ?_
    have d5 := d4.draw dk5 kp5 kt5
    have h5 := kp5 _ _ h4 (by simpa using S2l)
    refine ⟨r, rfl, s2, _, rfl, SqL.of h5, fun p5 hp5 => ?_⟩
    have d6 := d5.new (o := .lst (cutV ([n0, n1, n2, n0 ++ Str.ofString "." ++ n1, n0 ++ Str.ofString "." ++ n2, b5, n3 ++ Str.ofString "." ++ n0, n4, n5].map V.str) (some r) none)) hp5
    have P5l := d5.dk.ne_none hp5
    refine go_some (ev_var (i := 0) rfl) ev_c ev_c d6.dk ⟨by decide, by decide⟩ fun r2 H7 hr2 dk7 kp7 kt7 => ?_
    have d7 := d6.draw dk7 kp7 kt7
    have h7 := kp7 _ _ upd_same (by simpa using P5l)
    refine ⟨3, r2, rfl, rfl, 3 + r2, rfl, p5, _, rfl, SqL.of h7, fun q hq => ?_⟩
    obtain ⟨cs, hcs, c1, c2, c3⟩ := cut_boxes n0 n1 n2 (n0 ++ Str.ofString "." ++ n1) (n0 ++ Str.ofString "." ++ n2) b5 (n3 ++ Str.ofString "." ++ n0) n4 n5 ⟨ra, rb⟩ hr2
    refine k q cs _ (d7.fresh hq) c1 c2 (fun c hc => ?_) (by rw [upd_same, hcs]) (d7.new hq)
    have := c3 c hc
    simp only [List.mem_cons, List.not_mem_nil, or_false] at this
    rcases this with rfl | rfl | rfl | rfl | rfl | rfl | rfl | rfl | rfl
    · exact o0.bx
    · exact o1.bx
    · exact o2.bx
    · exact bx_cat o0 dot_ok o1
    · exact bx_cat o0 dot_ok o2
    · exact ob
    · exact bx_cat o3 dot_ok o0
    · exact o4.bx
    · exact o5.bx
  refine q_seq (go_ifd (ev_var (i := 0) rfl) ev_c d2.dk ⟨by decide, by decide⟩ (fun H4 dk4 kp4 kt4 => ?_) fun H4 dk4 kp4 kt4 => ?_)
  · have d4 := d2.draw dk4 kp4 kt4
    have h4 := kp4 _ _ h2 (by simpa using S2l)
    have ha4 := kp4 _ _ ha3 (by simpa using al)
    refine s_setL (j := 5) (v := .str (n0 ++ Str.ofString "k." ++ n0)) h4 (ev_str (cat (nm 0 _ ha4 rfl) (nm 0 _ ha4 rfl) o0.len o0.len kl)) (ev_var (i := 2) rfl) ev_c (by simp) fun H5 e5 => ?_
    exact fin (bx_cat o0 kdot_ok o0) ((d4.ex e5).mutd S2H S2l (nt_lst (e5 _ _ h4))) upd_same
  · exact fin o3.bx (d2.draw dk4 kp4 kt4) (kp4 _ _ h2 (by simpa using S2l))
end
end K16

set_option Elab.async false
set_option linter.all false
set_option maxRecDepth 100000
set_option maxHeartbeats 4000000
/-! KPlain: the case of which a program is drawn; a plain word -/
namespace K16
open PySem PySem.Spec PyProof.Rows L2 Evl
def caseD (ab aw af ad : Addr) (n : Int) : List (Key × V) := [(.inr "boxes", .ref ab), (.inr "worths", .ref aw), (.inr "faults", .ref af), (.inr "defs", .ref ad), (.inr "room", .int n)]
abbrev encSig (q : Sig) : PyData := .tuple [.str q.1, tstr q.2.1, tstr q.2.2]
structure CsX (E : Env) (sg : List Sig) (H : Hp) (c ab aw af ad : Addr) (n : Int) : Prop where
  obj : H c = some (.dK (caseD ab aw af ad n))
  bx : ∃ bs : List Str, H ab = some (.lst (bs.map V.str)) ∧ 0 < bs.length ∧ bs.length ≤ 9 ∧ ∀ b ∈ bs, b ∈ E.Bs
  ws : ∃ ws : List Str, H aw = some (.lst (ws.map V.str)) ∧ 0 < ws.length ∧ ws.length ≤ 20 ∧ ∀ w ∈ ws, w ∈ E.Ws
  fs : ∃ fs : List Str, H af = some (.lst (fs.map V.str)) ∧ 0 < fs.length ∧ fs.length ≤ 20 ∧ ∀ f ∈ fs, NmOk f
  df : ∃ us : List V, H ad = some (.lst us) ∧ Ims H us (sg.map encSig) ∧ sg.length ≤ 20
/-- what is told of the signatures -/
structure SgOk (E : Env) (sg : List Sig) : Prop where
  par : ∀ q ∈ sg, sub E q.2.1 ∧ sub E q.2.2
  nm : ∀ q ∈ sg, q.1.length ≤ 400 ∧ q.1 ≠ Str.empty ∧ PyData.strOk q.1 = true
section
variable {E : Env} {sg : List Sig} {H H' : Hp} {l c ab aw af ad : Addr} {n n' : Int} {K : PySem.W.Frag} {σ : L2.St} {ta : TE}
theorem ims_refs : ∀ {us : List V} {sg : List Sig}, Ims H us (sg.map encSig) → ∃ as : List Addr, us = as.map V.ref
  | _, [], h => by cases h; exact ⟨[], rfl⟩
  | _, q :: sg, h => by
    cases h with
    | cons h hs =>
      obtain ⟨as, rfl⟩ := ims_refs (sg := sg) hs
      obtain ⟨a, xs, rfl, _, _⟩ := h.tup_
      exact ⟨a :: as, rfl⟩
theorem CsX.kp {S : List Addr} (h : CsX E sg H c ab aw af ad n) (k : Kp S H H') (kt : KT H H') (h1 : ab ∉ S) (h2 : aw ∉ S) (h3 : af ∉ S) (h4 : ad ∉ S) (hc : H' c = some (.dK (caseD ab aw af ad n'))) : CsX E sg H' c ab aw af ad n' := by
  obtain ⟨bs, b1, b2⟩ := h.bx
  obtain ⟨ws, w1, w2⟩ := h.ws
  obtain ⟨fs, f1, f2⟩ := h.fs
  obtain ⟨us, u1, u2, u3⟩ := h.df
  exact ⟨hc, ⟨bs, k _ _ b1 h1, b2⟩, ⟨ws, k _ _ w1 h2, w2⟩, ⟨fs, k _ _ f1 h3, f2⟩, ⟨us, k _ _ u1 h4, u2.mono kt, u3⟩⟩
theorem CsX.ne (h : CsX E sg H c ab aw af ad n) (dk : Dk H l) : c ≠ l ∧ ab ≠ l ∧ aw ≠ l ∧ af ≠ l ∧ ad ≠ l := by
  obtain ⟨bs, b1, _⟩ := h.bx
  obtain ⟨ws, w1, _⟩ := h.ws
  obtain ⟨fs, f1, _⟩ := h.fs
  obtain ⟨us, u1, u2, _⟩ := h.df
  obtain ⟨as, rfl⟩ := ims_refs u2
  exact ⟨dk.ne_dK h.obj, dk.ne_strs b1, dk.ne_strs w1, dk.ne_strs f1, dk.ne_refs u1⟩
theorem CsX.nc (h : CsX E sg H c ab aw af ad n) : ab ≠ c ∧ aw ≠ c ∧ af ≠ c ∧ ad ≠ c := by
  obtain ⟨bs, b1, _⟩ := h.bx
  obtain ⟨ws, w1, _⟩ := h.ws
  obtain ⟨fs, f1, _⟩ := h.fs
  obtain ⟨us, u1, u2, _⟩ := h.df
  have ho := h.obj
  exact ⟨fun z => (by rw [z, ho] at b1; cases b1), fun z => (by rw [z, ho] at w1; cases w1), fun z => (by rw [z, ho] at f1; cases f1), fun z => (by rw [z, ho] at u1; cases u1)⟩
/-- drawn from the deck alone -/
theorem CsX.draw (h : CsX E sg H c ab aw af ad n) (dk : Dk H l) (k : Kp [l] H H') (kt : KT H H') : CsX E sg H' c ab aw af ad n := by
  obtain ⟨n1, n2, n3, n4, n5⟩ := h.ne dk
  exact h.kp k kt (by simpa using n2) (by simpa using n3) (by simpa using n4) (by simpa using n5) (k _ _ h.obj (by simpa using n1))
theorem CsX.ds (h : CsX E sg H c ab aw af ad n) (dk : Dk H l) (d : DS [l] l H H') : CsX E sg H' c ab aw af ad n := h.draw dk d.kp d.kt
/-- the room has changed, too -/
theorem CsX.back (h : CsX E sg H c ab aw af ad n) (dk : Dk H l) (d : DS [l, c] l H H') (hc : H' c = some (.dK (caseD ab aw af ad n'))) : CsX E sg H' c ab aw af ad n' := by
  obtain ⟨n1, n2, n3, n4, n5⟩ := h.ne dk
  obtain ⟨m2, m3, m4, m5⟩ := h.nc
  exact h.kp d.kp d.kt (by simp [n2, m2]) (by simp [n3, m3]) (by simp [n4, m4]) (by simp [n5, m5]) hc
theorem CsX.eBx (h : CsX E sg H c ab aw af ad n) (ha : Ev ta σ H (.ref c)) : Ev (tDGet ta (tC (.str "boxes"))) σ H (.ref ab) := ev_dget ha h.obj (by rfl)
theorem CsX.eWs (h : CsX E sg H c ab aw af ad n) (ha : Ev ta σ H (.ref c)) : Ev (tDGet ta (tC (.str "worths"))) σ H (.ref aw) := ev_dget ha h.obj (by rfl)
theorem CsX.eFs (h : CsX E sg H c ab aw af ad n) (ha : Ev ta σ H (.ref c)) : Ev (tDGet ta (tC (.str "faults"))) σ H (.ref af) := ev_dget ha h.obj (by rfl)
theorem CsX.eDf (h : CsX E sg H c ab aw af ad n) (ha : Ev ta σ H (.ref c)) : Ev (tDGet ta (tC (.str "defs"))) σ H (.ref ad) := ev_dget ha h.obj (by rfl)
theorem CsX.eRm (h : CsX E sg H c ab aw af ad n) (ha : Ev ta σ H (.ref c)) : Ev (tDGet ta (tC (.str "room"))) σ H (.int n) := ev_dget ha h.obj (by rfl)
end
theorem first_noDot (b : Str) : noDot (firstName b) := fun h => by
  have h : dot ∈ b.cps.toList.takeWhile fun c => decide (c ≠ dot) := h
  have key : ∀ l : List Nat, dot ∉ l.takeWhile fun c => decide (c ≠ dot) := fun l => by
    induction l with
    | nil => simp
    | cons c l ih =>
      rw [List.takeWhile_cons]
      split
      · next q =>
        rw [List.mem_cons, not_or]
        exact ⟨fun z => by rw [← z] at q; simp at q, ih⟩
      · simp
  exact key _ h
theorem first_ok {b : Str} (h : PyData.strOk b = true) : PyData.strOk (firstName b) = true := by
  rw [strOk_iff] at h ⊢
  intro c hc
  have hc : c ∈ b.cps.toList.takeWhile fun c => decide (c ≠ dot) := hc
  exact h c ((List.takeWhile_sublist _).subset hc)
theorem first_len (b : Str) : (firstName b).length ≤ b.length := by
  show (b.cps.toList.takeWhile fun c => decide (c ≠ dot)).toArray.size ≤ b.cps.size
  rw [List.size_toArray]
  have := (List.takeWhile_sublist (fun c => decide (c ≠ dot)) (l := b.cps.toList)).length_le
  simpa using this
/-- a word that stands anywhere -/
def okAny (E : Env) (sg : List Sig) (w : Word) : Prop := (∀ k lo, okW E sg k lo w) ∧ shW w
def σP (l c : Addr) (way : Int) (x y z : Str) : L2.St := [some (.ref l), some (.ref c), some (.int way), some (.str x), some (.str y), some (.str z), none]
def spLPlain : Sp := fun vs H Q _ => ∃ E sg l c ab aw af ad n, vs = [.ref l, .ref c] ∧ EnvOk E ∧ EnvS E ∧ Dk H l ∧ CsX E sg H c ab aw af ad n ∧
  ∀ wd u H', okAny E sg wd → Im H' u (encW wd) → DS [l] l H H' → Q u H'
section
variable {P : Program} {w : World} {K : PySem.W.Frag} {mg : Str → Option Value} {base : Heap}
theorem sc_law_plain : FnScope ["_law_deck_here", "_law_case", "_law_way", "_law_x", "_law_y", "_law_z", "_law_k"] ["_law_deck_here", "_law_case"] (defScope s_law_plain) := ⟨rfl, rfl, rfl, by decide +kernel, rfl, by decide +kernel, by decide +kernel⟩
theorem ok_law_plain (T : Fx K mg) : C8.Cal P w K mg base 3 "_law_plain" spLPlain [] := by
  obtain ⟨fd, F⟩ := T.f_law_plain
  have c_law_draw := ok_law_draw (P := P) (w := w) (base := base) T
  have c_law_some := ok_law_some (P := P) (w := w) (base := base) T
  have c_law_one_of := ok_law_one_of (P := P) (w := w) (base := base) T
  have c_law_picked := ok_law_picked (P := P) (w := w) (base := base) T
  refine cal_of F T.g_law_plain sc_law_plain (fun _ _ _ _ _ _ us hl => match us, hl with | [_, _], _ => rfl) (by rintro vs H Q E ⟨_, _, _, _, _, _, _, _, _, rfl, _⟩; rfl) fun cdv A outer s0 H vs Q E0 hr hsp => ?_
  obtain ⟨E, sg, l, c, ab, aw, af, ad, rm, rfl, ok, es, hdk, hc, k⟩ := hsp
  have hu := hu_of hr
  refine ⟨_, (pss_cons (ps_set (i := 2) sc_law_plain.nd rfl (.inl rfl) (C8.pe_c c_law_draw hr (by omega) rfl (pa_cons (pv 0) (pa_cons pe_int pa_nil))))
    (pss_cons (ps_asg (pe_lc (own := [("_law_k", 6)]) rfl sc_law_plain.nd (pi_range1 (by rfl) T.range_ (pa_cons pe_int pa_nil)) (blkOk_by (own := [("_law_k", 6)]) (N := ["_law_deck_here", "_law_case", "_law_way", "_law_x", "_law_y", "_law_z", "_law_k"]) (sc := defScope s_law_plain) (by decide +kernel)) (fun _ _ _ _ _ => pg_name (i := 6) sc_law_plain.nd rfl (.inl rfl)) (fun _ _ _ _ _ => pts_nil) (fun _ _ _ _ _ => by exact (C8.pe_c c_law_one_of hr (by omega) rfl (pa_cons (pv 0) (pa_cons (pe_dget hu (pv 1) pe_str (fun _ _ => rfl)) pa_nil))))) (pg_unl rfl (pgs_cons (pg_name (i := 3) sc_law_plain.nd rfl (.inl rfl)) (pgs_cons (pg_name (i := 4) sc_law_plain.nd rfl (.inl rfl)) (pgs_cons (pg_name (i := 5) sc_law_plain.nd rfl (.inl rfl)) pgs_nil)))))
    (pss_cons (ps_if (pt_cmpR op_lt (pv 2) pe_int (nomark _))
    (pss_one (ps_ret (pe_tup (pa_cons pe_str (pa_cons (pv 3) (pa_cons (C8.pe_c c_law_one_of hr (by omega) rfl (pa_cons (pv 0) (pa_cons (pe_dget hu (pv 1) pe_str (fun _ _ => rfl)) pa_nil))) pa_nil))))))
    pss_nil)
    (pss_cons (ps_if (pt_cmpR op_eq (pv 2) pe_int (nomark _))
    (pss_one (ps_ret (pe_tup (pa_cons pe_str (pa_cons (pv 3) pa_nil)))))
    pss_nil)
    (pss_cons (ps_if (pt_cmpR op_eq (pv 2) pe_int (nomark _))
    (pss_one (ps_ret (pe_tup (pa_cons pe_str (pa_cons (pv 3) (pa_cons (pe_ix ix_list (pe_lst (pa_cons pe_int (pa_cons pe_int (pa_cons pe_int (pa_cons (C8.pe_c c_law_draw hr (by omega) rfl (pa_cons (pv 0) (pa_cons pe_int pa_nil))) pa_nil))))) (C8.pe_c c_law_draw hr (by omega) rfl (pa_cons (pv 0) (pa_cons pe_int pa_nil))) (fun _ _ => rfl)) pa_nil))))))
    pss_nil)
    (pss_cons (ps_if (pt_cmpR op_lt (pv 2) pe_int (nomark _))
    (pss_one (ps_ret (pe_tup (pa_cons pe_str (pa_cons (pv 3) (pa_cons (pv 4) pa_nil))))))
    pss_nil)
    (pss_cons (ps_if (pt_cmpR op_lt (pv 2) pe_int (nomark _))
    (pss_one (ps_ret (pe_ix ix_list (pe_lst (pa_cons (pe_tup (pa_cons pe_str (pa_cons (pv 3) (pa_cons (pv 4) (pa_cons (pv 5) pa_nil))))) (pa_cons (pe_tup (pa_cons pe_str (pa_cons (pv 3) (pa_cons (pv 4) pa_nil)))) pa_nil))) (pe_op op_sub (pv 2) pe_int) (fun _ _ => rfl))))
    pss_nil)
    (pss_cons (ps_if (pt_cmpR op_eq (pv 2) pe_int (nomark _))
    (pss_one (ps_ret (pe_tup (pa_cons pe_str (pa_cons (pv 3) pa_nil)))))
    pss_nil)
    (pss_cons (ps_if (pt_cmpR op_eq (pv 2) pe_int (nomark _))
    (pss_one (ps_ret (pe_tup (pa_cons pe_str (pa_cons (C8.pe_c c_law_picked hr (by omega) rfl (pa_cons (pv 0) (pa_cons (pe_dget hu (pv 1) pe_str (fun _ _ => rfl)) (pa_cons (pe_op op_add pe_int (C8.pe_c c_law_some hr (by omega) rfl (pa_cons (pv 0) (pa_cons pe_int (pa_cons pe_int pa_nil))))) pa_nil)))) pa_nil)))))
    pss_nil)
    (pss_one (ps_ret (pe_ix ix_list (pe_lst (pa_cons (pe_tup (pa_cons pe_str (pa_cons (pv 3) pa_nil))) (pa_cons (pe_tup (pa_cons pe_str (pa_cons (pe_ix ix_list (pe_split (pv 3) pe_str) pe_int (fun _ _ => rfl)) pa_nil))) (pa_cons (pe_tup (pa_cons pe_str (pa_cons (pe_ix ix_list (pe_split (pe_ix ix_list (pe_dget hu (pv 1) pe_str (fun _ _ => rfl)) pe_int (fun _ _ => rfl)) pe_str) pe_int (fun _ _ => rfl)) pa_nil))) pa_nil)))) (C8.pe_c c_law_draw hr (by omega) rfl (pa_cons (pv 0) (pa_cons pe_int pa_nil))) (fun _ _ => rfl))))))))))))), ?_⟩
  obtain ⟨bs, hbs, hb0, hb9, hbE⟩ := id hc.bx
  -- the way
  refine go_draw (ev_var (i := 0) rfl) ev_c hdk ⟨by decide, by decide⟩ fun way H1 wa wb dk1 kp1 kt1 => ?_
  have d1 : DS [l] l H H1 := (DS.start hdk).draw dk1 kp1 kt1
  dsimp only [gName, List.set]
  -- three boxes
  refine ⟨3, rfl, by decide, by decide, fun D hD => lc_range (fun i H' => ∃ ss : List Str, H' D = some (.lst (ss.map V.str)) ∧ ss.length = i ∧ (∀ s ∈ ss, s ∈ bs) ∧ DS [l] l H H') ⟨[], upd_same, rfl, (fun s hs => by cases hs), d1.new hD⟩ ?_ ?_⟩
  · rintro i H2 hi ⟨ss, q1, q2, q3, q4⟩
    refine ⟨rfl, yes_go ?_⟩
    have hc2 := hc.ds hdk q4
    obtain ⟨_, nb, _⟩ := hc.ne hdk
    refine go_one (ev_var (i := 0) rfl) (hc2.eBx (ev_var (i := 1) rfl)) (q4.kp _ _ hbs (by simpa using nb)) nb q4.dk ⟨by simp; omega, by simp; omega⟩ fun x H3 hx dk3 kp3 kt3 => ?_
    obtain ⟨s, hs, rfl⟩ := List.mem_map.mp hx
    have Dl : D ≠ l := dk1.ne_none hD
    have q5 := kp3 _ _ q1 (by simpa using Dl)
    refine ⟨ss.map V.str, q5, sz_lt (by rw [List.length_map]; omega), ss ++ [s], by rw [upd_same]; simp, by simp [q2], fun t ht => ?_, (q4.draw dk3 kp3 kt3).mutd (d1.fresh hD) Dl (nt_lst q5)⟩
    rcases List.mem_append.mp ht with ht | ht
    · exact q3 t ht
    · rw [List.mem_singleton.mp ht]; exact hs
  rintro H2 ⟨ss, q1, q2, q3, d2⟩
  obtain ⟨x, y, z, rfl⟩ : ∃ x y z, ss = [x, y, z] := by
    rcases ss with _ | ⟨x, _ | ⟨y, _ | ⟨z, _ | ⟨_, _⟩⟩⟩⟩ <;> first | exact ⟨_, _, _, rfl⟩ | (simp at q2; done)
  have hx := hbE x (q3 x (by simp))
  have hy := hbE y (q3 y (by simp))
  have hz := hbE z (q3 z (by simp))
  have hc2 := hc.ds hdk d2
  refine go_unl3 (K := K) (x := .str x) (y := .str y) (z := .str z) q1 ?_
  have eσ : ((((L2.start ["_law_deck_here", "_law_case", "_law_way", "_law_x", "_law_y", "_law_z", "_law_k"] [.ref l, .ref c]).set 2 (some (.int way))).set 3 (some (.str x))).set 4 (some (.str y))).set 5 (some (.str z)) = σP l c way x y z := rfl
  rw [eσ]
  have v0 : ∀ {H'}, Ev (tVar 0) (σP l c way x y z) H' (.ref l) := ev_var rfl
  have v1 : ∀ {H'}, Ev (tVar 1) (σP l c way x y z) H' (.ref c) := ev_var rfl
  have v2 : ∀ {H'}, EvD (tVar 2) (σP l c way x y z) H' (.int way) := evd_var rfl (.int _)
  have v3 : ∀ {H'}, EvD (tVar 3) (σP l c way x y z) H' (.str x) := evd_var rfl (.str _)
  have v4 : ∀ {H'}, EvD (tVar 4) (σP l c way x y z) H' (.str y) := evd_var rfl (.str _)
  have v5 : ∀ {H'}, EvD (tVar 5) (σP l c way x y z) H' (.str z) := evd_var rfl (.str _)
  have lt : ∀ {H'} (m : Int), EvT (tTest (tOp (rI0 fun i j => .bl (decide (i < j))) (tVar 2) (tC (.int m)))) (σP l c way x y z) H' (decide (way < m)) := fun m => evt_lt v2 evd_int
  have eq : ∀ {H'} (m : Int), EvT (tTest (tOp rEq (tVar 2) (tC (.int m)))) (σP l c way x y z) H' (decide (way = m)) := fun m => evt_eq v2 evd_int rfl
  have fin : ∀ {H3 H4 : Hp} {wd : Word} {u : V}, okAny E sg wd → DS [l] l H H3 → Ex H3 H4 → Im H4 u (encW wd) → Q u H4 := fun {H3 H4 wd u} h1 d e i => k wd u H4 h1 i (d.ex e)
  -- take
  by_cases w1 : way < 2
  · refine q_yes (evt_yes (lt 2) (decide_eq_true w1)) fun H3 e3 => ?_
    have d3 := d2.ex e3
    have hc3 := hc.ds hdk d3
    obtain ⟨ws, hws, ws0, ws1, wsE⟩ := id hc3.ws
    obtain ⟨_, _, nw, _⟩ := hc3.ne d3.dk
    refine tr_go (tc_go evd_str fun vt H3' e3' it => tc_go v3 fun vx H4 e4' ix => ?_)
    have e4 := e3'.trans e4'
    refine tc_any (go_one v0 ((hc.ds hdk (d3.ex e4)).eWs v1) (e4 _ _ hws) nw (d3.ex e4).dk ⟨by simp; omega, by simp; omega⟩ fun u H5 hu5 dk5 kp5 kt5 => ?_)
    obtain ⟨s, hs, rfl⟩ := List.mem_map.mp hu5
    rw [it.str_]
    exact tn_go ⟨sz_of (by simp), fun p hp => k (.take x s) _ _ ⟨fun _ _ => by simp only [okW]; exact ⟨hx, wsE s hs⟩, by simp only [shW]⟩ (Im.new hp (.cons (.str _) (.cons (ix.mono kt5) (.cons (.str _) .nil)))) (((d3.ex e4).draw dk5 kp5 kt5).new hp)⟩
  refine q_no (evt_no (lt 2) (decide_eq_false w1)) fun H3 e3 => ?_
  have d3 := d2.ex e3
  -- ask
  by_cases w2 : way = 2
  · exact q_yes (evt_yes (eq 2) (decide_eq_true w2)) fun H4 e4 => qd_ret (evd_tup (evds_cons evd_str (evds_cons v3 evds_nil))) fun u H5 e5 iu => fin (wd := .ask x) ⟨fun _ _ => by simp only [okW]; exact hx, by simp only [shW]⟩ d3 (e4.trans e5) (by simp only [encW, tlD, hd]; exact iu)
  refine q_no (evt_no (eq 2) (decide_eq_false w2)) fun H4 e4 => ?_
  have d4 := d3.ex e4
  -- number
  by_cases w3 : way = 3
  · refine q_yes (evt_yes (eq 3) (decide_eq_true w3)) fun H5 e5 => ?_
    have d5 := d4.ex e5
    refine tr_go (tc_go evd_str fun vt H6' e6' it => tc_go v3 fun vx H6 e6 ix => ?_)
    rw [it.str_]
    have d6 := (d5.ex e6').ex e6
    refine tc_any ?_
    refine go_draw v0 ev_c d6.dk ⟨by decide, by decide⟩ fun r1 H7 r1a r1b dk7 kp7 kt7 => ⟨sz_of (by simp), fun lx hlx => ?_⟩
    have d7 := d6.draw dk7 kp7 kt7
    have d8 := d7.new (o := .lst [.int 0, .int 1, .int 9999, .int r1]) hlx
    have lxl := d7.dk.ne_none hlx
    refine go_draw v0 ev_c d8.dk ⟨by decide, by decide⟩ fun r2 H9 r2a r2b dk9 kp9 kt9 => ?_
    have d9 := d8.draw dk9 kp9 kt9
    obtain ⟨x1, hx1⟩ : ∃ x1 : Int, atI [V.int 0, V.int 1, V.int 9999, V.int r1] r2 = some (.int x1) := by
      have : r2 = 0 ∨ r2 = 1 ∨ r2 = 2 ∨ r2 = 3 := by omega
      rcases this with rfl | rfl | rfl | rfl
      · exact ⟨0, atI_nat (j := 0) rfl⟩
      · exact ⟨1, atI_nat (j := 1) rfl⟩
      · exact ⟨9999, atI_nat (j := 2) rfl⟩
      · exact ⟨r1, atI_nat (j := 3) rfl⟩
    refine ⟨lx, _, r2, .int x1, rfl, rfl, SqL.of (kp9 _ _ upd_same (by simpa using lxl)), hx1, sz_of (by simp), fun p hp => ?_⟩
    exact k (.num x x1) _ _ ⟨fun _ _ => by simp only [okW]; exact hx, by simp only [shW]⟩ (Im.new hp (.cons (.str _) (.cons (((ix.mono kt7).ex (Ex.new hlx)).mono kt9) (.cons (.int _) .nil)))) (d9.new hp)
  refine q_no (evt_no (eq 3) (decide_eq_false w3)) fun H5 e5 => ?_
  have d5 := d4.ex e5
  -- copy
  by_cases w4 : way < 6
  · exact q_yes (evt_yes (lt 6) (decide_eq_true w4)) fun H6 e6 => qd_ret (evd_tup (evds_cons evd_str (evds_cons v3 (evds_cons v4 evds_nil)))) fun u H7 e7 iu => fin (wd := .copy x y) ⟨fun _ _ => by simp only [okW]; exact ⟨hx, hy⟩, by simp only [shW]⟩ d5 (e6.trans e7) (by simp only [encW, tlD, hd]; exact iu)
  refine q_no (evt_no (lt 6) (decide_eq_false w4)) fun H6 e6 => ?_
  have d6 := d5.ex e6
  -- mix, open
  by_cases w5 : way < 8
  · refine q_yes (evt_yes (lt 8) (decide_eq_true w5)) fun H7 e7 => ?_
    have d7 := d6.ex e7
    have dsx : EvDs (tCons (tTup (tCons (tC (.str "mix")) (tCons (tVar 3) (tCons (tVar 4) (tCons (tVar 5) tNil))))) (tCons (tTup (tCons (tC (.str "open")) (tCons (tVar 3) (tCons (tVar 4) tNil)))) tNil)) (σP l c way x y z) H7 [.tuple [.str "mix", .str x, .str y, .str z], .tuple [.str "open", .str x, .str y]] :=
      evds_cons (evd_tup (evds_cons evd_str (evds_cons v3 (evds_cons v4 (evds_cons v5 evds_nil))))) (evds_cons (evd_tup (evds_cons evd_str (evds_cons v3 (evds_cons v4 evds_nil)))) evds_nil)
    have hw : way = 6 ∨ way = 7 := by omega
    rcases hw with rfl | rfl
    · exact qd_ret (evd_ixLst (K := K) (i := 0) dsx (by simp) (ev_int (evd_sub v2 evd_int)) rfl) fun u H8 e8 iu => fin (wd := .mix x y z) ⟨fun _ _ => by simp only [okW]; exact ⟨hx, hy, hz⟩, by simp only [shW]⟩ d7 e8 (by simp only [encW, tlD, hd]; exact iu)
    · exact qd_ret (evd_ixLst (K := K) (i := 1) dsx (by simp) (ev_int (evd_sub v2 evd_int)) rfl) fun u H8 e8 iu => fin (wd := .opn x y) ⟨fun _ _ => by simp only [okW]; exact ⟨hx, hy⟩, by simp only [shW]⟩ d7 e8 (by simp only [encW, tlD, hd]; exact iu)
  refine q_no (evt_no (lt 8) (decide_eq_false w5)) fun H7 e7 => ?_
  have d7 := d6.ex e7
  -- tell
  by_cases w6 : way = 8
  · exact q_yes (evt_yes (eq 8) (decide_eq_true w6)) fun H8 e8 => qd_ret (evd_tup (evds_cons evd_str (evds_cons v3 evds_nil))) fun u H9 e9 iu => fin (wd := .tell x) ⟨fun _ _ => by simp only [okW]; exact hx, by simp only [shW]⟩ d7 (e8.trans e9) (by simp only [encW, tlD, hd]; exact iu)
  refine q_no (evt_no (eq 8) (decide_eq_false w6)) fun H8 e8 => ?_
  have d8 := d7.ex e8
  -- drop
  by_cases w7 : way = 9
  · refine q_yes (evt_yes (eq 9) (decide_eq_true w7)) fun H9 e9 => ?_
    refine tr_go (tc_go evd_str fun vt HA eA it => ?_)
    rw [it.str_]
    have dA := (d8.ex e9).ex eA
    have hcA := hc.ds hdk dA
    obtain ⟨bs, hbs, _, hb9, hbE⟩ := id hcA.bx
    refine tc_any (go_pick v0 (hcA.eBx v1) hbs dA.dk (by omega) (fun HB eB Q2 q2 => go_some v0 ev_c ev_c (dA.dk.ex eB) ⟨by decide, by decide⟩ fun r HC hr dk kp kt => ⟨1, r, rfl, rfl, q2 _ HC (by omega) dk kp kt⟩) fun ys u HB hys hyl iu dk kp kt => ?_)
    exact tn_go ⟨sz_of (by simp), fun p hp => k (.drop ys) _ _ ⟨fun _ _ => by simp only [okW]; exact ⟨fun b hb => hbE b (hys b hb), by omega⟩, by simp only [shW]⟩ (Im.new hp (.cons (.str _) (.cons iu .nil))) ((dA.draw dk kp kt).new hp)⟩
  refine q_no (evt_no (eq 9) (decide_eq_false w7)) fun H9 e9 => ?_
  have d9 := d8.ex e9
  have hc9 := hc.ds hdk d9
  -- wipe, clear
  obtain ⟨bs, hbs, hb0, hb9, hbE⟩ := id hc9.bx
  obtain ⟨b0, hb0', hb0E⟩ : ∃ b, bs[0]? = some b ∧ b ∈ E.Bs := ⟨bs[0], List.getElem?_eq_getElem hb0, hbE _ (List.getElem_mem hb0)⟩
  have fx : ∀ {b : Str}, b ∈ E.Bs → okAny E sg (.clear (firstName b)) := fun {b} hb => ⟨fun _ _ => by simp only [okW]; exact ⟨first_noDot b, first_ok (ok.bok b hb).1⟩, by simp only [shW]; have := first_len b; have := es.b b hb; omega⟩
  have lx := (ok.bok x hx).2
  have lb := (ok.bok b0 hb0E).2
  have dsx : EvDs (tCons (tTup (tCons (tC (.str "wipe")) (tCons (tVar 3) tNil))) (tCons (tTup (tCons (tC (.str "clear")) (tCons (tOp (rIxL K) (tM1 (fun x xs H Q => ∃ a b, x = .str a ∧ xs = [.str b] ∧ (b.length == 0) = false ∧ a.length + 2 ≤ sizeLine ∧ rNewStrs (Txt.split a b) H Q) (tVar 3) (tC (.str "."))) (tC (.int 0))) tNil)))
      (tCons (tTup (tCons (tC (.str "clear")) (tCons (tOp (rIxL K) (tM1 (fun x xs H Q => ∃ a b, x = .str a ∧ xs = [.str b] ∧ (b.length == 0) = false ∧ a.length + 2 ≤ sizeLine ∧ rNewStrs (Txt.split a b) H Q) (tOp (rIxL K) (tDGet (tVar 1) (tC (.str "boxes"))) (tC (.int 0))) (tC (.str "."))) (tC (.int 0))) tNil))) tNil))) (σP l c way x y z) H9
      [.tuple [.str "wipe", .str x], .tuple [.str "clear", .str (firstName x)], .tuple [.str "clear", .str (firstName b0)]] :=
    evds_cons (evd_tup (evds_cons evd_str (evds_cons v3 evds_nil))) (evds_cons (evd_tup (evds_cons evd_str (evds_cons (evd_first (K := K) v3 lx) evds_nil))) (evds_cons (evd_tup (evds_cons evd_str (evds_cons (evd_first (K := K) (evd_ixLR (K := K) (n := 0) (hc9.eBx v1) hbs ims_strs (by rw [List.getElem?_map, hb0']; rfl)) lb) evds_nil))) evds_nil))
  refine tr_e (go_ixLst (K := K) dsx (by simp) fun p vs HB hp eB hpB iB => ?_)
  have dB := d9.ex eB
  have pl := d9.dk.ne_none hp
  refine go_draw v0 ev_c dB.dk ⟨by decide, by decide⟩ fun r HC r0 r1 dk kp kt => ?_
  have dC := dB.draw dk kp kt
  have hpC := kp _ _ hpB (by simpa using pl)
  have iC := iB.mono kt
  obtain ⟨n, rfl⟩ := Int.eq_ofNat_of_zero_le r0
  have hn : n = 0 ∨ n = 1 ∨ n = 2 := by omega
  rcases hn with rfl | rfl | rfl
  · obtain ⟨v, hv, iv⟩ := iC.get (i := 0) rfl
    exact ⟨p, vs, _, v, rfl, rfl, SqL.of hpC, atI_nat hv, k (.wipe x) v HC ⟨fun _ _ => by simp only [okW]; exact hx, by simp only [shW]⟩ (by simp only [encW, tlD, hd]; exact iv) dC⟩
  · obtain ⟨v, hv, iv⟩ := iC.get (i := 1) rfl
    exact ⟨p, vs, _, v, rfl, rfl, SqL.of hpC, atI_nat hv, k (.clear (firstName x)) v HC (fx hx) (by simp only [encW, tlD, hd]; exact iv) dC⟩
  · obtain ⟨v, hv, iv⟩ := iC.get (i := 2) rfl
    exact ⟨p, vs, _, v, rfl, rfl, SqL.of hpC, atI_nat hv, k (.clear (firstName b0)) v HC (fx hb0E) (by simp only [encW, tlD, hd]; exact iv) dC⟩
end
end K16

set_option Elab.async false
set_option linter.all false
set_option maxRecDepth 100000
set_option maxHeartbeats 4000000
/-! KGrow: rows that are grown, words that lead: by levels -/
namespace K16
open PySem PySem.Spec PyProof.Rows L2 Evl
def spLLead (n : Nat) : Sp := fun vs H Q _ => ∃ E sg l c ab aw af ad rm, ∃ lo : Nat, vs = [.ref l, .ref c, .int (n : Nat), .int (lo : Nat)] ∧ EnvOk E ∧ EnvS E ∧ SgOk E sg ∧ Dk H l ∧ CsX E sg H c ab aw af ad rm ∧ lo + n ≤ 10 ∧
  ∀ wd u H' rm', okW E sg n lo wd → shW wd → Im H' u (encW wd) → DS [l, c] l H H' → H' c = some (.dK (caseD ab aw af ad rm')) → Q u H'
def spLGrown (n : Nat) : Sp := fun vs H Q _ => ∃ E sg l c ab aw af ad rm, ∃ lo most : Nat, vs = [.ref l, .ref c, .int (n : Nat), .int (lo : Nat), .int (most : Nat)] ∧ EnvOk E ∧ EnvS E ∧ SgOk E sg ∧ Dk H l ∧ CsX E sg H c ab aw af ad rm ∧ lo + n ≤ 10 ∧ most ≤ 10 ∧
  ∀ r u H' rm', okR E sg n lo r → shR r → r.length ≤ most → Im H' u (encRow r) → DS [l, c] l H H' → H' c = some (.dK (caseD ab aw af ad rm')) → Q u H'
section
variable {E : Env} {sg : List Sig} {H H' : Hp} {l c ab aw af ad : Addr} {n m : Int} {K : PySem.W.Frag} {σ : L2.St} {ta te : TE} {D : Ends}
/-- case['room'] = e -/
theorem CsX.sRm (h : CsX E sg H c ab aw af ad n) (ha : ∀ H1, Ev ta σ H1 (.ref c)) (he : EvD te σ H (.int m)) (k : ∀ H', Kp [c] H H' → KT H H' → H' c = some (.dK (caseD ab aw af ad m)) → D.nx σ H') : sDPut ta (tC (.str "room")) te D σ H := by
  refine he H (Ex.refl H) _ fun v H1 e1 iv => ha H1 H1 (Ex.refl H1) _ fun H2 e2 => ?_
  have ho := e2 _ _ (e1 _ _ h.obj)
  have := iv.int_
  subst this
  refine ⟨c, _, rfl, DPut.k (k := Sum.inr "room") ho (sz_lt (by simp [caseD])), ?_⟩
  exact k _ ((Kp.of (e1.trans e2)).mut (by simp)) ((KT.of (e1.trans e2)).trans ((KT.refl H2).upd (nt_dK ho))) (by rw [upd_same]; rfl)
theorem evt_room (h : CsX E sg H c ab aw af ad n) (ha : Ev ta σ H (.ref c)) : EvT (tTest (tOp (rI0 fun i j => .bl (decide (j < i))) (tDGet ta (tC (.str "room"))) (tC (.int 0)))) σ H (decide (0 < n)) := evt_gt (evd_ev (h.eRm ha) (.int _)) evd_int
end
/-- what was grown in i turns -/
def GrP (E : Env) (sg : List Sig) (H : Hp) (l c fo ab aw af ad : Addr) (n lo most N i : Nat) (σ' : L2.St) (H' : Hp) : Prop := ∃ (x : Option V) (us : List V) (r : Row) (rm' : Int), σ' = [some (.ref l), some (.ref c), some (.int (n : Nat)), some (.int (lo : Nat)), some (.int (most : Nat)), some (.ref fo), x] ∧ H' fo = some (.lst us) ∧ Ims H' us (encR r) ∧ okR E sg n lo r ∧ shR r ∧ r.length ≤ i ∧ N ≤ most ∧ DS [l, c] l H H' ∧ H' c = some (.dK (caseD ab aw af ad rm'))
section
variable {P : Program} {w : World} {K : PySem.W.Frag} {mg : Str → Option Value} {base : Heap}
theorem sc_law_grown : FnScope ["_law_deck_here", "_law_case", "_law_deep", "_law_loops", "_law_most", "_law_found", "_law_k"] ["_law_deck_here", "_law_case", "_law_deep", "_law_loops", "_law_most"] (defScope s_law_grown) := ⟨rfl, rfl, rfl, by decide +kernel, rfl, by decide +kernel, by decide +kernel⟩
theorem grown_step (T : Fx K mg) (n : Nat) (c_law_leading : C8.Cal P w K mg base (3 + 2 * n) "_law_leading" (spLLead n) []) : C8.Cal P w K mg base (4 + 2 * n) "_law_grown" (spLGrown n) [] := by
  obtain ⟨fd, F⟩ := T.f_law_grown
  have c_law_draw := ok_law_draw (P := P) (w := w) (base := base) T
  have c_law_plain := ok_law_plain (P := P) (w := w) (base := base) T
  rw [Nat.add_right_comm 3 1 (2 * n)]
  refine cal_of F T.g_law_grown sc_law_grown (fun _ _ _ _ _ _ us hl => match us, hl with | [_, _, _, _, _], _ => rfl) (by rintro vs H Q E ⟨_, _, _, _, _, _, _, _, _, _, _, rfl, _⟩; rfl) fun cdv A outer s0 H vs Q E0 hr hsp => ?_
  obtain ⟨E, sg, l, c, ab, aw, af, ad, rm, lo, most, rfl, ok, es, sok, hdk, hc, hlo, hmost, k⟩ := hsp
  have hu := hu_of hr
  refine ⟨_, (pss_cons (ps_set (i := 5) sc_law_grown.nd rfl (.inl rfl) (pe_lst pa_nil))
    (pss_cons (ps_for PassesOwn.never rfl (pi_range1 (by rfl) T.range_ (pa_cons (C8.pe_c c_law_draw hr (by omega) rfl (pa_cons (pv 0) (pa_cons (pe_op op_add (pv 4) pe_int) pa_nil))) pa_nil)) (pg_name (i := 6) sc_law_grown.nd rfl (.inl rfl))
    (pss_one (ps_if (pt_cmpR op_gt (pe_dget hu (pv 1) pe_str (fun _ _ => rfl)) pe_int (nomark _))
    (pss_cons (ps_dput hu (pv 1) pe_str (pe_op op_sub (pe_dget hu (pv 1) pe_str (fun _ _ => rfl)) pe_int) rfl)
    (pss_one (ps_if (pt_cmpR op_eq (C8.pe_c c_law_draw hr (by omega) rfl (pa_cons (pv 0) (pa_cons pe_int pa_nil))) pe_int (nomark _))
    (pss_one (ps_expr (pe_bm PySem.F.plainAttrs_list PySem.F.slot_list_append PySem.F.type_list_append mt_append (pv 5) (pa_cons (C8.pe_c c_law_leading hr (by omega) rfl (pa_cons (pv 0) (pa_cons (pv 1) (pa_cons (pv 2) (pa_cons (pv 3) pa_nil))))) pa_nil))))
    (pss_one (ps_expr (pe_bm PySem.F.plainAttrs_list PySem.F.slot_list_append PySem.F.type_list_append mt_append (pv 5) (pa_cons (C8.pe_c c_law_plain hr (by omega) rfl (pa_cons (pv 0) (pa_cons (pv 1) pa_nil))) pa_nil)))))))
    pss_nil)))
    (pss_one (ps_ret (pe_callTy call_tuple_of (by rfl) T.tuple_ boot_tuple (pa_cons (pv 5) pa_nil)))))), ?_⟩
  obtain ⟨ncl, _⟩ := hc.ne hdk
  refine qd_lst (ds := []) evds_nil (by simp) fun fo vs H1 nfo e1 hfo i1 => ?_
  cases i1
  have fol := hdk.ne_none nfo
  have foc : fo ≠ c := fun z => by rw [z, hc.obj] at nfo; cases nfo
  have hd1 := hdk.ex e1
  refine q_seq (s_forD (j := 6) (m := (most : Int) + 1) (ev_var (i := 0) rfl) (ev_op (ev_var (i := 4) rfl) ev_c rv_I0) hd1 ⟨by omega, by omega⟩
    (GrP E sg H l c fo ab aw af ad n lo most)
    (fun N H2 hN dk2 kp2 kt2 => ⟨none, [], [], rm, rfl, kp2 _ _ hfo (by simpa using fol), by simp only [encR]; exact .nil, by simp only [okR], by simp only [shR], by simp, by omega, ((DS.start (S := [l, c]) hdk).ex e1).go dk2 kp2 kt2 (by simp), kp2 _ _ (e1 _ _ hc.obj) (by simpa using ncl)⟩) ?_ ?_)
  · rintro N i σ' H' hi ⟨x, us, r, rm', rfl, q1, q2, q3, q4, q5, q6, q7, q8⟩
    have eσ : ([some (.ref l), some (.ref c), some (.int (n : Nat)), some (.int (lo : Nat)), some (.int (most : Nat)), some (.ref fo), x] : L2.St).set 6 (some (.int (i : Int))) = [some (.ref l), some (.ref c), some (.int (n : Nat)), some (.int (lo : Nat)), some (.int (most : Nat)), some (.ref fo), some (.int (i : Int))] := rfl
    rw [eσ]
    have hc' := hc.back hdk q7 q8
    refine s_if (evt_room hc' (ev_var (i := 1) rfl)) (fun hp H2 e2 => ?_) fun hp H2 e2 => ?_
    · have q72 := q7.ex e2
      have hc2 := hc.back hdk q72 (e2 _ _ q8)
      refine q_seq (hc2.sRm (m := rm' - 1) (fun _ => ev_var (i := 1) rfl) (evd_sub (evd_ev (hc2.eRm (ev_var (i := 1) rfl)) (.int _)) evd_int) fun H3 kp3 kt3 hc3 => ?_)
      have dk3 : Dk H3 l := q72.dk.kp kp3 (by simpa using Ne.symm ncl)
      have q73 := q72.go (S' := [c]) dk3 kp3 kt3 (by simp)
      have f3 := kp3 _ _ (e2 _ _ q1) (by simpa using foc)
      have i3 := (q2.ex e2).mono kt3
      have ul : us.length < 100000 := by have := q2.len; rw [encR_len] at this; omega
      have nx : ∀ {H4 : Hp} {wd : Word} {u : V} {rm4 : Int}, KT H3 H4 → H4 fo = some (.lst us) → DS [l, c] l H H4 → H4 c = some (.dK (caseD ab aw af ad rm4)) → okW E sg n lo wd → shW wd → Im H4 u (encW wd) →
          GrP E sg H l c fo ab aw af ad n lo most N (i + 1) [some (.ref l), some (.ref c), some (.int (n : Nat)), some (.int (lo : Nat)), some (.int (most : Nat)), some (.ref fo), some (.int (i : Int))] (upd H4 fo (.lst (us ++ [u]))) := fun {H4 wd u rm4} kt4 f4 d4 c4 ow sw iu => by
        refine ⟨_, us ++ [u], r ++ [wd], rm4, rfl, upd_same, ?_, okR_app q3 (by simp only [okR]; exact ⟨ow, trivial⟩), shR_app q4 (by simp only [shR]; exact ⟨sw, trivial⟩), by simp; omega, q6, d4.mutd nfo fol (nt_lst f4), by rw [upd_ne (Ne.symm foc)]; exact c4⟩
        rw [encR_map, List.map_append, ← encR_map]
        exact (Ims.append (i3.mono kt4) (.cons iu .nil)).upd (nt_lst f4)
      refine go_ifd (ev_var (i := 0) rfl) ev_c dk3 ⟨by decide, by decide⟩ (fun H4 dk4 kp4 kt4 => ?_) fun H4 dk4 kp4 kt4 => ?_
      · have d4 := q73.draw dk4 kp4 kt4
        have c4 := kp4 _ _ hc3 (by simpa using ncl)
        have f4 := kp4 _ _ f3 (by simpa using fol)
        have hc4 := hc.back hdk d4 c4
        refine go_app (i := 5) rfl f4 ?_
        refine ⟨.ref l, rfl, .ref c, rfl, .int (n : Nat), rfl, .int (lo : Nat), rfl, E, sg, l, c, ab, aw, af, ad, rm' - 1, lo, rfl, ok, es, sok, d4.dk, hc4, hlo, fun wd u H5 rm5 ow sw iu d5 c5 => ?_⟩
        have f5 := d5.kp _ _ f4 (by simp [fol, foc])
        exact go_appEnd f5 ul (nx (kt4.trans d5.kt) f5 (d4.go d5.dk d5.kp d5.kt fun _ h => h) c5 ow sw iu)
      · have d4 := q73.draw dk4 kp4 kt4
        have c4 := kp4 _ _ hc3 (by simpa using ncl)
        have f4 := kp4 _ _ f3 (by simpa using fol)
        have hc4 := hc.back hdk d4 c4
        refine go_app (i := 5) rfl f4 ?_
        refine ⟨.ref l, rfl, .ref c, rfl, E, sg, l, c, ab, aw, af, ad, rm' - 1, rfl, ok, es, d4.dk, hc4, fun wd u H5 hw iu d5 => ?_⟩
        have f5 := d5.kp _ _ f4 (by simpa using fol)
        exact go_appEnd f5 ul (nx (kt4.trans d5.kt) f5 (d4.draw d5.dk d5.kp d5.kt) (d5.kp _ _ c4 (by simpa using ncl)) (hw.1 _ _) hw.2 iu)
    · exact ⟨_, us, r, rm', rfl, e2 _ _ q1, q2.ex e2, q3, q4, by omega, q6, q7.ex e2, e2 _ _ q8⟩
  · rintro N σ' H' ⟨x, us, r, rm', rfl, q1, q2, q3, q4, q5, q6, q7, q8⟩
    exact qd_ret (d := encRow r) (evd_tupR (ev_var (i := 5) rfl) q1 q2) fun u H6 e6 i6 => k r u H6 rm' q3 q4 (by omega) i6 (q7.ex e6) (e6 _ _ q8)
end
end K16

set_option Elab.async false
set_option linter.all false
set_option maxRecDepth 100000
set_option maxHeartbeats 4000000
/-! KLead: a word that leads -/
namespace K16
open PySem PySem.Spec PyProof.Rows L2 Evl
section
variable {K : PySem.W.Frag} {σ : L2.St} {H : Hp} {l : Addr} {ta tb tc te : TE} {t u : TT} {Q : VK} {X : XK} {m n : Int} {D : Ends} {tz tu : TS} {ds : List PyData} {d : PyData}
/-- what follows is told of once -/
theorem q_cut (P0 : L2.St → Hp → Prop) (h1 : ∀ σ' H', P0 σ' H' → tz D σ' H') (h2 : (∀ σ' H', P0 σ' H' → tz D σ' H') → tSeq tu tz D σ H) : tSeq tu tz D σ H := h2 h1
theorem q_ifR (h : t σ H fun b H1 => if b = true then tu { D with nx := tz D } σ H1 else tz D σ H1) : tSeq (tIfS t tu tNext) tz D σ H := h
theorem go_andT {R : Bool → Hp → Prop} (h : EvT t σ H true) (k : ∀ H1, Ex H H1 → u σ H1 R) : tAnd t u σ H R := h H (Ex.refl H) _ fun H1 e1 => by
  rw [if_pos rfl]
  exact k H1 e1
theorem go_teq {R : Bool → Hp → Prop} (ha : Ev ta σ H (.ref l)) (hb : Ev tb σ H (.int m)) (dk : Dk H l) (hm : 0 < m ∧ m < 1000000000) (k : ∀ b H', Dk H' l → Kp [l] H H' → KT H H' → R b H') : tTest (tOp rEq (tCall spLDraw [] X (tCons ta (tCons tb tNil))) (tC (.int n))) σ H R :=
  go_draw ha hb dk hm fun r H' _ _ dk' kp kt => ⟨rfl, _, rfl, k _ H' dk' kp kt⟩
theorem go_1some {f m : Int} (ha : Ev ta σ H (.ref l)) (hb : Ev tb σ H (.int f)) (hc : Ev tc σ H (.int m)) (dk : Dk H l) (hf : 0 ≤ f ∧ f < 1000) (k : ∀ r H', (0 ≤ r ∧ r ≤ f) ∨ r = m → Dk H' l → Kp [l] H H' → KT H H' → Q (.int (1 + r)) H') : tOp (rI0 fun i j => .int (i + j)) (tC (.int 1)) (tCall spLSome [] X (tCons ta (tCons tb (tCons tc tNil)))) σ H Q :=
  go_some ha hb hc dk hf fun r H' h0 dk' kp kt => ⟨1, r, rfl, rfl, k r H' h0 dk' kp kt⟩
theorem sas_go {i : Nat} (h : te σ H fun v H1 => D.nx (σ.set i (some v)) H1) : tAsg te (gName i) D σ H := h
theorem asg_go {i : Nat} (h : te σ H fun v H1 => tz D (σ.set i (some v)) H1) : tSeq (tAsg te (gName i)) tz D σ H := h
/-- a, b, c = a tuple of three -/
theorem go_tup3 {i j k : Nat} {a : Addr} {x y z : V} {R : L2.St → Hp → Prop} (hl : H a = some (.tup [x, y, z])) (h : R (((σ.set i (some x)).set j (some y)).set k (some z)) H) : gTup K 3 (gCons (gName i) (gCons (gName j) (gCons (gName k) gNil))) (.ref a) σ H R :=
  ⟨a, _, rfl, SqT.of hl, rfl, x, _, rfl, y, _, rfl, z, _, rfl, rfl, h⟩
theorem tup_go {g : TG} (h : te σ H fun v H1 => g v σ H1 (tz D)) : tSeq (tAsg te g) tz D σ H := h
/-- xs != [] -/
theorem evt_neNil {a : Addr} {us : List V} (h : Ev ta σ H (.ref a)) (ha : H a = some (.lst us)) (hu : Ims H us ds) (hs : SeqAt.shaped (.list ds) = true) : EvT (tTest (tOp (rNeD K) ta (tLst tNil))) σ H (!ds.isEmpty) := fun H1 e1 Q q =>
  h H1 e1 _ fun H2 e2 => ⟨Nat.zero_le _, fun p hp => ⟨.list ds, .list [], .lst (SqL.of ((Ex.new hp) _ _ (e2 _ _ (e1 _ _ ha)))) (hu.ex ((e1.trans e2).trans (Ex.new hp))).dp, .lst (SqL.of upd_same) .nil, hs, by decide +kernel, _, rfl, by
    have e : PyData.eqv (.list ds) (.list []) = ds.isEmpty := by cases ds <;> rfl
    rw [e]
    exact q _ (e2.trans (Ex.new hp))⟩⟩
theorem evd_rep01 (h : EvD ta σ H (.tuple (d :: ds))) (hn : EvD tb σ H (.int n)) (h01 : n = 0 ∨ n = 1) : EvD (tOp (rRep01 K) ta tb) σ H (.tuple (if n = 1 then d :: ds else [])) :=
  evd_op h hn fun v u H1 _ iv iu Q q => by
    obtain ⟨a, xs, rfl, ha, hx⟩ := iv.tup_
    have := iu.int_
    subst this
    refine ⟨a, n, xs, rfl, rfl, SqT.of ha, fun z => (by subst z; cases hx), ?_⟩
    rcases h01 with rfl | rfl
    · exact .inr ⟨rfl, fun p hp => q _ _ (Ex.new hp) (.tup upd_same .nil)⟩
    · exact .inl ⟨rfl, q _ H1 (Ex.refl H1) (.tup ha hx)⟩
/-- a call of grown -/
theorem go_grown {E : Env} {sg : List Sig} {c ab aw af ad : Addr} {rm : Int} {k lo most : Nat} {t : TA} (h : EvA t σ H [.ref l, .ref c, .int (k : Nat), .int (lo : Nat), .int (most : Nat)]) (ok : EnvOk E) (es : EnvS E) (sok : SgOk E sg) (dk : Dk H l) (hc : CsX E sg H c ab aw af ad rm) (hlo : lo + k ≤ 10) (hm : most ≤ 10)
    (q : ∀ r u H' rm', okR E sg k lo r → shR r → r.length ≤ most → Im H' u (encRow r) → DS [l, c] l H H' → H' c = some (.dK (caseD ab aw af ad rm')) → Q u H') : tCall (spLGrown k) [] X t σ H Q :=
  h H (Ex.refl H) _ fun H1 e1 => ⟨E, sg, l, c, ab, aw, af, ad, rm, lo, most, rfl, ok, es, sok, dk.ex e1, hc.kp (S := []) (Kp.of e1) (KT.of e1) (by simp) (by simp) (by simp) (by simp) (e1 _ _ hc.obj), hlo, hm, fun r u H' rm' h1 h2 h3 h4 d h5 => q r u H' rm' h1 h2 h3 h4 ⟨d.dk, (Kp.of e1).trans d.kp, (KT.of e1).trans d.kt⟩ h5⟩
end
theorem sg_shaped {E : Env} {sg : List Sig} (ok : EnvOk E) (h : SgOk E sg) : SeqAt.shaped (.list (sg.map encSig)) = true := by
  have key : ∀ sg : List Sig, SgOk E sg → LayAll 3 (sg.map encSig) := fun sg => by
    induction sg with
    | nil => exact fun _ => lay_nil
    | cons q sg ih =>
      intro h
      have hq := h.par q (by simp)
      exact lay_cons (lay_mono (lay_tup (lay_cons (lay_str (n := 1) (h.nm q (by simp)).2.2) (lay_cons (lay_strs fun b hb => (ok.bok b (hq.1.1 b hb)).1) (lay_cons (lay_strs fun b hb => (ok.bok b (hq.2.1 b hb)).1) lay_nil)))) (by omega)) (ih ⟨fun q hq => h.par q (by simp [hq]), fun q hq => h.nm q (by simp [hq])⟩)
  have hl := key sg h
  unfold SeqAt.shaped
  rw [Bool.and_eq_true]
  refine ⟨hl.1, decide_eq_true ?_⟩
  simp only [PyData.depth]
  have := hl.2
  omega
theorem ims_mem {H : Hp} : ∀ {us : List V} {sg : List Sig} {x : V}, Ims H us (sg.map encSig) → x ∈ us → ∃ q ∈ sg, Im H x (encSig q)
  | _, [], _, h, hx => by cases h; cases hx
  | _, q :: sg, x, h, hx => by
    cases h with
    | cons h hs =>
      rcases List.mem_cons.mp hx with rfl | hx
      · exact ⟨q, by simp, h⟩
      · obtain ⟨q', hq, hi⟩ := ims_mem (sg := sg) hs hx
        exact ⟨q', by simp [hq], hi⟩
/-- int(draw(..) > 0 and case['room'] > 0) -/
theorem go_outH {E : Env} {sg : List Sig} {H : Hp} {l c ab aw af ad : Addr} {rm m : Int} {σ : L2.St} {ta tb td : TE} {Q : VK} {X : XK} (ha : Ev ta σ H (.ref l)) (hb : Ev tb σ H (.int m)) (hm : 0 < m ∧ m < 1000000000) (dk : Dk H l) (hc : CsX E sg H c ab aw af ad rm) (hd : ∀ H1, Ev td σ H1 (.ref c)) (k : ∀ o H', (o = 0 ∨ o = 1) → Dk H' l → Kp [l] H H' → KT H H' → Q (.int o) H') :
    tCB (fun xs H Q => (∃ i, xs = [.int i] ∧ Q (.int i) H) ∨ ∃ k, xs = [.bl k] ∧ Q (.int (if k then 1 else 0)) H) (tCons (tAndV (tOp (rI0 fun i j => .bl (decide (j < i))) (tCall spLDraw [] X (tCons ta (tCons tb tNil))) (tC (.int 0))) (tOp (rI0 fun i j => .bl (decide (j < i))) (tDGet td (tC (.str "room"))) (tC (.int 0)))) tNil) σ H Q := by
  refine go_draw ha hb dk hm fun r H1 r0 r1 dk1 kp1 kt1 => ⟨r, 0, rfl, rfl, decide (0 < r), rfl, ?_⟩
  by_cases h : 0 < r
  · rw [if_pos (decide_eq_true h)]
    have hc1 := hc.draw dk kp1 kt1
    refine (hc1.eRm (hd H1)) H1 (Ex.refl H1) _ fun H2 e2 => ⟨rm, 0, rfl, rfl, .inr ⟨_, rfl, k _ H2 ?_ (dk1.ex e2) (kp1.trans (Kp.of e2)) (kt1.trans (KT.of e2))⟩⟩
    split
    · exact .inr rfl
    · exact .inl rfl
  · rw [if_neg (by rw [decide_eq_false h]; exact Bool.false_ne_true)]
    exact .inr ⟨false, rfl, k _ H1 (.inl rfl) dk1 kp1 kt1⟩
def σL (l c : Addr) (n lo : Nat) (way : Int) (x5 x6 x7 x8 x9 x10 x11 x12 : Option V) : L2.St := [some (.ref l), some (.ref c), some (.int (n : Nat)), some (.int (lo : Nat)), some (.int way), x5, x6, x7, x8, x9, x10, x11, x12, none]
section
variable {P : Program} {w : World} {K : PySem.W.Frag} {mg : Str → Option Value} {base : Heap}
theorem sc_law_leading : FnScope ["_law_deck_here", "_law_case", "_law_deep", "_law_loops", "_law_way", "_law_name", "_law_params", "_law_results", "_law_args", "_law_gets", "_law_row_here", "_law_out_here", "_law_many", "_law_k"] ["_law_deck_here", "_law_case", "_law_deep", "_law_loops"] (defScope s_law_leading) := ⟨rfl, rfl, rfl, by decide +kernel, rfl, by decide +kernel, by decide +kernel⟩
theorem lead_step (T : Fx K mg) (n : Nat) (hn3 : n ≤ 3) (c_law_grown : n ≠ 0 → C8.Cal P w K mg base (4 + 2 * (n - 1)) "_law_grown" (spLGrown (n - 1)) []) : C8.Cal P w K mg base (3 + 2 * n) "_law_leading" (spLLead n) [] := by
  obtain ⟨fd, F⟩ := T.f_law_leading
  have c_law_draw := ok_law_draw (P := P) (w := w) (base := base) T
  have c_law_some := ok_law_some (P := P) (w := w) (base := base) T
  have c_law_one_of := ok_law_one_of (P := P) (w := w) (base := base) T
  have c_law_picked := ok_law_picked (P := P) (w := w) (base := base) T
  rw [Nat.add_right_comm 2 1 (2 * n)]
  refine cal_of F T.g_law_leading sc_law_leading (fun _ _ _ _ _ _ us hl => match us, hl with | [_, _, _, _], _ => rfl) (by rintro vs H Q E ⟨_, _, _, _, _, _, _, _, _, _, rfl, _⟩; rfl) fun cdv A outer s0 H vs Q E0 hr hsp => ?_
  obtain ⟨E, sg, l, c, ab, aw, af, ad, rm, lo, rfl, ok, es, sok, hdk, hc, hlo, k⟩ := hsp
  have hu := hu_of hr
  refine ⟨_, (pss_cons (ps_set (i := 4) sc_law_leading.nd rfl (.inl rfl) (C8.pe_c c_law_draw hr (by omega) rfl (pa_cons (pv 0) (pa_cons pe_int pa_nil))))
    (pss_cons (ps_if (PW.pt (pw_and (pt_cmpR op_eq (pv 4) pe_int (nomark _)) (pw_and1 (pt_cmpR op_gt (pv 3) pe_int (nomark _)))))
    (pss_one (ps_ret (pe_tup (pa_cons pe_str (pa_cons (pe_op op_add pe_int (C8.pe_c c_law_draw hr (by omega) rfl (pa_cons (pv 0) (pa_cons (pv 3) pa_nil)))) pa_nil)))))
    pss_nil)
    (pss_cons (ps_if (pt_cmpR op_eq (pv 4) pe_int (nomark _))
    (pss_one (ps_ret (pe_tup (pa_cons (pe_ix ix_list (pe_lst (pa_cons pe_str (pa_cons pe_str (pa_cons pe_str (pa_cons pe_str pa_nil))))) (C8.pe_c c_law_draw hr (by omega) rfl (pa_cons (pv 0) (pa_cons pe_int pa_nil))) (fun _ _ => rfl)) (pa_cons (C8.pe_c c_law_one_of hr (by omega) rfl (pa_cons (pv 0) (pa_cons (pe_dget hu (pv 1) pe_str (fun _ _ => rfl)) pa_nil))) pa_nil)))))
    pss_nil)
    (pss_cons (ps_if (PW.pt (pw_and (pt_cmpR op_eq (pv 4) pe_int (nomark _)) (pw_and1 (pt_cmpR op_eq (C8.pe_c c_law_draw hr (by omega) rfl (pa_cons (pv 0) (pa_cons pe_int pa_nil))) pe_int (nomark _)))))
    (pss_one (ps_ret (pe_tup (pa_cons pe_str pa_nil))))
    pss_nil)
    (pss_cons (ps_if (PW.pt (pw_and (pt_cmpR op_lt (pv 4) pe_int (nomark _)) (pw_and1 (pt_cmpR (op_neD hr.units) (pe_dget hu (pv 1) pe_str (fun _ _ => rfl)) (pe_lst pa_nil) (nomark _)))))
    (pss_cons (ps_asg (C8.pe_c c_law_one_of hr (by omega) rfl (pa_cons (pv 0) (pa_cons (pe_dget hu (pv 1) pe_str (fun _ _ => rfl)) pa_nil))) (pg_tup rfl (pgs_cons (pg_name (i := 5) sc_law_leading.nd rfl (.inl rfl)) (pgs_cons (pg_name (i := 6) sc_law_leading.nd rfl (.inl rfl)) (pgs_cons (pg_name (i := 7) sc_law_leading.nd rfl (.inl rfl)) pgs_nil)))))
    (pss_cons (ps_set (i := 8) sc_law_leading.nd rfl (.inl rfl) (C8.pe_c c_law_picked hr (by omega) rfl (pa_cons (pv 0) (pa_cons (pe_dget hu (pv 1) pe_str (fun _ _ => rfl)) (pa_cons (pe_callB call_len_seq (by rfl) T.len_ boot_len (pa_cons (pv 6) pa_nil)) pa_nil)))))
    (pss_cons (ps_set (i := 9) sc_law_leading.nd rfl (.inl rfl) (C8.pe_c c_law_picked hr (by omega) rfl (pa_cons (pv 0) (pa_cons (pe_dget hu (pv 1) pe_str (fun _ _ => rfl)) (pa_cons (pe_callB call_len_seq (by rfl) T.len_ boot_len (pa_cons (pv 7) pa_nil)) pa_nil)))))
    (pss_one (ps_if (PW.pt (pw_and (pt_cmpR op_eq (pe_callB call_len_seq (by rfl) T.len_ boot_len (pa_cons (pv 8) pa_nil)) (pe_callB call_len_seq (by rfl) T.len_ boot_len (pa_cons (pv 6) pa_nil)) (nomark _)) (pw_and1 (pt_cmpR op_eq (pe_callB call_len_seq (by rfl) T.len_ boot_len (pa_cons (pv 9) pa_nil)) (pe_callB call_len_seq (by rfl) T.len_ boot_len (pa_cons (pv 7) pa_nil)) (nomark _)))))
    (pss_one (ps_ret (pe_tup (pa_cons pe_str (pa_cons (pv 5) (pa_cons (pv 8) (pa_cons (pv 9) pa_nil)))))))
    pss_nil)))))
    pss_nil)
    (pss_cons (ps_if (PW.pt (pw_and (pt_cmpR op_eq (pv 4) pe_int (nomark _)) (pw_and1 (pt_cmpR op_gt (pv 2) pe_int (nomark _)))))
    (pss_cons (ps_rec fun h0 => ps_set (i := 10) sc_law_leading.nd rfl (.inl rfl) (C8.pe_c (c_law_grown h0) hr (by omega) rfl (pa_cons (pv 0) (pa_cons (pv 1) (pa_cons (pe_op op_sub (pv 2) pe_int) (pa_cons (pe_op op_add (pv 3) pe_int) (pa_cons pe_int pa_nil)))))))
    (pss_cons (ps_set (i := 11) sc_law_leading.nd rfl (.inl rfl) (pe_callTy call_int1 (by rfl) T.int_ boot_int (pa_cons (pe_and (pe_cmpR op_gt (C8.pe_c c_law_draw hr (by omega) rfl (pa_cons (pv 0) (pa_cons pe_int pa_nil))) pe_int (nomark _)) (pe_one (pe_cmpR op_gt (pe_dget hu (pv 1) pe_str (fun _ _ => rfl)) pe_int (nomark _)))) pa_nil)))
    (pss_cons (ps_dput hu (pv 1) pe_str (pe_op op_sub (pe_dget hu (pv 1) pe_str (fun _ _ => rfl)) (pv 11)) rfl)
    (pss_one (ps_ret (pe_tup (pa_cons pe_str (pa_cons (pe_op op_catA (pv 10) (pe_op op_rep01 (pe_tup (pa_cons (pe_tup (pa_cons pe_str (pa_cons pe_int pa_nil))) pa_nil)) (pv 11))) pa_nil))))))))
    pss_nil)
    (pss_cons (ps_if (pt_cmpR op_gt (pv 2) pe_int (nomark _))
    (pss_cons (ps_set (i := 12) sc_law_leading.nd rfl (.inl rfl) (pe_op op_add pe_int (C8.pe_c c_law_some hr (by omega) rfl (pa_cons (pv 0) (pa_cons pe_int (pa_cons pe_int pa_nil))))))
    (pss_one (ps_rec fun h0 => ps_ret (pe_tup (pa_cons pe_str (pa_cons (pe_callTy call_tuple_of (by rfl) T.tuple_ boot_tuple (pa_cons (pe_lc (own := [("_law_k", 13)]) rfl sc_law_leading.nd (pi_range1 (by rfl) T.range_ (pa_cons (pv 12) pa_nil)) (blkOk_by (own := [("_law_k", 13)]) (N := ["_law_deck_here", "_law_case", "_law_deep", "_law_loops", "_law_way", "_law_name", "_law_params", "_law_results", "_law_args", "_law_gets", "_law_row_here", "_law_out_here", "_law_many", "_law_k"]) (sc := defScope s_law_leading) (by decide +kernel)) (fun _ _ _ _ _ => pg_name (i := 13) sc_law_leading.nd rfl (.inl rfl)) (fun _ _ _ _ _ => pts_nil) (fun _ _ _ _ _ => by exact (C8.pe_c (c_law_grown h0) hr (by omega) rfl (pa_cons (pv 0) (pa_cons (pv 1) (pa_cons (pe_op op_sub (pv 2) pe_int) (pa_cons (pv 3) (pa_cons pe_int pa_nil)))))))) pa_nil)) pa_nil))))))
    pss_nil)
    (pss_one (ps_ret (pe_tup (pa_cons pe_str (pa_cons (C8.pe_c c_law_one_of hr (by omega) rfl (pa_cons (pv 0) (pa_cons (pe_dget hu (pv 1) pe_str (fun _ _ => rfl)) pa_nil))) pa_nil)))))))))))), ?_⟩
  obtain ⟨ncl, nbl, nwl, nfl, ndl⟩ := hc.ne hdk
  have fin : ∀ {H3 H4 : Hp} {wd : Word} {u : V}, okW E sg n lo wd → shW wd → DS [l] l H H3 → Ex H3 H4 → Im H4 u (encW wd) → Q u H4 := fun {H3 H4 wd u} h1 h2 d e i => k wd u H4 rm h1 h2 i ⟨d.dk.ex e, (d.kp.mono (by simp)).trans (Kp.of e), d.kt.trans (KT.of e)⟩ (e _ _ (d.kp _ _ hc.obj (by simpa using ncl)))
  -- the way
  refine asg_go (go_draw (ev_var (i := 0) rfl) ev_c hdk ⟨by decide, by decide⟩ fun way H1 wa wb dk1 kp1 kt1 => ?_)
  have d1 : DS [l] l H H1 := (DS.start hdk).draw dk1 kp1 kt1
  have eσ : (L2.start ["_law_deck_here", "_law_case", "_law_deep", "_law_loops", "_law_way", "_law_name", "_law_params", "_law_results", "_law_args", "_law_gets", "_law_row_here", "_law_out_here", "_law_many", "_law_k"] [.ref l, .ref c, .int (n : Nat), .int (lo : Nat)]).set 4 (some (.int way)) = σL l c n lo way none none none none none none none none := rfl
  rw [eσ]
  have v0 : ∀ {H' x5 x6 x7 x8 x9 x10 x11 x12}, Ev (tVar 0) (σL l c n lo way x5 x6 x7 x8 x9 x10 x11 x12) H' (.ref l) := ev_var rfl
  have v1 : ∀ {H' x5 x6 x7 x8 x9 x10 x11 x12}, Ev (tVar 1) (σL l c n lo way x5 x6 x7 x8 x9 x10 x11 x12) H' (.ref c) := ev_var rfl
  have v2 : ∀ {H' x5 x6 x7 x8 x9 x10 x11 x12}, EvD (tVar 2) (σL l c n lo way x5 x6 x7 x8 x9 x10 x11 x12) H' (.int (n : Nat)) := evd_var rfl (.int _)
  have v3 : ∀ {H' x5 x6 x7 x8 x9 x10 x11 x12}, EvD (tVar 3) (σL l c n lo way x5 x6 x7 x8 x9 x10 x11 x12) H' (.int (lo : Nat)) := evd_var rfl (.int _)
  have v4 : ∀ {H' x5 x6 x7 x8 x9 x10 x11 x12}, EvD (tVar 4) (σL l c n lo way x5 x6 x7 x8 x9 x10 x11 x12) H' (.int way) := evd_var rfl (.int _)
  have eq : ∀ {H' x5 x6 x7 x8 x9 x10 x11 x12} (m : Int), EvT (tTest (tOp rEq (tVar 4) (tC (.int m)))) (σL l c n lo way x5 x6 x7 x8 x9 x10 x11 x12) H' (decide (way = m)) := fun m => evt_eq v4 evd_int rfl
  -- out
  refine q_cut (fun σ' H' => σ' = σL l c n lo way none none none none none none none none ∧ DS [l] l H H') ?_ fun tail => ?_
  rotate_left
  · have t := et_and (σ := σL l c n lo way none none none none none none none none) (H := H1) (eq 0) fun _ => evt_gt v3 (evd_int (i := 0))
    by_cases h : (decide (way = 0) && decide ((0 : Int) < (lo : Nat))) = true
    · refine q_yes (evt_yes t h) fun H2 e2 => ?_
      rw [Bool.and_eq_true, decide_eq_true_eq, decide_eq_true_eq] at h
      have d2 := d1.ex e2
      refine tr_go (tc_go evd_str fun vt H3 e3 it => tc_any ?_)
      rw [it.str_]
      have d3 := d2.ex e3
      refine go_draw v0 (ev_int v3) d3.dk ⟨h.2, by omega⟩ fun r H4 r0 r1 dk4 kp4 kt4 => ⟨1, r, rfl, rfl, ?_⟩
      obtain ⟨j, rfl⟩ := Int.eq_ofNat_of_zero_le r0
      have d4 := d3.draw dk4 kp4 kt4
      have e1j : ((1 + j : Nat) : Int) = 1 + (j : Int) := by omega
      exact tn_go ⟨sz_of (by simp), fun p hp => fin (wd := .out (1 + j)) (by simp only [okW]; omega) (by simp only [shW]) d4 (Ex.new hp) (Im.new hp (.cons (.str _) (.cons (e1j ▸ .int _) .nil)))⟩
    · exact q_no (evt_no t (by simpa using h)) fun H2 e2 => tail _ _ ⟨rfl, d1.ex e2⟩
  rintro _ H2 ⟨rfl, d2⟩
  -- risk, fault
  by_cases w1 : way = 1
  · refine q_yes (evt_yes (eq 1) (decide_eq_true w1)) fun H3 e3 => ?_
    have d3 := d2.ex e3
    refine tr_go (tc_any (go_ixLst (K := K) (ds := [.str "risk", .str "risk", .str "risk", .str "fault"]) (evds_cons evd_str (evds_cons evd_str (evds_cons evd_str (evds_cons evd_str evds_nil)))) (by decide) fun p vs H4 hp e4 hpv iv => ?_))
    have d4 := d3.ex e4
    have pl := d3.dk.ne_none hp
    refine go_draw v0 ev_c d4.dk ⟨by decide, by decide⟩ fun r H5 r0 r1 dk5 kp5 kt5 => ?_
    have d5 := d4.draw dk5 kp5 kt5
    have hpv5 := kp5 _ _ hpv (by simpa using pl)
    have iv5 := iv.mono kt5
    have hc5 := hc.ds hdk d5
    obtain ⟨fs, hfs, fs0, fs1, fsO⟩ := id hc5.fs
    obtain ⟨b, v, hv, hiv⟩ : ∃ (b : Bool) (v : V), atI vs r = some v ∧ Im H5 v (.str (if b then "risk" else "fault")) := by
      obtain ⟨j, rfl⟩ := Int.eq_ofNat_of_zero_le r0
      have hj : j = 0 ∨ j = 1 ∨ j = 2 ∨ j = 3 := by omega
      rcases hj with rfl | rfl | rfl | rfl
      · obtain ⟨v, hv, iv⟩ := iv5.get (i := 0) rfl; exact ⟨true, v, atI_nat hv, iv⟩
      · obtain ⟨v, hv, iv⟩ := iv5.get (i := 1) rfl; exact ⟨true, v, atI_nat hv, iv⟩
      · obtain ⟨v, hv, iv⟩ := iv5.get (i := 2) rfl; exact ⟨true, v, atI_nat hv, iv⟩
      · obtain ⟨v, hv, iv⟩ := iv5.get (i := 3) rfl; exact ⟨false, v, atI_nat hv, iv⟩
    refine ⟨p, vs, r, v, rfl, rfl, SqL.of hpv5, hv, tc_any (go_one v0 (hc5.eFs v1) hfs nfl d5.dk ⟨by simp; omega, by simp; omega⟩ fun u H6 hu6 dk6 kp6 kt6 => ?_)⟩
    obtain ⟨f, hf, rfl⟩ := List.mem_map.mp hu6
    have of := fsO f hf
    have lf := of.len
    refine tn_go ⟨sz_of (by simp), fun q hq => ?_⟩
    cases b with
    | true => exact fin (wd := .risk f) (by simp only [okW]; exact ⟨of.nd, of.ok⟩) (by simp only [shW]; omega) (d5.draw dk6 kp6 kt6) (Ex.new hq) (Im.new hq (.cons (hiv.mono kt6) (.cons (.str _) .nil)))
    | false => exact fin (wd := .fault f) (by simp only [okW]; exact ⟨of.nd, of.ok⟩) (by simp only [shW]; omega) (d5.draw dk6 kp6 kt6) (Ex.new hq) (Im.new hq (.cons (hiv.mono kt6) (.cons (.str _) .nil)))
  refine q_no (evt_no (eq 1) (decide_eq_false w1)) fun H3 e3 => ?_
  have d3 := d2.ex e3
  -- back
  refine q_cut (fun σ' H' => σ' = σL l c n lo way none none none none none none none none ∧ DS [l] l H H') ?_ fun tail => ?_
  rotate_left
  · by_cases w2 : way = 2
    · refine q_ifR (go_andT (evt_yes (eq 2) (decide_eq_true w2)) fun H4 e4 => go_teq v0 ev_c (d3.ex e4).dk ⟨by decide, by decide⟩ fun b H5 dk5 kp5 kt5 => ?_)
      have d5 := (d3.ex e4).draw dk5 kp5 kt5
      cases b with
      | true =>
        rw [if_pos rfl]
        exact qd_ret (evd_tup (evds_cons evd_str evds_nil)) fun u H6 e6 iu => fin (wd := .back) (by simp only [okW]) (by simp only [shW]) d5 e6 (by simp only [encW, tlD, hd]; exact iu)
      | false =>
        rw [if_neg Bool.false_ne_true]
        exact tail _ _ ⟨rfl, d5⟩
    · exact q_no (et_is (et_and (a := false) (b := false) (evt_no (eq 2) (decide_eq_false w2)) (fun z => nomatch z)) rfl) fun H4 e4 => tail _ _ ⟨rfl, d3.ex e4⟩
  rintro _ H4 ⟨rfl, d4⟩
  -- call
  refine q_cut (fun σ' H' => ∃ x5 x6 x7 x8 x9, σ' = σL l c n lo way x5 x6 x7 x8 x9 none none none ∧ DS [l] l H H') ?_ fun tail => ?_
  rotate_left
  · have hc4 := hc.ds hdk d4
    obtain ⟨us, hus, ius, husl⟩ := id hc4.df
    have t := et_and (σ := σL l c n lo way none none none none none none none none) (H := H4) (evt_lt v4 (evd_int (i := 7))) fun _ => evt_neNil (K := K) (hc4.eDf v1) hus ius (sg_shaped ok sok)
    by_cases h : (decide (way < 7) && !(sg.map encSig).isEmpty) = true
    · refine q_yes (evt_yes t h) fun H5 e5 => ?_
      rw [Bool.and_eq_true] at h
      have hne : 0 < us.length := by
        rw [ius.len]
        cases hs : sg.map encSig with
        | nil => rw [hs] at h; simp at h
        | cons _ _ => simp
      have hul : us.length < 1000 := by rw [ius.len, List.length_map]; omega
      have d5 := d4.ex e5
      have hc5 := hc.ds hdk d5
      refine tup_go (go_one v0 (hc5.eDf v1) (e5 _ _ hus) ndl d5.dk ⟨hne, hul⟩ fun x H6 hx dk6 kp6 kt6 => ?_)
      have d6 := d5.draw dk6 kp6 kt6
      obtain ⟨q, hq, iq0⟩ := ims_mem ius hx
      obtain ⟨p, ps, rfl, hp, ips⟩ := ((iq0.ex e5).mono kt6).tup_
      obtain ⟨vn, vp, vr, rfl, in_, ip, ir⟩ := ips.three
      refine go_tup3 hp ?_
      have e3σ : (((σL l c n lo way none none none none none none none none).set 5 (some vn)).set 6 (some vp)).set 7 (some vr) = σL l c n lo way (some vn) (some vp) (some vr) none none none none none := rfl
      rw [e3σ]
      have hc6 := hc.ds hdk d6
      obtain ⟨bs, hbs, _, hb9, hbE⟩ := id hc6.bx
      -- the args
      refine q_seq (asg_go (go_pick v0 (hc6.eBx v1) hbs dk6 (by omega) (fun H7 e7 Q7 q7 => (evd_len (K := K) (evd_var (i := 6) rfl (ip.ex e7))) H7 (Ex.refl H7) _ fun v H8 e8 iv => by rw [iv.int_]; exact q7 _ H8 (by omega) ((dk6.ex e7).ex e8) (Kp.of e8) (KT.of e8)) fun ys u H7 hys hyl iu dk7 kp7 kt7 => ?_))
      have d7 := d6.draw dk7 kp7 kt7
      have hc7 := hc.ds hdk d7
      have hbs7 := kp7 _ _ hbs (by simpa using nbl)
      rw [show (σL l c n lo way (some vn) (some vp) (some vr) none none none none none).set 8 (some u) = σL l c n lo way (some vn) (some vp) (some vr) (some u) none none none none from rfl]
      -- the gets
      refine asg_go (go_pick v0 (hc7.eBx v1) hbs7 dk7 (by omega) (fun H8 e8 Q7 q7 => (evd_len (K := K) (evd_var (i := 7) rfl ((ir.mono kt7).ex e8))) H8 (Ex.refl H8) _ fun v H9 e9 iv => by rw [iv.int_]; exact q7 _ H9 (by omega) ((dk7.ex e8).ex e9) (Kp.of e9) (KT.of e9)) fun zs u2 H8 hzs hzl iu2 dk8 kp8 kt8 => ?_)
      have d8 := d7.draw dk8 kp8 kt8
      rw [show (σL l c n lo way (some vn) (some vp) (some vr) (some u) none none none none).set 9 (some u2) = σL l c n lo way (some vn) (some vp) (some vr) (some u) (some u2) none none none from rfl]
      have kt68 := kt7.trans kt8
      have ip8 := ip.mono kt68
      have ir8 := ir.mono kt68
      have iu8 := iu.mono kt8
      have t2 := et_and (σ := σL l c n lo way (some vn) (some vp) (some vr) (some u) (some u2) none none none) (H := H8) (evt_eq (evd_len (K := K) (evd_var (i := 8) rfl iu8)) (evd_len (K := K) (evd_var (i := 6) rfl ip8)) rfl) fun _ => evt_eq (evd_len (K := K) (evd_var (i := 9) rfl iu2)) (evd_len (K := K) (evd_var (i := 7) rfl ir8)) rfl
      by_cases h2 : (eqD (.int ((ys.map PyData.str).length : Nat)) (.int ((q.2.1.map PyData.str).length : Nat)) && eqD (.int ((zs.map PyData.str).length : Nat)) (.int ((q.2.2.map PyData.str).length : Nat))) = true
      · refine s_if (evt_yes t2 h2) (fun _ H9 e9 => ?_) (fun z => nomatch z)
        simp only [Bool.and_eq_true, eqD, decide_eq_true_eq, List.length_map] at h2
        have sq := sok.nm q hq
        exact qd_ret (evd_tup (evds_cons evd_str (evds_cons (evd_var (i := 5) rfl ((in_.mono kt68).ex e9)) (evds_cons (evd_var (i := 8) rfl (iu8.ex e9)) (evds_cons (evd_var (i := 9) rfl (iu2.ex e9)) evds_nil))))) fun z HA eA iz => fin (wd := .call q.1 ys zs) (by simp only [okW]; exact ⟨q, hq, rfl, by omega, by omega, ⟨fun b hb => hbE b (hys b hb), by omega⟩, ⟨fun b hb => hbE b (hzs b hb), by omega⟩⟩) (by simp only [shW]; exact sq.1) (d8.ex e9) eA (by simp only [encW, tlD, hd]; exact iz)
      · exact s_if (evt_no t2 (by simpa using h2)) (fun z => nomatch z) (fun _ H9 e9 => tail _ _ ⟨_, _, _, _, _, rfl, d8.ex e9⟩)
    · exact q_no (evt_no t (by simpa using h)) fun H5 e5 => tail _ _ ⟨_, _, _, _, _, rfl, d4.ex e5⟩
  rintro _ H5 ⟨x5, x6, x7, x8, x9, rfl, d5⟩
  have hc5 := hc.ds hdk d5
  have pred : ∀ {H' x10 x11 x12}, n ≠ 0 → Ev (tOp (rI0 fun i j => .int (i - j)) (tVar 2) (tC (.int 1))) (σL l c n lo way x5 x6 x7 x8 x9 x10 x11 x12) H' (.int ((n - 1 : Nat) : Int)) := fun h => ev_is (ev_op (ev_int v2) ev_c rv_I0) (congrArg V.int (by omega))
  have ds0 : ∀ {H3 H4 : Hp}, DS [l] l H H3 → DS [l, c] l H3 H4 → DS [l, c] l H H4 := fun {H3 H4} d e => ⟨e.dk, (d.kp.mono (by simp)).trans e.kp, d.kt.trans e.kt⟩
  -- loop
  have t7 := et_and (σ := σL l c n lo way x5 x6 x7 x8 x9 none none none) (H := H5) (eq 7) fun _ => evt_gt v2 (evd_int (i := 0))
  by_cases h7 : (decide (way = 7) && decide ((0 : Int) < (n : Nat))) = true
  · refine q_yes (evt_yes t7 h7) fun H6 e6 => ?_
    rw [Bool.and_eq_true, decide_eq_true_eq, decide_eq_true_eq] at h7
    have hn : n ≠ 0 := by omega
    have d6 := d5.ex e6
    have hc6 := hc.ds hdk d6
    refine q_seq ⟨hn, sas_go (go_grown (k := n - 1) (lo := lo + 1) (most := 3) (ea_cons v0 (ea_cons v1 (ea_cons (pred hn) (ea_cons (ev_is (ev_op (ev_int v3) ev_c rv_I0) (congrArg V.int (by omega))) (ea_cons ev_c ea_nil))))) ok es sok d6.dk hc6 (by omega) (by omega) fun r u H7 rm7 okr shr hrl iu d7 c7 => ?_)⟩
    rw [show (σL l c n lo way x5 x6 x7 x8 x9 none none none).set 10 (some u) = σL l c n lo way x5 x6 x7 x8 x9 (some u) none none from rfl]
    have D7 := ds0 d6 d7
    have hc7 := hc.back hdk D7 c7
    refine q_seq (sas_go (go_outH v0 ev_c ⟨by decide, by decide⟩ d7.dk hc7 (fun _ => v1) fun o H8 ho dk8 kp8 kt8 => ?_))
    rw [show (σL l c n lo way x5 x6 x7 x8 x9 (some u) none none).set 11 (some (.int o)) = σL l c n lo way x5 x6 x7 x8 x9 (some u) (some (.int o)) none from rfl]
    have D8 := D7.draw dk8 kp8 kt8
    have c8 := kp8 _ _ c7 (by simpa using ncl)
    have hc8 := hc.back hdk D8 c8
    refine q_seq (hc8.sRm (m := rm7 - o) (fun _ => v1) (evd_sub (evd_ev (hc8.eRm v1) (.int _)) (evd_var (i := 11) rfl (.int o))) fun H9 kp9 kt9 c9 => ?_)
    have iu9 := (iu.mono kt8).mono kt9
    have dk9 : Dk H9 l := dk8.kp kp9 (by simpa using Ne.symm ncl)
    have D9 : DS [l, c] l H H9 := D8.go (S' := [c]) dk9 kp9 kt9 (by simp)
    refine qd_ret (d := encW (.loop (r ++ if o = 1 then [.out 1] else []))) (evd_is (evd_tup (evds_cons evd_str (evds_cons (evd_cat (K := K) (ds := encR r) (es := if o = 1 then [encW (.out 1)] else []) (evd_var (i := 10) rfl iu9) (evd_rep01 (K := K) (evd_tup (evds_cons (evd_is (evd_tup (evds_cons evd_str (evds_cons evd_int evds_nil))) (by simp only [encW, tlD, hd]; rfl)) evds_nil)) (evd_var (i := 11) rfl (.int o)) ho) (by rw [encR_len]; split <;> simp <;> omega)) evds_nil))) ?_) fun z HA eA iz => ?_
    · have : encR (r ++ if o = 1 then [.out 1] else []) = encR r ++ if o = 1 then [encW (.out 1)] else [] := by
        rw [encR_map, List.map_append, encR_map]
        split <;> rfl
      simp only [encW, tlD, hd] at this ⊢
      rw [this]
    · refine k (.loop (r ++ if o = 1 then [.out 1] else [])) z HA (rm7 - o) ?_ ?_ iz (D9.ex eA) (eA _ _ c9)
      · simp only [okW]
        refine ⟨⟨by omega, by rw [List.length_append]; split <;> simp <;> omega⟩, okR_app okr ?_⟩
        split
        · simp only [okR, okW]; exact ⟨⟨by omega, by omega⟩, trivial⟩
        · simp only [okR]
      · simp only [shW]
        refine shR_app shr ?_
        split
        · simp only [shR, shW]; exact ⟨trivial, trivial⟩
        · simp only [shR]
  refine q_no (evt_no t7 (by simpa using h7)) fun H6 e6 => ?_
  have d6 := d5.ex e6
  have hc6 := hc.ds hdk d6
  -- choose
  have t8 := evt_gt (σ := σL l c n lo way x5 x6 x7 x8 x9 none none none) (H := H6) v2 (evd_int (i := 0))
  by_cases h8 : (decide ((0 : Int) < (n : Nat))) = true
  · refine q_yes (evt_yes t8 h8) fun H7 e7 => ?_
    rw [decide_eq_true_eq] at h8
    have hn : n ≠ 0 := by omega
    have d7 := d6.ex e7
    have many : ∀ r : Int, (0 ≤ r ∧ r ≤ 1) ∨ r = 3 → ∃ j : Nat, 1 + r = (j : Int) ∧ 1 ≤ j ∧ j ≤ 4 := fun r h => ⟨(1 + r).toNat, by omega, by omega, by omega⟩
    refine q_seq (sas_go (go_1some v0 ev_c ev_c d7.dk ⟨by decide, by decide⟩ fun r H8 hr8 dk8 kp8 kt8 => ?_))
    have d8 := d7.draw dk8 kp8 kt8
    obtain ⟨j, ej, j1, j4⟩ := many r hr8
    rw [ej]
    rw [show (σL l c n lo way x5 x6 x7 x8 x9 none none none).set 12 (some (.int (j : Nat))) = σL l c n lo way x5 x6 x7 x8 x9 none none (some (.int (j : Nat))) from rfl]
    refine ⟨hn, tr_go (tc_go evd_str fun vt H9 e9 it => tc_any ?_)⟩
    have d9 := d8.ex e9
    rw [it.str_]
    have D9 : DS [l, c] l H H9 := ⟨d9.dk, d9.kp.mono (by simp), d9.kt⟩
    have c9 := d9.kp _ _ hc.obj (by simpa using ncl)
    refine ⟨.int (j : Nat), rfl, (j : Nat), rfl, by omega, by omega, fun L hL => ?_⟩
    have Ll := d9.dk.ne_none hL
    have Lc : L ≠ c := fun z => by rw [z, c9] at hL; cases hL
    have LH : H L = none := d9.fresh hL
    refine lc_range (fun i H' => ∃ (rs : List Row) (us : List V) (rm' : Int), H' L = some (.lst us) ∧ Ims H' us (encRs rs) ∧ rs.length = i ∧ (∀ r ∈ rs, (okR E sg (n - 1) lo r ∧ shR r) ∧ r.length ≤ 2) ∧ DS [l, c] l H H' ∧ H' c = some (.dK (caseD ab aw af ad rm'))) ⟨[], [], rm, upd_same, by simp only [encRs]; exact .nil, rfl, (fun r hr => by cases hr), D9.new hL, by rw [upd_ne (Ne.symm Lc)]; exact c9⟩ ?_ ?_
    · rintro i HA hi ⟨rs, us, rm', q1, q2, q3, q4, q5, q6⟩
      refine ⟨rfl, yes_go ?_⟩
      have hcA := hc.back hdk q5 q6
      have ep : ∀ {H' : Hp}, Ev (tOp (rI0 fun i j => .int (i - j)) (tVar 2) (tC (.int 1))) ((wipe (σL l c n lo way x5 x6 x7 x8 x9 none none (some (.int (j : Nat)))) [13]).set 13 (some (.int (0 + (i : Int))))) H' (.int ((n - 1 : Nat) : Int)) := fun {H'} => ev_is (ev_op (ev_var (v := .int (n : Nat)) rfl) ev_c rv_I0) (congrArg V.int (by omega))
      refine go_grown (k := n - 1) (lo := lo) (most := 2) (ea_cons (ev_var (i := 0) rfl) (ea_cons (ev_var (i := 1) rfl) (ea_cons ep (ea_cons (ev_var (i := 3) rfl) (ea_cons ev_c ea_nil))))) ok es sok q5.dk hcA (by omega) (by omega) fun r u HB rmB okr shr hrl iu dB cB => ?_
      have DB := q5.go dB.dk dB.kp dB.kt (fun _ h => h)
      have LB := dB.kp _ _ q1 (by simp [Ll, Lc])
      have iB := q2.mono dB.kt
      refine ⟨us, LB, sz_lt (by have := q2.len; rw [encRs_map, List.length_map] at this; omega), rs ++ [r], us ++ [u], rmB, upd_same, ?_, by simp [q3], fun r2 hr2 => ?_, DB.mutd LH Ll (nt_lst LB), by rw [upd_ne (Ne.symm Lc)]; exact cB⟩
      · rw [encRs_map, List.map_append, ← encRs_map]
        exact (Ims.append iB (.cons iu .nil)).upd (nt_lst LB)
      · rcases List.mem_append.mp hr2 with hr2 | hr2
        · exact q4 r2 hr2
        · rw [List.mem_singleton.mp hr2]; exact ⟨⟨okr, shr⟩, hrl⟩
    · rintro HA ⟨rs, us, rm', q1, q2, q3, q4, q5, q6⟩
      have q3 : rs.length = j := by rw [q3]; omega
      refine ⟨L, us, rfl, .inl ⟨SqL.of q1, fun p hp => tn_go ⟨sz_of (by simp), fun q hq => ?_⟩⟩⟩
      have i1 := Im.new hp q2
      refine k (.choose rs) _ _ rm' ?_ (by simp only [shW]; exact shRs_of fun r hr => (q4 r hr).1.2) (Im.new hq (.cons (.str _) (.cons ?_ .nil))) ((q5.new hp).new hq) ((Ex.new hq) _ _ ((Ex.new hp) _ _ q6))
      · simp only [okW]
        exact ⟨by omega, fun z => (by rw [z] at q3; simp at q3; omega), ⟨by omega, fun r hr => by have := (q4 r hr).2; omega⟩, okRs_of fun r hr => (q4 r hr).1.1⟩
      · exact i1
  refine q_no (evt_no t8 (by simpa using h8)) fun H7 e7 => ?_
  have d7 := d6.ex e7
  have hc7 := hc.ds hdk d7
  -- risk
  obtain ⟨fs, hfs, fs0, fs1, fsO⟩ := id hc7.fs
  refine tr_go (tc_go evd_str fun vt H8 e8 it => tc_any (go_one v0 ((hc.ds hdk (d7.ex e8)).eFs v1) (e8 _ _ hfs) nfl (d7.ex e8).dk ⟨by simp; omega, by simp; omega⟩ fun u H9 hu9 dk9 kp9 kt9 => ?_))
  obtain ⟨f, hf, rfl⟩ := List.mem_map.mp hu9
  have of := fsO f hf
  have lf := of.len
  rw [it.str_]
  exact tn_go ⟨sz_of (by simp), fun q hq => fin (wd := .risk f) (by simp only [okW]; exact ⟨of.nd, of.ok⟩) (by simp only [shW]; omega) ((d7.ex e8).draw dk9 kp9 kt9) (Ex.new hq) (Im.new hq (.cons (.str _) (.cons (.str _) .nil)))⟩
theorem ok_law_lead (T : Fx K mg) : ∀ n : Nat, n ≤ 3 → C8.Cal P w K mg base (3 + 2 * n) "_law_leading" (spLLead n) []
  | 0, _ => lead_step T 0 (by omega) fun h => absurd rfl h
  | n + 1, h => lead_step T (n + 1) h fun _ => grown_step T n (ok_law_lead T n (by omega))
theorem ok_law_grown (T : Fx K mg) (n : Nat) (h : n ≤ 3) : C8.Cal P w K mg base (4 + 2 * n) "_law_grown" (spLGrown n) [] := grown_step T n (ok_law_lead T n h)
end
end K16

set_option Elab.async false
set_option linter.all false
set_option maxRecDepth 100000
set_option maxHeartbeats 4000000
/-! KSort: the boxes and worths of a program that is drawn (plain) -/
namespace K16
open PySem PySem.Spec PyProof.Rows L2 Evl
theorem ins_ex (x : Str) : ∀ m : List Str, m.Pairwise ltS → ∃ m' : List Str, m'.Pairwise ltS ∧ (∀ y, y ∈ m' ↔ y = x ∨ y ∈ m) ∧ m'.length ≤ m.length + 1
  | [], _ => ⟨[x], by simp, by simp, by simp⟩
  | y :: m, h => by
    by_cases hx : x = y
    · subst hx
      exact ⟨x :: m, h, by simp, by simp⟩
    · rw [List.pairwise_cons] at h
      by_cases hl : ltS x y
      · refine ⟨x :: y :: m, ?_, by simp, by simp⟩
        rw [List.pairwise_cons]
        refine ⟨fun z hz => ?_, List.pairwise_cons.mpr h⟩
        rcases List.mem_cons.mp hz with rfl | hz
        · exact hl
        · exact ltS_trans hl (h.1 z hz)
      · obtain ⟨m', h1, h2, h3⟩ := ins_ex x m h.2
        refine ⟨y :: m', ?_, fun z => ?_, by simp; omega⟩
        · rw [List.pairwise_cons]
          refine ⟨fun z hz => ?_, h1⟩
          rcases (h2 z).mp hz with rfl | hz
          · exact ltS_tri hl (Ne.symm hx)
          · exact h.1 z hz
        · rw [List.mem_cons, h2, List.mem_cons]
          constructor
          · rintro (h | h | h) <;> simp [h]
          · rintro (h | h | h) <;> simp [h]
theorem sort_ex : ∀ l : List Str, ∃ m : List Str, m.Pairwise ltS ∧ (∀ y, y ∈ m ↔ y ∈ l) ∧ m.length ≤ l.length
  | [] => ⟨[], by simp, by simp, by simp⟩
  | x :: l => by
    obtain ⟨m, h1, h2, h3⟩ := sort_ex l
    obtain ⟨m', k1, k2, k3⟩ := ins_ex x m h1
    exact ⟨m', k1, fun y => by rw [k2, h2, List.mem_cons], by simp; omega⟩
theorem env_ex {bs ws : List Str} (hb : ∀ b ∈ bs, BxOk b) (hbl : bs.length ≤ 20) (hw : ∀ w ∈ ws, NmOk w) (hwl : ws.length ≤ 20) : ∃ E : Env, EnvOk E ∧ EnvS E ∧ (∀ b ∈ bs, b ∈ E.Bs) ∧ ∀ w ∈ ws, w ∈ E.Ws := by
  obtain ⟨m, h1, h2, h3⟩ := sort_ex bs
  obtain ⟨n, k1, k2, k3⟩ := sort_ex ws
  refine ⟨⟨m, n⟩, ⟨h1, by show m.length ≤ 20; omega, k1, by show n.length ≤ 20; omega, fun b h => ?_, fun w h => (hw w ((k2 w).mp h)).ok⟩, ⟨fun b h => ?_, fun w h => ?_⟩, fun b h => (h2 b).mpr h, fun w h => (k2 w).mpr h⟩
  · have := hb b ((h2 b).mp h)
    exact ⟨this.ok, by have := this.len; omega⟩
  · have := (hb b ((h2 b).mp h)).len; omega
  · have := (hw w ((k2 w).mp h)).len; omega
theorem cut_names {ns : List Str} (h : ns.length = 17) (lo hi : Option Int) (i j : Nat) (h1 : HT.sIx 17 0 lo = i) (h2 : HT.sIx 17 17 hi = j) : cutV (ns.map V.str) lo hi = ((ns.drop i).take (j - i)).map V.str := by
  unfold cutV
  rw [List.length_map, h, h1, h2, List.map_take, List.map_drop]
theorem atI_last {α : Type} (xs : List α) (x : α) : L2.atI (xs ++ [x]) (-1) = some x := by
  unfold L2.atI
  have : ixN (xs ++ [x]).length (-1) = some xs.length := by
    unfold ixN
    rw [if_neg (by decide), if_pos (by rw [List.length_append]; simp; omega), List.length_append]
    simp
    omega
  rw [this]
  simp
end K16

set_option Elab.async false
set_option linter.all false
set_option maxRecDepth 100000
set_option maxHeartbeats 4000000
/-! KProg: a program that the law draws -/
namespace K16
open PySem PySem.Spec PyProof.Rows L2 Evl
section
variable {K : PySem.W.Frag} {σ : L2.St} {H H1 H2 : Hp} {l c : Addr} {te : TE} {Q : VK} {ds es : List PyData} {u v : V}
theorem DS.over (h : DS [l] l H H1) (d : DS [l, c] l H1 H2) (hc : H c = none) : DS [l] l H H2 := ⟨d.dk, fun b o hb hn => d.kp b o (h.kp b o hb hn) (by
  have : b ≠ c := fun z => by rw [z, hc] at hb; cases hb
  simp at hn ⊢
  exact ⟨hn, this⟩), h.kt.trans d.kt⟩
/-- xs[i], i some number -/
theorem evd_ixLi {ta tb : TE} {a : Addr} {vs : List V} {d : PyData} {n : Nat} (h : Ev ta σ H (.ref a)) (hl : H a = some (.lst vs)) (hi : Ims H vs ds) (hn : Ev tb σ H (.int (n : Nat))) (hd : ds[n]? = some d) : EvD (tOp (rIxL K) ta tb) σ H d := fun H1 e1 Q q =>
  h H1 e1 _ fun H2 e2 => hn H2 (e1.trans e2) _ fun H3 e3 => by
    obtain ⟨v, hv, iv⟩ := hi.get hd
    exact ⟨a, vs, (n : Nat), v, rfl, rfl, SqL.of (((e1.trans e2).trans e3) _ _ hl), atI_nat hv, q v H3 (e2.trans e3) (iv.ex ((e1.trans e2).trans e3))⟩
theorem evd_ixLast {ta : TE} {a : Addr} {vs : List V} {v : V} {d : PyData} (h : Ev ta σ H (.ref a)) (hl : H a = some (.lst (vs ++ [v]))) (iv : Im H v d) : EvD (tOp (rIxL K) ta (tUn (rU fun i => .int (-i)) (tC (.int 1)))) σ H d := fun H1 e1 Q q =>
  h H1 e1 _ fun H2 e2 => ⟨1, rfl, a, vs ++ [v], -1, v, rfl, rfl, SqL.of ((e1.trans e2) _ _ hl), atI_last _ _, q v H2 e2 (iv.ex (e1.trans e2))⟩
theorem tt_go {t : TA} (h : t σ H fun vs H1 => vs.length ≤ sizeLine ∧ ∀ p, H1 p = none → Q (.ref p) (upd H1 p (.tup vs))) : tTup t σ H Q := h
theorem cat_go (i1 : Im H v (.tuple ds)) (i2 : Im H u (.tuple es)) (hl : ds.length + es.length ≤ 100000) (q : ∀ z H2, Ex H H2 → Im H2 z (.tuple (ds ++ es)) → Q z H2) : rCatA K v u H Q := by
  obtain ⟨p, xs, rfl, hp, hs⟩ := i1.tup_
  obtain ⟨p2, ys, rfl, hp2, hs2⟩ := i2.tup_
  refine ⟨p, p2, xs, ys, rfl, rfl, SqT.of hp, SqT.of hp2, sz_of (by rw [hs.len, hs2.len]; exact hl), fun z => ?_, fun _ z => ?_, fun _ _ r hr => ?_⟩
  · subst z
    cases hs
    exact q _ H (Ex.refl H) (.tup hp2 hs2)
  · subst z
    cases hs2
    rw [List.append_nil] at q
    exact q _ H (Ex.refl H) (.tup hp hs)
  · exact q _ _ (Ex.new hr) (Im.new hr (hs.append hs2))
end
section
variable {E : Env} {sg : List Sig} {H H' : Hp} {l c ab aw af ad : Addr} {n n' : Int}
theorem CsX.nad (h : CsX E sg H c ab aw af ad n) : ab ≠ ad ∧ aw ≠ ad ∧ af ≠ ad := by
  obtain ⟨us, u1, u2, _⟩ := h.df
  obtain ⟨as, rfl⟩ := ims_refs u2
  have key : ∀ {a : Addr} {xs : List Str}, H a = some (.lst (xs.map V.str)) → 0 < xs.length → a ≠ ad := fun {a xs} h1 h2 z => by
    rw [z, u1] at h1
    cases xs with
    | nil => simp at h2
    | cons x xs => cases as <;> simp at h1
  obtain ⟨bs, b1, b2, _⟩ := h.bx
  obtain ⟨ws, w1, w2, _⟩ := h.ws
  obtain ⟨fs, f1, f2, _⟩ := h.fs
  exact ⟨key b1 b2, key w1 w2, key f1 f2⟩
/-- one def more -/
theorem CsX.more {q : Sig} {us : List V} {v : V} (h : CsX E sg H c ab aw af ad n) (hu : H ad = some (.lst us)) (hi : Ims H us (sg.map encSig)) (iv : Im H v (encSig q)) (hs : sg.length < 20) : CsX E (sg ++ [q]) (upd H ad (.lst (us ++ [v]))) c ab aw af ad n := by
  obtain ⟨n1, n2, n3⟩ := h.nad
  obtain ⟨_, _, _, m4⟩ := h.nc
  obtain ⟨bs, b1, b2⟩ := h.bx
  obtain ⟨ws, w1, w2⟩ := h.ws
  obtain ⟨fs, f1, f2⟩ := h.fs
  refine ⟨by rw [upd_ne (Ne.symm m4)]; exact h.obj, ⟨bs, by rw [upd_ne n1]; exact b1, b2⟩, ⟨ws, by rw [upd_ne n2]; exact w1, w2⟩, ⟨fs, by rw [upd_ne n3]; exact f1, f2⟩, ⟨us ++ [v], upd_same, ?_, by simp; omega⟩⟩
  rw [List.map_append]
  exact (hi.append (.cons iv .nil)).upd (nt_lst hu)
end
def sigOf (D : K16.Def) : Sig := (D.name, D.params, D.results)
/-- the defs that are drawn -/
structure DsOk (E : Env) (ns : List Str) (Ds : List K16.Def) : Prop where
  nm : Ds.map (·.name) = (ns.drop 11).take Ds.length
  rows : ∀ D ∈ Ds, (okR E (Ds.map sigOf) 3 0 D.row ∧ shR D.row) ∧ D.row.length ≤ 50
  par : ∀ D ∈ Ds, sub E D.params ∧ sub E D.results
theorem DsOk.mem {E : Env} {ns : List Str} {Ds : List K16.Def} (h : DsOk E ns Ds) : ∀ D ∈ Ds, D.name ∈ ns := fun D hD => by
  have : D.name ∈ Ds.map (·.name) := List.mem_map.mpr ⟨D, hD, rfl⟩
  rw [h.nm] at this
  exact List.mem_of_mem_drop (List.mem_of_mem_take this)
theorem DsOk.sg {E : Env} {ns : List Str} {Ds : List K16.Def} (h : DsOk E ns Ds) (hno : ∀ x ∈ ns, NmOk x) : SgOk E (Ds.map sigOf) where
  par := fun q hq => by
    obtain ⟨D, hD, rfl⟩ := List.mem_map.mp hq
    exact h.par D hD
  nm := fun q hq => by
    obtain ⟨D, hD, rfl⟩ := List.mem_map.mp hq
    have := hno _ (h.mem D hD)
    exact ⟨by have := this.len; show D.name.length ≤ 400; omega, this.ne, this.ok⟩
theorem DsOk.more {E : Env} {ns : List Str} {Ds : List K16.Def} {D : K16.Def} (h : DsOk E ns Ds) (hn : ns[11 + Ds.length]? = some D.name) (hr : okR E (Ds.map sigOf) 2 0 D.row) (hs : shR D.row) (hl : D.row.length ≤ 50) (hp : sub E D.params ∧ sub E D.results) : DsOk E ns (Ds ++ [D]) where
  nm := by
    rw [List.map_append, h.nm, List.length_append]
    show _ = (ns.drop 11).take (Ds.length + 1)
    rw [List.take_add_one, List.getElem?_drop, hn]
    rfl
  rows := fun D' hD' => by
    have mono : ∀ q ∈ Ds.map sigOf, q ∈ (Ds ++ [D]).map sigOf := fun q hq => by rw [List.map_append]; exact List.mem_append_left _ hq
    rcases List.mem_append.mp hD' with hD' | hD'
    · have := h.rows D' hD'
      exact ⟨⟨okR_mono mono (Nat.le_refl _) this.1.1, this.1.2⟩, this.2⟩
    · rw [List.mem_singleton.mp hD']
      exact ⟨⟨okR_mono mono (by omega) hr, hs⟩, hl⟩
  par := fun D' hD' => by
    rcases List.mem_append.mp hD' with hD' | hD'
    · exact h.par D' hD'
    · rw [List.mem_singleton.mp hD']; exact hp
theorem DsOk.prog {E : Env} {ns : List Str} {Ds : List K16.Def} {r : Row} (h : DsOk E ns Ds) (hno : ∀ x ∈ ns, NmOk x) (hnd : ns.Nodup) (hl : Ds.length ≤ 20) (hr : okR E (Ds.map sigOf) 3 0 r) (hs : shR r) (hrl : r.length ≤ 50) : ProgOk E ⟨Ds, r⟩ ∧ ProgS ⟨Ds, r⟩ :=
  ⟨{ rows := fun D hD => (h.rows D hD).1.1, main := hr, short := ⟨hrl, fun D hD => (h.rows D hD).2⟩, few := hl, par := h.par
     names := by
      show (Ds.map (·.name)).Nodup
      rw [h.nm]
      exact ((List.take_sublist _ _).trans (List.drop_sublist _ _)).nodup hnd
     good := fun D hD => by
      have := hno _ (h.mem D hD)
      exact ⟨this.ne, this.nd, this.ok⟩ },
   { rows := fun D hD => (h.rows D hD).1.2, main := hs, names := fun D hD => by have := (hno _ (h.mem D hD)).len; omega }⟩
/-- the turns that are done -/
def PrP (E : Env) (ns : List Str) (H : Hp) (l a ab c aw af ad ld : Addr) (m : Int) (i : Nat) (σ' : L2.St) (H' : Hp) : Prop := ∃ (x7 x8 x9 : Option V) (Ds : List K16.Def) (us : List V) (rm : Int), σ' = [some (.ref l), some (.ref a), some (.int m), some (.int 18), some (.ref ab), some (.ref c), some (.ref ld), x7, x8, x9] ∧ H' ld = some (.lst us) ∧ Ims H' us (Ds.map encDef) ∧ Ds.length = i ∧ DsOk E ns Ds ∧ CsX E (Ds.map sigOf) H' c ab aw af ad rm ∧ DS [l] l H H'
def spLProgram : Sp := fun vs H Q _ => ∃ (l a : Addr) (ns : List Str) (m : Int), vs = [.ref l, .ref a, .int m, .int 18] ∧ 0 ≤ m ∧ m ≤ 3 ∧ Dk H l ∧ H a = some (.lst (ns.map V.str)) ∧ ns.length = 17 ∧ (∀ x ∈ ns, NmOk x) ∧ ns.Nodup ∧
  ∀ E p u H', EnvOk E → EnvS E → ProgOk E p → ProgS p → Im H' u (encProg p) → DS [l] l H H' → Q u H'
section
variable {P : Program} {w : World} {K : PySem.W.Frag} {mg : Str → Option Value} {base : Heap}
theorem sc_law_program : FnScope ["_law_deck_here", "_law_names_here", "_law_many", "_law_most", "_law_boxes_here", "_law_case", "_law_defs", "_law_k", "_law_params", "_law_results"] ["_law_deck_here", "_law_names_here", "_law_many", "_law_most"] (defScope s_law_program) := ⟨rfl, rfl, rfl, by decide +kernel, rfl, by decide +kernel, by decide +kernel⟩
theorem ok_law_program (T : Fx K mg) : C8.Cal P w K mg base 11 "_law_program" spLProgram [] := by
  obtain ⟨fd, F⟩ := T.f_law_program
  have c_law_some := ok_law_some (P := P) (w := w) (base := base) T
  have c_law_picked := ok_law_picked (P := P) (w := w) (base := base) T
  have c_law_boxes := ok_law_boxes (P := P) (w := w) (base := base) T
  have c_law_grown : C8.Cal P w K mg base 8 "_law_grown" (spLGrown 2) [] := ok_law_grown (P := P) (w := w) (base := base) T 2 (by omega)
  have c_law_grown3 : C8.Cal P w K mg base 10 "_law_grown" (spLGrown 3) [] := ok_law_grown (P := P) (w := w) (base := base) T 3 (by omega)
  refine cal_of F T.g_law_program sc_law_program (fun _ _ _ _ _ _ us hl => match us, hl with | [_, _, _, _], _ => rfl) (by rintro vs H Q E ⟨_, _, _, _, rfl, _⟩; rfl) fun cdv A outer s0 H vs Q E0 hr hsp => ?_
  obtain ⟨l, a, ns, m, rfl, m0, m3, hdk, ha, hnl, hno, hnd, k⟩ := hsp
  have hu := hu_of hr
  refine ⟨_, (pss_cons (ps_set (i := 4) sc_law_program.nd rfl (.inl rfl) (C8.pe_c c_law_boxes hr (by omega) rfl (pa_cons (pv 0) (pa_cons (pv 1) pa_nil))))
    (pss_cons (ps_set (i := 5) sc_law_program.nd rfl (.inl rfl) (pe_disp (pps_cons pe_str (pv 4) (pps_cons pe_str (pe_op op_cat (pe_slice sl_list (pv 1) (po_some pe_int) (po_some pe_int)) (pe_slice sl_list (pv 1) po_none (po_some pe_int))) (pps_cons pe_str (pe_slice sl_list (pv 1) (po_some pe_int) (po_some pe_int)) (pps_cons pe_str (pe_lst pa_nil) (pps_cons pe_str pe_int pps_nil))))) (by rfl) (by rfl) (fun z => by cases z) (by decide)))
    (pss_cons (ps_set (i := 6) sc_law_program.nd rfl (.inl rfl) (pe_lst pa_nil))
    (pss_cons (ps_for PassesOwn.never rfl (pi_range1 (by rfl) T.range_ (pa_cons (pv 2) pa_nil)) (pg_name (i := 7) sc_law_program.nd rfl (.inl rfl))
    (pss_cons (ps_set (i := 8) sc_law_program.nd rfl (.inl rfl) (C8.pe_c c_law_picked hr (by omega) rfl (pa_cons (pv 0) (pa_cons (pv 4) (pa_cons (C8.pe_c c_law_some hr (by omega) rfl (pa_cons (pv 0) (pa_cons pe_int (pa_cons pe_int pa_nil)))) pa_nil)))))
    (pss_cons (ps_set (i := 9) sc_law_program.nd rfl (.inl rfl) (C8.pe_c c_law_picked hr (by omega) rfl (pa_cons (pv 0) (pa_cons (pv 4) (pa_cons (C8.pe_c c_law_some hr (by omega) rfl (pa_cons (pv 0) (pa_cons pe_int (pa_cons pe_int pa_nil)))) pa_nil)))))
    (pss_cons (ps_dput hu (pv 5) pe_str pe_int rfl)
    (pss_cons (ps_expr (pe_bm PySem.F.plainAttrs_list PySem.F.slot_list_append PySem.F.type_list_append mt_append (pv 6) (pa_cons (pe_tup (pa_cons (pe_ix ix_list (pv 1) (pe_op op_add pe_int (pv 7)) (fun _ _ => rfl)) (pa_cons (pv 8) (pa_cons (pv 9) (pa_cons (C8.pe_c c_law_grown hr (by omega) rfl (pa_cons (pv 0) (pa_cons (pv 5) (pa_cons pe_int (pa_cons pe_int (pa_cons pe_int pa_nil)))))) pa_nil))))) pa_nil)))
    (pss_one (ps_expr (pe_bm PySem.F.plainAttrs_list PySem.F.slot_list_append PySem.F.type_list_append mt_append (pe_dget hu (pv 5) pe_str (fun _ _ => rfl)) (pa_cons (pe_slice sl_tupA (pe_ix ix_list (pv 6) (pe_un un_neg pe_int) (fun _ _ => rfl)) po_none (po_some pe_int)) pa_nil)))))))))
    (pss_cons (ps_dput hu (pv 5) pe_str (pv 3) rfl)
    (pss_one (ps_ret (pe_tup (pa_cons (pe_callTy call_tuple_of (by rfl) T.tuple_ boot_tuple (pa_cons (pv 6) pa_nil)) (pa_cons (pe_op op_catA (C8.pe_c c_law_grown3 hr (by omega) rfl (pa_cons (pv 0) (pa_cons (pv 5) (pa_cons pe_int (pa_cons pe_int (pa_cons pe_int pa_nil)))))) (C8.pe_c c_law_grown hr (by omega) rfl (pa_cons (pv 0) (pa_cons (pv 5) (pa_cons pe_int (pa_cons pe_int (pa_cons pe_int pa_nil))))))) pa_nil)))))))))), ?_⟩
  have al := hdk.ne_strs ha
  -- the boxes
  refine asg_go ?_
  refine ⟨.ref l, rfl, .ref a, rfl, l, a, ns, rfl, hdk, ha, hnl, hno, fun ab bs H1 abN bs0 bs9 bsO hab d1 => ?_⟩
  have ha1 := d1.kp _ _ ha (by simpa using al)
  have abl := d1.dk.ne_strs hab
  -- the case
  refine asg_go ?_
  intro c hcN
  refine ⟨.ref ab, rfl, ?_⟩
  have e1 : Ex H1 (upd H1 c (.dK [])) := Ex.new hcN
  have hc2 : (upd H1 c (.dK [])) c = some (.dK []) := upd_same
  generalize upd H1 c (.dK []) = H2 at e1 hc2
  have ha2 := e1 _ _ ha1
  refine ⟨.ref a, rfl, 6, rfl, 9, rfl, a, _, rfl, SqL.of ha2, fun p1 hp1 => ?_⟩
  rw [cut_names hnl (some 6) (some 9) 6 9 rfl rfl]
  have e2 : Ex H2 (upd H2 p1 (.lst (((ns.drop 6).take (9 - 6)).map V.str))) := Ex.new hp1
  have h3a : (upd H2 p1 (.lst (((ns.drop 6).take (9 - 6)).map V.str))) p1 = some (.lst (((ns.drop 6).take (9 - 6)).map V.str)) := upd_same
  generalize upd H2 p1 (.lst (((ns.drop 6).take (9 - 6)).map V.str)) = H3 at e2 h3a
  have ha3 := e2 _ _ ha2
  refine ⟨.ref a, rfl, 3, rfl, a, _, rfl, SqL.of ha3, fun p2 hp2 => ?_⟩
  rw [cut_names hnl none (some 3) 0 3 rfl rfl]
  have e3 : Ex H3 (upd H3 p2 (.lst (((ns.drop 0).take (3 - 0)).map V.str))) := Ex.new hp2
  have h4b : (upd H3 p2 (.lst (((ns.drop 0).take (3 - 0)).map V.str))) p2 = some (.lst (((ns.drop 0).take (3 - 0)).map V.str)) := upd_same
  generalize upd H3 p2 (.lst (((ns.drop 0).take (3 - 0)).map V.str)) = H4 at e3 h4b
  refine ⟨p1, p2, _, _, rfl, rfl, e3 _ _ h3a, h4b, sz_of (by simp; omega), fun aw awN => ?_⟩
  rw [← List.map_append]
  generalize hws : (ns.drop 6).take (9 - 6) ++ (ns.drop 0).take (3 - 0) = ws
  have wsO : ∀ w ∈ ws, NmOk w := fun w hw => by
    rw [← hws] at hw
    rcases List.mem_append.mp hw with hw | hw
    · exact hno w (List.mem_of_mem_drop (List.mem_of_mem_take hw))
    · exact hno w (List.mem_of_mem_drop (List.mem_of_mem_take hw))
  have wsl : ws.length = 6 := by rw [← hws]; simp; omega
  have e4 : Ex H4 (upd H4 aw (.lst (ws.map V.str))) := Ex.new awN
  have haw : (upd H4 aw (.lst (ws.map V.str))) aw = some (.lst (ws.map V.str)) := upd_same
  generalize upd H4 aw (.lst (ws.map V.str)) = H5 at e4 haw
  have ha5 := e4 _ _ (e3 _ _ ha3)
  refine ⟨.ref a, rfl, 9, rfl, 11, rfl, a, _, rfl, SqL.of ha5, fun af afN => ?_⟩
  rw [cut_names hnl (some 9) (some 11) 9 11 rfl rfl]
  generalize hfs : (ns.drop 9).take (11 - 9) = fs
  have fsO : ∀ f ∈ fs, NmOk f := fun f hf => by
    rw [← hfs] at hf
    exact hno f (List.mem_of_mem_drop (List.mem_of_mem_take hf))
  have fsl : fs.length = 2 := by rw [← hfs]; simp; omega
  have e5 : Ex H5 (upd H5 af (.lst (fs.map V.str))) := Ex.new afN
  have haf : (upd H5 af (.lst (fs.map V.str))) af = some (.lst (fs.map V.str)) := upd_same
  generalize upd H5 af (.lst (fs.map V.str)) = H6 at e5 haf
  refine ⟨Nat.zero_le _, fun ad adN => ?_⟩
  have e6 : Ex H6 (upd H6 ad (.lst [])) := Ex.new adN
  have had : (upd H6 ad (.lst [])) ad = some (.lst []) := upd_same
  generalize upd H6 ad (.lst []) = H7 at e6 had
  have e57 := e5.trans e6
  have e47 := e4.trans e57
  have e37 := e3.trans e47
  have e27 := e2.trans e37
  have e17 := e1.trans e27
  refine ⟨e27 _ _ hc2, caseD ab aw af ad 0, rfl, by simp [caseD], ?_⟩
  rw [show mergeK [] (caseD ab aw af ad 0) = caseD ab aw af ad 0 from rfl]
  have cH : H c = none := d1.fresh hcN
  have cl := d1.dk.ne_none hcN
  have c7 := e27 _ _ hc2
  have d7 := d1.ex e17
  have ne : ∀ {q : Addr} {xs : List V}, H7 q = some (.lst xs) → q ≠ c := fun hq z => by rw [z, c7] at hq; cases hq
  have hab7 := e17 _ _ hab
  have haw7 := e57 _ _ haw
  have haf7 := e6 _ _ haf
  obtain ⟨E, ok, es, hbE, hwE⟩ := env_ex bsO (by omega) wsO (by omega)
  have d8 := d7.mutd (o := .dK (caseD ab aw af ad 0)) cH cl (nt_dK c7)
  have hc8 : CsX E ([] : List Sig) (upd H7 c (.dK (caseD ab aw af ad 0))) c ab aw af ad 0 :=
    ⟨upd_same, ⟨bs, by rw [upd_ne (ne hab7)]; exact hab7, bs0, bs9, hbE⟩, ⟨ws, by rw [upd_ne (ne haw7)]; exact haw7, by omega, by omega, hwE⟩, ⟨fs, by rw [upd_ne (ne haf7)]; exact haf7, by omega, by omega, fsO⟩, ⟨[], by rw [upd_ne (ne had)]; exact had, .nil, by simp⟩⟩
  generalize upd H7 c (.dK (caseD ab aw af ad 0)) = H8 at d8 hc8
  refine qd_lst (ds := []) evds_nil (by simp) fun ld vs H9 ldN e9 hld i9 => ?_
  cases i9
  have ldH := d8.fresh ldN
  have ldl := d8.dk.ne_none ldN
  have ldc : ld ≠ c := fun z => by rw [z, hc8.obj] at ldN; cases ldN
  have nad : ab ≠ ld ∧ aw ≠ ld ∧ af ≠ ld ∧ ad ≠ ld := by
    obtain ⟨_, h1, _⟩ := hc8.bx
    obtain ⟨_, h2, _⟩ := hc8.ws
    obtain ⟨_, h3, _⟩ := hc8.fs
    obtain ⟨_, h4, _⟩ := hc8.df
    exact ⟨ne_of_none h1 ldN, ne_of_none h2 ldN, ne_of_none h3 ldN, ne_of_none h4 ldN⟩
  have adH : H ad = none := (d1.ex ((((e1.trans e2).trans e3).trans e4).trans e5)).fresh adN
  have hc9 := hc8.kp (S := []) (Kp.of e9) (KT.of e9) (by simp) (by simp) (by simp) (by simp) (e9 _ _ hc8.obj)
  have d9 := d8.ex e9
  refine q_seq (s_forR1 (j := 7) (n := m) (fun Hx ex Qx qx => ⟨_, rfl, qx Hx (Ex.refl Hx)⟩) ⟨m0, by omega⟩ (PrP E ns H l a ab c aw af ad ld m)
    (fun Hx ex => ⟨none, none, none, [], [], 0, rfl, ex _ _ hld, .nil, rfl, ⟨by simp, (fun D hD => by cases hD), (fun D hD => by cases hD)⟩, hc9.kp (S := []) (Kp.of ex) (KT.of ex) (by simp) (by simp) (by simp) (by simp) (ex _ _ hc9.obj), d9.ex ex⟩) ?_ ?_)
  · rintro i σ' H' hi ⟨x7, x8, x9, Ds, us, rm, rfl, q1, q2, q3, q4, q5, q6⟩
    rw [show (List.set [some (V.ref l), some (V.ref a), some (V.int m), some (V.int 18), some (V.ref ab), some (V.ref c), some (V.ref ld), x7, x8, x9] 7 (some (V.int (i : Int))) : L2.St) = [some (V.ref l), some (V.ref a), some (V.int m), some (V.int 18), some (V.ref ab), some (V.ref c), some (V.ref ld), some (V.int (i : Int)), x8, x9] from rfl]
    obtain ⟨ncl, nbl, nwl, nfl, ndl⟩ := q5.ne q6.dk
    obtain ⟨bs', hbs', _, hb9', hbE'⟩ := id q5.bx
    -- params
    refine asg_go (go_pick (ev_var (i := 0) rfl) (ev_var (i := 4) rfl) hbs' q6.dk (by omega) (fun HA eA Q2 q2' => go_some (ev_var (i := 0) rfl) ev_c ev_c (q6.dk.ex eA) ⟨by decide, by decide⟩ fun r HC hr dk kp kt => q2' r HC (by omega) dk kp kt) fun ps up HA hps hpl ip dkA kpA ktA => ?_)
    have dA := q6.draw dkA kpA ktA
    have hcA := q5.draw q6.dk kpA ktA
    have ldA := kpA _ _ q1 (by simpa using ldl)
    have iA := q2.mono ktA
    rw [show (List.set [some (V.ref l), some (V.ref a), some (V.int m), some (V.int 18), some (V.ref ab), some (V.ref c), some (V.ref ld), some (V.int (i : Int)), x8, x9] 8 (some up) : L2.St) = [some (V.ref l), some (V.ref a), some (V.int m), some (V.int 18), some (V.ref ab), some (V.ref c), some (V.ref ld), some (V.int (i : Int)), some up, x9] from rfl]
    -- results
    have hbsA := kpA _ _ hbs' (by simpa using nbl)
    refine asg_go (go_pick (ev_var (i := 0) rfl) (ev_var (i := 4) rfl) hbsA dkA (by omega) (fun HB eB Q2 q2' => go_some (ev_var (i := 0) rfl) ev_c ev_c (dkA.ex eB) ⟨by decide, by decide⟩ fun r HC hr dk kp kt => q2' r HC (by omega) dk kp kt) fun rs ur HB hrs hrl ir dkB kpB ktB => ?_)
    have dB := dA.draw dkB kpB ktB
    have hcB := hcA.draw dkA kpB ktB
    have ldB := kpB _ _ ldA (by simpa using ldl)
    have iB := iA.mono ktB
    have ipB := ip.mono ktB
    rw [show (List.set [some (V.ref l), some (V.ref a), some (V.int m), some (V.int 18), some (V.ref ab), some (V.ref c), some (V.ref ld), some (V.int (i : Int)), some up, x9] 9 (some ur) : L2.St) = [some (V.ref l), some (V.ref a), some (V.int m), some (V.int 18), some (V.ref ab), some (V.ref c), some (V.ref ld), some (V.int (i : Int)), some up, some ur] from rfl]
    -- room
    refine q_seq (hcB.sRm (m := 6) (fun _ => ev_var (i := 5) rfl) evd_int fun HC kpC ktC cC => ?_)
    have dkC : Dk HC l := dkB.kp kpC (by simpa using Ne.symm ncl)
    have dC : DS [l] l H HC := dB.over (c := c) ⟨dkC, kpC.mono (by simp), ktC⟩ cH
    obtain ⟨m2, m3', m4, m5⟩ := hcB.nc
    have hcC : CsX E (Ds.map sigOf) HC c ab aw af ad 6 := hcB.kp kpC ktC (by simpa using m2) (by simpa using m3') (by simpa using m4) (by simpa using m5) cC
    have ldC := kpC _ _ ldB (by simpa using ldc)
    have iC := iB.mono ktC
    have ipC := ipB.mono ktC
    have irC := ir.mono ktC
    have haC := dC.kp _ _ ha (by simpa using al)
    obtain ⟨nm, hnm⟩ : ∃ nm, ns[11 + i]? = some nm := ⟨_, List.getElem?_eq_getElem (by omega)⟩
    -- defs.append(..)
    refine q_seq (go_app (i := 6) rfl ldC (tt_go (tc_go (evd_ixLi (K := K) (n := 11 + i) (d := .str nm) (ev_var (i := 1) rfl) haC ims_strs (ev_is (ev_op ev_c (ev_var (i := 7) rfl) rv_I0) (congrArg V.int (by omega))) (by rw [List.getElem?_map, hnm]; rfl)) fun vn HD eD iD => tc_go (evd_var (i := 8) rfl (ipC.ex eD)) fun vp HE eE iE => tc_go (evd_var (i := 9) rfl ((irC.ex eD).ex eE)) fun vr HF eF iF => tc_any ?_)))
    have eCF := (eD.trans eE).trans eF
    have dF := dC.ex eCF
    have hcF := hcC.kp (S := []) (Kp.of eCF) (KT.of eCF) (by simp) (by simp) (by simp) (by simp) (eCF _ _ hcC.obj)
    have ldF := eCF _ _ ldC
    have iF0 := iC.ex eCF
    refine go_grown (k := 2) (lo := 0) (most := 4) (ea_cons (ev_var (i := 0) rfl) (ea_cons (ev_var (i := 5) rfl) (ea_cons ev_c (ea_cons ev_c (ea_cons ev_c ea_nil))))) ok es (q4.sg hno) dF.dk hcF (by omega) (by omega) fun row u HG rmG okr shr hrw iu dG cG => ?_
    have dG' := dF.over dG cH
    have hcG := hcF.back dF.dk dG cG
    have ldG := dG.kp _ _ ldF (by simp [ldl, ldc])
    refine tn_go ⟨sz_of (by simp), fun p hp => ?_⟩
    have iD' : Im (upd HG p (.tup [vn, vp, vr, u])) (.ref p) (encDef ⟨nm, ps, rs, row⟩) := Im.new hp (.cons (((iD.ex eE).ex eF).mono dG.kt) (.cons ((iE.ex eF).mono dG.kt) (.cons (iF.mono dG.kt) (.cons iu .nil))))
    have eG : Ex HG (upd HG p (.tup [vn, vp, vr, u])) := Ex.new hp
    have usl : us.length < 100000 := by have := q2.len; rw [List.length_map] at this; omega
    refine go_appEnd (eG _ _ ldG) usl ?_
    have iG := (iF0.mono dG.kt).ex eG
    have dH := (dG'.ex eG).mutd (o := .lst (us ++ [.ref p])) ldH ldl (nt_lst (eG _ _ ldG))
    have ktH : KT (upd HG p (.tup [vn, vp, vr, u])) (upd (upd HG p (.tup [vn, vp, vr, u])) ld (.lst (us ++ [.ref p]))) := (KT.refl _).upd (nt_lst (eG _ _ ldG))
    have ldI : (upd (upd HG p (.tup [vn, vp, vr, u])) ld (.lst (us ++ [.ref p]))) ld = some (.lst (us ++ [.ref p])) := upd_same
    have hcH : CsX E (Ds.map sigOf) (upd (upd HG p (.tup [vn, vp, vr, u])) ld (.lst (us ++ [.ref p]))) c ab aw af ad rmG := (hcG.kp (S := []) (Kp.of eG) (KT.of eG) (by simp) (by simp) (by simp) (by simp) (eG _ _ hcG.obj)).kp (S := [ld]) ((Kp.refl _).mut (by simp)) ktH (by simpa using nad.1) (by simpa using nad.2.1) (by simpa using nad.2.2.1) (by simpa using nad.2.2.2) (by rw [upd_ne (Ne.symm ldc)]; exact eG _ _ hcG.obj)
    have iH := iG.mono ktH
    have iDH := iD'.mono ktH
    generalize upd (upd HG p (.tup [vn, vp, vr, u])) ld (.lst (us ++ [.ref p])) = HI at dH ldI hcH iH iDH
    -- case['defs'].append(defs[-1][:3])
    obtain ⟨vs, hvs, ivs, hvl⟩ := id hcH.df
    refine sd_app (hcH.eDf (ev_var (i := 5) rfl)) hvs (evd_slice (evd_ixLast (K := K) (ev_var (i := 6) rfl) ldI iDH) eo_none (evo_some evd_int) (es := [.str nm, tstr ps, tstr rs]) rfl) (by have := ivs.len; rw [List.length_map] at this; omega) fun vq HJ eJ iq => ?_
    have hcJ := hcH.kp (S := []) (Kp.of eJ) (KT.of eJ) (by simp) (by simp) (by simp) (by simp) (eJ _ _ hcH.obj)
    have hcK := hcJ.more (q := sigOf ⟨nm, ps, rs, row⟩) (eJ _ _ hvs) (ivs.ex eJ) iq (by rw [List.length_map]; omega)
    refine ⟨_, _, _, Ds ++ [⟨nm, ps, rs, row⟩], us ++ [.ref p], rmG, rfl, by rw [upd_ne (Ne.symm nad.2.2.2)]; exact eJ _ _ ldI, ?_, by simp [q3], q4.more (by rw [q3]; exact hnm) okr shr (by show row.length ≤ 50; omega) ⟨⟨fun b hb => hbE' b (hps b hb), by show ps.length ≤ 20; omega⟩, ⟨fun b hb => hbE' b (hrs b hb), by show rs.length ≤ 20; omega⟩⟩, by rw [List.map_append]; exact hcK, (dH.ex eJ).mutd adH ndl (nt_lst (eJ _ _ hvs))⟩
    rw [List.map_append]
    exact ((iH.ex eJ).append (.cons (iDH.ex eJ) .nil)).upd (nt_lst (eJ _ _ hvs))
  · rintro σ' H' ⟨x7, x8, x9, Ds, us, rm, rfl, q1, q2, q3, q4, q5, q6⟩
    have dl3 : Ds.length ≤ 3 := by omega
    obtain ⟨ncl, nbl, nwl, nfl, ndl⟩ := q5.ne q6.dk
    refine q_seq (q5.sRm (m := 18) (fun _ => ev_var (i := 5) rfl) (evd_var (i := 3) rfl (.int 18)) fun HA kpA ktA cA => ?_)
    have dkA : Dk HA l := q6.dk.kp kpA (by simpa using Ne.symm ncl)
    have dA : DS [l] l H HA := q6.over (c := c) ⟨dkA, kpA.mono (by simp), ktA⟩ cH
    obtain ⟨m2, m3', m4, m5⟩ := q5.nc
    have hcA : CsX E (Ds.map sigOf) HA c ab aw af ad 18 := q5.kp kpA ktA (by simpa using m2) (by simpa using m3') (by simpa using m4) (by simpa using m5) cA
    have ldA := kpA _ _ q1 (by simpa using ldc)
    have iA := q2.mono ktA
    refine tr_go (tc_go (evd_tupR (K := K) (ev_var (i := 6) rfl) ldA iA) fun vd HB eB iB => tc_any ?_)
    have dB := dA.ex eB
    have hcB := hcA.kp (S := []) (Kp.of eB) (KT.of eB) (by simp) (by simp) (by simp) (by simp) (eB _ _ hcA.obj)
    refine go_grown (k := 3) (lo := 0) (most := 5) (ea_cons (ev_var (i := 0) rfl) (ea_cons (ev_var (i := 5) rfl) (ea_cons ev_c (ea_cons ev_c (ea_cons ev_c ea_nil))))) ok es (q4.sg hno) dB.dk hcB (by omega) (by omega) fun r1 u1 HC rm1 ok1 sh1 l1 iu1 dC cC => ?_
    have dC' := dB.over dC cH
    have hcC := hcB.back dB.dk dC cC
    refine go_grown (k := 2) (lo := 0) (most := 6) (ea_cons (ev_var (i := 0) rfl) (ea_cons (ev_var (i := 5) rfl) (ea_cons ev_c (ea_cons ev_c (ea_cons ev_c ea_nil))))) ok es (q4.sg hno) dC'.dk hcC (by omega) (by omega) fun r2 u2 HD rm2 ok2 sh2 l2 iu2 dD cD => ?_
    have dD' := dC'.over dD cH
    refine cat_go (iu1.mono dD.kt) iu2 (by rw [encR_len, encR_len]; omega) fun z HE eE iz => tn_go ⟨sz_of (by simp), fun p hp => ?_⟩
    obtain ⟨pok, pst⟩ := q4.prog hno hnd (by omega) (okR_app ok1 (okR_mono (fun _ h => h) (by omega) ok2)) (shR_app sh1 sh2) (by rw [List.length_append]; omega)
    refine k E ⟨Ds, r1 ++ r2⟩ _ _ ok es pok pst (Im.new hp (.cons (((iB.mono dC.kt).mono dD.kt).ex eE) (.cons ?_ .nil))) ((dD'.ex eE).new hp)
    show Im HE z (.tuple (encR (r1 ++ r2)))
    rw [encR_map, List.map_append, ← encR_map, ← encR_map]
    exact iz
end
end K16

set_option Elab.async false
set_option linter.all false
set_option maxRecDepth 100000
set_option maxHeartbeats 4000000
/-! KShape: what is told may be compared (plain) -/
namespace K16
open PySem PySem.Spec PyProof.Rows L2 Evl
section
variable {E : Env} {p : Prog}
theorem wf_str (pok : ProgOk E p) {f : Str} (hf : WF p f) : PyData.strOk f = true := by
  obtain ⟨pl, hw | hw⟩ := hf
  · obtain ⟨_, _, _, hk⟩ := word_ok pok hw
    simp only [okW] at hk
    exact hk.2
  · obtain ⟨_, _, _, hk⟩ := word_ok pok hw
    simp only [okW] at hk
    exact hk.2
theorem plok_str (pok : ProgOk E p) {pl : Place} (hp : PlOk p pl) : PyData.strOk pl.nm = true := by
  obtain ⟨r, hr⟩ := hp
  obtain ⟨R, hR, _⟩ := Option.bind_eq_some_iff.mp hr
  unfold rowOf at hR
  split at hR
  · next e => rw [e]; decide +kernel
  · obtain ⟨D, hD, _⟩ := Option.map_eq_some_iff.mp hR
    rw [← (defOf_mem hD).2]
    exact (pok.good D (defOf_mem hD).1).2.2
theorem lay_app {n : Nat} : ∀ {ds es : List PyData}, LayAll n ds → LayAll n es → LayAll n (ds ++ es)
  | [], es, _, h => h
  | d :: ds, es, h, h' => by
    have h1 := h.1
    have h2 := h.2
    simp only [PyData.canLayAll0, Bool.and_eq_true] at h1
    simp only [PyData.depthAll] at h2
    exact lay_cons ⟨h1.1, by omega⟩ (lay_app ⟨h1.2, by omega⟩ h')
theorem lay_map {α : Type} {n : Nat} {f : α → PyData} : ∀ {l : List α}, (∀ x ∈ l, Lay n (f x)) → LayAll n (l.map f)
  | [], _ => lay_nil
  | x :: l, h => lay_cons (h x (by simp)) (lay_map fun y hy => h y (by simp [hy]))
theorem lay_path (n : Nat) : ∀ ps : List (Nat × Nat), LayAll n (encPath ps)
  | [] => lay_nil
  | (a, b) :: ps => lay_app (lay_path n ps) (lay_cons lay_int (lay_cons lay_int lay_nil))
theorem lay_pl (pok : ProgOk E p) {pl : Place} (hp : PlOk p pl) : Lay 3 (encPl pl) := lay_mono (lay_tup (n := 0) (lay_cons (lay_str (plok_str pok hp)) (lay_app (lay_path 0 _) (lay_cons lay_int lay_nil)))) (by omega)
theorem lay_ws (ok : EnvOk E) {ws : List Str} (h : WsOk E ws) : Lay 3 (tstr ws) := lay_mono (lay_strs (n := 0) fun w hw => ok.wok w (h.1 w hw)) (by omega)
theorem lay_lvs (ok : EnvOk E) (pok : ProgOk E p) {t : List Int} {l : List Leav} (h : LogOk E p (t, l)) : Lay 6 (.tuple (l.map encLv)) := lay_mono (lay_tup (n := 4) (lay_map fun x hx => by
  obtain ⟨h1, h2, h3⟩ := h.1 x hx
  exact lay_tup (lay_cons (lay_pl pok h1) (lay_cons (lay_str (ok.bok _ h2).1) (lay_cons (lay_ws ok h3) lay_nil))))) (by omega)
theorem lay_ints (n : Nat) (t : List Int) : Lay (n + 1) (.tuple (t.map PyData.int)) := lay_tup (lay_map fun x _ => lay_int)
theorem lay_shaped {n : Nat} {d : PyData} (h : Lay n d) (hn : n ≤ 64) : SeqAt.shaped d = true := by
  unfold SeqAt.shaped
  rw [Bool.and_eq_true]
  exact ⟨h.1, decide_eq_true (Nat.le_trans h.2 hn)⟩
theorem str0 : PyData.strOk "ended" = true ∧ PyData.strOk "fault" = true ∧ PyData.strOk "on" = true := by decide +kernel
theorem res_shape (ok : EnvOk E) (pok : ProgOk E p) {r : Res} (h : resOk E p r) : SeqAt.shaped (encRes r) = true := by
  cases r with
  | ended n t l => exact lay_shaped (lay_tup (n := 6) (lay_cons (lay_str str0.1) (lay_cons lay_int (lay_cons (lay_ints 5 t) (lay_cons (lay_lvs ok pok h) lay_nil))))) (by omega)
  | fault f n t l => exact lay_shaped (lay_tup (n := 6) (lay_cons (lay_str str0.2.1) (lay_cons (lay_str (wf_str pok h.1)) (lay_cons lay_int (lay_cons (lay_ints 5 t) (lay_cons (lay_lvs ok pok h.2) lay_nil)))))) (by omega)
  | on pl n t l hh =>
    obtain ⟨h1, h2, _, h4⟩ := h
    refine lay_shaped (lay_tup (n := 6) (lay_cons (lay_str str0.2.2) (lay_cons (lay_mono (lay_pl pok h1) (by omega)) (lay_cons lay_int (lay_cons (lay_ints 5 t) (lay_cons (lay_lvs ok pok h2) (lay_cons (lay_mono (lay_tup (n := 4) (lay_map fun x hx => ?_)) (by omega)) lay_nil))))))) (by omega)
    exact lay_tup (lay_cons (lay_str (ok.bok _ (h4 x hx).1).1) (lay_cons lay_int (lay_cons (lay_ws ok (h4 x hx).2) lay_nil)))
theorem lay_heldW (ok : EnvOk E) {hh : List (Str × Thing)} (h : ∀ x ∈ hh, x.1 ∈ E.Bs ∧ WsOk E x.2.2) : LayAll 6 (heldW hh) := by
  unfold heldW
  refine lay_map fun y hy => ?_
  obtain ⟨x, hx, rfl⟩ := List.mem_map.mp hy
  have := h x (List.mem_filter.mp hx).1
  exact lay_mono (lay_tup (n := 3) (lay_cons (lay_str (ok.bok _ this.1).1) (lay_cons (lay_ws ok this.2) lay_nil))) (by omega)
theorem num_shape (ok : EnvOk E) (pok : ProgOk E p) {r : Res} (h : resOk E p r) : SeqAt.shaped (numD r) = true := by
  cases r with
  | ended n t l => exact lay_shaped (lay_tup (n := 6) (lay_cons (lay_str str0.1) (lay_cons lay_int (lay_cons lay_int (lay_cons (lay_lvs ok pok h) lay_nil))))) (by omega)
  | fault f n t l => exact lay_shaped (lay_tup (n := 6) (lay_cons (lay_str str0.2.1) (lay_cons (lay_str (wf_str pok h.1)) (lay_cons lay_int (lay_cons lay_int (lay_cons (lay_lvs ok pok h.2) lay_nil)))))) (by omega)
  | on pl n t l hh =>
    obtain ⟨h1, h2, _, h4⟩ := h
    exact lay_shaped (lay_tup (n := 6) (lay_app (lay_cons (lay_str str0.2.2) (lay_cons (lay_mono (lay_pl pok h1) (by omega)) (lay_cons lay_int (lay_cons lay_int (lay_cons (lay_lvs ok pok h2) lay_nil))))) (lay_heldW ok h4))) (by omega)
theorem eqv_self {d : PyData} (h : SeqAt.shaped d = true) : PyData.eqv d d = true := SeqAt.eqv_refl d (SeqAt.canLay_of_shaped h)
theorem num_same {r r2 : Res} (h : sameNum r r2) : numD r2 = numD r := by
  cases r <;> cases r2 <;> simp only [sameNum] at h
  · obtain ⟨rfl, h2, rfl⟩ := h
    simp only [numD]
    rw [h2]
  · obtain ⟨rfl, rfl, h2, rfl⟩ := h
    simp only [numD]
    rw [h2]
  · obtain ⟨rfl, rfl, h2, rfl, h3⟩ := h
    simp only [numD]
    rw [h2]
    unfold heldW
    rw [h3]
theorem on_hd (r : Res) : ∃ s ds, encRes r = .tuple (.str s :: ds) ∧ decide (s = (Str.ofString "on" : Str)) = isOn r := by
  cases r with
  | ended n t l => exact ⟨_, _, rfl, (by simp only [isOn]; decide +kernel)⟩
  | fault f n t l => exact ⟨_, _, rfl, (by simp only [isOn]; decide +kernel)⟩
  | on pl n t l hh => exact ⟨_, _, rfl, (by simp only [isOn]; decide +kernel)⟩
end
end K16

set_option Elab.async false
set_option linter.all false
set_option maxRecDepth 100000
set_option maxHeartbeats 4000000
/-! KLaw: the law -/
namespace K16
open PySem PySem.Spec PyProof.Rows L2 Evl
def spLaw (K : PySem.W.Frag) : Sp := fun vs H Q _ => ∃ (a : Addr) (ns : List Int), vs = [.ref a] ∧ SqL K H a (ns.map V.int) ∧ ns.length ≤ 63 ∧ ∀ H', Q (.bl true) H'
section
variable {K : PySem.W.Frag} {σ : L2.St} {H : Hp} {te : TE} {tz : TS} {D : Ends} {d e : PyData}
theorem ev_eqdD {ta tb : TE} (h1 : EvD ta σ H d) (h2 : EvD tb σ H e) (hs : SeqAt.shaped d = true) (hs' : SeqAt.shaped e = true) : Ev (tOp (rEqD K) ta tb) σ H (.bl (PyData.eqv d e)) := fun H1 a Q q =>
  h1 H1 a _ fun v H2 e2 i2 => h2 H2 (a.trans e2) _ fun u H3 e3 i3 => ⟨d, e, (i2.ex e3).dp, i3.dp, hs, hs', q H3 (e2.trans e3)⟩
theorem tup2_go {i j : Nat} {u : V} {R : L2.St → Hp → Prop} (iu : Im H u (.tuple [d, e])) (k : ∀ v w, Im H v d → Im H w e → R ((σ.set i (some v)).set j (some w)) H) : gTup K 2 (gCons (gName i) (gCons (gName j) gNil)) u σ H R := by
  obtain ⟨a, xs, rfl, ha, hs⟩ := iu.tup_
  obtain ⟨v, w, rfl, hv, hw⟩ := hs.two
  exact ⟨a, _, rfl, SqT.of ha, rfl, v, _, rfl, w, _, rfl, rfl, k v w hv hw⟩
end
section
variable {P : Program} {w : World} {K : PySem.W.Frag} {mg : Str → Option Value} {base : Heap}
theorem fn_of {x : Str} {st : Stmt} {f : Addr} {fd : FuncData} {N ps : List Str} {k : Nat} {sp : Sp} (F : FunD K x x (defArgs st) (defBody st) (defScope st) [] [] f fd) (S : FnScope N ps (defScope st))
    (len : ∀ vs H Q E, sp vs H Q E → vs.length = ps.length)
    (hbody : ∀ (cdv : Value) (A : Around) (outer : List PySem.Env) (s : Shared) (H : Hp) (vs : List V) (Q : VK) (E : XK), Room k (A.deeper (envOfC x (defScope st) s.heap.objs.size f cdv)) → sp vs H Q E →
      ∃ t, PSs (cxOf C8.CX0 P w K mg base N x (defScope st) f cdv A outer s H E).nox (defBody st) t ∧ t { nx := fun _ H' => Q .non H', rt := Q } (L2.start N vs) H) : FnOk P w K mg base C8.CX0 (k + 1) f fd ps sp :=
  F.ok S len fun cdv A outer s H vs Q E hr h => by
    obtain ⟨t, h1, h2⟩ := hbody cdv A outer s H vs Q E hr h
    exact ⟨t, h1.nox, h2⟩
theorem sc_law : FnScope ["_law_script", "_law_deck_here", "_law_names_here", "_law_program_here", "_law_answers", "_law_others", "_law_found", "_law_defs", "_law_one"] ["_law_script"] (defScope s_law) := ⟨rfl, rfl, rfl, by decide +kernel, rfl, by decide +kernel, by decide +kernel⟩
theorem ok_law (T : Fx K mg) {fd : FuncData} (F : FunD K "law" "law" (defArgs s_law) (defBody s_law) (defScope s_law) [] [] (He.ga K "law") fd) : FnOk P w K mg base C8.CX0 20 (He.ga K "law") fd ["_law_script"] (spLaw K) := by
  have c_law_deck := ok_law_deck (P := P) (w := w) (base := base) T
  have c_law_names := ok_law_names (P := P) (w := w) (base := base) T
  have c_law_some := ok_law_some (P := P) (w := w) (base := base) T
  have c_law_program := ok_law_program (P := P) (w := w) (base := base) T
  have c_law_played := ok_law_played (P := P) (w := w) (base := base) T
  have c_law_boxed := ok_law_boxed (P := P) (w := w) (base := base) T
  have c_law_row_anew : C8.Cal P w K mg base 6 "_law_row_anew" (spD (fAnew 3)) [] := ok_law_row_anew (P := P) (w := w) (base := base) T 3
  have c_law_called_anew := ok_law_called_anew (P := P) (w := w) (base := base) T
  have c_law_numberless := ok_law_numberless (P := P) (w := w) (base := base) T
  have c_run := ok_run (P := P) (w := w) (base := base) T
  refine fn_of F sc_law (by rintro vs H Q E ⟨_, _, rfl, _⟩; rfl) fun cdv A outer s0 H vs Q E0 hr hsp => ?_
  obtain ⟨a, ns, rfl, hS, hns, k⟩ := hsp
  refine ⟨_, (pss_cons (ps_set (i := 1) sc_law.nd rfl (.inl rfl) (C8.pe_c c_law_deck hr (by omega) rfl (pa_cons (pv 0) pa_nil)))
    (pss_cons (ps_set (i := 2) sc_law.nd rfl (.inl rfl) (C8.pe_c c_law_names hr (by omega) rfl (pa_cons (pv 1) (pa_cons pe_int pa_nil))))
    (pss_cons (ps_set (i := 3) sc_law.nd rfl (.inl rfl) (C8.pe_c c_law_program hr (by omega) rfl (pa_cons (pv 1) (pa_cons (pv 2) (pa_cons (C8.pe_c c_law_some hr (by omega) rfl (pa_cons (pv 1) (pa_cons pe_int (pa_cons pe_int pa_nil)))) (pa_cons pe_int pa_nil))))))
    (pss_cons (ps_asg (C8.pe_c c_law_played hr (by omega) rfl (pa_cons (pv 1) (pa_cons (pv 3) (pa_cons pe_int (pa_cons pe_int pa_nil))))) (pg_tup rfl (pgs_cons (pg_name (i := 4) sc_law.nd rfl (.inl rfl)) (pgs_cons (pg_name (i := 5) sc_law.nd rfl (.inl rfl)) pgs_nil))))
    (pss_cons (ps_set (i := 6) sc_law.nd rfl (.inl rfl) (C8.pe_c c_run hr (by omega) rfl (pa_cons (pv 3) (pa_cons (pv 4) (pa_cons pe_int pa_nil)))))
    (pss_cons (ps_setLc (i := 7) (own := [("_law_one", 8)]) rfl sc_law.nd rfl rfl (sw_true rfl rfl rfl (by decide +kernel)) (pi_tup (pe_ix ix_tup (pv 3) pe_int (fun _ _ => rfl))) (blkOk_by (own := [("_law_one", 8)]) (N := ["_law_script", "_law_deck_here", "_law_names_here", "_law_program_here", "_law_answers", "_law_others", "_law_found", "_law_defs", "_law_one"]) (sc := defScope s_law) (by decide +kernel)) (fun _ _ _ _ _ => pg_name (i := 8) sc_law.nd rfl (.inl rfl)) (fun _ _ _ _ _ => pts_nil) (fun _ _ _ _ _ => by exact (pe_tup (pa_cons (pe_op op_add_str pe_str (pe_ix (ix_tupK K) (pv 8) pe_int (fun _ _ => rfl))) (pa_cons (C8.pe_c c_law_boxed hr (by omega) rfl (pa_cons (pe_ix (ix_tupK K) (pv 8) pe_int (fun _ _ => rfl)) pa_nil)) (pa_cons (C8.pe_c c_law_boxed hr (by omega) rfl (pa_cons (pe_ix (ix_tupK K) (pv 8) pe_int (fun _ _ => rfl)) pa_nil)) (pa_cons (C8.pe_c c_law_row_anew hr (by omega) rfl (pa_cons (pe_ix (ix_tupK K) (pv 8) pe_int (fun _ _ => rfl)) pa_nil)) pa_nil)))))))
    (pss_cons (ps_if (pt_cmpR (op_neD hr.units) (C8.pe_c c_run hr (by omega) rfl (pa_cons (pe_tup (pa_cons (pe_callTy call_tuple_of (by rfl) T.tuple_ boot_tuple (pa_cons (pv 7) pa_nil)) (pa_cons (C8.pe_c c_law_row_anew hr (by omega) rfl (pa_cons (pe_ix ix_tup (pv 3) pe_int (fun _ _ => rfl)) pa_nil)) pa_nil))) (pa_cons (pv 4) (pa_cons pe_int pa_nil)))) (C8.pe_c c_law_called_anew hr (by omega) rfl (pa_cons (pv 6) pa_nil)) (nomark _))
    (pss_one (ps_ret pe_bl))
    pss_nil)
    (pss_cons (ps_if (pt_cmpR (op_neD hr.units) (C8.pe_c c_law_numberless hr (by omega) rfl (pa_cons (C8.pe_c c_run hr (by omega) rfl (pa_cons (pv 3) (pa_cons (pv 5) (pa_cons pe_int pa_nil)))) pa_nil)) (C8.pe_c c_law_numberless hr (by omega) rfl (pa_cons (pv 6) pa_nil)) (nomark _))
    (pss_one (ps_ret pe_bl))
    pss_nil)
    (pss_one (ps_ret (pe_or (pe_cmpR op_eq (pe_ix ix_tup (pv 6) pe_int (fun _ _ => rfl)) pe_str (nomark _)) (pe_one (pe_cmpR (op_eqD hr.units) (C8.pe_c c_run hr (by omega) rfl (pa_cons (pv 3) (pa_cons (pe_op op_catA (pv 4) (pe_tup (pa_cons pe_int (pa_cons pe_int pa_nil)))) (pa_cons pe_int pa_nil)))) (pv 6) (nomark _)))))))))))))), ?_⟩
  -- the deck, the names
  refine asg_go ?_
  refine ⟨.ref a, rfl, a, ns, rfl, hS, hns, fun l H1 lN e1 dk1 => ?_⟩
  refine asg_go ?_
  refine ⟨.ref l, rfl, l, rfl, dk1, fun r nms H2 rN nl no nn hr2 d2 => ?_⟩
  have rl := d2.dk.ne_strs hr2
  -- the program
  refine asg_go ?_
  refine ⟨.ref l, rfl, .ref r, rfl, ?_⟩
  refine go_some (ev_var (i := 1) rfl) ev_c ev_c d2.dk ⟨by decide, by decide⟩ fun m H3 hm dk3 kp3 kt3 => ?_
  refine ⟨l, r, nms, m, rfl, by omega, by omega, dk3, kp3 _ _ hr2 (by simpa using rl), nl, no, nn, fun E p vp H4 ok es pok ps ip d4 => ?_⟩
  -- the play
  refine tup_go ?_
  refine ⟨.ref l, rfl, vp, rfl, E, p, l, vp, rfl, ok, pok, d4.dk, ip, fun gs hs c u H5 reach h60 hfr stop hgl iu kt5 kp5 => ?_⟩
  refine tup2_go (K := K) iu fun va vo ia io => ?_
  have ip5 := ip.mono kt5
  rw [show (List.set (List.set (List.set (List.set (List.set (L2.start ["_law_script", "_law_deck_here", "_law_names_here", "_law_program_here", "_law_answers", "_law_others", "_law_found", "_law_defs", "_law_one"] [.ref a]) 1 (some (.ref l))) 2 (some (.ref r))) 3 (some vp)) 4 (some va)) 5 (some vo) : L2.St) = [some (.ref a), some (.ref l), some (.ref r), some vp, some va, some vo, none, none, none] from rfl]
  -- what is told by both
  obtain ⟨r1, r2, hr1, hr2', hsame, hren, hmore, _⟩ := runs_alike ok pok reach h60 hfr stop
  have okr := EnvOk_ren ok es.b
  have pokr := ProgOk_ren pok
  have kp1 := POk_of ok pok
  have kpr := POk_of okr pokr
  have o1 := res_ok hr1
  have o2 := res_ok hr2'
  have or_ := res_ok hren
  have s1 := resS_of ok es pok ps o1
  have s2 := resS_of ok es pok ps o2
  -- found
  refine qd_set (d := encRes r1) (evd_call (evds_cons (evd_var (i := 3) rfl ip5) (evds_cons (evd_var (i := 4) rfl ia) (evds_cons evd_int evds_nil))) ⟨E, p, gs, 60, r1, rfl, ok, kp1, hr1, rfl⟩) fun vf H6 e6 if6 => ?_
  rw [show (List.set [some (V.ref a), some (V.ref l), some (V.ref r), some vp, some va, some vo, none, none, none] 6 (some vf) : L2.St) = [some (V.ref a), some (V.ref l), some (V.ref r), some vp, some va, some vo, some vf, none, none] from rfl]
  have ip6 := ip5.ex e6
  have hsg : ∀ q ∈ sigs p, q.1 ≠ Str.empty := fun q hq => by
    obtain ⟨D, hD, rfl⟩ := List.mem_map.mp hq
    exact (pok.good D hD).1
  have ea : (Str.ofString "a").length = 1 := by decide +kernel
  -- the defs called otherwise
  refine qd_setL (evl_lc1 (K := K) (j := 8) encDef (fun D => encDef (renD box dnm D)) (l := p.defs) (evd_at (K := K) (d := .tuple (p.defs.map encDef)) 0 (evd_var (i := 3) rfl ip6) rfl) (by have := pok.few; omega) fun D v H7 hD e7 iv => ?_) fun ld us H7 ldN e7 hld ius => ?_
  · have hp := pok.par D hD
    have hg := pok.good D hD
    have hn := ps.names D hD
    refine evd_is (evd_tup (evds_cons (evd_adds evd_str (evd_at (K := K) (d := .str D.name) 0 (evd_var (i := 8) rfl iv) rfl) (by rw [ea]; omega)) (evds_cons (evd_call (evds_cons (evd_at (K := K) (d := tstr D.params) 1 (evd_var (i := 8) rfl iv) rfl) evds_nil) ⟨D.params, rfl, fun b hb => es.b b (hp.1.1 b hb), by have := hp.1.2; omega, rfl⟩) (evds_cons (evd_call (evds_cons (evd_at (K := K) (d := tstr D.results) 2 (evd_var (i := 8) rfl iv) rfl) evds_nil) ⟨D.results, rfl, fun b hb => es.b b (hp.2.1 b hb), by have := hp.2.2; omega, rfl⟩) (evds_cons (evd_call (evds_cons (evd_at (K := K) (d := encRow D.row) 3 (evd_var (i := 8) rfl iv) rfl) evds_nil) ⟨E, sigs p, 0, D.row, rfl, es, hsg, pok.rows D hD, ps.rows D hD, by have := pok.short.2 D hD; omega, rfl⟩) evds_nil))))) ?_
    rw [a_dnm hg.1]
    rfl
  rw [show (List.set [some (V.ref a), some (V.ref l), some (V.ref r), some vp, some va, some vo, some vf, none, none] 7 (some (V.ref ld)) : L2.St) = [some (V.ref a), some (V.ref l), some (V.ref r), some vp, some va, some vo, some vf, some (V.ref ld), none] from rfl]
  have W3 : ∀ {H'}, Ex H7 H' → EvD (tVar 3) [some (V.ref a), some (V.ref l), some (V.ref r), some vp, some va, some vo, some vf, some (V.ref ld), none] H' (encProg p) := fun e => evd_var rfl ((ip6.ex e7).ex e)
  have W4 : ∀ {H'}, Ex H7 H' → EvD (tVar 4) [some (V.ref a), some (V.ref l), some (V.ref r), some vp, some va, some vo, some vf, some (V.ref ld), none] H' (.tuple (gs.map PyData.int)) := fun e => evd_var rfl (((ia.ex e6).ex e7).ex e)
  have W5 : ∀ {H'}, Ex H7 H' → EvD (tVar 5) [some (V.ref a), some (V.ref l), some (V.ref r), some vp, some va, some vo, some vf, some (V.ref ld), none] H' (.tuple (hs.map PyData.int)) := fun e => evd_var rfl (((io.ex e6).ex e7).ex e)
  have W6 : ∀ {H'}, Ex H7 H' → EvD (tVar 6) [some (V.ref a), some (V.ref l), some (V.ref r), some vp, some va, some vo, some vf, some (V.ref ld), none] H' (encRes r1) := fun e => evd_var rfl ((if6.ex e7).ex e)
  -- called otherwise it tells the same
  refine q_no (evt_is (evt_neD (K := K) (evd_call (evds_cons (evd_tup (evds_cons (evd_tupR (K := K) (ev_var (i := 7) rfl) hld ius) (evds_cons (evd_call (evds_cons (evd_at (K := K) (d := encRow p.main) 1 (W3 (Ex.refl H7)) rfl) evds_nil) ⟨E, sigs p, 0, p.main, rfl, es, hsg, pok.main, ps.main, by have := pok.short.1; omega, rfl⟩) evds_nil))) (evds_cons (W4 (Ex.refl H7)) (evds_cons evd_int evds_nil))) ⟨renE E, renP box dnm p, gs, 60, renRes r1, ?_, okr, kpr, hren, rfl⟩) (evd_call (evds_cons (W6 (Ex.refl H7)) evds_nil) ⟨r1, rfl, s1, rfl⟩) (res_shape okr pokr or_) (res_shape okr pokr or_)) (by rw [eqv_self (res_shape okr pokr or_)]; rfl)) fun H8 e8 => ?_
  · show [PyData.tuple [PyData.tuple _, encRow (renR box dnm p.main)], _, _] = [PyData.tuple [PyData.tuple ((p.defs.map (renD box dnm)).map encDef), encRow (renR box dnm p.main)], _, _]
    rw [List.map_map]
    rfl
  -- by other numbers it tells as much
  have sh1 := num_shape ok pok o1
  have en := num_same hsame
  refine q_no (evt_is (evt_neD (K := K) (evd_call (evds_cons (evd_call (evds_cons (W3 e8) (evds_cons (W5 e8) (evds_cons evd_int evds_nil))) ⟨E, p, hs, 60, r2, rfl, ok, kp1, hr2', rfl⟩) evds_nil) ⟨r2, rfl, s2, rfl⟩) (evd_call (evds_cons (W6 e8) evds_nil) ⟨r1, rfl, s1, rfl⟩) (by rw [en]; exact sh1) sh1) (by rw [en, eqv_self sh1]; rfl)) fun H9 e9 => ?_
  have e79 := e8.trans e9
  have sr1 := res_shape ok pok o1
  -- with more answers
  obtain ⟨hd0, dtl, ehd, hon⟩ := on_hd r1
  refine s_ret (v := .bl true) (ev_is (ev_orV (a := isOn r1) (b := true) (ev_is (ev_eqD (evd_at (K := K) (d := .str hd0) 0 (evd_is (W6 e79) ehd) rfl) evd_str rfl) (congrArg V.bl hon)) fun hno => ?_) (by simp)) fun H' _ => k H'
  refine ev_is (ev_eqdD (K := K) (evd_call (evds_cons (W3 e79) (evds_cons (evd_cat (K := K) (ds := gs.map PyData.int) (es := [.int 7, .int 0]) (W4 e79) (evd_tup (evds_cons evd_int (evds_cons evd_int evds_nil))) (by simp; omega)) (evds_cons evd_int evds_nil))) ⟨E, p, gs ++ [7, 0], 60, r1, by rw [List.map_append]; rfl, ok, kp1, hmore hno [7, 0], rfl⟩) (W6 e79) sr1 sr1) (by rw [eqv_self sr1])
end
end K16

set_option Elab.async false
set_option linter.all false
set_option maxRecDepth 100000
set_option maxHeartbeats 0
/-! KEnd: the end -/
namespace K16
open PySem PySem.Spec PyProof.Rows L2
theorem facts {P : Program} {w : World} {K : PySem.W.Frag} {h : Heap} {mg : Str → Option Value} {f : Addr} (X : K.In h) (G : h.Ns mainGlobals mg) (hfa : mg ("law" : Str) = some (.ref f)) (c : He.SaysD fa fn K) :
    ∃ fd : FuncData, (∀ (s : Shared) (v : Value), BindsTo s fd ⟨[v], []⟩ [("_law_script", v)]) ∧ ∀ base : Heap, K.In base → base.Ns mainGlobals mg → FnOk P w K mg base C8.CX0 20 f fd ["_law_script"] (spLaw K) := by
  have T : Fx K mg := ⟨c, h, X, G⟩
  obtain ⟨fd, F⟩ := T.f_law
  have e := hfa.symm.trans T.g_law
  cases e
  have b := FunD.bindsA (ps := ["_law_script"]) F fun _ _ _ _ _ _ us hl => match us, hl with | [_], _ => rfl
  exact ⟨fd, fun s v => b s [v] rfl, fun base _ _ => ok_law T F⟩
end K16
open PySem PySem.W PySem.Calls PyProof.Rows
theorem PySem.Challenge.cw_wipeways_k16_whole_runs_alike_holds : PySem.Challenge.rw_wipeways_k16_whole_runs_alike.Holds := by
  w_on; o_law
  refine HandSHeadRun.head_any (r := OpenLaw.row PySem.Challenge.rw_wipeways_k16_whole_runs_alike) (q := view (OpenLaw.row PySem.Challenge.rw_wipeways_k16_whole_runs_alike).prog [58]) (H := K16.hk) (ob := K16.ob) (M := 4000) (loose := K16.loose) (d := HandSHeadRun.topDef (OpenLaw.row PySem.Challenge.rw_wipeways_k16_whole_runs_alike).prog 58) (kwd := []) K16.ob_eq
    (by kernel_rfl) (fun s => by kernel_rfl) K16.run (by kernel_rfl) (by kernel_rfl) (by kernel_rfl) (by rfl) (by first | assumption | decide +kernel) (by decide +kernel) ⟨rfl, rfl, rfl, rfl, rfl, by decide +kernel⟩ ?hw ?hc
  case hw => w_witness2
  case hc =>
    refine L2.walk_ofE (l := PySem.Challenge.rw_wipeways_k16_whole_runs_alike) (n := 63) (k := 20) (x := "_law_script") (CX := C8.CX0) rfl (by decide) (by kernel_rfl) ⟨rfl, by decide, by decide⟩ ?F (fun _ _ _ _ z => z)
    intro w mg fa h Y G hmg0
    obtain ⟨K, KX, c⟩ := Y
    have hmg : mg ("law" : PySem.Str) = some (.ref fa) := by
      have e : (HandSHeadRun.topDef (OpenLaw.row PySem.Challenge.rw_wipeways_k16_whole_runs_alike).prog 58).name = ("law" : PySem.Str) := by kernel_rfl
      rw [← e]
      exact hmg0
    obtain ⟨fd, hb, hF⟩ := K16.facts (P := (PySem.Challenge.rw_wipeways_k16_whole_runs_alike).prog) (w := w) KX G hmg c
    exact ⟨K, fd, K16.spLaw K, KX, hb, fun H a ns hl _ hS => ⟨a, ns, rfl, hS, hl, fun _ => rfl⟩, hF⟩

import PyProof.Rows.All
import Wide.All
import OpenK.AllK
import Wide.FinOn
import HandS.Base
import HandS.Call
import HandS.List
import HandS.Comp
import HandS.Ends
import HandS.More
import HandS.Conv
import HandS.Exc
import HandS.ExcOwn
import HandS.ExcInit
import HandS.ExcField
import HandS.ExcIs
import HandS.TryOnly
import HandS.TryMany
import HandS.TryElse
import HandS.IsInst
import HandS.WideBits
import HandS.Words
import HandS.WordsList
import HandS.WordsExc
import HandS.Defaults
import HandS.Style
import HandS.HeadEnd
import HandS.Head0
import HandS.Head1
import HandS.Head2
import HandS.HeadHook1
import HandS.HeadHook2
import HandS.HeadHook3
import HandS.HeadHook4
import PySem.Challenge.RW_rowbreadth_k16_fold_and_running
set_option Elab.async false
set_option linter.all false
set_option maxRecDepth 100000
set_option maxHeartbeats 0
namespace RB
open PySem PySem.Spec PyProof.Rows L2
def top (i : Nat) : Stmt := PySem.Challenge.pw_rowbreadth_k16_fold_and_running.main.body.getD i (.Pass ⟨0, 0, 0, 0⟩)
abbrev s_kept : Stmt := top 7
abbrev n_kept : List Str := ["number"]
abbrev p_kept : List Str := ["number"]
def d_kept : He.DefD := ⟨("kept", none), "kept", "kept", defArgs s_kept, defBody s_kept, defScope s_kept, [], []⟩
theorem sc_kept : FnScope n_kept p_kept (defScope s_kept) := ⟨rfl, rfl, rfl, by decide +kernel, rfl, by decide +kernel, by decide +kernel⟩
abbrev s_divided : Stmt := top 8
abbrev n_divided : List Str := ["sign", "left", "right", "quotient", "rest"]
abbrev p_divided : List Str := ["sign", "left", "right"]
def d_divided : He.DefD := ⟨("divided", none), "divided", "divided", defArgs s_divided, defBody s_divided, defScope s_divided, [], []⟩
theorem sc_divided : FnScope n_divided p_divided (defScope s_divided) := ⟨rfl, rfl, rfl, by decide +kernel, rfl, by decide +kernel, by decide +kernel⟩
abbrev s_by_bits : Stmt := top 9
abbrev n_by_bits : List Str := ["sign", "left", "right"]
abbrev p_by_bits : List Str := ["sign", "left", "right"]
def d_by_bits : He.DefD := ⟨("by_bits", none), "by_bits", "by_bits", defArgs s_by_bits, defBody s_by_bits, defScope s_by_bits, [], []⟩
theorem sc_by_bits : FnScope n_by_bits p_by_bits (defScope s_by_bits) := ⟨rfl, rfl, rfl, by decide +kernel, rfl, by decide +kernel, by decide +kernel⟩
abbrev s_done : Stmt := top 10
abbrev n_done : List Str := ["sign", "left", "right"]
abbrev p_done : List Str := ["sign", "left", "right"]
def d_done : He.DefD := ⟨("done", none), "done", "done", defArgs s_done, defBody s_done, defScope s_done, [], []⟩
theorem sc_done : FnScope n_done p_done (defScope s_done) := ⟨rfl, rfl, rfl, by decide +kernel, rfl, by decide +kernel, by decide +kernel⟩
abbrev s_joined : Stmt := top 11
abbrev n_joined : List Str := ["fold", "run", "number"]
abbrev p_joined : List Str := ["fold", "run", "number"]
def d_joined : He.DefD := ⟨("joined", none), "joined", "joined", defArgs s_joined, defBody s_joined, defScope s_joined, [], []⟩
theorem sc_joined : FnScope n_joined p_joined (defScope s_joined) := ⟨rfl, rfl, rfl, by decide +kernel, rfl, by decide +kernel, by decide +kernel⟩
abbrev s_start_of : Stmt := top 13
abbrev n_start_of : List Str := ["lengths", "row"]
abbrev p_start_of : List Str := ["lengths", "row"]
def d_start_of : He.DefD := ⟨("start_of", none), "start_of", "start_of", defArgs s_start_of, defBody s_start_of, defScope s_start_of, [], []⟩
theorem sc_start_of : FnScope n_start_of p_start_of (defScope s_start_of) := ⟨rfl, rfl, rfl, by decide +kernel, rfl, by decide +kernel, by decide +kernel⟩
abbrev s_Spot_init : Stmt := inClass (top 16) 0
abbrev n_Spot_init : List Str := ["self", "lengths", "functions", "cells", "place", "own"]
abbrev p_Spot_init : List Str := ["self", "lengths", "functions", "cells", "place", "own"]
def d_Spot_init : He.DefD := ⟨("Spot", some "__init__"), "__init__", "Spot.__init__", defArgs s_Spot_init, defBody s_Spot_init, defScope s_Spot_init, [], []⟩
theorem sc_Spot_init : FnScope n_Spot_init p_Spot_init (defScope s_Spot_init) := ⟨rfl, rfl, rfl, by decide +kernel, rfl, by decide +kernel, by decide +kernel⟩
abbrev s_row_cell : Stmt := top 17
abbrev n_row_cell : List Str := ["spot", "row", "place"]
abbrev p_row_cell : List Str := ["spot", "row", "place"]
def d_row_cell : He.DefD := ⟨("row_cell", none), "row_cell", "row_cell", defArgs s_row_cell, defBody s_row_cell, defScope s_row_cell, [], []⟩
theorem sc_row_cell : FnScope n_row_cell p_row_cell (defScope s_row_cell) := ⟨rfl, rfl, rfl, by decide +kernel, rfl, by decide +kernel, by decide +kernel⟩
abbrev s_Number_init : Stmt := inClass (top 19) 0
abbrev n_Number_init : List Str := ["self", "number"]
abbrev p_Number_init : List Str := ["self", "number"]
def d_Number_init : He.DefD := ⟨("Number", some "__init__"), "__init__", "Number.__init__", defArgs s_Number_init, defBody s_Number_init, defScope s_Number_init, [], []⟩
theorem sc_Number_init : FnScope n_Number_init p_Number_init (defScope s_Number_init) := ⟨rfl, rfl, rfl, by decide +kernel, rfl, by decide +kernel, by decide +kernel⟩
abbrev s_Number_worth : Stmt := inClass (top 19) 1
abbrev n_Number_worth : List Str := ["self", "spot"]
abbrev p_Number_worth : List Str := ["self", "spot"]
def d_Number_worth : He.DefD := ⟨("Number", some "worth"), "worth", "Number.worth", defArgs s_Number_worth, defBody s_Number_worth, defScope s_Number_worth, [], []⟩
theorem sc_Number_worth : FnScope n_Number_worth p_Number_worth (defScope s_Number_worth) := ⟨rfl, rfl, rfl, by decide +kernel, rfl, by decide +kernel, by decide +kernel⟩
abbrev s_Here_worth : Stmt := inClass (top 20) 0
abbrev n_Here_worth : List Str := ["self", "spot"]
abbrev p_Here_worth : List Str := ["self", "spot"]
def d_Here_worth : He.DefD := ⟨("Here", some "worth"), "worth", "Here.worth", defArgs s_Here_worth, defBody s_Here_worth, defScope s_Here_worth, [], []⟩
theorem sc_Here_worth : FnScope n_Here_worth p_Here_worth (defScope s_Here_worth) := ⟨rfl, rfl, rfl, by decide +kernel, rfl, by decide +kernel, by decide +kernel⟩
abbrev s_Cell_init : Stmt := inClass (top 21) 0
abbrev n_Cell_init : List Str := ["self", "row"]
abbrev p_Cell_init : List Str := ["self", "row"]
def d_Cell_init : He.DefD := ⟨("Cell", some "__init__"), "__init__", "Cell.__init__", defArgs s_Cell_init, defBody s_Cell_init, defScope s_Cell_init, [], []⟩
theorem sc_Cell_init : FnScope n_Cell_init p_Cell_init (defScope s_Cell_init) := ⟨rfl, rfl, rfl, by decide +kernel, rfl, by decide +kernel, by decide +kernel⟩
abbrev s_Cell_worth : Stmt := inClass (top 21) 1
abbrev n_Cell_worth : List Str := ["self", "spot"]
abbrev p_Cell_worth : List Str := ["self", "spot"]
def d_Cell_worth : He.DefD := ⟨("Cell", some "worth"), "worth", "Cell.worth", defArgs s_Cell_worth, defBody s_Cell_worth, defScope s_Cell_worth, [], []⟩
theorem sc_Cell_worth : FnScope n_Cell_worth p_Cell_worth (defScope s_Cell_worth) := ⟨rfl, rfl, rfl, by decide +kernel, rfl, by decide +kernel, by decide +kernel⟩
abbrev s_Shifted_init : Stmt := inClass (top 22) 0
abbrev n_Shifted_init : List Str := ["self", "row", "by", "other"]
abbrev p_Shifted_init : List Str := ["self", "row", "by", "other"]
def d_Shifted_init : He.DefD := ⟨("Shifted", some "__init__"), "__init__", "Shifted.__init__", defArgs s_Shifted_init, defBody s_Shifted_init, defScope s_Shifted_init, [], []⟩
theorem sc_Shifted_init : FnScope n_Shifted_init p_Shifted_init (defScope s_Shifted_init) := ⟨rfl, rfl, rfl, by decide +kernel, rfl, by decide +kernel, by decide +kernel⟩
abbrev s_Shifted_worth : Stmt := inClass (top 22) 1
abbrev n_Shifted_worth : List Str := ["self", "spot", "place"]
abbrev p_Shifted_worth : List Str := ["self", "spot"]
def d_Shifted_worth : He.DefD := ⟨("Shifted", some "worth"), "worth", "Shifted.worth", defArgs s_Shifted_worth, defBody s_Shifted_worth, defScope s_Shifted_worth, [], []⟩
theorem sc_Shifted_worth : FnScope n_Shifted_worth p_Shifted_worth (defScope s_Shifted_worth) := ⟨rfl, rfl, rfl, by decide +kernel, rfl, by decide +kernel, by decide +kernel⟩
abbrev s_Local_init : Stmt := inClass (top 23) 0
abbrev n_Local_init : List Str := ["self", "at"]
abbrev p_Local_init : List Str := ["self", "at"]
def d_Local_init : He.DefD := ⟨("Local", some "__init__"), "__init__", "Local.__init__", defArgs s_Local_init, defBody s_Local_init, defScope s_Local_init, [], []⟩
theorem sc_Local_init : FnScope n_Local_init p_Local_init (defScope s_Local_init) := ⟨rfl, rfl, rfl, by decide +kernel, rfl, by decide +kernel, by decide +kernel⟩
abbrev s_Local_worth : Stmt := inClass (top 23) 1
abbrev n_Local_worth : List Str := ["self", "spot"]
abbrev p_Local_worth : List Str := ["self", "spot"]
def d_Local_worth : He.DefD := ⟨("Local", some "worth"), "worth", "Local.worth", defArgs s_Local_worth, defBody s_Local_worth, defScope s_Local_worth, [], []⟩
theorem sc_Local_worth : FnScope n_Local_worth p_Local_worth (defScope s_Local_worth) := ⟨rfl, rfl, rfl, by decide +kernel, rfl, by decide +kernel, by decide +kernel⟩
abbrev s_At_init : Stmt := inClass (top 24) 0
abbrev n_At_init : List Str := ["self", "row", "place"]
abbrev p_At_init : List Str := ["self", "row", "place"]
def d_At_init : He.DefD := ⟨("At", some "__init__"), "__init__", "At.__init__", defArgs s_At_init, defBody s_At_init, defScope s_At_init, [], []⟩
theorem sc_At_init : FnScope n_At_init p_At_init (defScope s_At_init) := ⟨rfl, rfl, rfl, by decide +kernel, rfl, by decide +kernel, by decide +kernel⟩
abbrev s_At_worth : Stmt := inClass (top 24) 1
abbrev n_At_worth : List Str := ["self", "spot", "place"]
abbrev p_At_worth : List Str := ["self", "spot"]
def d_At_worth : He.DefD := ⟨("At", some "worth"), "worth", "At.worth", defArgs s_At_worth, defBody s_At_worth, defScope s_At_worth, [], []⟩
theorem sc_At_worth : FnScope n_At_worth p_At_worth (defScope s_At_worth) := ⟨rfl, rfl, rfl, by decide +kernel, rfl, by decide +kernel, by decide +kernel⟩
abbrev s_Pair_init : Stmt := inClass (top 25) 0
abbrev n_Pair_init : List Str := ["self", "sign", "left", "right"]
abbrev p_Pair_init : List Str := ["self", "sign", "left", "right"]
def d_Pair_init : He.DefD := ⟨("Pair", some "__init__"), "__init__", "Pair.__init__", defArgs s_Pair_init, defBody s_Pair_init, defScope s_Pair_init, [], []⟩
theorem sc_Pair_init : FnScope n_Pair_init p_Pair_init (defScope s_Pair_init) := ⟨rfl, rfl, rfl, by decide +kernel, rfl, by decide +kernel, by decide +kernel⟩
abbrev s_Pair_worth : Stmt := inClass (top 25) 1
abbrev n_Pair_worth : List Str := ["self", "spot", "left", "right"]
abbrev p_Pair_worth : List Str := ["self", "spot"]
def d_Pair_worth : He.DefD := ⟨("Pair", some "worth"), "worth", "Pair.worth", defArgs s_Pair_worth, defBody s_Pair_worth, defScope s_Pair_worth, [], []⟩
theorem sc_Pair_worth : FnScope n_Pair_worth p_Pair_worth (defScope s_Pair_worth) := ⟨rfl, rfl, rfl, by decide +kernel, rfl, by decide +kernel, by decide +kernel⟩
abbrev s_Choice_init : Stmt := inClass (top 26) 0
abbrev n_Choice_init : List Str := ["self", "test", "left", "right"]
abbrev p_Choice_init : List Str := ["self", "test", "left", "right"]
def d_Choice_init : He.DefD := ⟨("Choice", some "__init__"), "__init__", "Choice.__init__", defArgs s_Choice_init, defBody s_Choice_init, defScope s_Choice_init, [], []⟩
theorem sc_Choice_init : FnScope n_Choice_init p_Choice_init (defScope s_Choice_init) := ⟨rfl, rfl, rfl, by decide +kernel, rfl, by decide +kernel, by decide +kernel⟩
abbrev s_Choice_worth : Stmt := inClass (top 26) 1
abbrev n_Choice_worth : List Str := ["self", "spot"]
abbrev p_Choice_worth : List Str := ["self", "spot"]
def d_Choice_worth : He.DefD := ⟨("Choice", some "worth"), "worth", "Choice.worth", defArgs s_Choice_worth, defBody s_Choice_worth, defScope s_Choice_worth, [], []⟩
theorem sc_Choice_worth : FnScope n_Choice_worth p_Choice_worth (defScope s_Choice_worth) := ⟨rfl, rfl, rfl, by decide +kernel, rfl, by decide +kernel, by decide +kernel⟩
abbrev s_Call_init : Stmt := inClass (top 27) 0
abbrev n_Call_init : List Str := ["self", "at", "handed"]
abbrev p_Call_init : List Str := ["self", "at", "handed"]
def d_Call_init : He.DefD := ⟨("Call", some "__init__"), "__init__", "Call.__init__", defArgs s_Call_init, defBody s_Call_init, defScope s_Call_init, [], []⟩
theorem sc_Call_init : FnScope n_Call_init p_Call_init (defScope s_Call_init) := ⟨rfl, rfl, rfl, by decide +kernel, rfl, by decide +kernel, by decide +kernel⟩
abbrev s_Call_worth : Stmt := inClass (top 27) 1
abbrev n_Call_worth : List Str := ["self", "spot", "own", "form", "body"]
abbrev p_Call_worth : List Str := ["self", "spot"]
def d_Call_worth : He.DefD := ⟨("Call", some "worth"), "worth", "Call.worth", defArgs s_Call_worth, defBody s_Call_worth, defScope s_Call_worth, [], []⟩
theorem sc_Call_worth : FnScope n_Call_worth p_Call_worth (defScope s_Call_worth) := ⟨rfl, rfl, rfl, by decide +kernel, rfl, by decide +kernel, by decide +kernel⟩
abbrev s_Step_init : Stmt := inClass (top 29) 0
abbrev n_Step_init : List Str := ["self", "target"]
abbrev p_Step_init : List Str := ["self", "target"]
def d_Step_init : He.DefD := ⟨("Step", some "__init__"), "__init__", "Step.__init__", defArgs s_Step_init, defBody s_Step_init, defScope s_Step_init, [], []⟩
theorem sc_Step_init : FnScope n_Step_init p_Step_init (defScope s_Step_init) := ⟨rfl, rfl, rfl, by decide +kernel, rfl, by decide +kernel, by decide +kernel⟩
abbrev s_Step_many_of : Stmt := inClass (top 29) 1
abbrev n_Step_many_of : List Str := ["self", "lengths"]
abbrev p_Step_many_of : List Str := ["self", "lengths"]
def d_Step_many_of : He.DefD := ⟨("Running", some "many_of"), "many_of", "Step.many_of", defArgs s_Step_many_of, defBody s_Step_many_of, defScope s_Step_many_of, [], []⟩
theorem sc_Step_many_of : FnScope n_Step_many_of p_Step_many_of (defScope s_Step_many_of) := ⟨rfl, rfl, rfl, by decide +kernel, rfl, by decide +kernel, by decide +kernel⟩
abbrev s_Fold_init : Stmt := inClass (top 32) 0
abbrev n_Fold_init : List Str := ["self", "target", "fold", "value", "many", "test"]
abbrev p_Fold_init : List Str := ["self", "target", "fold", "value", "many", "test"]
def d_Fold_init : He.DefD := ⟨("Fold", some "__init__"), "__init__", "Fold.__init__", defArgs s_Fold_init, defBody s_Fold_init, defScope s_Fold_init, [.non], []⟩
theorem sc_Fold_init : FnScope n_Fold_init p_Fold_init (defScope s_Fold_init) := ⟨rfl, rfl, rfl, by decide +kernel, rfl, by decide +kernel, by decide +kernel⟩
abbrev s_Fold_many_of : Stmt := inClass (top 32) 1
abbrev n_Fold_many_of : List Str := ["self", "lengths"]
abbrev p_Fold_many_of : List Str := ["self", "lengths"]
def d_Fold_many_of : He.DefD := ⟨("Fold", some "many_of"), "many_of", "Fold.many_of", defArgs s_Fold_many_of, defBody s_Fold_many_of, defScope s_Fold_many_of, [], []⟩
theorem sc_Fold_many_of : FnScope n_Fold_many_of p_Fold_many_of (defScope s_Fold_many_of) := ⟨rfl, rfl, rfl, by decide +kernel, rfl, by decide +kernel, by decide +kernel⟩
abbrev s_Running_init : Stmt := inClass (top 33) 0
abbrev n_Running_init : List Str := ["self", "target", "fold", "value", "test"]
abbrev p_Running_init : List Str := ["self", "target", "fold", "value", "test"]
def d_Running_init : He.DefD := ⟨("Running", some "__init__"), "__init__", "Running.__init__", defArgs s_Running_init, defBody s_Running_init, defScope s_Running_init, [.non], []⟩
theorem sc_Running_init : FnScope n_Running_init p_Running_init (defScope s_Running_init) := ⟨rfl, rfl, rfl, by decide +kernel, rfl, by decide +kernel, by decide +kernel⟩
abbrev s_Program_init : Stmt := inClass (top 35) 0
abbrev n_Program_init : List Str := ["self", "lengths", "functions", "steps"]
abbrev p_Program_init : List Str := ["self", "lengths", "functions", "steps"]
def d_Program_init : He.DefD := ⟨("Program", some "__init__"), "__init__", "Program.__init__", defArgs s_Program_init, defBody s_Program_init, defScope s_Program_init, [], []⟩
theorem sc_Program_init : FnScope n_Program_init p_Program_init (defScope s_Program_init) := ⟨rfl, rfl, rfl, by decide +kernel, rfl, by decide +kernel, by decide +kernel⟩
abbrev s_count_of : Stmt := top 36
abbrev n_count_of : List Str := ["steps", "many", "step"]
abbrev p_count_of : List Str := ["steps"]
def d_count_of : He.DefD := ⟨("count_of", none), "count_of", "count_of", defArgs s_count_of, defBody s_count_of, defScope s_count_of, [], []⟩
theorem sc_count_of : FnScope n_count_of p_count_of (defScope s_count_of) := ⟨rfl, rfl, rfl, by decide +kernel, rfl, by decide +kernel, by decide +kernel⟩
abbrev s_Stopped_init : Stmt := inClass (top 38) 0
abbrev n_Stopped_init : List Str := ["self", "step", "place", "kind"]
abbrev p_Stopped_init : List Str := ["self", "step", "place", "kind"]
def d_Stopped_init : He.DefD := ⟨("Stopped", some "__init__"), "__init__", "Stopped.__init__", defArgs s_Stopped_init, defBody s_Stopped_init, defScope s_Stopped_init, [], []⟩
theorem sc_Stopped_init : FnScope n_Stopped_init p_Stopped_init (defScope s_Stopped_init) := ⟨rfl, rfl, rfl, by decide +kernel, rfl, by decide +kernel, by decide +kernel⟩
abbrev s_ask_form : Stmt := top 39
abbrev n_ask_form : List Str := ["form", "spot", "number", "found", "kind"]
abbrev p_ask_form : List Str := ["form", "spot", "number"]
def d_ask_form : He.DefD := ⟨("ask_form", none), "ask_form", "ask_form", defArgs s_ask_form, defBody s_ask_form, defScope s_ask_form, [], []⟩
theorem sc_ask_form : FnScope n_ask_form p_ask_form (defScope s_ask_form) := ⟨rfl, rfl, rfl, by decide +kernel, rfl, by decide +kernel, by decide +kernel⟩
abbrev s_passed_over : Stmt := top 40
abbrev n_passed_over : List Str := ["step", "spot", "number"]
abbrev p_passed_over : List Str := ["step", "spot", "number"]
def d_passed_over : He.DefD := ⟨("passed_over", none), "passed_over", "passed_over", defArgs s_passed_over, defBody s_passed_over, defScope s_passed_over, [], []⟩
theorem sc_passed_over : FnScope n_passed_over p_passed_over (defScope s_passed_over) := ⟨rfl, rfl, rfl, by decide +kernel, rfl, by decide +kernel, by decide +kernel⟩
abbrev s_play_fold : Stmt := top 43
abbrev n_play_fold : List Str := ["step", "number", "program", "cells", "start", "place", "spot", "value"]
abbrev p_play_fold : List Str := ["step", "number", "program", "cells"]
def d_play_fold : He.DefD := ⟨("play_fold", none), "play_fold", "play_fold", defArgs s_play_fold, defBody s_play_fold, defScope s_play_fold, [], []⟩
theorem sc_play_fold : FnScope n_play_fold p_play_fold (defScope s_play_fold) := ⟨rfl, rfl, rfl, by decide +kernel, rfl, by decide +kernel, by decide +kernel⟩
abbrev s_play_running : Stmt := top 44
abbrev n_play_running : List Str := ["step", "number", "program", "cells", "start", "run", "place", "spot", "value"]
abbrev p_play_running : List Str := ["step", "number", "program", "cells"]
def d_play_running : He.DefD := ⟨("play_running", none), "play_running", "play_running", defArgs s_play_running, defBody s_play_running, defScope s_play_running, [], []⟩
theorem sc_play_running : FnScope n_play_running p_play_running (defScope s_play_running) := ⟨rfl, rfl, rfl, by decide +kernel, rfl, by decide +kernel, by decide +kernel⟩
abbrev s_play_step : Stmt := top 46
abbrev n_play_step : List Str := ["step", "number", "program", "cells"]
abbrev p_play_step : List Str := ["step", "number", "program", "cells"]
def d_play_step : He.DefD := ⟨("play_step", none), "play_step", "play_step", defArgs s_play_step, defBody s_play_step, defScope s_play_step, [], []⟩
theorem sc_play_step : FnScope n_play_step p_play_step (defScope s_play_step) := ⟨rfl, rfl, rfl, by decide +kernel, rfl, by decide +kernel, by decide +kernel⟩
abbrev s_play_steps : Stmt := top 47
abbrev n_play_steps : List Str := ["steps", "number", "program", "cells", "step"]
abbrev p_play_steps : List Str := ["steps", "number", "program", "cells"]
def d_play_steps : He.DefD := ⟨("play_steps", none), "play_steps", "play_steps", defArgs s_play_steps, defBody s_play_steps, defScope s_play_steps, [], []⟩
theorem sc_play_steps : FnScope n_play_steps p_play_steps (defScope s_play_steps) := ⟨rfl, rfl, rfl, by decide +kernel, rfl, by decide +kernel, by decide +kernel⟩
abbrev s_played : Stmt := top 48
abbrev n_played : List Str := ["program", "cells", "now", "refusal", "e"]
abbrev p_played : List Str := ["program", "cells"]
def d_played : He.DefD := ⟨("played", none), "played", "played", defArgs s_played, defBody s_played, defScope s_played, [], []⟩
theorem sc_played : FnScope n_played p_played (defScope s_played) := ⟨rfl, rfl, rfl, by decide +kernel, rfl, by decide +kernel, by decide +kernel⟩
abbrev s_l_whole : Stmt := top 50
abbrev n_l_whole : List Str := ["_law_found"]
abbrev p_l_whole : List Str := ["_law_found"]
def d_l_whole : He.DefD := ⟨("_law_whole", none), "_law_whole", "_law_whole", defArgs s_l_whole, defBody s_l_whole, defScope s_l_whole, [], []⟩
theorem sc_l_whole : FnScope n_l_whole p_l_whole (defScope s_l_whole) := ⟨rfl, rfl, rfl, by decide +kernel, rfl, by decide +kernel, by decide +kernel⟩
abbrev s_l_kept_by : Stmt := top 51
abbrev n_l_kept_by : List Str := ["_law_cell", "_law_how", "_law_edges"]
abbrev p_l_kept_by : List Str := ["_law_cell"]
def d_l_kept_by : He.DefD := ⟨("_law_kept_by", none), "_law_kept_by", "_law_kept_by", defArgs s_l_kept_by, defBody s_l_kept_by, defScope s_l_kept_by, [], []⟩
theorem sc_l_kept_by : FnScope n_l_kept_by p_l_kept_by (defScope s_l_kept_by) := ⟨rfl, rfl, rfl, by decide +kernel, rfl, by decide +kernel, by decide +kernel⟩
abbrev s_l_mix : Stmt := top 52
abbrev n_l_mix : List Str := ["_law_cell", "_law_factor", "_law_prime"]
abbrev p_l_mix : List Str := ["_law_cell", "_law_factor", "_law_prime"]
def d_l_mix : He.DefD := ⟨("_law_mix", none), "_law_mix", "_law_mix", defArgs s_l_mix, defBody s_l_mix, defScope s_l_mix, [], []⟩
theorem sc_l_mix : FnScope n_l_mix p_l_mix (defScope s_l_mix) := ⟨rfl, rfl, rfl, by decide +kernel, rfl, by decide +kernel, by decide +kernel⟩
abbrev s_l_asked : Stmt := top 53
abbrev n_l_asked : List Str := ["_law_form", "_law_spot", "_law_found", "_law_kind", "e"]
abbrev p_l_asked : List Str := ["_law_form", "_law_spot"]
def d_l_asked : He.DefD := ⟨("_law_asked", none), "_law_asked", "_law_asked", defArgs s_l_asked, defBody s_l_asked, defScope s_l_asked, [], []⟩
theorem sc_l_asked : FnScope n_l_asked p_l_asked (defScope s_l_asked) := ⟨rfl, rfl, rfl, by decide +kernel, rfl, by decide +kernel, by decide +kernel⟩
abbrev s_l_functions : Stmt := top 54
abbrev n_l_functions : List Str := ["_law_one"]
abbrev p_l_functions : List Str := []
def d_l_functions : He.DefD := ⟨("_law_functions", none), "_law_functions", "_law_functions", defArgs s_l_functions, defBody s_l_functions, defScope s_l_functions, [], []⟩
theorem sc_l_functions : FnScope n_l_functions p_l_functions (defScope s_l_functions) := ⟨rfl, rfl, rfl, by decide +kernel, rfl, by decide +kernel, by decide +kernel⟩
abbrev s_l_leaf_by : Stmt := top 55
abbrev n_l_leaf_by : List Str := ["_law_cell", "_law_rows", "_law_far", "_law_lengths", "_law_how", "_law_rest", "_law_row", "_law_by", "_law_place"]
abbrev p_l_leaf_by : List Str := ["_law_cell", "_law_rows", "_law_far", "_law_lengths"]
def d_l_leaf_by : He.DefD := ⟨("_law_leaf_by", none), "_law_leaf_by", "_law_leaf_by", defArgs s_l_leaf_by, defBody s_l_leaf_by, defScope s_l_leaf_by, [], []⟩
theorem sc_l_leaf_by : FnScope n_l_leaf_by p_l_leaf_by (defScope s_l_leaf_by) := ⟨rfl, rfl, rfl, by decide +kernel, rfl, by decide +kernel, by decide +kernel⟩
abbrev s_l_value_by : Stmt := top 56
abbrev n_l_value_by : List Str := ["_law_cell", "_law_rows", "_law_far", "_law_lengths", "_law_signs", "_law_how", "_law_one", "_law_two"]
abbrev p_l_value_by : List Str := ["_law_cell", "_law_rows", "_law_far", "_law_lengths"]
def d_l_value_by : He.DefD := ⟨("_law_value_by", none), "_law_value_by", "_law_value_by", defArgs s_l_value_by, defBody s_l_value_by, defScope s_l_value_by, [], []⟩
theorem sc_l_value_by : FnScope n_l_value_by p_l_value_by (defScope s_l_value_by) := ⟨rfl, rfl, rfl, by decide +kernel, rfl, by decide +kernel, by decide +kernel⟩
abbrev s_l_lengths_by : Stmt := top 57
abbrev n_l_lengths_by : List Str := ["_law_script", "_law_wide", "_law_many", "_law_lengths", "_law_cell"]
abbrev p_l_lengths_by : List Str := ["_law_script", "_law_wide"]
def d_l_lengths_by : He.DefD := ⟨("_law_lengths_by", none), "_law_lengths_by", "_law_lengths_by", defArgs s_l_lengths_by, defBody s_l_lengths_by, defScope s_l_lengths_by, [], []⟩
theorem sc_l_lengths_by : FnScope n_l_lengths_by p_l_lengths_by (defScope s_l_lengths_by) := ⟨rfl, rfl, rfl, by decide +kernel, rfl, by decide +kernel, by decide +kernel⟩
abbrev s_l_cells_by : Stmt := top 58
abbrev n_l_cells_by : List Str := ["_law_script", "_law_lengths", "_law_cells", "_law_k"]
abbrev p_l_cells_by : List Str := ["_law_script", "_law_lengths"]
def d_l_cells_by : He.DefD := ⟨("_law_cells_by", none), "_law_cells_by", "_law_cells_by", defArgs s_l_cells_by, defBody s_l_cells_by, defScope s_l_cells_by, [], []⟩
theorem sc_l_cells_by : FnScope n_l_cells_by p_l_cells_by (defScope s_l_cells_by) := ⟨rfl, rfl, rfl, by decide +kernel, rfl, by decide +kernel, by decide +kernel⟩
abbrev s_l_element : Stmt := top 59
abbrev n_l_element : List Str := ["_law_step", "_law_spot", "_law_test"]
abbrev p_l_element : List Str := ["_law_step", "_law_spot"]
def d_l_element : He.DefD := ⟨("_law_element", none), "_law_element", "_law_element", defArgs s_l_element, defBody s_l_element, defScope s_l_element, [], []⟩
theorem sc_l_element : FnScope n_l_element p_l_element (defScope s_l_element) := ⟨rfl, rfl, rfl, by decide +kernel, rfl, by decide +kernel, by decide +kernel⟩
abbrev s_l_told : Stmt := top 60
abbrev n_l_told : List Str := ["_law_found", "_law_due_here", "_law_number"]
abbrev p_l_told : List Str := ["_law_found", "_law_due_here"]
def d_l_told : He.DefD := ⟨("_law_told", none), "_law_told", "_law_told", defArgs s_l_told, defBody s_l_told, defScope s_l_told, [], []⟩
theorem sc_l_told : FnScope n_l_told p_l_told (defScope s_l_told) := ⟨rfl, rfl, rfl, by decide +kernel, rfl, by decide +kernel, by decide +kernel⟩
abbrev s_l_joined : Stmt := top 61
abbrev n_l_joined : List Str := ["_law_fold", "_law_run", "_law_number", "_law_due_here"]
abbrev p_l_joined : List Str := ["_law_fold", "_law_run", "_law_number"]
def d_l_joined : He.DefD := ⟨("_law_joined", none), "_law_joined", "_law_joined", defArgs s_l_joined, defBody s_l_joined, defScope s_l_joined, [], []⟩
theorem sc_l_joined : FnScope n_l_joined p_l_joined (defScope s_l_joined) := ⟨rfl, rfl, rfl, by decide +kernel, rfl, by decide +kernel, by decide +kernel⟩
abbrev s_l_fold_by : Stmt := top 62
abbrev n_l_fold_by : List Str := ["_law_cell", "_law_folds"]
abbrev p_l_fold_by : List Str := ["_law_cell"]
def d_l_fold_by : He.DefD := ⟨("_law_fold_by", none), "_law_fold_by", "_law_fold_by", defArgs s_l_fold_by, defBody s_l_fold_by, defScope s_l_fold_by, [], []⟩
theorem sc_l_fold_by : FnScope n_l_fold_by p_l_fold_by (defScope s_l_fold_by) := ⟨rfl, rfl, rfl, by decide +kernel, rfl, by decide +kernel, by decide +kernel⟩
abbrev s_l_target_by : Stmt := top 63
abbrev n_l_target_by : List Str := ["_law_cell", "_law_lengths", "_law_target", "_law_ones", "_law_row"]
abbrev p_l_target_by : List Str := ["_law_cell", "_law_lengths"]
def d_l_target_by : He.DefD := ⟨("_law_target_by", none), "_law_target_by", "_law_target_by", defArgs s_l_target_by, defBody s_l_target_by, defScope s_l_target_by, [], []⟩
theorem sc_l_target_by : FnScope n_l_target_by p_l_target_by (defScope s_l_target_by) := ⟨rfl, rfl, rfl, by decide +kernel, rfl, by decide +kernel, by decide +kernel⟩
abbrev s_l_many_by : Stmt := top 64
abbrev n_l_many_by : List Str := ["_law_cell", "_law_lengths"]
abbrev p_l_many_by : List Str := ["_law_cell", "_law_lengths"]
def d_l_many_by : He.DefD := ⟨("_law_many_by", none), "_law_many_by", "_law_many_by", defArgs s_l_many_by, defBody s_l_many_by, defScope s_l_many_by, [], []⟩
theorem sc_l_many_by : FnScope n_l_many_by p_l_many_by (defScope s_l_many_by) := ⟨rfl, rfl, rfl, by decide +kernel, rfl, by decide +kernel, by decide +kernel⟩
abbrev s_l_step_by : Stmt := top 65
abbrev n_l_step_by : List Str := ["_law_cell", "_law_lengths", "_law_target", "_law_many", "_law_far", "_law_row", "_law_near", "_law_rows", "_law_value", "_law_test"]
abbrev p_l_step_by : List Str := ["_law_cell", "_law_lengths"]
def d_l_step_by : He.DefD := ⟨("_law_step_by", none), "_law_step_by", "_law_step_by", defArgs s_l_step_by, defBody s_l_step_by, defScope s_l_step_by, [], []⟩
theorem sc_l_step_by : FnScope n_l_step_by p_l_step_by (defScope s_l_step_by) := ⟨rfl, rfl, rfl, by decide +kernel, rfl, by decide +kernel, by decide +kernel⟩
abbrev s_l_due : Stmt := top 66
abbrev n_l_due : List Str := ["_law_step", "_law_lengths", "_law_functions_here", "_law_cells", "_law_many", "_law_now", "_law_start", "_law_run", "_law_place", "_law_got"]
abbrev p_l_due : List Str := ["_law_step", "_law_lengths", "_law_functions_here", "_law_cells", "_law_many"]
def d_l_due : He.DefD := ⟨("_law_due", none), "_law_due", "_law_due", defArgs s_l_due, defBody s_l_due, defScope s_l_due, [], []⟩
theorem sc_l_due : FnScope n_l_due p_l_due (defScope s_l_due) := ⟨rfl, rfl, rfl, by decide +kernel, rfl, by decide +kernel, by decide +kernel⟩
abbrev s_law : Stmt := top 67
abbrev n_law : List Str := ["_law_script", "_law_lengths", "_law_functions_here", "_law_cells", "_law_cell", "_law_step", "_law_many", "_law_due_here", "_law_handed", "_law_found"]
abbrev p_law : List Str := ["_law_script"]
def d_law : He.DefD := ⟨("law", none), "law", "law", defArgs s_law, defBody s_law, defScope s_law, [], []⟩
theorem sc_law : FnScope n_law p_law (defScope s_law) := ⟨rfl, rfl, rfl, by decide +kernel, rfl, by decide +kernel, by decide +kernel⟩
def fn : List He.DefD := [d_kept, d_divided, d_by_bits, d_done, d_joined, d_start_of, d_Spot_init, d_row_cell, d_Number_init, d_Number_worth, d_Here_worth, d_Cell_init, d_Cell_worth, d_Shifted_init, d_Shifted_worth, d_Local_init, d_Local_worth, d_At_init, d_At_worth, d_Pair_init, d_Pair_worth, d_Choice_init, d_Choice_worth, d_Call_init, d_Call_worth, d_Step_init, d_Step_many_of, d_Fold_init, d_Fold_many_of, d_Running_init, d_Program_init, d_count_of, d_Stopped_init, d_ask_form, d_passed_over, d_play_fold, d_play_running, d_play_step, d_play_steps, d_played, d_l_whole, d_l_kept_by, d_l_mix, d_l_asked, d_l_functions, d_l_leaf_by, d_l_value_by, d_l_lengths_by, d_l_cells_by, d_l_element, d_l_told, d_l_joined, d_l_fold_by, d_l_target_by, d_l_many_by, d_l_step_by, d_l_due, d_law]
end RB

namespace RB
open PySem PySem.Spec PyProof.Rows L2 He
def faG : List Fa := [
  .glo "kept",
  .glo "divided",
  .glo "by_bits",
  .glo "done",
  .glo "joined",
  .glo "start_of",
  .glo "Spot",
  .glo "row_cell",
  .glo "Number",
  .glo "Here",
  .glo "Cell",
  .glo "Shifted",
  .glo "Local",
  .glo "At",
  .glo "Pair",
  .glo "Choice",
  .glo "Call",
  .glo "Step",
  .glo "Let",
  .glo "Put",
  .glo "Fold",
  .glo "Running",
  .glo "Till",
  .glo "Program",
  .glo "count_of",
  .glo "Stopped",
  .glo "ByNought",
  .glo "Outside",
  .glo "ask_form",
  .glo "passed_over",
  .glo "play_fold",
  .glo "play_running",
  .glo "play_step",
  .glo "play_steps",
  .glo "played",
  .glo "_law_whole",
  .glo "_law_kept_by",
  .glo "_law_mix",
  .glo "_law_asked",
  .glo "_law_functions",
  .glo "_law_leaf_by",
  .glo "_law_value_by",
  .glo "_law_lengths_by",
  .glo "_law_cells_by",
  .glo "_law_element",
  .glo "_law_told",
  .glo "_law_joined",
  .glo "_law_fold_by",
  .glo "_law_target_by",
  .glo "_law_many_by",
  .glo "_law_step_by",
  .glo "_law_due",
  .glo "law"]
def faF : List Fa := [
  .free "len",
  .free "sum",
  .free "range",
  .free "list",
  .free "max",
  .free "min",
  .free "isinstance",
  .free "int",
  .free "divmod",
  .free "tuple",
  .free "str",
  .free "bool",
  .int "HALF" 9223372036854775808,
  .int "CAP" 1000000000]
def faC : List Fa := [
  .cls "Spot",
  .cls "Number",
  .cls "Here",
  .cls "Cell",
  .cls "Shifted",
  .cls "Local",
  .cls "At",
  .cls "Pair",
  .cls "Choice",
  .cls "Call",
  .cls "Fold",
  .cls "Running",
  .cls "Program",
  .mkr "Spot",
  .mkr "Number",
  .mkr "Cell",
  .mkr "Shifted",
  .mkr "Local",
  .mkr "At",
  .mkr "Pair",
  .mkr "Choice",
  .mkr "Call",
  .mkr "Fold",
  .mkr "Running",
  .mkr "Program",
  .noat "Spot" "lengths",
  .noat "Spot" "functions",
  .noat "Spot" "cells",
  .noat "Spot" "place",
  .noat "Spot" "own",
  .noat "Number" "number",
  .noat "Cell" "row",
  .noat "Shifted" "row",
  .noat "Shifted" "by",
  .noat "Shifted" "other",
  .noat "Local" "at",
  .noat "At" "row",
  .noat "At" "place",
  .noat "Pair" "sign",
  .noat "Pair" "left",
  .noat "Pair" "right",
  .noat "Choice" "test",
  .noat "Choice" "left",
  .noat "Choice" "right",
  .noat "Call" "at",
  .noat "Call" "handed",
  .noat "Fold" "target",
  .noat "Fold" "fold",
  .noat "Fold" "value",
  .noat "Fold" "many",
  .noat "Fold" "test",
  .noat "Running" "target",
  .noat "Running" "fold",
  .noat "Running" "value",
  .noat "Running" "test",
  .noat "Program" "lengths",
  .noat "Program" "functions",
  .noat "Program" "steps",
  .meth "Number" "worth",
  .meth "Here" "worth",
  .meth "Cell" "worth",
  .meth "Shifted" "worth",
  .meth "Local" "worth",
  .meth "At" "worth",
  .meth "Pair" "worth",
  .meth "Choice" "worth",
  .meth "Call" "worth",
  .meth "Fold" "many_of",
  .meth "Running" "many_of"]
def faE : List Fa := [
  .exc "ByNought",
  .exc "Outside",
  .exm "ByNought" "ByNought" true,
  .exm "Outside" "ByNought" false,
  .exm "Outside" "Outside" true,
  .exm "Stopped" "Stopped" true]
def fa : List Fa := faG ++ (faF ++ (faC ++ faE))
def kitF (K : PySem.W.Frag) (x y : Str) (b : Bool) : Bool := decide (PySem.W.kitOne K (.ref (ga K x)) (.ref (ga K y)) = some b)
def insF (K : PySem.W.Frag) (x : Str) : Bool := eqO (PySem.W.findIn K (.ref (ga K x)) "__class__") (some (some (.builtin "object.__class__"))) && decide (PySem.W.mroIn K (ga K x) (.type "object") = some true)
def clsO (K : PySem.W.Frag) : Bool := eqO (PySem.W.specialIn K (.builtin "object.__class__") "__get__") (some (some (.builtin "getset_descriptor.__get__"))) && decide (PySem.W.takesIn K (.builtin "object.__class__") = some true)
def excF (K : PySem.W.Frag) (x : Str) : Bool := xfB K (ga K x)
def oexF (K : PySem.W.Frag) (x : Str) : Bool := (match K.lookup (ga K x) with
  | some ⟨.type "type", _, .cls cd, sl⟩ => decide (cd.hasDel = false) && (decide (cd.hasDict = true) && ((match cd.mro with
    | .ref C :: bm => decide (C = ga K x) && PySem.HandSPX.refsVE bm
    | _ => false) && (match sl.toList with
    | [_, _, _, _, some (.builtin n), _] => decide (n = "ValueError.__new__")
    | _ => false)))
  | _ => false) && (eqO (PySem.W.findIn K (.ref (ga K x)) "__setattr__") (some (some (.builtin "object.__setattr__"))) && (decide (PySem.W.subIn K (.ref (ga K x)) (.type "BaseException") = some true) && (decide (PySem.W.typeIn K (.ref (ga K x)) = some (.type "type")) && PySem.W.keepIn K (.ref (ga K x)))))
def cinF (K : PySem.W.Frag) (x : Str) : Bool := PySem.W.readsIn K (ga K x) (.type "type") && (eqO (PySem.W.specialIn K (.ref (ga K x)) "__getattribute__") (some (some (.builtin "type.__getattribute__"))) && (match PySem.W.findCls K (.ref (ga K x)) (.type "type") "__init__" with
  | some (.val v) => decide (v = .ref (ma K (ga K x) "__init__"))
  | _ => false))
def fnF (K : PySem.W.Frag) (x m : Str) : Bool := eqO (PySem.W.findIn K (.ref (ga K x)) m) (some (some (.ref (ma K (ga K x) m)))) && (PySem.W.isFn K (.ref (ma K (ga K x) m)) && PySem.W.keepIn K (.ref (ma K (ga K x) m)))
def mk0F (K : PySem.W.Frag) (x : Str) : Bool := PySem.W.makesIn K (ga K x) && (eqO (PySem.W.findIn K (.ref (ga K x)) "__init__") (some (some (.builtin "object.__init__"))) && PySem.W.keepIn K (.ref (ga K x)))
def nofF (K : PySem.W.Frag) (x f : Str) : Bool := eqO (PySem.W.findIn K (.ref (ga K x)) f) (some none)
def exs (K : PySem.W.Frag) : List Bool := [clsO K, insF K "Fold", insF K "Running", insF K "ByNought", excF K "ByNought", excF K "Stopped", oexF K "Stopped", fnF K "Stopped" "__init__", nofF K "Stopped" "step", nofF K "Stopped" "place", nofF K "Stopped" "kind",
  cinF K "Step", fnF K "Step" "__init__", mk0F K "Here", kitF K "Fold" "Step" true, kitF K "Running" "Step" true, kitF K "Fold" "Till" false, kitF K "Fold" "Let" false, kitF K "Fold" "Put" false, kitF K "Fold" "Fold" true, kitF K "Running" "Till" false, kitF K "Running" "Let" false, kitF K "Running" "Put" false,
  kitF K "Running" "Fold" false, kitF K "ByNought" "Outside" false]
def exB (K : PySem.W.Frag) : Bool := (exs K).all id
def asR : List Addr := List.range 760
abbrev AlR : Type := AlD × Bool
def obsR (g : Addr → Option Obj) : AlR := (obsD fa fn (frG g asR), exB (frG g asR))
def valR : AlR := (valD fn, true)
def SaysR (K : PySem.W.Frag) : Prop := SaysD fa fn K ∧ exB K = true
def hkR : PySem.W.Hook where
  α := AlR
  obs := fun s => obsR s.heap.get?
  val := fun _ => valR
  says := fun _ h => ∃ K : PySem.W.Frag, K.In h ∧ SaysR K
  of := fun _ _ e => ⟨_, frG_in, congrArg (fun z : AlR => z.1) e, congrArg (fun z : AlR => z.2) e⟩
  keeps := fun _ _ _ ⟨K, hK, c⟩ k => ⟨K, PySem.W.Frag.In.keeps hK k, c⟩
def obR (s : PySem.W.SharedT) : AlR := obsR (HandSHeadRun.getT s)
theorem obR_eq (s : PySem.W.SharedT) : obR s = hkR.obs s.abs := by
  have e : HandSHeadRun.getT s = s.abs.heap.get? := funext (HandSHeadRun.getT_eq s)
  show obsR (HandSHeadRun.getT s) = obsR s.abs.heap.get?
  rw [e]
def lo0 : List Str := ["RowError", "ByNought", "Outside", "HALF", "CAP", "kept", "divided", "by_bits", "done", "joined", "start_of", "part_of"]
def lo1 : List Str := ["Spot", "row_cell", "Form", "Number", "Here", "Cell", "Shifted", "Local", "At", "Pair", "Choice", "Call"]
def lo2 : List Str := ["Step", "Let", "Put", "Fold", "Running", "Till", "Program", "count_of", "Stopped", "ask_form", "passed_over", "play_let"]
def lo3 : List Str := ["play_put", "play_fold", "play_running", "play_till", "play_step", "play_steps", "played", "_law_whole", "_law_kept_by", "_law_mix", "_law_asked", "_law_functions"]
def lo4 : List Str := ["_law_leaf_by", "_law_value_by", "_law_lengths_by", "_law_cells_by", "_law_element", "_law_told", "_law_joined", "_law_fold_by", "_law_target_by", "_law_many_by", "_law_step_by", "_law_due"]
def loose : List Str := lo0 ++ lo1 ++ lo2 ++ lo3 ++ lo4
abbrev R : PySem.W.OpenRow := PySem.W.OpenLaw.row PySem.Challenge.rw_rowbreadth_k16_fold_and_running
end RB

namespace RB
open PySem PySem.Spec PyProof.Rows L2 He
theorem run (w : World) : HandSHeadRun.RunEq R (PySem.W.view R.prog [67]) hkR obR 40000 loose w := by
  intro os
  kernel_rfl
end RB

namespace RB
open PySem PySem.Spec PyProof.Rows L2
theorem ps_dead {X : Cx} {st : Stmt} : PS X st (fun _ _ _ => False) := ⟨fun _ _ _ _ _ _ h => h.elim⟩
theorem pss_dead {X : Cx} {st : List Stmt} : PSs X st (fun _ _ _ => False) := ⟨fun _ _ _ _ _ _ h => h.elim⟩
structure MetOk (P : Program) (w : World) (K : PySem.W.Frag) (mg : Str → Option Value) (base : Heap) (cx : CXT) (k : Nat) (m : Str) (C : Addr) (sp : Sp) : Prop where
  cl : Cls K C
  ex : ∃ f fd ps, Meth K C m f ∧ FnOk P w K mg base cx k f fd ps sp ∧ Binds K fd ps []
def tDisp (Ok : Addr → Sp → Prop) (m : Str) (E : XK) (ta : TE) (t : TA) : TE := fun σ H Q => ta σ H fun x H1 => ∃ a C dx fs sp, x = .ref a ∧ H1 a = some (.ins C dx fs) ∧ fs.lookup m = none ∧ Ok C sp ∧ t σ H1 fun vs H2 => sp (x :: vs) H2 Q E
section
variable {X : Cx} {cx : CXT} {k : Nat} {E : XK} {m : Str} {p pos apos : Pos} {e o : Expr} {es : List Expr} {ta : TE} {t : TA} {Ok : Addr → Sp → Prop}
theorem pe_disp {pl : Sem Bool} (he : PE X o ta) (hok : ∀ C sp, Ok C sp → MetOk X.prog X.w X.K X.mg X.base cx k m C sp) (hr : Room k X.A) (hx : Passes cx X E) (ha : PA X (e :: es) t)
    (hst : starEach (e :: es) X.env = (false, eval e X.env) :: starEach es X.env := by rfl) (hpl : (backTo pos (starEach es X.env)).any (·.1) = false := by rfl)
    (ht : eval (.Call (.Attribute o m apos) (e :: es) [] pos) X.env = (do
      let ov ← eval o X.env
      standAt apos.atName
      let (f, first) ← holding [ov] (getMethod ov m pl)
      callWith pos f first (backTo pos (starEach (e :: es) X.env)) (backToKw pos (keywordEach [] X.env))) := by rfl) :
    PE X (.Call (.Attribute o m apos) (e :: es) [] pos) (tDisp Ok m E ta t) := by
  constructor
  intro pins s σ H Q I h
  apply PySem.W.methodCall_KW (pl := pl) _ ht
  apply thn (he.run pins s σ H _ I h)
  rintro u s1 ⟨x, H1, I1, rx, a, C, dx, fs, sp, ex, ea, l, q0, q⟩
  subst ex
  obtain rfl : u = Value.ref a := rx
  obtain ⟨f, fd, ps, hm, F, hb⟩ := (hok C sp q0).ex
  apply getmeth_ok I1 ea (hok C sp q0).cl hm l
  apply PySem.W.callWith_K (first := [.ref a]) (h₀ := X.base) I.ok.mod.kin hm.kp _ hst hpl
  apply thn (ha.run pos pins s1 σ H1 _ I1 q)
  rintro us s2 ⟨vs, H2, I2, r, q2⟩
  refine ⟨I2.kIn, run_fn (us := .ref a :: us) (vs := .ref a :: vs) (dvs := []) F hr hb .nil hx I2 (.cons rfl r) ?_⟩
  simpa using q2
end
structure Mk0 (K : PySem.W.Frag) (C : Addr) : Prop where
  makes : PySem.W.makesIn K C = true
  init : PySem.W.findIn K (.ref C) "__init__" = some (some (.builtin "object.__init__"))
  kp : PySem.W.keepIn K (.ref C) = true
def tMk0 (C : Addr) : TE := fun _ H Q => ∀ x dx, H x = none → H dx = none → dx ≠ x → Q (.ref x) (upd (upd H dx (.own x)) x (.ins C dx []))
theorem pe_mk0 {X : Cx} {C : Addr} {x : Str} {p pos : Pos} (M : Mk0 X.K C) (hg : Gl X x) (hm : X.mg x = some (.ref C)) (hdb : (x == ("__debug__" : Str)) = false := by decide) : PE X (.Call (.Name x p) [] [] pos) (tMk0 C) := by
  constructor
  intro pins s σ H Q I h
  apply wpAny_Call_Name_kw
  apply ld_glob I hg hm _ hdb
  apply PySem.W.callWith_K0 I.kIn M.kp
  have q := h (s.heap.objs.size + 1) s.heap.objs.size (I.hok.fresh (Nat.le_succ _)) (I.hok.fresh (Nat.le_refl _)) (Nat.ne_of_lt (Nat.lt_succ_self _))
  have J := Inv.made (C := C) I
  have Y := PySem.W.makes_of (M := model X.prog X.w) I.kIn M.makes
  refine wpAny_call (make_map0 I.kIn M.makes M.init (fun self => .of_pure (PySem.W.oi_bind self)) ?_)
  have e2 : ((s.heap.push PySem.W.emptyDict).push (PySem.W.instObj C s.heap.objs.size)).get? (s.heap.objs.size + 1) = some (PySem.W.instObj C s.heap.objs.size) := by
    have z := Heap.get?_push_size (s.heap.push PySem.W.emptyDict) (o := PySem.W.instObj C s.heap.objs.size) rfl
    rwa [Heap.size_push] at z
  have t1 : PySem.W.Looks (model X.prog X.w) ((s.heap.push PySem.W.emptyDict).push (PySem.W.instObj C s.heap.objs.size)) (typeOf (.ref (s.heap.objs.size + 1))) (.ref C) := (PySem.W.Looks.ld e2).andThen .now
  have t2 : PySem.W.Looks (model X.prog X.w) ((s.heap.push PySem.W.emptyDict).push (PySem.W.instObj C s.heap.objs.size)) (isInstance (.ref (s.heap.objs.size + 1)) (.type "object")) true :=
    t1.andThen (Y.top.keeps fun b o e => Heap.get?_push_of_some _ (Heap.get?_push_of_some _ e))
  refine codeAny_call_builtin PySem.W.oi_plain PySem.W.entry_oi (@PySem.W.check_slot (model X.prog X.w) _ _ _ "object.__init__" "object" "__init__" (.ref (s.heap.objs.size + 1)) [] [] _ PySem.W.oi_kind PySem.W.oi_split t2 (PySem.W.oi_args (.ref (s.heap.objs.size + 1))) ?_)
  rw [PySem.W.oi_run]
  exact wpAny_pure ⟨rfl, ⟨V.ref (s.heap.objs.size + 1), _, J, rfl, q⟩⟩
structure CFn (K : PySem.W.Frag) (C : Addr) (m : Str) (f : Addr) : Prop where
  rd : PySem.W.readsIn K C (.type "type") = true
  ga : PySem.W.specialIn K (.ref C) "__getattribute__" = some (some (.builtin "type.__getattribute__"))
  at_ : PySem.W.findCls K (.ref C) (.type "type") m = some (.val (.ref f))
  kp : PySem.W.keepIn K (.ref f) = true
theorem pe_cfn {X : Cx} {cx : CXT} {k : Nat} {f C : Addr} {fd : FuncData} {ps : List Str} {sp : Sp} {E : XK} {x m : Str} {p1 p2 pos : Pos} {e : Expr} {es : List Expr} {t : TA} {pl : Sem Bool} (T : CFn X.K C m f) (F : FnOk X.prog X.w X.K X.mg X.base cx k f fd ps sp) (hr : Room k X.A) (hb : Binds X.K fd ps []) (hx : Passes cx X E)
    (hg : Gl X x) (hm : X.mg x = some (.ref C)) (ha : PA X (e :: es) t) (hdb : (x == ("__debug__" : Str)) = false := by decide)
    (hc : eval (.Call (.Attribute (.Name x p1) m p2) (e :: es) [] pos) X.env = (do
      let ov ← eval (.Name x p1) X.env
      standAt p2.atName
      let (f, first) ← holding [ov] (getMethod ov m pl)
      callWith pos f first (backTo pos (starEach (e :: es) X.env)) (backToKw pos (keywordEach [] X.env))) := by rfl)
    (he : starEach (e :: es) X.env = (false, eval e X.env) :: starEach es X.env := by rfl) (hpl : (backTo pos (starEach es X.env)).any (·.1) = false := by rfl) :
    PE X (.Call (.Attribute (.Name x p1) m p2) (e :: es) [] pos) (tCall sp [] E t) := by
  constructor
  intro pins s σ H Q I h
  apply PySem.W.methodCall_KW (pl := pl) _ hc
  apply ld_glob I hg hm _ hdb
  apply PySem.W.method_cls I.kIn T.ga
  apply PySem.W.cls_value I.kIn T.rd T.at_ rfl
  apply PySem.W.callWith_K (first := []) (h₀ := X.base) I.ok.mod.kin T.kp _ he hpl
  have I0 : Inv X pins σ H { s with toks := s.toks + 1 } := I.tok _
  apply thn (ha.run pos pins _ σ H _ I0 h)
  rintro us s2 ⟨vs, H2, I2, r, q2⟩
  exact ⟨I2.kIn, run_fn F hr hb .nil hx I2 r q2⟩
def CDz (i j : Int) : Prop := j ≠ 0 ∧ i.natAbs < 2 ^ 64
theorem noPy {i j : Int} (h : i.natAbs < 2 ^ 64) (hj : j ≠ 0) : Builtin.divisionGoesByPylong i j = false := by
  unfold Builtin.divisionGoesByPylong
  have hl : i ≠ 0 → i.natAbs.log2 < 64 := fun hi => (Nat.log2_lt (by omega)).mpr h
  show (decide ((if j == 0 then 0 else j.natAbs.log2 / 30 + 1) > 300) && decide ((if i == 0 then 0 else i.natAbs.log2 / 30 + 1) > (if j == 0 then 0 else j.natAbs.log2 / 30 + 1) + 150)) = false
  rw [Bool.and_eq_false_iff]
  right
  rw [decide_eq_false_iff_not]
  split
  · omega
  · rename_i z
    have := hl (by simpa using z)
    omega
theorem call_dmz {X : Cx} : CallR X (.builtin "divmod") (fun xs H Q => ∃ i j, xs = [.int i, .int j] ∧ CDz i j ∧ ∀ p, H p = none → Q (.ref p) (upd H p (.tup [.int (i.fdiv j), .int (i.fmod j)]))) := by
  intro pins s σ H xs us Q I r h
  obtain ⟨i, j, rfl, ⟨h1, h2⟩, q⟩ := h
  obtain ⟨u, w', rfl, ⟨t, rfl⟩, ⟨t', rfl⟩⟩ := vals2 r
  apply divmod_int h1 _ (.inl (noPy h2 h1))
  have two : ([V.int (i.fdiv j), V.int (i.fmod j)] : List V).length ≤ sizeLine := by
    rw [sizeLine_eq]
    show 2 ≤ _
    decide
  refine ⟨.ref s.heap.objs.size, upd H s.heap.objs.size (.tup [.int (i.fdiv j), .int (i.fmod j)]), I.laid (fun b o e => Heap.get?_push_of_some _ e) (Nat.le_refl _) ⟨two, [.int (i.fdiv j) s.toks, .int (i.fmod j) (s.toks + 1)], .cons ⟨_, rfl⟩ (.cons ⟨_, rfl⟩ .nil), ?_⟩, rfl, q _ (I.hok.fresh (Nat.le_refl _))⟩
  exact ⟨_, Heap.get?_push_size s.heap rfl, rfl, 0, rfl⟩
abbrev TEx := Addr → Value → Option Addr → TS
def unset (i : Nat) (D : Ends) : Ends := { nx := fun σ' H' => D.nx (σ'.set i none) H', rt := D.rt, bk := fun σ' H' => D.bk (σ'.set i none) H', ct := fun σ' H' => D.ct (σ'.set i none) H' }
def wX (K : PySem.W.Frag) (Wout : WX) (D : Ends) : List (Value × Option Nat × TEx) → WX
  | [] => Wout
  | (c, o, ts) :: r => fun cls d σ H => ∃ b, PySem.W.exmOne K cls c = some b ∧ (b = true → ∀ a, H a = none → (match o with
    | none => ts a cls d D σ H
    | some i => ts a cls d (unset i D) (σ.set i (some (.ref a))) H)) ∧ (b = false → wX K Wout D r cls d σ H)
def SuiteOk (X : Cx) (st : List Stmt) (ts : TEx) : Prop := ∀ (a : Addr) (oe : Obj) (cls : Value) (d : Option Addr) (pn : List (Addr × Obj)), Zc cls d oe → (∃ vs, oe.data = .fields vs) → PSs (X.suite a ((a, oe) :: pn)) st (ts a cls d)
inductive HdX (X : Cx) : List ExceptHandler → List (Value × Option Nat × TEx) → Prop
  | nil : HdX X [] []
  | bare {x : Str} {c : Value} {ts : TEx} {b₀ : Stmt} {suite : List Stmt} {np pos' : Pos} {hds : List ExceptHandler} {l : List (Value × Option Nat × TEx)} (hc : Names X x c) (hsu : SuiteOk X (b₀ :: suite) ts) (r : HdX X hds l) :
      HdX X (.ExceptHandler (some (.Name x np)) none (b₀ :: suite) pos' :: hds) ((c, none, ts) :: l)
  | named {x n : Str} {i : Nat} {c : Value} {ts : TEx} {b₀ : Stmt} {suite : List Stmt} {np pos' : Pos} {hds : List ExceptHandler} {l : List (Value × Option Nat × TEx)} (hi : X.N[i]? = some n) (hln : X.env.kindOf n = some .local) (hc : Names X x c) (hsu : SuiteOk X (b₀ :: suite) ts) (r : HdX X hds l) :
      HdX X (.ExceptHandler (some (.Name x np)) (some n) (b₀ :: suite) pos' :: hds) ((c, some i, ts) :: l)
section
variable {X : Cx}
theorem clause_ok {pins : List (Addr × Obj)} {σ : L2.St} {H : Hp} {s : Shared} {a : Addr} {oe : Obj} {pn : List (Addr × Obj)} {x : Str} {c : Value} {np : Pos} {Q : Value → Shared → Prop} {E : Value → Shared → Prop} (hc : Names X x c) (S : Inv (X.suite a ((a, oe) :: pn)) pins σ H s) (q : Q c s) :
    wpAny (model X.prog X.w) (X.A.mark (some (.ref a))) (eval (.Name x np) X.env) Q E s := by
  obtain ⟨hg, hdbg, hm⟩ := hc
  rcases hm with hm | ⟨hm, hv, hn⟩
  · exact ld_glob (X := X.suite a ((a, oe) :: pn)) S hg hm q hdbg
  · exact ld_blt (X := X.suite a ((a, oe) :: pn)) S hg hm hv q hn hdbg
theorem ps_tryX {body orelse : List Stmt} {h₀ : ExceptHandler} {hds : List ExceptHandler} {l : List (Value × Option Nat × TEx)} {pos : Pos} {tb : WX → TS} {Wout : WX} {u : TS} (ho : PSs X orelse u) (hs : X.stack = X.env :: X.outer) (hf : X.env.frame = some X.env.locals) (hN : X.N.Nodup) (tk : Takes X Wout)
    (hb : ∀ (W : WX) (pn : List (Addr × Obj)) (xe : Value → Shared → Prop), Takes (X.tr pn xe) W → PassesOwn (model X.prog X.w) X.A X.env xe → PSs (X.tr pn xe) body (tb W))
    (hh : HdX X (h₀ :: hds) l) : PS X (.Try body (h₀ :: hds) orelse [] pos) (fun D σ H => tb (wX X.K Wout D l) { D with nx := u D } σ H) := by
  constructor
  intro pins s σ H D I h
  have ok := I.ok
  have hfr : X.A.frames = some (X.env :: X.outer) := by rw [ok.frames, hs]
  apply wpAny_Try_except
  have caught : Takes (X.tr (X.pn ++ pins) (fun e s₁ => wpAny (model X.prog X.w) X.A (noteFrame e X.env) (fun _ s₂ => wpAny (model X.prog X.w) X.A (setFlight e none) (fun _ s₃ => wpAny (model X.prog X.w) X.A (handleBy e X.env (h₀ :: hds)) (SP X pins D) X.xe s₃) X.xe s₂) X.xe s₁)) (wX X.K Wout D l) := by
    rintro u s' ⟨a, B, sI, pins', σ', H', cls, d, rfl, J', nb, up, sky, na, os, ag, w⟩
    have J : Inv X pins σ' H' sI := J'.ofTry ok
    rw [show (X.tr (X.pn ++ pins) (fun e s₁ => wpAny (model X.prog X.w) X.A (noteFrame e X.env) (fun _ s₂ => wpAny (model X.prog X.w) X.A (setFlight e none) (fun _ s₃ => wpAny (model X.prog X.w) X.A (handleBy e X.env (h₀ :: hds)) (SP X pins D) X.xe s₃) X.xe s₂) X.xe s₁)).stack = X.env :: X.outer from hs] at sky
    show wpAny (model X.prog X.w) X.A (noteFrame (.ref a) X.env) _ _ _
    apply Sky.land Zc.steady hfr hf sky
    intro h3 fl3 up3
    have J3 : Inv X pins σ' H' { s' with heap := h3 } := J.landed nb fl3.1 (up.trans up3) os ag
    have apart : ∀ {h : Heap} {o : Obj} {vs : Array Value}, h.FunFrames B (X.env :: X.outer) → h.get? a = some o → o.data = .fields vs → a ∉ frs (X.env :: X.outer) := by
      intro h o vs ff e dd hm
      obtain ⟨_, o', e', hnf⟩ := ff.mem hm
      rw [e] at e'
      cases e'
      exact hnf _ dd
    obtain ⟨oe3, vs3, he3, hz3, hd3⟩ := fl3.there
    have nfr := apart fl3.2.2.1 he3 hd3
    have nL : a ≠ X.env.locals := fun z => nfr (List.mem_filterMap.mpr ⟨X.env, List.mem_cons_self, by rw [hf, z]⟩)
    have nF : a ∉ X.fs := fun hm => by
      obtain ⟨e, he, q⟩ := List.mem_filterMap.mp hm
      exact nfr (List.mem_filterMap.mpr ⟨e, List.mem_cons_of_mem _ he, q⟩)
    have S3 := J3.suite he3 hd3 na nL nF
    have LT : PySem.W.Looks (model X.prog X.w) h3 (typeOf (.ref a)) cls := fun A Q E s k q => wpAny_typeOf_ref (k _ _ he3) (by rw [hz3.1]; exact q)
    have go : ∀ {hds' : List ExceptHandler} {l' : List (Value × Option Nat × TEx)}, HdX X hds' l' → wX X.K Wout D l' cls d σ' H' → wpAny (model X.prog X.w) X.A (handleBy (.ref a) X.env hds') (SP X pins D) X.xe { s' with heap := h3 } := by
      intro hds' l' hk
      induction hk with
      | nil =>
        intro w
        apply wpAny_handleBy_nil
        obtain ⟨k1, k2, k3, oe, vs, T, oT, ts', he, hz, hd, h1, hr⟩ := id fl3
        unfold PySem.passOn
        apply wpAny_bind
        apply wpAny_field he hd h1
        rw [if_neg (show ¬ ((Value.ref T == Value.none) = true) from by simp)]
        have fin : wpAny (model X.prog X.w) X.A (setFlight (.ref a) X.env.frame) (fun _ s4 => wpAny (model X.prog X.w) X.A (throw (.ref a) : Sem Flow) (SP X pins D) X.xe s4) X.xe { s' with heap := h3 } := by
          rw [hf]
          apply HandSPX.setFlight_upZ fl3
          intro h4 hh4 up4
          exact wpAny_throw (tk _ _ ⟨a, B, sI, pins, σ', H', cls, d, rfl, J, nb, (up.trans up3).trans up4, .inr (.inr (by rw [hs]; exact hh4)), na, os, ag, w⟩)
        first
          | exact wpAny_bind (wpAny_pure (wpAny_bind fin))
          | exact wpAny_bind fin
      | @bare x c ts b₀ suite np pos' hds2 l2 hc hsu r ih =>
        rintro ⟨b, hb1, hyes, hno⟩
        have LM := PySem.W.exm_one (M := model X.prog X.w) J3.kIn LT hb1
        refine wpAny_handleBy_cons (codeAny_handlers_test ?_) (by intro q; cases q)
        refine clause_ok hc S3 (LM.here ?_)
        cases b with
        | true =>
          apply codeAny_handlers_suite
          apply HandSPX.lands_againZ fl3
          intro h4 fl4 up4
          have J4 : Inv X pins σ' H' { s' with heap := h4 } := J.landed nb fl4.1 ((up.trans up3).trans up4) os ag
          obtain ⟨oe4, vs4, he4, hz4, hd4⟩ := fl4.there
          have S4 := J4.suite he4 hd4 na nL nF
          refine wpAny_mono ((hsu a oe4 cls d (X.pn ++ pins) hz4 ⟨_, hd4⟩).run [] _ _ H' _ S4 (hyes rfl a na)) ?_ (fun _ _ z => False.elim z)
          intro f s6 hsp
          cases f with
          | ret u =>
            obtain ⟨v6, σ6, H6, S6, r6, q6⟩ := hsp
            exact ⟨_, _, _, S6.unsuite ok, r6, q6⟩
          | _ =>
            obtain ⟨σ6, H6, S6, q6⟩ := hsp
            exact ⟨_, _, S6.unsuite ok, q6⟩
        | false =>
          show wpAny _ X.A (handleBy (.ref a) X.env hds2) _ _ _
          exact ih (hno rfl)
      | @named x n i c ts b₀ suite np pos' hds2 l2 hi hln hc hsu r ih =>
        rintro ⟨b, hb1, hyes, hno⟩
        have LM := PySem.W.exm_one (M := model X.prog X.w) J3.kIn LT hb1
        refine wpAny_handleBy_cons (codeAny_handlers_test ?_) (by intro q; cases q)
        refine clause_ok hc S3 (LM.here ?_)
        cases b with
        | true =>
          apply codeAny_handlers_suite_as
          apply HandSPX.lands_againZ fl3
          intro h4 fl4 up4
          have J4 : Inv X pins σ' H' { s' with heap := h4 } := J.landed nb fl4.1 ((up.trans up3).trans up4) os ag
          obtain ⟨oe4, vs4, he4, hz4, hd4⟩ := fl4.there
          have S4 := J4.suite he4 hd4 na nL nF
          refine store_ok (X := X.suite a ((a, oe4) :: (X.pn ++ pins))) (v := .ref a) S4 hN hi (.inl hln) rfl (fun s5 S5 => ?_) (.inr hln)
          refine wpAny_mono ((hsu a oe4 cls d (X.pn ++ pins) hz4 ⟨_, hd4⟩).run [] s5 _ H' _ S5 (hyes rfl a na)) ?_ (fun _ _ z => False.elim z)
          intro f s6 hsp
          have gone : ∀ {σ6 : L2.St} {H6 : Hp} {Q : Shared → Prop}, Inv (X.suite a ((a, oe4) :: (X.pn ++ pins))) [] σ6 H6 s6 → (∀ s7, Inv X pins (σ6.set i none) H6 s7 → Q s7) →
              wpAny (model X.prog X.w) X.A (do bindName X.env n .none; unbindBehindTheSuite X.env n pos') (fun _ s7 => Q s7) X.xe s6 := fun S6 hq => gone_ok (S6.unsuite ok) hN hi hln hq
          cases f with
          | ret u =>
            obtain ⟨v6, σ6, H6, S6, r6, q6⟩ := hsp
            exact gone S6 fun s7 J7 => ⟨_, _, _, J7, r6, q6⟩
          | next =>
            obtain ⟨σ6, H6, S6, q6⟩ := hsp
            exact gone S6 fun s7 J7 => ⟨_, _, J7, q6⟩
          | brk =>
            obtain ⟨σ6, H6, S6, q6⟩ := hsp
            exact gone S6 fun s7 J7 => ⟨_, _, J7, q6⟩
          | cont =>
            obtain ⟨σ6, H6, S6, q6⟩ := hsp
            exact gone S6 fun s7 J7 => ⟨_, _, J7, q6⟩
        | false =>
          show wpAny _ X.A (handleBy (.ref a) X.env hds2) _ _ _
          exact ih (hno rfl)
    exact go hh w
  refine wpAny_mono ((hb (wX X.K Wout D l) (X.pn ++ pins) _ caught PassesOwn.looking).run [] s σ H { D with nx := u D } (I.toTry _) h) (fun f s1 hsp => ?_) (fun e s1 he => he)
  cases f with
  | next =>
    obtain ⟨σ', H', J', q⟩ := hsp
    exact ho.run pins s1 σ' H' D (J'.ofTry ok) q
  | ret u =>
    obtain ⟨v, σ', H', J', r, q⟩ := hsp
    exact ⟨v, σ', H', J'.ofTry ok, r, q⟩
  | _ =>
    obtain ⟨σ', H', J', q⟩ := hsp
    exact ⟨σ', H', J'.ofTry ok, q⟩
end
end RB

namespace RB
open PySem PySem.Spec PyProof.Rows L2
def Kp (n : Int) : Prop := -9223372036854775808 ≤ n ∧ n < 9223372036854775808
theorem nat_xor_and : ∀ (n a b : Nat), a + b ≤ n → (a ^^^ b) + 2 * (a &&& b) = a + b := by
  intro n
  induction n with
  | zero =>
    intro a b h
    have h1 : a = 0 := by omega
    have h2 : b = 0 := by omega
    subst h1 h2
    rfl
  | succ n ih =>
    intro a b h
    by_cases hz : a + b = 0
    · have h1 : a = 0 := by omega
      have h2 : b = 0 := by omega
      subst h1 h2
      rfl
    · have q := ih (a / 2) (b / 2) (by omega)
      have x1 : (a ^^^ b) / 2 = a / 2 ^^^ b / 2 := Nat.xor_div_two
      have x2 : (a &&& b) / 2 = a / 2 &&& b / 2 := Nat.and_div_two
      have m1 : (a ^^^ b) % 2 = (a + b) % 2 := by
        have := Nat.xor_mod_two_pow (a := a) (b := b) (n := 1)
        simp only [Nat.pow_one] at this
        rw [this]
        have ha : a % 2 = 0 ∨ a % 2 = 1 := by omega
        have hb : b % 2 = 0 ∨ b % 2 = 1 := by omega
        rcases ha with ha | ha <;> rcases hb with hb | hb <;> rw [ha, hb] <;> simp <;> omega
      have m2 : (a &&& b) % 2 = (a % 2) * (b % 2) := by
        have := Nat.and_mod_two_pow (a := a) (b := b) (n := 1)
        simp only [Nat.pow_one] at this
        rw [this]
        have ha : a % 2 = 0 ∨ a % 2 = 1 := by omega
        have hb : b % 2 = 0 ∨ b % 2 = 1 := by omega
        rcases ha with ha | ha <;> rcases hb with hb | hb <;> rw [ha, hb] <;> simp
      have ha : a % 2 = 0 ∨ a % 2 = 1 := by omega
      have hb : b % 2 = 0 ∨ b % 2 = 1 := by omega
      rcases ha with ha | ha <;> rcases hb with hb | hb <;> rw [ha, hb] at m2 <;> omega
theorem and_lt {a b : Nat} (h : a < 2 ^ 63) : (a &&& b) < 2 ^ 63 := Nat.lt_of_le_of_lt Nat.and_le_left h
theorem and_kp {x y : Int} (hx : Kp x) (hy : Kp y) : Kp (Builtin.bitAnd x y) := by
  obtain ⟨x1, x2⟩ := hx
  obtain ⟨y1, y2⟩ := hy
  have e : (2 : Nat) ^ 63 = 9223372036854775808 := by decide
  unfold Builtin.bitAnd Builtin.bitNot
  by_cases a : 0 ≤ x <;> by_cases b : 0 ≤ y <;> simp only [a, b, decide_true, decide_false]
  · have := Nat.and_le_left (n := x.toNat) (m := y.toNat)
    constructor <;> omega
  · have := Nat.and_le_left (n := x.toNat) (m := (-y - 1).toNat)
    constructor <;> omega
  · have := Nat.and_le_left (n := y.toNat) (m := (-x - 1).toNat)
    constructor <;> omega
  · have h := Nat.or_lt_two_pow (x := (-x - 1).toNat) (y := (-y - 1).toNat) (n := 63) (by omega) (by omega)
    constructor <;> omega
theorem not_kp {x : Int} (h : Kp x) : Kp (Builtin.bitNot x) := by
  obtain ⟨x1, x2⟩ := h
  unfold Builtin.bitNot
  constructor <;> omega
theorem or_kp {x y : Int} (hx : Kp x) (hy : Kp y) : Kp (Builtin.bitOr x y) := not_kp (and_kp (not_kp hx) (not_kp hy))
theorem xor_kp {x y : Int} (hx : Kp x) (hy : Kp y) : Kp (Builtin.bitXor x y) := by
  rw [bitXor_and]
  obtain ⟨x1, x2⟩ := hx
  obtain ⟨y1, y2⟩ := hy
  have e : (2 : Nat) ^ 63 = 9223372036854775808 := by decide
  unfold Builtin.bitAnd Builtin.bitNot
  by_cases a : 0 ≤ x <;> by_cases b : 0 ≤ y <;> simp only [a, b, decide_true, decide_false]
  · have q := nat_xor_and _ x.toNat y.toNat (Nat.le_refl _)
    have h := Nat.xor_lt_two_pow (x := x.toNat) (y := y.toNat) (n := 63) (by omega) (by omega)
    constructor <;> omega
  · have q := nat_xor_and _ x.toNat (-y - 1).toNat (Nat.le_refl _)
    have h := Nat.xor_lt_two_pow (x := x.toNat) (y := (-y - 1).toNat) (n := 63) (by omega) (by omega)
    constructor <;> omega
  · have q := nat_xor_and _ y.toNat (-x - 1).toNat (Nat.le_refl _)
    have h := Nat.xor_lt_two_pow (x := y.toNat) (y := (-x - 1).toNat) (n := 63) (by omega) (by omega)
    constructor <;> omega
  · have q := nat_xor_and _ (-x - 1).toNat (-y - 1).toNat (Nat.le_refl _)
    have h := Nat.xor_lt_two_pow (x := (-x - 1).toNat) (y := (-y - 1).toNat) (n := 63) (by omega) (by omega)
    have o : (((-x - 1).toNat ||| (-y - 1).toNat : Nat) : Int) + (((-x - 1).toNat &&& (-y - 1).toNat : Nat) : Int) = ((-x - 1).toNat : Int) + ((-y - 1).toNat : Int) := by
      have z := bitXor_and ((-x - 1).toNat : Int) ((-y - 1).toNat : Int)
      unfold Builtin.bitXor at z
      rw [bitOr_nn (Int.natCast_nonneg _) (Int.natCast_nonneg _)] at z
      have z2 : Builtin.bitAnd ((-x - 1).toNat : Int) ((-y - 1).toNat : Int) = (((-x - 1).toNat &&& (-y - 1).toNat : Nat) : Int) := by
        unfold Builtin.bitAnd
        simp
      rw [z2] at z
      simp only [Int.toNat_natCast] at z
      omega
    constructor <;> omega
def kpt (n : Int) : Int := (n + 9223372036854775808) % 18446744073709551616 - 9223372036854775808
theorem kpt_kp (n : Int) : Kp (kpt n) := by
  unfold kpt Kp
  omega
inductive Wo where
  | ok (v : Int) | nought | outside
def Wo.then (w : Wo) (k : Int → Wo) : Wo := match w with
  | .ok v => k v
  | w => w
def sg1 : List Str := ["+", "-", "*", "/", "rest", "least", "most", "<", "=", "&", "|", "^"]
def bitsW (s : Str) (a b : Int) : Int := if s = "&" then Builtin.bitAnd a b else if s = "|" then Builtin.bitOr a b else Builtin.bitXor a b
def divW (s : Str) (a b : Int) : Wo := if b = 0 then .nought else if s = "/" then .ok (kpt (a.fdiv b)) else .ok (a.fmod b)
def doneW (s : Str) (a b : Int) : Wo :=
  if s = "+" then .ok (kpt (a + b)) else if s = "-" then .ok (kpt (a - b)) else if s = "*" then .ok (kpt (a * b)) else if s = "/" ∨ s = "rest" then divW s a b else
  if s = "least" then .ok (if b < a then b else a) else if s = "most" then .ok (if b > a then b else a) else if s = "<" then .ok (if a < b then 1 else 0) else if s = "=" then .ok (if a = b then 1 else 0) else .ok (bitsW s a b)
theorem fmod_kp {a b : Int} (ha : Kp a) (hb : Kp b) (h : b ≠ 0) : Kp (a.fmod b) := by
  obtain ⟨b1, b2⟩ := hb
  rcases Int.lt_or_gt_of_ne h with q | q
  · have h1 := Int.emod_nonneg a h
    have h2 := Int.emod_lt a h
    rw [Int.fmod_eq_emod]
    split
    · constructor <;> omega
    · constructor <;> omega
  · have h1 := Int.fmod_nonneg_of_pos a q
    have h2 := Int.fmod_lt_of_pos a q
    constructor <;> omega
theorem doneW_kp {s : Str} {a b v : Int} (ha : Kp a) (hb : Kp b) (h : doneW s a b = .ok v) : Kp v := by
  unfold doneW divW bitsW at h
  repeat' split at h
  all_goals first
    | (cases h; exact kpt_kp _)
    | (cases h; exact fmod_kp ha hb (by assumption))
    | (cases h; exact ha)
    | (cases h; exact hb)
    | (cases h; exact ⟨by omega, by omega⟩)
    | (cases h; exact and_kp ha hb)
    | (cases h; exact or_kp ha hb)
    | (cases h; exact xor_kp ha hb)
    | (cases h; done)
    | (cases h; split <;> assumption)
    | (cases h; split <;> exact ⟨by omega, by omega⟩)
end RB

namespace RB
open PySem PySem.Spec PyProof.Rows L2 He
def fdOf (K : PySem.W.Frag) (p : Str × Option Str) : FuncData := match K.lookup (fAd K p) with
  | some ⟨_, _, .func fd, _⟩ => fd
  | _ => { name := "", qualname := "", params := defArgs (.Pass ⟨0, 0, 0, 0⟩), body := .stmts [], scope := defScope (.Pass ⟨0, 0, 0, 0⟩), globals := 0, closure := [], defaults := .none, kwdefaults := .none, doc := .none, pyModule := .none, annotations := none, code := .none, closureTuple := .none, builtins := 0 }
theorem fdOf_eq {K : PySem.W.Frag} {p : Str × Option Str} {x q : Str} {a : Arguments} {b : List Stmt} {s : Scope} {dv : List V} {kw : List (Str × V)} {fd : FuncData} (F : FunD K x q a b s dv kw (fAd K p) fd) : fdOf K p = fd := by
  obtain ⟨oc, od, dV, kV, doc, pm, an, cdv, ct, osl, _, lk, _⟩ := F.ex
  unfold fdOf
  rw [lk]
structure Txt (K : PySem.W.Frag) (mg : Str → Option Value) : Prop where
  c : SaysR K
  gl : ∀ (i : Nat) (x : Str), fa[i]? = some (.glo x) → mg x = some (.ref (ga K x))
  fr : ∀ (i : Nat) (x : Str), fa[i]? = some (.free x) → mg x = none
  half : ∃ t, mg "HALF" = some (.int 9223372036854775808 t)
  cap : ∃ t, mg "CAP" = some (.int 1000000000 t)
theorem txt_of {K : PySem.W.Frag} {h : Heap} {mg : Str → Option Value} (X : K.In h) (G : h.Ns mainGlobals mg) (c : SaysR K) : Txt K mg := by
  have at_ : ∀ (i : Nat) (f : Fa), fa[i]? = some f → f.ok K = true := fun i f e => c.1.fact i e
  exact ⟨c, fun i x e => glo_ok X G (at_ i _ e), fun i x e => free_ok X G (at_ i _ e), int_ok X G (at_ 65 _ rfl), int_ok X G (at_ 66 _ rfl)⟩
section
variable {K : PySem.W.Frag} {mg : Str → Option Value}
theorem Txt.at_ (T : Txt K mg) (i : Nat) {f : Fa} (e : fa[i]? = some f) : f.ok K = true := T.c.1.fact i e
theorem Txt.ex_ (T : Txt K mg) (i : Nat) {b : Bool} (e : (exs K)[i]? = some b) : b = true := List.all_eq_true.mp T.c.2 b (List.mem_of_getElem? e)
theorem Txt.fn_ (T : Txt K mg) (i : Nat) {d : DefD} (e : fn[i]? = some d) : FunD K d.name d.qual d.params d.body d.scope (d.dvs K) (d.kws K) (fAd K d.at_) (fdOf K d.at_) := by
  obtain ⟨fd, F⟩ := T.c.1.def_ i e
  rw [fdOf_eq F]
  exact F
theorem Txt.g_kept (T : Txt K mg) : mg "kept" = some (.ref (ga K "kept")) := T.gl 0 _ rfl
theorem Txt.g_divided (T : Txt K mg) : mg "divided" = some (.ref (ga K "divided")) := T.gl 1 _ rfl
theorem Txt.g_by_bits (T : Txt K mg) : mg "by_bits" = some (.ref (ga K "by_bits")) := T.gl 2 _ rfl
theorem Txt.g_done (T : Txt K mg) : mg "done" = some (.ref (ga K "done")) := T.gl 3 _ rfl
theorem Txt.g_joined (T : Txt K mg) : mg "joined" = some (.ref (ga K "joined")) := T.gl 4 _ rfl
theorem Txt.g_start_of (T : Txt K mg) : mg "start_of" = some (.ref (ga K "start_of")) := T.gl 5 _ rfl
theorem Txt.g_Spot (T : Txt K mg) : mg "Spot" = some (.ref (ga K "Spot")) := T.gl 6 _ rfl
theorem Txt.g_row_cell (T : Txt K mg) : mg "row_cell" = some (.ref (ga K "row_cell")) := T.gl 7 _ rfl
theorem Txt.g_Number (T : Txt K mg) : mg "Number" = some (.ref (ga K "Number")) := T.gl 8 _ rfl
theorem Txt.g_Here (T : Txt K mg) : mg "Here" = some (.ref (ga K "Here")) := T.gl 9 _ rfl
theorem Txt.g_Cell (T : Txt K mg) : mg "Cell" = some (.ref (ga K "Cell")) := T.gl 10 _ rfl
theorem Txt.g_Shifted (T : Txt K mg) : mg "Shifted" = some (.ref (ga K "Shifted")) := T.gl 11 _ rfl
theorem Txt.g_Local (T : Txt K mg) : mg "Local" = some (.ref (ga K "Local")) := T.gl 12 _ rfl
theorem Txt.g_At (T : Txt K mg) : mg "At" = some (.ref (ga K "At")) := T.gl 13 _ rfl
theorem Txt.g_Pair (T : Txt K mg) : mg "Pair" = some (.ref (ga K "Pair")) := T.gl 14 _ rfl
theorem Txt.g_Choice (T : Txt K mg) : mg "Choice" = some (.ref (ga K "Choice")) := T.gl 15 _ rfl
theorem Txt.g_Call (T : Txt K mg) : mg "Call" = some (.ref (ga K "Call")) := T.gl 16 _ rfl
theorem Txt.g_Step (T : Txt K mg) : mg "Step" = some (.ref (ga K "Step")) := T.gl 17 _ rfl
theorem Txt.g_Let (T : Txt K mg) : mg "Let" = some (.ref (ga K "Let")) := T.gl 18 _ rfl
theorem Txt.g_Put (T : Txt K mg) : mg "Put" = some (.ref (ga K "Put")) := T.gl 19 _ rfl
theorem Txt.g_Fold (T : Txt K mg) : mg "Fold" = some (.ref (ga K "Fold")) := T.gl 20 _ rfl
theorem Txt.g_Running (T : Txt K mg) : mg "Running" = some (.ref (ga K "Running")) := T.gl 21 _ rfl
theorem Txt.g_Till (T : Txt K mg) : mg "Till" = some (.ref (ga K "Till")) := T.gl 22 _ rfl
theorem Txt.g_Program (T : Txt K mg) : mg "Program" = some (.ref (ga K "Program")) := T.gl 23 _ rfl
theorem Txt.g_count_of (T : Txt K mg) : mg "count_of" = some (.ref (ga K "count_of")) := T.gl 24 _ rfl
theorem Txt.g_Stopped (T : Txt K mg) : mg "Stopped" = some (.ref (ga K "Stopped")) := T.gl 25 _ rfl
theorem Txt.g_ByNought (T : Txt K mg) : mg "ByNought" = some (.ref (ga K "ByNought")) := T.gl 26 _ rfl
theorem Txt.g_Outside (T : Txt K mg) : mg "Outside" = some (.ref (ga K "Outside")) := T.gl 27 _ rfl
theorem Txt.g_ask_form (T : Txt K mg) : mg "ask_form" = some (.ref (ga K "ask_form")) := T.gl 28 _ rfl
theorem Txt.g_passed_over (T : Txt K mg) : mg "passed_over" = some (.ref (ga K "passed_over")) := T.gl 29 _ rfl
theorem Txt.g_play_fold (T : Txt K mg) : mg "play_fold" = some (.ref (ga K "play_fold")) := T.gl 30 _ rfl
theorem Txt.g_play_running (T : Txt K mg) : mg "play_running" = some (.ref (ga K "play_running")) := T.gl 31 _ rfl
theorem Txt.g_play_step (T : Txt K mg) : mg "play_step" = some (.ref (ga K "play_step")) := T.gl 32 _ rfl
theorem Txt.g_play_steps (T : Txt K mg) : mg "play_steps" = some (.ref (ga K "play_steps")) := T.gl 33 _ rfl
theorem Txt.g_played (T : Txt K mg) : mg "played" = some (.ref (ga K "played")) := T.gl 34 _ rfl
theorem Txt.g_l_whole (T : Txt K mg) : mg "_law_whole" = some (.ref (ga K "_law_whole")) := T.gl 35 _ rfl
theorem Txt.g_l_kept_by (T : Txt K mg) : mg "_law_kept_by" = some (.ref (ga K "_law_kept_by")) := T.gl 36 _ rfl
theorem Txt.g_l_mix (T : Txt K mg) : mg "_law_mix" = some (.ref (ga K "_law_mix")) := T.gl 37 _ rfl
theorem Txt.g_l_asked (T : Txt K mg) : mg "_law_asked" = some (.ref (ga K "_law_asked")) := T.gl 38 _ rfl
theorem Txt.g_l_functions (T : Txt K mg) : mg "_law_functions" = some (.ref (ga K "_law_functions")) := T.gl 39 _ rfl
theorem Txt.g_l_leaf_by (T : Txt K mg) : mg "_law_leaf_by" = some (.ref (ga K "_law_leaf_by")) := T.gl 40 _ rfl
theorem Txt.g_l_value_by (T : Txt K mg) : mg "_law_value_by" = some (.ref (ga K "_law_value_by")) := T.gl 41 _ rfl
theorem Txt.g_l_lengths_by (T : Txt K mg) : mg "_law_lengths_by" = some (.ref (ga K "_law_lengths_by")) := T.gl 42 _ rfl
theorem Txt.g_l_cells_by (T : Txt K mg) : mg "_law_cells_by" = some (.ref (ga K "_law_cells_by")) := T.gl 43 _ rfl
theorem Txt.g_l_element (T : Txt K mg) : mg "_law_element" = some (.ref (ga K "_law_element")) := T.gl 44 _ rfl
theorem Txt.g_l_told (T : Txt K mg) : mg "_law_told" = some (.ref (ga K "_law_told")) := T.gl 45 _ rfl
theorem Txt.g_l_joined (T : Txt K mg) : mg "_law_joined" = some (.ref (ga K "_law_joined")) := T.gl 46 _ rfl
theorem Txt.g_l_fold_by (T : Txt K mg) : mg "_law_fold_by" = some (.ref (ga K "_law_fold_by")) := T.gl 47 _ rfl
theorem Txt.g_l_target_by (T : Txt K mg) : mg "_law_target_by" = some (.ref (ga K "_law_target_by")) := T.gl 48 _ rfl
theorem Txt.g_l_many_by (T : Txt K mg) : mg "_law_many_by" = some (.ref (ga K "_law_many_by")) := T.gl 49 _ rfl
theorem Txt.g_l_step_by (T : Txt K mg) : mg "_law_step_by" = some (.ref (ga K "_law_step_by")) := T.gl 50 _ rfl
theorem Txt.g_l_due (T : Txt K mg) : mg "_law_due" = some (.ref (ga K "_law_due")) := T.gl 51 _ rfl
theorem Txt.g_law (T : Txt K mg) : mg "law" = some (.ref (ga K "law")) := T.gl 52 _ rfl
theorem Txt.z_len (T : Txt K mg) : mg "len" = none := T.fr 53 _ rfl
theorem Txt.z_sum (T : Txt K mg) : mg "sum" = none := T.fr 54 _ rfl
theorem Txt.z_range (T : Txt K mg) : mg "range" = none := T.fr 55 _ rfl
theorem Txt.z_list (T : Txt K mg) : mg "list" = none := T.fr 56 _ rfl
theorem Txt.z_max (T : Txt K mg) : mg "max" = none := T.fr 57 _ rfl
theorem Txt.z_min (T : Txt K mg) : mg "min" = none := T.fr 58 _ rfl
theorem Txt.z_isinstance (T : Txt K mg) : mg "isinstance" = none := T.fr 59 _ rfl
theorem Txt.z_int (T : Txt K mg) : mg "int" = none := T.fr 60 _ rfl
theorem Txt.z_divmod (T : Txt K mg) : mg "divmod" = none := T.fr 61 _ rfl
theorem Txt.z_tuple (T : Txt K mg) : mg "tuple" = none := T.fr 62 _ rfl
theorem Txt.z_str (T : Txt K mg) : mg "str" = none := T.fr 63 _ rfl
theorem Txt.z_bool (T : Txt K mg) : mg "bool" = none := T.fr 64 _ rfl
theorem Txt.c_Spot (T : Txt K mg) : Cls K (ga K "Spot") := cls_ok (T.at_ 67 rfl)
theorem Txt.c_Number (T : Txt K mg) : Cls K (ga K "Number") := cls_ok (T.at_ 68 rfl)
theorem Txt.c_Here (T : Txt K mg) : Cls K (ga K "Here") := cls_ok (T.at_ 69 rfl)
theorem Txt.c_Cell (T : Txt K mg) : Cls K (ga K "Cell") := cls_ok (T.at_ 70 rfl)
theorem Txt.c_Shifted (T : Txt K mg) : Cls K (ga K "Shifted") := cls_ok (T.at_ 71 rfl)
theorem Txt.c_Local (T : Txt K mg) : Cls K (ga K "Local") := cls_ok (T.at_ 72 rfl)
theorem Txt.c_At (T : Txt K mg) : Cls K (ga K "At") := cls_ok (T.at_ 73 rfl)
theorem Txt.c_Pair (T : Txt K mg) : Cls K (ga K "Pair") := cls_ok (T.at_ 74 rfl)
theorem Txt.c_Choice (T : Txt K mg) : Cls K (ga K "Choice") := cls_ok (T.at_ 75 rfl)
theorem Txt.c_Call (T : Txt K mg) : Cls K (ga K "Call") := cls_ok (T.at_ 76 rfl)
theorem Txt.c_Fold (T : Txt K mg) : Cls K (ga K "Fold") := cls_ok (T.at_ 77 rfl)
theorem Txt.c_Running (T : Txt K mg) : Cls K (ga K "Running") := cls_ok (T.at_ 78 rfl)
theorem Txt.c_Program (T : Txt K mg) : Cls K (ga K "Program") := cls_ok (T.at_ 79 rfl)
theorem Txt.m_Spot (T : Txt K mg) : Mk K (ga K "Spot") (ma K (ga K "Spot") "__init__") := mkr_ok (T.at_ 80 rfl)
theorem Txt.m_Number (T : Txt K mg) : Mk K (ga K "Number") (ma K (ga K "Number") "__init__") := mkr_ok (T.at_ 81 rfl)
theorem Txt.m_Cell (T : Txt K mg) : Mk K (ga K "Cell") (ma K (ga K "Cell") "__init__") := mkr_ok (T.at_ 82 rfl)
theorem Txt.m_Shifted (T : Txt K mg) : Mk K (ga K "Shifted") (ma K (ga K "Shifted") "__init__") := mkr_ok (T.at_ 83 rfl)
theorem Txt.m_Local (T : Txt K mg) : Mk K (ga K "Local") (ma K (ga K "Local") "__init__") := mkr_ok (T.at_ 84 rfl)
theorem Txt.m_At (T : Txt K mg) : Mk K (ga K "At") (ma K (ga K "At") "__init__") := mkr_ok (T.at_ 85 rfl)
theorem Txt.m_Pair (T : Txt K mg) : Mk K (ga K "Pair") (ma K (ga K "Pair") "__init__") := mkr_ok (T.at_ 86 rfl)
theorem Txt.m_Choice (T : Txt K mg) : Mk K (ga K "Choice") (ma K (ga K "Choice") "__init__") := mkr_ok (T.at_ 87 rfl)
theorem Txt.m_Call (T : Txt K mg) : Mk K (ga K "Call") (ma K (ga K "Call") "__init__") := mkr_ok (T.at_ 88 rfl)
theorem Txt.m_Fold (T : Txt K mg) : Mk K (ga K "Fold") (ma K (ga K "Fold") "__init__") := mkr_ok (T.at_ 89 rfl)
theorem Txt.m_Running (T : Txt K mg) : Mk K (ga K "Running") (ma K (ga K "Running") "__init__") := mkr_ok (T.at_ 90 rfl)
theorem Txt.m_Program (T : Txt K mg) : Mk K (ga K "Program") (ma K (ga K "Program") "__init__") := mkr_ok (T.at_ 91 rfl)
theorem Txt.n_Spot_lengths (T : Txt K mg) : NoAttr K (ga K "Spot") "lengths" := noat_ok (T.at_ 92 rfl)
theorem Txt.n_Spot_functions (T : Txt K mg) : NoAttr K (ga K "Spot") "functions" := noat_ok (T.at_ 93 rfl)
theorem Txt.n_Spot_cells (T : Txt K mg) : NoAttr K (ga K "Spot") "cells" := noat_ok (T.at_ 94 rfl)
theorem Txt.n_Spot_place (T : Txt K mg) : NoAttr K (ga K "Spot") "place" := noat_ok (T.at_ 95 rfl)
theorem Txt.n_Spot_own (T : Txt K mg) : NoAttr K (ga K "Spot") "own" := noat_ok (T.at_ 96 rfl)
theorem Txt.n_Number_number (T : Txt K mg) : NoAttr K (ga K "Number") "number" := noat_ok (T.at_ 97 rfl)
theorem Txt.n_Cell_row (T : Txt K mg) : NoAttr K (ga K "Cell") "row" := noat_ok (T.at_ 98 rfl)
theorem Txt.n_Shifted_row (T : Txt K mg) : NoAttr K (ga K "Shifted") "row" := noat_ok (T.at_ 99 rfl)
theorem Txt.n_Shifted_by (T : Txt K mg) : NoAttr K (ga K "Shifted") "by" := noat_ok (T.at_ 100 rfl)
theorem Txt.n_Shifted_other (T : Txt K mg) : NoAttr K (ga K "Shifted") "other" := noat_ok (T.at_ 101 rfl)
theorem Txt.n_Local_at (T : Txt K mg) : NoAttr K (ga K "Local") "at" := noat_ok (T.at_ 102 rfl)
theorem Txt.n_At_row (T : Txt K mg) : NoAttr K (ga K "At") "row" := noat_ok (T.at_ 103 rfl)
theorem Txt.n_At_place (T : Txt K mg) : NoAttr K (ga K "At") "place" := noat_ok (T.at_ 104 rfl)
theorem Txt.n_Pair_sign (T : Txt K mg) : NoAttr K (ga K "Pair") "sign" := noat_ok (T.at_ 105 rfl)
theorem Txt.n_Pair_left (T : Txt K mg) : NoAttr K (ga K "Pair") "left" := noat_ok (T.at_ 106 rfl)
theorem Txt.n_Pair_right (T : Txt K mg) : NoAttr K (ga K "Pair") "right" := noat_ok (T.at_ 107 rfl)
theorem Txt.n_Choice_test (T : Txt K mg) : NoAttr K (ga K "Choice") "test" := noat_ok (T.at_ 108 rfl)
theorem Txt.n_Choice_left (T : Txt K mg) : NoAttr K (ga K "Choice") "left" := noat_ok (T.at_ 109 rfl)
theorem Txt.n_Choice_right (T : Txt K mg) : NoAttr K (ga K "Choice") "right" := noat_ok (T.at_ 110 rfl)
theorem Txt.n_Call_at (T : Txt K mg) : NoAttr K (ga K "Call") "at" := noat_ok (T.at_ 111 rfl)
theorem Txt.n_Call_handed (T : Txt K mg) : NoAttr K (ga K "Call") "handed" := noat_ok (T.at_ 112 rfl)
theorem Txt.n_Fold_target (T : Txt K mg) : NoAttr K (ga K "Fold") "target" := noat_ok (T.at_ 113 rfl)
theorem Txt.n_Fold_fold (T : Txt K mg) : NoAttr K (ga K "Fold") "fold" := noat_ok (T.at_ 114 rfl)
theorem Txt.n_Fold_value (T : Txt K mg) : NoAttr K (ga K "Fold") "value" := noat_ok (T.at_ 115 rfl)
theorem Txt.n_Fold_many (T : Txt K mg) : NoAttr K (ga K "Fold") "many" := noat_ok (T.at_ 116 rfl)
theorem Txt.n_Fold_test (T : Txt K mg) : NoAttr K (ga K "Fold") "test" := noat_ok (T.at_ 117 rfl)
theorem Txt.n_Running_target (T : Txt K mg) : NoAttr K (ga K "Running") "target" := noat_ok (T.at_ 118 rfl)
theorem Txt.n_Running_fold (T : Txt K mg) : NoAttr K (ga K "Running") "fold" := noat_ok (T.at_ 119 rfl)
theorem Txt.n_Running_value (T : Txt K mg) : NoAttr K (ga K "Running") "value" := noat_ok (T.at_ 120 rfl)
theorem Txt.n_Running_test (T : Txt K mg) : NoAttr K (ga K "Running") "test" := noat_ok (T.at_ 121 rfl)
theorem Txt.n_Program_lengths (T : Txt K mg) : NoAttr K (ga K "Program") "lengths" := noat_ok (T.at_ 122 rfl)
theorem Txt.n_Program_functions (T : Txt K mg) : NoAttr K (ga K "Program") "functions" := noat_ok (T.at_ 123 rfl)
theorem Txt.n_Program_steps (T : Txt K mg) : NoAttr K (ga K "Program") "steps" := noat_ok (T.at_ 124 rfl)
theorem Txt.w_Number_worth (T : Txt K mg) : Meth K (ga K "Number") "worth" (ma K (ga K "Number") "worth") := meth_ok (T.at_ 125 rfl)
theorem Txt.w_Here_worth (T : Txt K mg) : Meth K (ga K "Here") "worth" (ma K (ga K "Here") "worth") := meth_ok (T.at_ 126 rfl)
theorem Txt.w_Cell_worth (T : Txt K mg) : Meth K (ga K "Cell") "worth" (ma K (ga K "Cell") "worth") := meth_ok (T.at_ 127 rfl)
theorem Txt.w_Shifted_worth (T : Txt K mg) : Meth K (ga K "Shifted") "worth" (ma K (ga K "Shifted") "worth") := meth_ok (T.at_ 128 rfl)
theorem Txt.w_Local_worth (T : Txt K mg) : Meth K (ga K "Local") "worth" (ma K (ga K "Local") "worth") := meth_ok (T.at_ 129 rfl)
theorem Txt.w_At_worth (T : Txt K mg) : Meth K (ga K "At") "worth" (ma K (ga K "At") "worth") := meth_ok (T.at_ 130 rfl)
theorem Txt.w_Pair_worth (T : Txt K mg) : Meth K (ga K "Pair") "worth" (ma K (ga K "Pair") "worth") := meth_ok (T.at_ 131 rfl)
theorem Txt.w_Choice_worth (T : Txt K mg) : Meth K (ga K "Choice") "worth" (ma K (ga K "Choice") "worth") := meth_ok (T.at_ 132 rfl)
theorem Txt.w_Call_worth (T : Txt K mg) : Meth K (ga K "Call") "worth" (ma K (ga K "Call") "worth") := meth_ok (T.at_ 133 rfl)
theorem Txt.w_Fold_many_of (T : Txt K mg) : Meth K (ga K "Fold") "many_of" (ma K (ga K "Fold") "many_of") := meth_ok (T.at_ 134 rfl)
theorem Txt.w_Running_many_of (T : Txt K mg) : Meth K (ga K "Running") "many_of" (ma K (ga K "Running") "many_of") := meth_ok (T.at_ 135 rfl)
theorem Txt.x_ByNought (T : Txt K mg) : PySem.W.excIn K (ga K "ByNought") veBase "ValueError.__new__" = true ∧ PySem.W.keepIn K (.ref (ga K "ByNought")) = true ∧ PySem.W.subIn K (.ref (ga K "ByNought")) (.type "BaseException") = some true ∧ PySem.W.typeIn K (.ref (ga K "ByNought")) = some (.type "type") := exc_ok (T.at_ 136 rfl)
theorem Txt.x_Outside (T : Txt K mg) : PySem.W.excIn K (ga K "Outside") veBase "ValueError.__new__" = true ∧ PySem.W.keepIn K (.ref (ga K "Outside")) = true ∧ PySem.W.subIn K (.ref (ga K "Outside")) (.type "BaseException") = some true ∧ PySem.W.typeIn K (.ref (ga K "Outside")) = some (.type "type") := exc_ok (T.at_ 137 rfl)
theorem Txt.e_ByNought_ByNought (T : Txt K mg) : PySem.W.exmOne K (.ref (ga K "ByNought")) (.ref (ga K "ByNought")) = some true := exm_ok (T.at_ 138 rfl)
theorem Txt.e_Outside_ByNought (T : Txt K mg) : PySem.W.exmOne K (.ref (ga K "Outside")) (.ref (ga K "ByNought")) = some false := exm_ok (T.at_ 139 rfl)
theorem Txt.e_Outside_Outside (T : Txt K mg) : PySem.W.exmOne K (.ref (ga K "Outside")) (.ref (ga K "Outside")) = some true := exm_ok (T.at_ 140 rfl)
theorem Txt.e_Stopped_Stopped (T : Txt K mg) : PySem.W.exmOne K (.ref (ga K "Stopped")) (.ref (ga K "Stopped")) = some true := exm_ok (T.at_ 141 rfl)
abbrev fd_kept (K : PySem.W.Frag) : FuncData := fdOf K ("kept", none)
theorem Txt.f_kept (T : Txt K mg) : FunD K "kept" "kept" (defArgs s_kept) (defBody s_kept) (defScope s_kept) [] [] (ga K "kept") (fd_kept K) := T.fn_ 0 rfl
theorem Txt.b_kept (T : Txt K mg) : L2.Binds K (fd_kept K) p_kept [] := T.f_kept.bindsN fun _ _ _ _ _ _ us hl => match us, hl with | [_], _ => rfl
theorem Txt.k_kept (T : Txt K mg) : PySem.W.keepIn K (.ref (ga K "kept")) = true := T.f_kept.kp
abbrev fd_divided (K : PySem.W.Frag) : FuncData := fdOf K ("divided", none)
theorem Txt.f_divided (T : Txt K mg) : FunD K "divided" "divided" (defArgs s_divided) (defBody s_divided) (defScope s_divided) [] [] (ga K "divided") (fd_divided K) := T.fn_ 1 rfl
theorem Txt.b_divided (T : Txt K mg) : L2.Binds K (fd_divided K) p_divided [] := T.f_divided.bindsN fun _ _ _ _ _ _ us hl => match us, hl with | [_, _, _], _ => rfl
theorem Txt.k_divided (T : Txt K mg) : PySem.W.keepIn K (.ref (ga K "divided")) = true := T.f_divided.kp
abbrev fd_by_bits (K : PySem.W.Frag) : FuncData := fdOf K ("by_bits", none)
theorem Txt.f_by_bits (T : Txt K mg) : FunD K "by_bits" "by_bits" (defArgs s_by_bits) (defBody s_by_bits) (defScope s_by_bits) [] [] (ga K "by_bits") (fd_by_bits K) := T.fn_ 2 rfl
theorem Txt.b_by_bits (T : Txt K mg) : L2.Binds K (fd_by_bits K) p_by_bits [] := T.f_by_bits.bindsN fun _ _ _ _ _ _ us hl => match us, hl with | [_, _, _], _ => rfl
theorem Txt.k_by_bits (T : Txt K mg) : PySem.W.keepIn K (.ref (ga K "by_bits")) = true := T.f_by_bits.kp
abbrev fd_done (K : PySem.W.Frag) : FuncData := fdOf K ("done", none)
theorem Txt.f_done (T : Txt K mg) : FunD K "done" "done" (defArgs s_done) (defBody s_done) (defScope s_done) [] [] (ga K "done") (fd_done K) := T.fn_ 3 rfl
theorem Txt.b_done (T : Txt K mg) : L2.Binds K (fd_done K) p_done [] := T.f_done.bindsN fun _ _ _ _ _ _ us hl => match us, hl with | [_, _, _], _ => rfl
theorem Txt.k_done (T : Txt K mg) : PySem.W.keepIn K (.ref (ga K "done")) = true := T.f_done.kp
abbrev fd_joined (K : PySem.W.Frag) : FuncData := fdOf K ("joined", none)
theorem Txt.f_joined (T : Txt K mg) : FunD K "joined" "joined" (defArgs s_joined) (defBody s_joined) (defScope s_joined) [] [] (ga K "joined") (fd_joined K) := T.fn_ 4 rfl
theorem Txt.b_joined (T : Txt K mg) : L2.Binds K (fd_joined K) p_joined [] := T.f_joined.bindsN fun _ _ _ _ _ _ us hl => match us, hl with | [_, _, _], _ => rfl
theorem Txt.k_joined (T : Txt K mg) : PySem.W.keepIn K (.ref (ga K "joined")) = true := T.f_joined.kp
abbrev fd_start_of (K : PySem.W.Frag) : FuncData := fdOf K ("start_of", none)
theorem Txt.f_start_of (T : Txt K mg) : FunD K "start_of" "start_of" (defArgs s_start_of) (defBody s_start_of) (defScope s_start_of) [] [] (ga K "start_of") (fd_start_of K) := T.fn_ 5 rfl
theorem Txt.b_start_of (T : Txt K mg) : L2.Binds K (fd_start_of K) p_start_of [] := T.f_start_of.bindsN fun _ _ _ _ _ _ us hl => match us, hl with | [_, _], _ => rfl
theorem Txt.k_start_of (T : Txt K mg) : PySem.W.keepIn K (.ref (ga K "start_of")) = true := T.f_start_of.kp
abbrev fd_Spot_init (K : PySem.W.Frag) : FuncData := fdOf K ("Spot", some "__init__")
theorem Txt.f_Spot_init (T : Txt K mg) : FunD K "__init__" "Spot.__init__" (defArgs s_Spot_init) (defBody s_Spot_init) (defScope s_Spot_init) [] [] (ma K (ga K "Spot") "__init__") (fd_Spot_init K) := T.fn_ 6 rfl
theorem Txt.b_Spot_init (T : Txt K mg) : L2.Binds K (fd_Spot_init K) p_Spot_init [] := T.f_Spot_init.bindsN fun _ _ _ _ _ _ us hl => match us, hl with | [_, _, _, _, _, _], _ => rfl
theorem Txt.k_Spot_init (T : Txt K mg) : PySem.W.keepIn K (.ref (ma K (ga K "Spot") "__init__")) = true := T.f_Spot_init.kp
abbrev fd_row_cell (K : PySem.W.Frag) : FuncData := fdOf K ("row_cell", none)
theorem Txt.f_row_cell (T : Txt K mg) : FunD K "row_cell" "row_cell" (defArgs s_row_cell) (defBody s_row_cell) (defScope s_row_cell) [] [] (ga K "row_cell") (fd_row_cell K) := T.fn_ 7 rfl
theorem Txt.b_row_cell (T : Txt K mg) : L2.Binds K (fd_row_cell K) p_row_cell [] := T.f_row_cell.bindsN fun _ _ _ _ _ _ us hl => match us, hl with | [_, _, _], _ => rfl
theorem Txt.k_row_cell (T : Txt K mg) : PySem.W.keepIn K (.ref (ga K "row_cell")) = true := T.f_row_cell.kp
abbrev fd_Number_init (K : PySem.W.Frag) : FuncData := fdOf K ("Number", some "__init__")
theorem Txt.f_Number_init (T : Txt K mg) : FunD K "__init__" "Number.__init__" (defArgs s_Number_init) (defBody s_Number_init) (defScope s_Number_init) [] [] (ma K (ga K "Number") "__init__") (fd_Number_init K) := T.fn_ 8 rfl
theorem Txt.b_Number_init (T : Txt K mg) : L2.Binds K (fd_Number_init K) p_Number_init [] := T.f_Number_init.bindsN fun _ _ _ _ _ _ us hl => match us, hl with | [_, _], _ => rfl
theorem Txt.k_Number_init (T : Txt K mg) : PySem.W.keepIn K (.ref (ma K (ga K "Number") "__init__")) = true := T.f_Number_init.kp
abbrev fd_Number_worth (K : PySem.W.Frag) : FuncData := fdOf K ("Number", some "worth")
theorem Txt.f_Number_worth (T : Txt K mg) : FunD K "worth" "Number.worth" (defArgs s_Number_worth) (defBody s_Number_worth) (defScope s_Number_worth) [] [] (ma K (ga K "Number") "worth") (fd_Number_worth K) := T.fn_ 9 rfl
theorem Txt.b_Number_worth (T : Txt K mg) : L2.Binds K (fd_Number_worth K) p_Number_worth [] := T.f_Number_worth.bindsN fun _ _ _ _ _ _ us hl => match us, hl with | [_, _], _ => rfl
theorem Txt.k_Number_worth (T : Txt K mg) : PySem.W.keepIn K (.ref (ma K (ga K "Number") "worth")) = true := T.f_Number_worth.kp
abbrev fd_Here_worth (K : PySem.W.Frag) : FuncData := fdOf K ("Here", some "worth")
theorem Txt.f_Here_worth (T : Txt K mg) : FunD K "worth" "Here.worth" (defArgs s_Here_worth) (defBody s_Here_worth) (defScope s_Here_worth) [] [] (ma K (ga K "Here") "worth") (fd_Here_worth K) := T.fn_ 10 rfl
theorem Txt.b_Here_worth (T : Txt K mg) : L2.Binds K (fd_Here_worth K) p_Here_worth [] := T.f_Here_worth.bindsN fun _ _ _ _ _ _ us hl => match us, hl with | [_, _], _ => rfl
theorem Txt.k_Here_worth (T : Txt K mg) : PySem.W.keepIn K (.ref (ma K (ga K "Here") "worth")) = true := T.f_Here_worth.kp
abbrev fd_Cell_init (K : PySem.W.Frag) : FuncData := fdOf K ("Cell", some "__init__")
theorem Txt.f_Cell_init (T : Txt K mg) : FunD K "__init__" "Cell.__init__" (defArgs s_Cell_init) (defBody s_Cell_init) (defScope s_Cell_init) [] [] (ma K (ga K "Cell") "__init__") (fd_Cell_init K) := T.fn_ 11 rfl
theorem Txt.b_Cell_init (T : Txt K mg) : L2.Binds K (fd_Cell_init K) p_Cell_init [] := T.f_Cell_init.bindsN fun _ _ _ _ _ _ us hl => match us, hl with | [_, _], _ => rfl
theorem Txt.k_Cell_init (T : Txt K mg) : PySem.W.keepIn K (.ref (ma K (ga K "Cell") "__init__")) = true := T.f_Cell_init.kp
abbrev fd_Cell_worth (K : PySem.W.Frag) : FuncData := fdOf K ("Cell", some "worth")
theorem Txt.f_Cell_worth (T : Txt K mg) : FunD K "worth" "Cell.worth" (defArgs s_Cell_worth) (defBody s_Cell_worth) (defScope s_Cell_worth) [] [] (ma K (ga K "Cell") "worth") (fd_Cell_worth K) := T.fn_ 12 rfl
theorem Txt.b_Cell_worth (T : Txt K mg) : L2.Binds K (fd_Cell_worth K) p_Cell_worth [] := T.f_Cell_worth.bindsN fun _ _ _ _ _ _ us hl => match us, hl with | [_, _], _ => rfl
theorem Txt.k_Cell_worth (T : Txt K mg) : PySem.W.keepIn K (.ref (ma K (ga K "Cell") "worth")) = true := T.f_Cell_worth.kp
abbrev fd_Shifted_init (K : PySem.W.Frag) : FuncData := fdOf K ("Shifted", some "__init__")
theorem Txt.f_Shifted_init (T : Txt K mg) : FunD K "__init__" "Shifted.__init__" (defArgs s_Shifted_init) (defBody s_Shifted_init) (defScope s_Shifted_init) [] [] (ma K (ga K "Shifted") "__init__") (fd_Shifted_init K) := T.fn_ 13 rfl
theorem Txt.b_Shifted_init (T : Txt K mg) : L2.Binds K (fd_Shifted_init K) p_Shifted_init [] := T.f_Shifted_init.bindsN fun _ _ _ _ _ _ us hl => match us, hl with | [_, _, _, _], _ => rfl
theorem Txt.k_Shifted_init (T : Txt K mg) : PySem.W.keepIn K (.ref (ma K (ga K "Shifted") "__init__")) = true := T.f_Shifted_init.kp
abbrev fd_Shifted_worth (K : PySem.W.Frag) : FuncData := fdOf K ("Shifted", some "worth")
theorem Txt.f_Shifted_worth (T : Txt K mg) : FunD K "worth" "Shifted.worth" (defArgs s_Shifted_worth) (defBody s_Shifted_worth) (defScope s_Shifted_worth) [] [] (ma K (ga K "Shifted") "worth") (fd_Shifted_worth K) := T.fn_ 14 rfl
theorem Txt.b_Shifted_worth (T : Txt K mg) : L2.Binds K (fd_Shifted_worth K) p_Shifted_worth [] := T.f_Shifted_worth.bindsN fun _ _ _ _ _ _ us hl => match us, hl with | [_, _], _ => rfl
theorem Txt.k_Shifted_worth (T : Txt K mg) : PySem.W.keepIn K (.ref (ma K (ga K "Shifted") "worth")) = true := T.f_Shifted_worth.kp
abbrev fd_Local_init (K : PySem.W.Frag) : FuncData := fdOf K ("Local", some "__init__")
theorem Txt.f_Local_init (T : Txt K mg) : FunD K "__init__" "Local.__init__" (defArgs s_Local_init) (defBody s_Local_init) (defScope s_Local_init) [] [] (ma K (ga K "Local") "__init__") (fd_Local_init K) := T.fn_ 15 rfl
theorem Txt.b_Local_init (T : Txt K mg) : L2.Binds K (fd_Local_init K) p_Local_init [] := T.f_Local_init.bindsN fun _ _ _ _ _ _ us hl => match us, hl with | [_, _], _ => rfl
theorem Txt.k_Local_init (T : Txt K mg) : PySem.W.keepIn K (.ref (ma K (ga K "Local") "__init__")) = true := T.f_Local_init.kp
abbrev fd_Local_worth (K : PySem.W.Frag) : FuncData := fdOf K ("Local", some "worth")
theorem Txt.f_Local_worth (T : Txt K mg) : FunD K "worth" "Local.worth" (defArgs s_Local_worth) (defBody s_Local_worth) (defScope s_Local_worth) [] [] (ma K (ga K "Local") "worth") (fd_Local_worth K) := T.fn_ 16 rfl
theorem Txt.b_Local_worth (T : Txt K mg) : L2.Binds K (fd_Local_worth K) p_Local_worth [] := T.f_Local_worth.bindsN fun _ _ _ _ _ _ us hl => match us, hl with | [_, _], _ => rfl
theorem Txt.k_Local_worth (T : Txt K mg) : PySem.W.keepIn K (.ref (ma K (ga K "Local") "worth")) = true := T.f_Local_worth.kp
abbrev fd_At_init (K : PySem.W.Frag) : FuncData := fdOf K ("At", some "__init__")
theorem Txt.f_At_init (T : Txt K mg) : FunD K "__init__" "At.__init__" (defArgs s_At_init) (defBody s_At_init) (defScope s_At_init) [] [] (ma K (ga K "At") "__init__") (fd_At_init K) := T.fn_ 17 rfl
theorem Txt.b_At_init (T : Txt K mg) : L2.Binds K (fd_At_init K) p_At_init [] := T.f_At_init.bindsN fun _ _ _ _ _ _ us hl => match us, hl with | [_, _, _], _ => rfl
theorem Txt.k_At_init (T : Txt K mg) : PySem.W.keepIn K (.ref (ma K (ga K "At") "__init__")) = true := T.f_At_init.kp
abbrev fd_At_worth (K : PySem.W.Frag) : FuncData := fdOf K ("At", some "worth")
theorem Txt.f_At_worth (T : Txt K mg) : FunD K "worth" "At.worth" (defArgs s_At_worth) (defBody s_At_worth) (defScope s_At_worth) [] [] (ma K (ga K "At") "worth") (fd_At_worth K) := T.fn_ 18 rfl
theorem Txt.b_At_worth (T : Txt K mg) : L2.Binds K (fd_At_worth K) p_At_worth [] := T.f_At_worth.bindsN fun _ _ _ _ _ _ us hl => match us, hl with | [_, _], _ => rfl
theorem Txt.k_At_worth (T : Txt K mg) : PySem.W.keepIn K (.ref (ma K (ga K "At") "worth")) = true := T.f_At_worth.kp
abbrev fd_Pair_init (K : PySem.W.Frag) : FuncData := fdOf K ("Pair", some "__init__")
theorem Txt.f_Pair_init (T : Txt K mg) : FunD K "__init__" "Pair.__init__" (defArgs s_Pair_init) (defBody s_Pair_init) (defScope s_Pair_init) [] [] (ma K (ga K "Pair") "__init__") (fd_Pair_init K) := T.fn_ 19 rfl
theorem Txt.b_Pair_init (T : Txt K mg) : L2.Binds K (fd_Pair_init K) p_Pair_init [] := T.f_Pair_init.bindsN fun _ _ _ _ _ _ us hl => match us, hl with | [_, _, _, _], _ => rfl
theorem Txt.k_Pair_init (T : Txt K mg) : PySem.W.keepIn K (.ref (ma K (ga K "Pair") "__init__")) = true := T.f_Pair_init.kp
abbrev fd_Pair_worth (K : PySem.W.Frag) : FuncData := fdOf K ("Pair", some "worth")
theorem Txt.f_Pair_worth (T : Txt K mg) : FunD K "worth" "Pair.worth" (defArgs s_Pair_worth) (defBody s_Pair_worth) (defScope s_Pair_worth) [] [] (ma K (ga K "Pair") "worth") (fd_Pair_worth K) := T.fn_ 20 rfl
theorem Txt.b_Pair_worth (T : Txt K mg) : L2.Binds K (fd_Pair_worth K) p_Pair_worth [] := T.f_Pair_worth.bindsN fun _ _ _ _ _ _ us hl => match us, hl with | [_, _], _ => rfl
theorem Txt.k_Pair_worth (T : Txt K mg) : PySem.W.keepIn K (.ref (ma K (ga K "Pair") "worth")) = true := T.f_Pair_worth.kp
abbrev fd_Choice_init (K : PySem.W.Frag) : FuncData := fdOf K ("Choice", some "__init__")
theorem Txt.f_Choice_init (T : Txt K mg) : FunD K "__init__" "Choice.__init__" (defArgs s_Choice_init) (defBody s_Choice_init) (defScope s_Choice_init) [] [] (ma K (ga K "Choice") "__init__") (fd_Choice_init K) := T.fn_ 21 rfl
theorem Txt.b_Choice_init (T : Txt K mg) : L2.Binds K (fd_Choice_init K) p_Choice_init [] := T.f_Choice_init.bindsN fun _ _ _ _ _ _ us hl => match us, hl with | [_, _, _, _], _ => rfl
theorem Txt.k_Choice_init (T : Txt K mg) : PySem.W.keepIn K (.ref (ma K (ga K "Choice") "__init__")) = true := T.f_Choice_init.kp
abbrev fd_Choice_worth (K : PySem.W.Frag) : FuncData := fdOf K ("Choice", some "worth")
theorem Txt.f_Choice_worth (T : Txt K mg) : FunD K "worth" "Choice.worth" (defArgs s_Choice_worth) (defBody s_Choice_worth) (defScope s_Choice_worth) [] [] (ma K (ga K "Choice") "worth") (fd_Choice_worth K) := T.fn_ 22 rfl
theorem Txt.b_Choice_worth (T : Txt K mg) : L2.Binds K (fd_Choice_worth K) p_Choice_worth [] := T.f_Choice_worth.bindsN fun _ _ _ _ _ _ us hl => match us, hl with | [_, _], _ => rfl
theorem Txt.k_Choice_worth (T : Txt K mg) : PySem.W.keepIn K (.ref (ma K (ga K "Choice") "worth")) = true := T.f_Choice_worth.kp
abbrev fd_Call_init (K : PySem.W.Frag) : FuncData := fdOf K ("Call", some "__init__")
theorem Txt.f_Call_init (T : Txt K mg) : FunD K "__init__" "Call.__init__" (defArgs s_Call_init) (defBody s_Call_init) (defScope s_Call_init) [] [] (ma K (ga K "Call") "__init__") (fd_Call_init K) := T.fn_ 23 rfl
theorem Txt.b_Call_init (T : Txt K mg) : L2.Binds K (fd_Call_init K) p_Call_init [] := T.f_Call_init.bindsN fun _ _ _ _ _ _ us hl => match us, hl with | [_, _, _], _ => rfl
theorem Txt.k_Call_init (T : Txt K mg) : PySem.W.keepIn K (.ref (ma K (ga K "Call") "__init__")) = true := T.f_Call_init.kp
abbrev fd_Call_worth (K : PySem.W.Frag) : FuncData := fdOf K ("Call", some "worth")
theorem Txt.f_Call_worth (T : Txt K mg) : FunD K "worth" "Call.worth" (defArgs s_Call_worth) (defBody s_Call_worth) (defScope s_Call_worth) [] [] (ma K (ga K "Call") "worth") (fd_Call_worth K) := T.fn_ 24 rfl
theorem Txt.b_Call_worth (T : Txt K mg) : L2.Binds K (fd_Call_worth K) p_Call_worth [] := T.f_Call_worth.bindsN fun _ _ _ _ _ _ us hl => match us, hl with | [_, _], _ => rfl
theorem Txt.k_Call_worth (T : Txt K mg) : PySem.W.keepIn K (.ref (ma K (ga K "Call") "worth")) = true := T.f_Call_worth.kp
abbrev fd_Step_init (K : PySem.W.Frag) : FuncData := fdOf K ("Step", some "__init__")
theorem Txt.f_Step_init (T : Txt K mg) : FunD K "__init__" "Step.__init__" (defArgs s_Step_init) (defBody s_Step_init) (defScope s_Step_init) [] [] (ma K (ga K "Step") "__init__") (fd_Step_init K) := T.fn_ 25 rfl
theorem Txt.b_Step_init (T : Txt K mg) : L2.Binds K (fd_Step_init K) p_Step_init [] := T.f_Step_init.bindsN fun _ _ _ _ _ _ us hl => match us, hl with | [_, _], _ => rfl
theorem Txt.k_Step_init (T : Txt K mg) : PySem.W.keepIn K (.ref (ma K (ga K "Step") "__init__")) = true := T.f_Step_init.kp
abbrev fd_Step_many_of (K : PySem.W.Frag) : FuncData := fdOf K ("Running", some "many_of")
theorem Txt.f_Step_many_of (T : Txt K mg) : FunD K "many_of" "Step.many_of" (defArgs s_Step_many_of) (defBody s_Step_many_of) (defScope s_Step_many_of) [] [] (ma K (ga K "Running") "many_of") (fd_Step_many_of K) := T.fn_ 26 rfl
theorem Txt.b_Step_many_of (T : Txt K mg) : L2.Binds K (fd_Step_many_of K) p_Step_many_of [] := T.f_Step_many_of.bindsN fun _ _ _ _ _ _ us hl => match us, hl with | [_, _], _ => rfl
theorem Txt.k_Step_many_of (T : Txt K mg) : PySem.W.keepIn K (.ref (ma K (ga K "Running") "many_of")) = true := T.f_Step_many_of.kp
abbrev fd_Fold_init (K : PySem.W.Frag) : FuncData := fdOf K ("Fold", some "__init__")
theorem Txt.f_Fold_init (T : Txt K mg) : FunD K "__init__" "Fold.__init__" (defArgs s_Fold_init) (defBody s_Fold_init) (defScope s_Fold_init) [.non] [] (ma K (ga K "Fold") "__init__") (fd_Fold_init K) := T.fn_ 27 rfl
theorem Txt.b0_Fold_init (T : Txt K mg) : ∃ ds, Vals (([.non] : List V).drop 0) ds ∧ L2.Binds K (fd_Fold_init K) p_Fold_init ds := T.f_Fold_init.binds1 5 0 (by simp) rfl fun _ _ _ _ _ _ _ us its hl hi => match us, hl, its, hi with | [_, _, _, _, _], _, [_], _ => ⟨_, rfl, rfl⟩
theorem Txt.b1_Fold_init (T : Txt K mg) : ∃ ds, Vals (([.non] : List V).drop 1) ds ∧ L2.Binds K (fd_Fold_init K) p_Fold_init ds := T.f_Fold_init.binds1 6 1 (by simp) rfl fun _ _ _ _ _ _ _ us its hl hi => match us, hl, its, hi with | [_, _, _, _, _, _], _, [_], _ => ⟨_, rfl, rfl⟩
theorem Txt.k_Fold_init (T : Txt K mg) : PySem.W.keepIn K (.ref (ma K (ga K "Fold") "__init__")) = true := T.f_Fold_init.kp
abbrev fd_Fold_many_of (K : PySem.W.Frag) : FuncData := fdOf K ("Fold", some "many_of")
theorem Txt.f_Fold_many_of (T : Txt K mg) : FunD K "many_of" "Fold.many_of" (defArgs s_Fold_many_of) (defBody s_Fold_many_of) (defScope s_Fold_many_of) [] [] (ma K (ga K "Fold") "many_of") (fd_Fold_many_of K) := T.fn_ 28 rfl
theorem Txt.b_Fold_many_of (T : Txt K mg) : L2.Binds K (fd_Fold_many_of K) p_Fold_many_of [] := T.f_Fold_many_of.bindsN fun _ _ _ _ _ _ us hl => match us, hl with | [_, _], _ => rfl
theorem Txt.k_Fold_many_of (T : Txt K mg) : PySem.W.keepIn K (.ref (ma K (ga K "Fold") "many_of")) = true := T.f_Fold_many_of.kp
abbrev fd_Running_init (K : PySem.W.Frag) : FuncData := fdOf K ("Running", some "__init__")
theorem Txt.f_Running_init (T : Txt K mg) : FunD K "__init__" "Running.__init__" (defArgs s_Running_init) (defBody s_Running_init) (defScope s_Running_init) [.non] [] (ma K (ga K "Running") "__init__") (fd_Running_init K) := T.fn_ 29 rfl
theorem Txt.b0_Running_init (T : Txt K mg) : ∃ ds, Vals (([.non] : List V).drop 0) ds ∧ L2.Binds K (fd_Running_init K) p_Running_init ds := T.f_Running_init.binds1 4 0 (by simp) rfl fun _ _ _ _ _ _ _ us its hl hi => match us, hl, its, hi with | [_, _, _, _], _, [_], _ => ⟨_, rfl, rfl⟩
theorem Txt.b1_Running_init (T : Txt K mg) : ∃ ds, Vals (([.non] : List V).drop 1) ds ∧ L2.Binds K (fd_Running_init K) p_Running_init ds := T.f_Running_init.binds1 5 1 (by simp) rfl fun _ _ _ _ _ _ _ us its hl hi => match us, hl, its, hi with | [_, _, _, _, _], _, [_], _ => ⟨_, rfl, rfl⟩
theorem Txt.k_Running_init (T : Txt K mg) : PySem.W.keepIn K (.ref (ma K (ga K "Running") "__init__")) = true := T.f_Running_init.kp
abbrev fd_Program_init (K : PySem.W.Frag) : FuncData := fdOf K ("Program", some "__init__")
theorem Txt.f_Program_init (T : Txt K mg) : FunD K "__init__" "Program.__init__" (defArgs s_Program_init) (defBody s_Program_init) (defScope s_Program_init) [] [] (ma K (ga K "Program") "__init__") (fd_Program_init K) := T.fn_ 30 rfl
theorem Txt.b_Program_init (T : Txt K mg) : L2.Binds K (fd_Program_init K) p_Program_init [] := T.f_Program_init.bindsN fun _ _ _ _ _ _ us hl => match us, hl with | [_, _, _, _], _ => rfl
theorem Txt.k_Program_init (T : Txt K mg) : PySem.W.keepIn K (.ref (ma K (ga K "Program") "__init__")) = true := T.f_Program_init.kp
abbrev fd_count_of (K : PySem.W.Frag) : FuncData := fdOf K ("count_of", none)
theorem Txt.f_count_of (T : Txt K mg) : FunD K "count_of" "count_of" (defArgs s_count_of) (defBody s_count_of) (defScope s_count_of) [] [] (ga K "count_of") (fd_count_of K) := T.fn_ 31 rfl
theorem Txt.b_count_of (T : Txt K mg) : L2.Binds K (fd_count_of K) p_count_of [] := T.f_count_of.bindsN fun _ _ _ _ _ _ us hl => match us, hl with | [_], _ => rfl
theorem Txt.k_count_of (T : Txt K mg) : PySem.W.keepIn K (.ref (ga K "count_of")) = true := T.f_count_of.kp
abbrev fd_Stopped_init (K : PySem.W.Frag) : FuncData := fdOf K ("Stopped", some "__init__")
theorem Txt.f_Stopped_init (T : Txt K mg) : FunD K "__init__" "Stopped.__init__" (defArgs s_Stopped_init) (defBody s_Stopped_init) (defScope s_Stopped_init) [] [] (ma K (ga K "Stopped") "__init__") (fd_Stopped_init K) := T.fn_ 32 rfl
theorem Txt.b_Stopped_init (T : Txt K mg) : L2.Binds K (fd_Stopped_init K) p_Stopped_init [] := T.f_Stopped_init.bindsN fun _ _ _ _ _ _ us hl => match us, hl with | [_, _, _, _], _ => rfl
theorem Txt.k_Stopped_init (T : Txt K mg) : PySem.W.keepIn K (.ref (ma K (ga K "Stopped") "__init__")) = true := T.f_Stopped_init.kp
abbrev fd_ask_form (K : PySem.W.Frag) : FuncData := fdOf K ("ask_form", none)
theorem Txt.f_ask_form (T : Txt K mg) : FunD K "ask_form" "ask_form" (defArgs s_ask_form) (defBody s_ask_form) (defScope s_ask_form) [] [] (ga K "ask_form") (fd_ask_form K) := T.fn_ 33 rfl
theorem Txt.b_ask_form (T : Txt K mg) : L2.Binds K (fd_ask_form K) p_ask_form [] := T.f_ask_form.bindsN fun _ _ _ _ _ _ us hl => match us, hl with | [_, _, _], _ => rfl
theorem Txt.k_ask_form (T : Txt K mg) : PySem.W.keepIn K (.ref (ga K "ask_form")) = true := T.f_ask_form.kp
abbrev fd_passed_over (K : PySem.W.Frag) : FuncData := fdOf K ("passed_over", none)
theorem Txt.f_passed_over (T : Txt K mg) : FunD K "passed_over" "passed_over" (defArgs s_passed_over) (defBody s_passed_over) (defScope s_passed_over) [] [] (ga K "passed_over") (fd_passed_over K) := T.fn_ 34 rfl
theorem Txt.b_passed_over (T : Txt K mg) : L2.Binds K (fd_passed_over K) p_passed_over [] := T.f_passed_over.bindsN fun _ _ _ _ _ _ us hl => match us, hl with | [_, _, _], _ => rfl
theorem Txt.k_passed_over (T : Txt K mg) : PySem.W.keepIn K (.ref (ga K "passed_over")) = true := T.f_passed_over.kp
abbrev fd_play_fold (K : PySem.W.Frag) : FuncData := fdOf K ("play_fold", none)
theorem Txt.f_play_fold (T : Txt K mg) : FunD K "play_fold" "play_fold" (defArgs s_play_fold) (defBody s_play_fold) (defScope s_play_fold) [] [] (ga K "play_fold") (fd_play_fold K) := T.fn_ 35 rfl
theorem Txt.b_play_fold (T : Txt K mg) : L2.Binds K (fd_play_fold K) p_play_fold [] := T.f_play_fold.bindsN fun _ _ _ _ _ _ us hl => match us, hl with | [_, _, _, _], _ => rfl
theorem Txt.k_play_fold (T : Txt K mg) : PySem.W.keepIn K (.ref (ga K "play_fold")) = true := T.f_play_fold.kp
abbrev fd_play_running (K : PySem.W.Frag) : FuncData := fdOf K ("play_running", none)
theorem Txt.f_play_running (T : Txt K mg) : FunD K "play_running" "play_running" (defArgs s_play_running) (defBody s_play_running) (defScope s_play_running) [] [] (ga K "play_running") (fd_play_running K) := T.fn_ 36 rfl
theorem Txt.b_play_running (T : Txt K mg) : L2.Binds K (fd_play_running K) p_play_running [] := T.f_play_running.bindsN fun _ _ _ _ _ _ us hl => match us, hl with | [_, _, _, _], _ => rfl
theorem Txt.k_play_running (T : Txt K mg) : PySem.W.keepIn K (.ref (ga K "play_running")) = true := T.f_play_running.kp
abbrev fd_play_step (K : PySem.W.Frag) : FuncData := fdOf K ("play_step", none)
theorem Txt.f_play_step (T : Txt K mg) : FunD K "play_step" "play_step" (defArgs s_play_step) (defBody s_play_step) (defScope s_play_step) [] [] (ga K "play_step") (fd_play_step K) := T.fn_ 37 rfl
theorem Txt.b_play_step (T : Txt K mg) : L2.Binds K (fd_play_step K) p_play_step [] := T.f_play_step.bindsN fun _ _ _ _ _ _ us hl => match us, hl with | [_, _, _, _], _ => rfl
theorem Txt.k_play_step (T : Txt K mg) : PySem.W.keepIn K (.ref (ga K "play_step")) = true := T.f_play_step.kp
abbrev fd_play_steps (K : PySem.W.Frag) : FuncData := fdOf K ("play_steps", none)
theorem Txt.f_play_steps (T : Txt K mg) : FunD K "play_steps" "play_steps" (defArgs s_play_steps) (defBody s_play_steps) (defScope s_play_steps) [] [] (ga K "play_steps") (fd_play_steps K) := T.fn_ 38 rfl
theorem Txt.b_play_steps (T : Txt K mg) : L2.Binds K (fd_play_steps K) p_play_steps [] := T.f_play_steps.bindsN fun _ _ _ _ _ _ us hl => match us, hl with | [_, _, _, _], _ => rfl
theorem Txt.k_play_steps (T : Txt K mg) : PySem.W.keepIn K (.ref (ga K "play_steps")) = true := T.f_play_steps.kp
abbrev fd_played (K : PySem.W.Frag) : FuncData := fdOf K ("played", none)
theorem Txt.f_played (T : Txt K mg) : FunD K "played" "played" (defArgs s_played) (defBody s_played) (defScope s_played) [] [] (ga K "played") (fd_played K) := T.fn_ 39 rfl
theorem Txt.b_played (T : Txt K mg) : L2.Binds K (fd_played K) p_played [] := T.f_played.bindsN fun _ _ _ _ _ _ us hl => match us, hl with | [_, _], _ => rfl
theorem Txt.k_played (T : Txt K mg) : PySem.W.keepIn K (.ref (ga K "played")) = true := T.f_played.kp
abbrev fd_l_whole (K : PySem.W.Frag) : FuncData := fdOf K ("_law_whole", none)
theorem Txt.f_l_whole (T : Txt K mg) : FunD K "_law_whole" "_law_whole" (defArgs s_l_whole) (defBody s_l_whole) (defScope s_l_whole) [] [] (ga K "_law_whole") (fd_l_whole K) := T.fn_ 40 rfl
theorem Txt.b_l_whole (T : Txt K mg) : L2.Binds K (fd_l_whole K) p_l_whole [] := T.f_l_whole.bindsN fun _ _ _ _ _ _ us hl => match us, hl with | [_], _ => rfl
theorem Txt.k_l_whole (T : Txt K mg) : PySem.W.keepIn K (.ref (ga K "_law_whole")) = true := T.f_l_whole.kp
abbrev fd_l_kept_by (K : PySem.W.Frag) : FuncData := fdOf K ("_law_kept_by", none)
theorem Txt.f_l_kept_by (T : Txt K mg) : FunD K "_law_kept_by" "_law_kept_by" (defArgs s_l_kept_by) (defBody s_l_kept_by) (defScope s_l_kept_by) [] [] (ga K "_law_kept_by") (fd_l_kept_by K) := T.fn_ 41 rfl
theorem Txt.b_l_kept_by (T : Txt K mg) : L2.Binds K (fd_l_kept_by K) p_l_kept_by [] := T.f_l_kept_by.bindsN fun _ _ _ _ _ _ us hl => match us, hl with | [_], _ => rfl
theorem Txt.k_l_kept_by (T : Txt K mg) : PySem.W.keepIn K (.ref (ga K "_law_kept_by")) = true := T.f_l_kept_by.kp
abbrev fd_l_mix (K : PySem.W.Frag) : FuncData := fdOf K ("_law_mix", none)
theorem Txt.f_l_mix (T : Txt K mg) : FunD K "_law_mix" "_law_mix" (defArgs s_l_mix) (defBody s_l_mix) (defScope s_l_mix) [] [] (ga K "_law_mix") (fd_l_mix K) := T.fn_ 42 rfl
theorem Txt.b_l_mix (T : Txt K mg) : L2.Binds K (fd_l_mix K) p_l_mix [] := T.f_l_mix.bindsN fun _ _ _ _ _ _ us hl => match us, hl with | [_, _, _], _ => rfl
theorem Txt.k_l_mix (T : Txt K mg) : PySem.W.keepIn K (.ref (ga K "_law_mix")) = true := T.f_l_mix.kp
abbrev fd_l_asked (K : PySem.W.Frag) : FuncData := fdOf K ("_law_asked", none)
theorem Txt.f_l_asked (T : Txt K mg) : FunD K "_law_asked" "_law_asked" (defArgs s_l_asked) (defBody s_l_asked) (defScope s_l_asked) [] [] (ga K "_law_asked") (fd_l_asked K) := T.fn_ 43 rfl
theorem Txt.b_l_asked (T : Txt K mg) : L2.Binds K (fd_l_asked K) p_l_asked [] := T.f_l_asked.bindsN fun _ _ _ _ _ _ us hl => match us, hl with | [_, _], _ => rfl
theorem Txt.k_l_asked (T : Txt K mg) : PySem.W.keepIn K (.ref (ga K "_law_asked")) = true := T.f_l_asked.kp
abbrev fd_l_functions (K : PySem.W.Frag) : FuncData := fdOf K ("_law_functions", none)
theorem Txt.f_l_functions (T : Txt K mg) : FunD K "_law_functions" "_law_functions" (defArgs s_l_functions) (defBody s_l_functions) (defScope s_l_functions) [] [] (ga K "_law_functions") (fd_l_functions K) := T.fn_ 44 rfl
theorem Txt.b_l_functions (T : Txt K mg) : L2.Binds K (fd_l_functions K) p_l_functions [] := T.f_l_functions.bindsN fun _ _ _ _ _ _ us hl => match us, hl with | [], _ => rfl
theorem Txt.k_l_functions (T : Txt K mg) : PySem.W.keepIn K (.ref (ga K "_law_functions")) = true := T.f_l_functions.kp
abbrev fd_l_leaf_by (K : PySem.W.Frag) : FuncData := fdOf K ("_law_leaf_by", none)
theorem Txt.f_l_leaf_by (T : Txt K mg) : FunD K "_law_leaf_by" "_law_leaf_by" (defArgs s_l_leaf_by) (defBody s_l_leaf_by) (defScope s_l_leaf_by) [] [] (ga K "_law_leaf_by") (fd_l_leaf_by K) := T.fn_ 45 rfl
theorem Txt.b_l_leaf_by (T : Txt K mg) : L2.Binds K (fd_l_leaf_by K) p_l_leaf_by [] := T.f_l_leaf_by.bindsN fun _ _ _ _ _ _ us hl => match us, hl with | [_, _, _, _], _ => rfl
theorem Txt.k_l_leaf_by (T : Txt K mg) : PySem.W.keepIn K (.ref (ga K "_law_leaf_by")) = true := T.f_l_leaf_by.kp
abbrev fd_l_value_by (K : PySem.W.Frag) : FuncData := fdOf K ("_law_value_by", none)
theorem Txt.f_l_value_by (T : Txt K mg) : FunD K "_law_value_by" "_law_value_by" (defArgs s_l_value_by) (defBody s_l_value_by) (defScope s_l_value_by) [] [] (ga K "_law_value_by") (fd_l_value_by K) := T.fn_ 46 rfl
theorem Txt.b_l_value_by (T : Txt K mg) : L2.Binds K (fd_l_value_by K) p_l_value_by [] := T.f_l_value_by.bindsN fun _ _ _ _ _ _ us hl => match us, hl with | [_, _, _, _], _ => rfl
theorem Txt.k_l_value_by (T : Txt K mg) : PySem.W.keepIn K (.ref (ga K "_law_value_by")) = true := T.f_l_value_by.kp
abbrev fd_l_lengths_by (K : PySem.W.Frag) : FuncData := fdOf K ("_law_lengths_by", none)
theorem Txt.f_l_lengths_by (T : Txt K mg) : FunD K "_law_lengths_by" "_law_lengths_by" (defArgs s_l_lengths_by) (defBody s_l_lengths_by) (defScope s_l_lengths_by) [] [] (ga K "_law_lengths_by") (fd_l_lengths_by K) := T.fn_ 47 rfl
theorem Txt.b_l_lengths_by (T : Txt K mg) : L2.Binds K (fd_l_lengths_by K) p_l_lengths_by [] := T.f_l_lengths_by.bindsN fun _ _ _ _ _ _ us hl => match us, hl with | [_, _], _ => rfl
theorem Txt.k_l_lengths_by (T : Txt K mg) : PySem.W.keepIn K (.ref (ga K "_law_lengths_by")) = true := T.f_l_lengths_by.kp
abbrev fd_l_cells_by (K : PySem.W.Frag) : FuncData := fdOf K ("_law_cells_by", none)
theorem Txt.f_l_cells_by (T : Txt K mg) : FunD K "_law_cells_by" "_law_cells_by" (defArgs s_l_cells_by) (defBody s_l_cells_by) (defScope s_l_cells_by) [] [] (ga K "_law_cells_by") (fd_l_cells_by K) := T.fn_ 48 rfl
theorem Txt.b_l_cells_by (T : Txt K mg) : L2.Binds K (fd_l_cells_by K) p_l_cells_by [] := T.f_l_cells_by.bindsN fun _ _ _ _ _ _ us hl => match us, hl with | [_, _], _ => rfl
theorem Txt.k_l_cells_by (T : Txt K mg) : PySem.W.keepIn K (.ref (ga K "_law_cells_by")) = true := T.f_l_cells_by.kp
abbrev fd_l_element (K : PySem.W.Frag) : FuncData := fdOf K ("_law_element", none)
theorem Txt.f_l_element (T : Txt K mg) : FunD K "_law_element" "_law_element" (defArgs s_l_element) (defBody s_l_element) (defScope s_l_element) [] [] (ga K "_law_element") (fd_l_element K) := T.fn_ 49 rfl
theorem Txt.b_l_element (T : Txt K mg) : L2.Binds K (fd_l_element K) p_l_element [] := T.f_l_element.bindsN fun _ _ _ _ _ _ us hl => match us, hl with | [_, _], _ => rfl
theorem Txt.k_l_element (T : Txt K mg) : PySem.W.keepIn K (.ref (ga K "_law_element")) = true := T.f_l_element.kp
abbrev fd_l_told (K : PySem.W.Frag) : FuncData := fdOf K ("_law_told", none)
theorem Txt.f_l_told (T : Txt K mg) : FunD K "_law_told" "_law_told" (defArgs s_l_told) (defBody s_l_told) (defScope s_l_told) [] [] (ga K "_law_told") (fd_l_told K) := T.fn_ 50 rfl
theorem Txt.b_l_told (T : Txt K mg) : L2.Binds K (fd_l_told K) p_l_told [] := T.f_l_told.bindsN fun _ _ _ _ _ _ us hl => match us, hl with | [_, _], _ => rfl
theorem Txt.k_l_told (T : Txt K mg) : PySem.W.keepIn K (.ref (ga K "_law_told")) = true := T.f_l_told.kp
abbrev fd_l_joined (K : PySem.W.Frag) : FuncData := fdOf K ("_law_joined", none)
theorem Txt.f_l_joined (T : Txt K mg) : FunD K "_law_joined" "_law_joined" (defArgs s_l_joined) (defBody s_l_joined) (defScope s_l_joined) [] [] (ga K "_law_joined") (fd_l_joined K) := T.fn_ 51 rfl
theorem Txt.b_l_joined (T : Txt K mg) : L2.Binds K (fd_l_joined K) p_l_joined [] := T.f_l_joined.bindsN fun _ _ _ _ _ _ us hl => match us, hl with | [_, _, _], _ => rfl
theorem Txt.k_l_joined (T : Txt K mg) : PySem.W.keepIn K (.ref (ga K "_law_joined")) = true := T.f_l_joined.kp
abbrev fd_l_fold_by (K : PySem.W.Frag) : FuncData := fdOf K ("_law_fold_by", none)
theorem Txt.f_l_fold_by (T : Txt K mg) : FunD K "_law_fold_by" "_law_fold_by" (defArgs s_l_fold_by) (defBody s_l_fold_by) (defScope s_l_fold_by) [] [] (ga K "_law_fold_by") (fd_l_fold_by K) := T.fn_ 52 rfl
theorem Txt.b_l_fold_by (T : Txt K mg) : L2.Binds K (fd_l_fold_by K) p_l_fold_by [] := T.f_l_fold_by.bindsN fun _ _ _ _ _ _ us hl => match us, hl with | [_], _ => rfl
theorem Txt.k_l_fold_by (T : Txt K mg) : PySem.W.keepIn K (.ref (ga K "_law_fold_by")) = true := T.f_l_fold_by.kp
abbrev fd_l_target_by (K : PySem.W.Frag) : FuncData := fdOf K ("_law_target_by", none)
theorem Txt.f_l_target_by (T : Txt K mg) : FunD K "_law_target_by" "_law_target_by" (defArgs s_l_target_by) (defBody s_l_target_by) (defScope s_l_target_by) [] [] (ga K "_law_target_by") (fd_l_target_by K) := T.fn_ 53 rfl
theorem Txt.b_l_target_by (T : Txt K mg) : L2.Binds K (fd_l_target_by K) p_l_target_by [] := T.f_l_target_by.bindsN fun _ _ _ _ _ _ us hl => match us, hl with | [_, _], _ => rfl
theorem Txt.k_l_target_by (T : Txt K mg) : PySem.W.keepIn K (.ref (ga K "_law_target_by")) = true := T.f_l_target_by.kp
abbrev fd_l_many_by (K : PySem.W.Frag) : FuncData := fdOf K ("_law_many_by", none)
theorem Txt.f_l_many_by (T : Txt K mg) : FunD K "_law_many_by" "_law_many_by" (defArgs s_l_many_by) (defBody s_l_many_by) (defScope s_l_many_by) [] [] (ga K "_law_many_by") (fd_l_many_by K) := T.fn_ 54 rfl
theorem Txt.b_l_many_by (T : Txt K mg) : L2.Binds K (fd_l_many_by K) p_l_many_by [] := T.f_l_many_by.bindsN fun _ _ _ _ _ _ us hl => match us, hl with | [_, _], _ => rfl
theorem Txt.k_l_many_by (T : Txt K mg) : PySem.W.keepIn K (.ref (ga K "_law_many_by")) = true := T.f_l_many_by.kp
abbrev fd_l_step_by (K : PySem.W.Frag) : FuncData := fdOf K ("_law_step_by", none)
theorem Txt.f_l_step_by (T : Txt K mg) : FunD K "_law_step_by" "_law_step_by" (defArgs s_l_step_by) (defBody s_l_step_by) (defScope s_l_step_by) [] [] (ga K "_law_step_by") (fd_l_step_by K) := T.fn_ 55 rfl
theorem Txt.b_l_step_by (T : Txt K mg) : L2.Binds K (fd_l_step_by K) p_l_step_by [] := T.f_l_step_by.bindsN fun _ _ _ _ _ _ us hl => match us, hl with | [_, _], _ => rfl
theorem Txt.k_l_step_by (T : Txt K mg) : PySem.W.keepIn K (.ref (ga K "_law_step_by")) = true := T.f_l_step_by.kp
abbrev fd_l_due (K : PySem.W.Frag) : FuncData := fdOf K ("_law_due", none)
theorem Txt.f_l_due (T : Txt K mg) : FunD K "_law_due" "_law_due" (defArgs s_l_due) (defBody s_l_due) (defScope s_l_due) [] [] (ga K "_law_due") (fd_l_due K) := T.fn_ 56 rfl
theorem Txt.b_l_due (T : Txt K mg) : L2.Binds K (fd_l_due K) p_l_due [] := T.f_l_due.bindsN fun _ _ _ _ _ _ us hl => match us, hl with | [_, _, _, _, _], _ => rfl
theorem Txt.k_l_due (T : Txt K mg) : PySem.W.keepIn K (.ref (ga K "_law_due")) = true := T.f_l_due.kp
abbrev fd_law (K : PySem.W.Frag) : FuncData := fdOf K ("law", none)
theorem Txt.f_law (T : Txt K mg) : FunD K "law" "law" (defArgs s_law) (defBody s_law) (defScope s_law) [] [] (ga K "law") (fd_law K) := T.fn_ 57 rfl
theorem Txt.b_law (T : Txt K mg) : L2.Binds K (fd_law K) p_law [] := T.f_law.bindsN fun _ _ _ _ _ _ us hl => match us, hl with | [_], _ => rfl
theorem Txt.k_law (T : Txt K mg) : PySem.W.keepIn K (.ref (ga K "law")) = true := T.f_law.kp
end
end RB

namespace RB
open PySem PySem.Spec PyProof.Rows L2 He
inductive F where
  | num (n : Int) | here | cell (r : Nat) | shifted (r : Nat) (b o : Int) | loc (k : Nat) | at_ (r : Nat) (f : F) | pair (s : Str) (l r : F) | choice (t l r : F) | call1 (k : Nat) (a : F) | call2 (k : Nat) (a b : F)
def bod : Nat → F
  | 0 => .choice (.loc 0) (.pair "/" (.num 60) (.loc 0)) .here
  | _ => .pair "-" (.pair "*" (.loc 0) (.num 3)) (.loc 1)
def sta (L : List Int) (r : Nat) : Int := (L.take r).sum
def cv (C : List Int) (i : Int) : Int := C.getD i.toNat 0
def wo (cf : Nat → List Int → Wo) (L C : List Int) (p : Int) (O : List Int) : F → Wo
  | .num n => .ok n
  | .here => .ok p
  | .cell r => if L.getD r 0 = 1 then .ok (cv C (sta L r + 0)) else .ok (cv C (sta L r + p))
  | .shifted r b o => if 0 ≤ p + b ∧ p + b < L.getD r 0 then .ok (cv C (sta L r + (p + b))) else .ok o
  | .loc k => .ok (O.getD k 0)
  | .at_ r f => (wo cf L C p O f).then fun q => if 0 ≤ q ∧ q < L.getD r 0 then .ok (cv C (sta L r + q)) else .outside
  | .pair s l r => (wo cf L C p O l).then fun a => (wo cf L C p O r).then fun b => doneW s a b
  | .choice t l r => (wo cf L C p O t).then fun c => if c ≠ 0 then wo cf L C p O l else wo cf L C p O r
  | .call1 k a => (wo cf L C p O a).then fun x => cf k [x]
  | .call2 k a b => (wo cf L C p O a).then fun x => (wo cf L C p O b).then fun y => cf k [x, y]
def cfB (L C : List Int) (p : Int) (k : Nat) (O : List Int) : Wo := wo (fun _ _ => .nought) L C p O (bod k)
def wof (L C : List Int) (p : Int) (O : List Int) (f : F) : Wo := wo (cfB L C p) L C p O f
theorem wof_bod (L C : List Int) (p : Int) (k : Nat) (O : List Int) : wof L C p O (bod k) = cfB L C p k O := by
  unfold wof cfB
  match k with
  | 0 => rfl
  | k + 1 => rfl
def ht : F → Nat
  | .at_ _ f => ht f + 1
  | .pair _ l r => max (ht l) (ht r) + 1
  | .choice t l r => max (ht t) (max (ht l) (ht r)) + 1
  | .call1 _ a => max (ht a) 2 + 1
  | .call2 _ a b => max (max (ht a) (ht b)) 2 + 1
  | _ => 0
theorem ht_bod (k : Nat) : ht (bod k) = 2 := by
  match k with
  | 0 => rfl
  | k + 1 => rfl
def kd : F → Nat
  | .num _ => 0 | .here => 1 | .cell _ => 2 | .shifted .. => 3 | .loc _ => 4 | .at_ .. => 5 | .pair .. => 6 | .choice .. => 7 | .call1 .. => 8 | .call2 .. => 8
def Fine (L : List Int) (m : Int) (k : Nat) : F → Prop
  | .num n => Kp n
  | .here => True
  | .cell r => r < L.length ∧ (L.getD r 0 = 1 ∨ L.getD r 0 = m)
  | .shifted r _ o => r < L.length ∧ Kp o
  | .loc j => j < k
  | .at_ r f => r < L.length ∧ Fine L m k f
  | .pair s l r => s ∈ sg1 ∧ Fine L m k l ∧ Fine L m k r
  | .choice t l r => Fine L m k t ∧ Fine L m k l ∧ Fine L m k r
  | .call1 j a => j = 0 ∧ Fine L m k a
  | .call2 j a b => j = 1 ∧ Fine L m k a ∧ Fine L m k b
theorem fine_bod0 (L : List Int) (m : Int) : Fine L m 1 (bod 0) := by
  refine ⟨?_, ⟨?_, ?_, ?_⟩, trivial⟩
  · show 0 < 1
    decide
  · decide +kernel
  · exact ⟨by decide, by decide⟩
  · show 0 < 1
    decide
theorem fine_bod1 (L : List Int) (m : Int) : Fine L m 2 (bod 1) := by
  refine ⟨?_, ⟨?_, ?_, ?_⟩, ?_⟩
  · decide +kernel
  · decide +kernel
  · show 0 < 2
    decide
  · exact ⟨by decide, by decide⟩
  · show 1 < 2
    decide
structure Gd (L C : List Int) (p m : Int) : Prop where
  pos : ∀ l ∈ L, 1 ≤ l
  len : (C.length : Int) = L.sum
  kp : ∀ c ∈ C, Kp c
  p0 : 0 ≤ p
  pm : p < m
  mm : m ≤ 400
theorem cv_kp {C : List Int} (h : ∀ c ∈ C, Kp c) (i : Int) : Kp (cv C i) := by
  unfold cv
  rw [List.getD_eq_getElem?_getD]
  cases e : C[i.toNat]? with
  | none => exact ⟨by decide, by decide⟩
  | some c => exact h c (List.mem_of_getElem? e)
theorem sum_split (L : List Int) : ∀ r : Nat, r < L.length → (L.take r).sum + L.getD r 0 + (L.drop (r + 1)).sum = L.sum := by
  induction L with
  | nil => intro r h; simp at h
  | cons a L ih =>
    intro r h
    cases r with
    | zero => simp
    | succ r =>
      have := ih r (by simpa using h)
      simp only [List.take_succ_cons, List.sum_cons, List.drop_succ_cons, List.getD_cons_succ]
      omega
theorem sum_nn {L : List Int} (h : ∀ l ∈ L, 1 ≤ l) : (L.length : Int) ≤ L.sum := by
  induction L with
  | nil => simp
  | cons a L ih =>
    have h1 := h a List.mem_cons_self
    have h2 := ih fun l hl => h l (List.mem_cons_of_mem _ hl)
    simp only [List.length_cons, List.sum_cons]
    omega
theorem sum_nn0 {L : List Int} (h : ∀ l ∈ L, 1 ≤ l) : 0 ≤ L.sum := by
  have := sum_nn h
  omega
theorem in_row {L C : List Int} {r : Nat} {i : Int} (h : ∀ l ∈ L, 1 ≤ l) (hl : (C.length : Int) = L.sum) (hr : r < L.length) (h0 : 0 ≤ i) (h1 : i < L.getD r 0) : ∃ j : Nat, sta L r + i = (j : Int) ∧ j < C.length := by
  have q := sum_split L r hr
  have a := sum_nn0 (L := L.take r) fun l hl => h l (List.mem_of_mem_take hl)
  have b := sum_nn0 (L := L.drop (r + 1)) fun l hl => h l (List.mem_of_mem_drop hl)
  unfold sta
  exact ⟨((L.take r).sum + i).toNat, by omega, by omega⟩
theorem cv_at {C : List Int} {i : Int} {j : Nat} (e : i = (j : Int)) (h : j < C.length) : atI (C.map V.int) i = some (.int (cv C i)) := by
  subst e
  refine atI_nat ?_
  rw [List.getElem?_map]
  unfold cv
  rw [Int.toNat_natCast, List.getD_eq_getElem?_getD, List.getElem?_eq_getElem h]
  rfl
theorem row_at {L : List Int} {r : Nat} (h : r < L.length) : atI (L.map V.int) (r : Int) = some (.int (L.getD r 0)) := by
  refine atI_nat ?_
  rw [List.getElem?_map, List.getD_eq_getElem?_getD, List.getElem?_eq_getElem h]
  rfl
theorem getD_pos {L : List Int} {r : Nat} (h : ∀ l ∈ L, 1 ≤ l) (hr : r < L.length) : 1 ≤ L.getD r 0 := by
  rw [List.getD_eq_getElem?_getD, List.getElem?_eq_getElem hr]
  exact h _ (List.getElem_mem hr)
theorem then_ok {w : Wo} {k : Int → Wo} {v : Int} (h : w.then k = .ok v) : ∃ a, w = .ok a ∧ k a = .ok v := by
  cases w with
  | ok a => exact ⟨a, rfl, h⟩
  | nought => cases h
  | outside => cases h
theorem wo_kp {cf : Nat → List Int → Wo} {L C O : List Int} {p m : Int} {k : Nat} (g : Gd L C p m) (hO : ∀ v ∈ O, Kp v) (hcf : ∀ j O v, (∀ x ∈ O, Kp x) → cf j O = .ok v → Kp v) : ∀ (f : F) (v : Int), Fine L m k f → wo cf L C p O f = .ok v → Kp v := by
  intro f
  have hp : Kp p := by
    have h1 := g.p0
    have h2 := g.pm
    have h3 := g.mm
    constructor <;> omega
  induction f with
  | num n => intro v h e; cases e; exact h
  | here => intro v h e; cases e; exact hp
  | cell r =>
    intro v h e
    unfold wo at e
    split at e <;> (cases e; exact cv_kp g.kp _)
  | shifted r b o =>
    intro v h e
    unfold wo at e
    split at e
    · cases e; exact cv_kp g.kp _
    · cases e; exact h.2
  | loc j =>
    intro v h e
    cases e
    exact cv_kp (C := O) hO (j : Int)
  | at_ r f ih =>
    intro v h e
    obtain ⟨a, e1, e2⟩ := then_ok e
    split at e2
    · cases e2; exact cv_kp g.kp _
    · cases e2
  | pair s l r il ir =>
    intro v h e
    obtain ⟨a, e1, e2⟩ := then_ok e
    obtain ⟨b, e3, e4⟩ := then_ok e2
    exact doneW_kp (il a h.2.1 e1) (ir b h.2.2 e3) e4
  | choice t l r it il ir =>
    intro v h e
    obtain ⟨a, e1, e2⟩ := then_ok e
    split at e2
    · exact il v h.2.1 e2
    · exact ir v h.2.2 e2
  | call1 j a ia =>
    intro v h e
    obtain ⟨x, e1, e2⟩ := then_ok e
    exact hcf _ _ _ (fun y hy => by
      rw [List.mem_singleton] at hy
      rw [hy]
      exact ia x h.2 e1) e2
  | call2 j a b ia ib =>
    intro v h e
    obtain ⟨x, e1, e2⟩ := then_ok e
    obtain ⟨y, e3, e4⟩ := then_ok e2
    exact hcf _ _ _ (fun z hz => by
      rcases List.mem_cons.mp hz with e | hz
      · subst e
        exact ia _ h.2.1 e1
      · rw [List.mem_singleton] at hz
        subst hz
        exact ib _ h.2.2 e3) e4
end RB

namespace RB
open PySem PySem.Spec PyProof.Rows L2 He
theorem wof_kp {L C O : List Int} {p m : Int} {k : Nat} (g : Gd L C p m) (hO : ∀ v ∈ O, Kp v) {f : F} {v : Int} (h : Fine L m k f) (e : wof L C p O f = .ok v) : Kp v := by
  refine wo_kp g hO (fun j O v hO' e => ?_) f v h e
  have z : ∃ k, Fine L m k (bod j) := by
    cases j with
    | zero => exact ⟨1, fine_bod0 L m⟩
    | succ j => exact ⟨2, fine_bod1 L m⟩
  obtain ⟨k, z⟩ := z
  exact wo_kp g hO' (fun _ _ _ _ e => by cases e) (bod j) v z e
abbrev fs1 (a : Str) (x : V) : List (Str × V) := [(a, x)]
abbrev fs2 (a b : Str) (x y : V) : List (Str × V) := [(a, x), (b, y)]
abbrev fs3 (a b c : Str) (x y z : V) : List (Str × V) := [(a, x), (b, y), (c, z)]
def fsSpot (a b c d e : V) : List (Str × V) := [("lengths", a), ("functions", b), ("cells", c), ("place", d), ("own", e)]
def fsNumber (a : V) : List (Str × V) := [("number", a)]
def fsCell (a : V) : List (Str × V) := [("row", a)]
def fsShifted (a b c : V) : List (Str × V) := [("row", a), ("by", b), ("other", c)]
def fsLocal (a : V) : List (Str × V) := [("at", a)]
def fsAt (a b : V) : List (Str × V) := [("row", a), ("place", b)]
def fsPair (a b c : V) : List (Str × V) := [("sign", a), ("left", b), ("right", c)]
def fsChoice (a b c : V) : List (Str × V) := [("test", a), ("left", b), ("right", c)]
def fsCall (a b : V) : List (Str × V) := [("at", a), ("handed", b)]
def fsFold (a b c d e : V) : List (Str × V) := [("target", a), ("fold", b), ("value", c), ("many", d), ("test", e)]
def fsRunning (a b c e : V) : List (Str × V) := [("target", a), ("fold", b), ("value", c), ("test", e)]
def fsProgram (a b c : V) : List (Str × V) := [("lengths", a), ("functions", b), ("steps", c)]
section
variable (a b c d e : V)
theorem put_Spot : putF "own" e (putF "place" d (putF "cells" c (putF "functions" b (putF "lengths" a [])))) = fsSpot a b c d e := by kernel_rfl
theorem l_Spot_lengths : (fsSpot a b c d e).lookup ("lengths" : Str) = some a := by kernel_rfl
theorem l_Spot_functions : (fsSpot a b c d e).lookup ("functions" : Str) = some b := by kernel_rfl
theorem l_Spot_cells : (fsSpot a b c d e).lookup ("cells" : Str) = some c := by kernel_rfl
theorem l_Spot_place : (fsSpot a b c d e).lookup ("place" : Str) = some d := by kernel_rfl
theorem l_Spot_own : (fsSpot a b c d e).lookup ("own" : Str) = some e := by kernel_rfl
theorem put_Number : putF "number" a [] = fsNumber a := by kernel_rfl
theorem l_Number_number : (fsNumber a).lookup ("number" : Str) = some a := by kernel_rfl
theorem l_Number_worth : (fsNumber a).lookup ("worth" : Str) = none := by kernel_rfl
theorem put_Cell : putF "row" a [] = fsCell a := by kernel_rfl
theorem l_Cell_row : (fsCell a).lookup ("row" : Str) = some a := by kernel_rfl
theorem l_Cell_worth : (fsCell a).lookup ("worth" : Str) = none := by kernel_rfl
theorem put_Shifted : putF "other" c (putF "by" b (putF "row" a [])) = fsShifted a b c := by kernel_rfl
theorem l_Shifted_row : (fsShifted a b c).lookup ("row" : Str) = some a := by kernel_rfl
theorem l_Shifted_by : (fsShifted a b c).lookup ("by" : Str) = some b := by kernel_rfl
theorem l_Shifted_other : (fsShifted a b c).lookup ("other" : Str) = some c := by kernel_rfl
theorem l_Shifted_worth : (fsShifted a b c).lookup ("worth" : Str) = none := by kernel_rfl
theorem put_Local : putF "at" a [] = fsLocal a := by kernel_rfl
theorem l_Local_at : (fsLocal a).lookup ("at" : Str) = some a := by kernel_rfl
theorem l_Local_worth : (fsLocal a).lookup ("worth" : Str) = none := by kernel_rfl
theorem put_At : putF "place" b (putF "row" a []) = fsAt a b := by kernel_rfl
theorem l_At_row : (fsAt a b).lookup ("row" : Str) = some a := by kernel_rfl
theorem l_At_place : (fsAt a b).lookup ("place" : Str) = some b := by kernel_rfl
theorem l_At_worth : (fsAt a b).lookup ("worth" : Str) = none := by kernel_rfl
theorem put_Pair : putF "right" c (putF "left" b (putF "sign" a [])) = fsPair a b c := by kernel_rfl
theorem l_Pair_sign : (fsPair a b c).lookup ("sign" : Str) = some a := by kernel_rfl
theorem l_Pair_left : (fsPair a b c).lookup ("left" : Str) = some b := by kernel_rfl
theorem l_Pair_right : (fsPair a b c).lookup ("right" : Str) = some c := by kernel_rfl
theorem l_Pair_worth : (fsPair a b c).lookup ("worth" : Str) = none := by kernel_rfl
theorem put_Choice : putF "right" c (putF "left" b (putF "test" a [])) = fsChoice a b c := by kernel_rfl
theorem l_Choice_test : (fsChoice a b c).lookup ("test" : Str) = some a := by kernel_rfl
theorem l_Choice_left : (fsChoice a b c).lookup ("left" : Str) = some b := by kernel_rfl
theorem l_Choice_right : (fsChoice a b c).lookup ("right" : Str) = some c := by kernel_rfl
theorem l_Choice_worth : (fsChoice a b c).lookup ("worth" : Str) = none := by kernel_rfl
theorem put_Call : putF "handed" b (putF "at" a []) = fsCall a b := by kernel_rfl
theorem l_Call_at : (fsCall a b).lookup ("at" : Str) = some a := by kernel_rfl
theorem l_Call_handed : (fsCall a b).lookup ("handed" : Str) = some b := by kernel_rfl
theorem l_Call_worth : (fsCall a b).lookup ("worth" : Str) = none := by kernel_rfl
theorem put_Fold : putF "test" e (putF "many" d (putF "value" c (putF "fold" b [(("target" : Str), a)]))) = fsFold a b c d e := by kernel_rfl
theorem l_Fold_target : (fsFold a b c d e).lookup ("target" : Str) = some a := by kernel_rfl
theorem l_Fold_fold : (fsFold a b c d e).lookup ("fold" : Str) = some b := by kernel_rfl
theorem l_Fold_value : (fsFold a b c d e).lookup ("value" : Str) = some c := by kernel_rfl
theorem l_Fold_many : (fsFold a b c d e).lookup ("many" : Str) = some d := by kernel_rfl
theorem l_Fold_test : (fsFold a b c d e).lookup ("test" : Str) = some e := by kernel_rfl
theorem l_Fold_many_of : (fsFold a b c d e).lookup ("many_of" : Str) = none := by kernel_rfl
theorem put_Running : putF "test" e (putF "value" c (putF "fold" b [(("target" : Str), a)])) = fsRunning a b c e := by kernel_rfl
theorem l_Running_target : (fsRunning a b c e).lookup ("target" : Str) = some a := by kernel_rfl
theorem l_Running_fold : (fsRunning a b c e).lookup ("fold" : Str) = some b := by kernel_rfl
theorem l_Running_value : (fsRunning a b c e).lookup ("value" : Str) = some c := by kernel_rfl
theorem l_Running_test : (fsRunning a b c e).lookup ("test" : Str) = some e := by kernel_rfl
theorem l_Running_many_of : (fsRunning a b c e).lookup ("many_of" : Str) = none := by kernel_rfl
theorem put_Program : putF "steps" c (putF "functions" b (putF "lengths" a [])) = fsProgram a b c := by kernel_rfl
theorem l_Program_lengths : (fsProgram a b c).lookup ("lengths" : Str) = some a := by kernel_rfl
theorem l_Program_functions : (fsProgram a b c).lookup ("functions" : Str) = some b := by kernel_rfl
theorem l_Program_steps : (fsProgram a b c).lookup ("steps" : Str) = some c := by kernel_rfl
end
def FAt (K : PySem.W.Frag) (H : Hp) : Addr → F → Prop
  | a, .num n => ∃ dx, H a = some (.ins (ga K "Number") dx (fsNumber (.int n)))
  | a, .here => ∃ dx, H a = some (.ins (ga K "Here") dx [])
  | a, .cell r => ∃ dx, H a = some (.ins (ga K "Cell") dx (fsCell (.int r)))
  | a, .shifted r b o => ∃ dx, H a = some (.ins (ga K "Shifted") dx (fsShifted (.int r) (.int b) (.int o)))
  | a, .loc k => ∃ dx, H a = some (.ins (ga K "Local") dx (fsLocal (.int k)))
  | a, .at_ r f => ∃ dx p, H a = some (.ins (ga K "At") dx (fsAt (.int r) (.ref p))) ∧ FAt K H p f
  | a, .pair s l r => ∃ dx p q, H a = some (.ins (ga K "Pair") dx (fsPair (.str s) (.ref p) (.ref q))) ∧ FAt K H p l ∧ FAt K H q r
  | a, .choice t l r => ∃ dx o p q, H a = some (.ins (ga K "Choice") dx (fsChoice (.ref o) (.ref p) (.ref q))) ∧ FAt K H o t ∧ FAt K H p l ∧ FAt K H q r
  | a, .call1 k f => ∃ dx l p, H a = some (.ins (ga K "Call") dx (fsCall (.int k) (.ref l))) ∧ H l = some (.lst [.ref p]) ∧ FAt K H p f
  | a, .call2 k f g => ∃ dx l p q, H a = some (.ins (ga K "Call") dx (fsCall (.int k) (.ref l))) ∧ H l = some (.lst [.ref p, .ref q]) ∧ FAt K H p f ∧ FAt K H q g
theorem FAt.same {K : PySem.W.Frag} {H H' : Hp} (s : Same H H') : ∀ {f : F} {a : Addr}, FAt K H a f → FAt K H' a f := by
  intro f
  induction f with
  | num n => rintro a ⟨dx, h⟩; exact ⟨dx, s _ _ h⟩
  | here => rintro a ⟨dx, h⟩; exact ⟨dx, s _ _ h⟩
  | cell r => rintro a ⟨dx, h⟩; exact ⟨dx, s _ _ h⟩
  | shifted r b o => rintro a ⟨dx, h⟩; exact ⟨dx, s _ _ h⟩
  | loc k => rintro a ⟨dx, h⟩; exact ⟨dx, s _ _ h⟩
  | at_ r f ih => rintro a ⟨dx, p, h, h1⟩; exact ⟨dx, p, s _ _ h, ih h1⟩
  | pair t l r il ir => rintro a ⟨dx, p, q, h, h1, h2⟩; exact ⟨dx, p, q, s _ _ h, il h1, ir h2⟩
  | choice t l r it il ir => rintro a ⟨dx, o, p, q, h, h1, h2, h3⟩; exact ⟨dx, o, p, q, s _ _ h, it h1, il h2, ir h3⟩
  | call1 k f ih => rintro a ⟨dx, l, p, h, hl, h1⟩; exact ⟨dx, l, p, s _ _ h, s _ _ hl, ih h1⟩
  | call2 k f g ih ig => rintro a ⟨dx, l, p, q, h, hl, h1, h2⟩; exact ⟨dx, l, p, q, s _ _ h, s _ _ hl, ih h1, ig h2⟩
structure FnsAt (K : PySem.W.Frag) (H : Hp) (a : Addr) : Prop where
  ex : ∃ t0 t1 b0 b1, H a = some (.lst [.ref t0, .ref t1]) ∧ H t0 = some (.tup [.int 1, .ref b0]) ∧ H t1 = some (.tup [.int 2, .ref b1]) ∧ FAt K H b0 (bod 0) ∧ FAt K H b1 (bod 1)
theorem FnsAt.same {K : PySem.W.Frag} {H H' : Hp} {a : Addr} (s : Same H H') (h : FnsAt K H a) : FnsAt K H' a := by
  obtain ⟨t0, t1, b0, b1, h1, h2, h3, h4, h5⟩ := h.ex
  exact ⟨t0, t1, b0, b1, s _ _ h1, s _ _ h2, s _ _ h3, h4.same s, h5.same s⟩
def IL (H : Hp) (a : Addr) (ns : List Int) : Prop := H a = some (.lst (ns.map V.int))
theorem IL.same {H H' : Hp} {a : Addr} {ns : List Int} (s : Same H H') (h : IL H a ns) : IL H' a ns := s _ _ h
structure SpAt (K : PySem.W.Frag) (H : Hp) (a : Addr) (L C : List Int) (p : Int) (O : List Int) : Prop where
  ex : ∃ dx l f c o, H a = some (.ins (ga K "Spot") dx (fsSpot (.ref l) (.ref f) (.ref c) (.int p) (.ref o))) ∧ IL H l L ∧ FnsAt K H f ∧ IL H c C ∧ IL H o O
theorem SpAt.same {K : PySem.W.Frag} {H H' : Hp} {a : Addr} {L C O : List Int} {p : Int} (s : Same H H') (h : SpAt K H a L C p O) : SpAt K H' a L C p O := by
  obtain ⟨dx, l, f, c, o, h1, h2, h3, h4, h5⟩ := h.ex
  exact ⟨dx, l, f, c, o, s _ _ h1, h2.same s, h3.same s, h4.same s, h5.same s⟩
def WEnd (K : PySem.W.Frag) (H : Hp) (Q : VK) (E : XK) : Wo → Prop
  | .ok v => ∀ H', Same H H' → Q (.int v) H'
  | .nought => ∀ H', Same H H' → E (.ref (ga K "ByNought")) none H'
  | .outside => ∀ H', Same H H' → E (.ref (ga K "Outside")) none H'
theorem WEnd.at_ {K : PySem.W.Frag} {H H1 : Hp} {Q : VK} {E : XK} {w : Wo} (h : WEnd K H Q E w) (s : Same H H1) : WEnd K H1 Q E w := by
  cases w with
  | ok v => exact fun H' s' => h H' (s.trans s')
  | nought => exact fun H' s' => h H' (s.trans s')
  | outside => exact fun H' s' => h H' (s.trans s')
theorem WEnd.first {K : PySem.W.Frag} {H : Hp} {Q Q' : VK} {E : XK} {w : Wo} {k : Int → Wo} (h : WEnd K H Q E (w.then k)) (g : ∀ (v : Int) (H1 : Hp), w = .ok v → Same H H1 → WEnd K H1 Q E (k v) → Q' (.int v) H1) : WEnd K H Q' E w := by
  cases w with
  | ok v => exact fun H' s' => g v H' rfl s' (WEnd.at_ (w := k v) h s')
  | nought => exact h
  | outside => exact h
end RB

namespace RB
open PySem PySem.Spec PyProof.Rows L2 He
def spKept : Sp := fun vs H Q _ => ∃ n, vs = [.int n] ∧ Q (.int (kpt n)) H
def spDivided (K : PySem.W.Frag) : Sp := fun vs H Q E => ∃ s a b, vs = [.str s, .int a, .int b] ∧ Kp a ∧ Kp b ∧ WEnd K H Q E (divW s a b)
def spBits : Sp := fun vs H Q _ => ∃ s a b, vs = [.str s, .int a, .int b] ∧ Q (.int (bitsW s a b)) H
def spDone (K : PySem.W.Frag) : Sp := fun vs H Q E => ∃ s a b, vs = [.str s, .int a, .int b] ∧ Kp a ∧ Kp b ∧ WEnd K H Q E (doneW s a b)
section
variable {P : Program} {w : World} {K : PySem.W.Frag} {mg : Str → Option Value} {base : Heap}
theorem ok_kept (T : Txt K mg) : FnOk P w K mg base CX0 1 (ga K "kept") (fd_kept K) p_kept spKept := by
  refine T.f_kept.ok sc_kept (fun vs H Q E h => ?_) (fun cdv A outer s H vs Q E hr h => ?_)
  · obtain ⟨n, rfl, _⟩ := h
    rfl
  · obtain ⟨n, rfl, k⟩ := h
    obtain ⟨tH, gH⟩ := T.half
    refine ⟨_, PSs.nox (pss_one (ps_ret (pe_op op_sub (pe_op op_mod (pe_op op_add (pv 0) (pe_glob (v := .int 9223372036854775808) rfl gH ⟨tH, rfl⟩)) (pe_op op_mul pe_int (pe_glob (v := .int 9223372036854775808) rfl gH ⟨tH, rfl⟩))) (pe_glob (v := .int 9223372036854775808) rfl gH ⟨tH, rfl⟩)))), ?_⟩
    exact ⟨_, rfl, _, _, rfl, rfl, _, _, rfl, rfl, .inl ⟨by decide, by decide⟩, _, _, rfl, rfl, (by show (0 : Int) < 2 * 9223372036854775808; decide), _, _, rfl, rfl, k⟩
theorem ok_by_bits (T : Txt K mg) : FnOk P w K mg base CX0 1 (ga K "by_bits") (fd_by_bits K) p_by_bits spBits := by
  refine T.f_by_bits.ok sc_by_bits (fun vs H Q E h => ?_) (fun cdv A outer s H vs Q E hr h => ?_)
  · obtain ⟨_, _, _, rfl, _⟩ := h
    rfl
  · obtain ⟨sg, a, b, rfl, k⟩ := h
    refine ⟨_, PSs.nox (pss_cons (ps_if (pt_cmpR op_eq (pv 0) pe_str (nomark _)) (pss_one (ps_ret (pe_op op_and (pv 1) (pv 2)))) pss_nil)
      (pss_cons (ps_if (pt_cmpR op_eq (pv 0) pe_str (nomark _)) (pss_one (ps_ret (pe_op op_or (pv 1) (pv 2)))) pss_nil) (pss_one (ps_ret (pe_op op_xor (pv 1) (pv 2)))))), ?_⟩
    unfold bitsW at k
    refine ⟨_, rfl, rfl, _, rfl, ?_⟩
    by_cases h1 : sg = "&"
    · subst h1
      rw [if_pos rfl] at k
      exact ⟨_, rfl, _, rfl, _, _, rfl, rfl, k⟩
    · rw [if_neg h1] at k
      rw [decide_eq_false (fun z => h1 (V.str.inj z))]
      refine iteF ⟨_, rfl, rfl, _, rfl, ?_⟩
      by_cases h2 : sg = "|"
      · subst h2
        rw [if_pos rfl] at k
        exact ⟨_, rfl, _, rfl, _, _, rfl, rfl, k⟩
      · rw [if_neg h2] at k
        rw [decide_eq_false (fun z => h2 (V.str.inj z))]
        exact iteF ⟨_, rfl, _, rfl, _, _, rfl, rfl, k⟩
theorem ok_divided (T : Txt K mg) : FnOk P w K mg base (L2.CX P w) 2 (ga K "divided") (fd_divided K) p_divided (spDivided K) := by
  refine T.f_divided.ok sc_divided (fun vs H Q E h => ?_) (fun cdv A outer s H vs Q E hr h => ?_)
  · obtain ⟨_, _, _, rfl, _⟩ := h
    rfl
  · obtain ⟨sg, a, b, rfl, ka, kb, k⟩ := h
    obtain ⟨x1, x2, x3, x4⟩ := T.x_ByNought
    have tk := takes_of (X := cxOf (L2.CX P w) P w K mg base n_divided "divided" (defScope s_divided) (ga K "divided") cdv A outer s H E) (E := E) rfl rfl rfl rfl
    refine ⟨_, pss_cons (ps_if (pt_cmpR op_eq (pv 2) pe_int (nomark _)) (pss_one (ps_raise rfl tk (pmk_own PySem.F.excBase_ValueError x1 T.g_ByNought x2 (raises_own x3 x4) rfl))) pss_nil)
      (pss_cons (ps_asg (pe_callB call_dmz (by rfl) T.z_divmod (by decide +kernel) (pa_cons (pv 1) (pa_cons (pv 2) pa_nil))) (pg_tup rfl (pgs_cons (pg_name (i := 3) sc_divided.nd rfl (.inl rfl)) (pgs_cons (pg_name (i := 4) sc_divided.nd rfl (.inl rfl)) pgs_nil))))
      (pss_cons (ps_if (pt_cmpR op_eq (pv 0) pe_str (nomark _)) (pss_one (ps_ret (pe_call (ok_kept T) hr rfl T.g_kept T.k_kept T.b_kept .nil pass0 (pa_cons (pv 3) pa_nil)))) pss_nil)
      (pss_one (ps_ret (pv 4))))), ?_⟩
    unfold divW at k
    refine ⟨_, rfl, rfl, _, rfl, ?_⟩
    by_cases h1 : b = 0
    · subst h1
      rw [if_pos rfl] at k
      exact k H (Same.refl H)
    · rw [if_neg h1] at k
      rw [decide_eq_false (fun z => h1 (V.int.inj z))]
      have ab : a.natAbs < 2 ^ 64 := by
        obtain ⟨u, v⟩ := ka
        omega
      refine iteF ⟨_, rfl, _, rfl, a, b, rfl, ⟨h1, ab⟩, fun p np => ⟨p, _, rfl, SqT.of upd_same, rfl, _, _, rfl, _, _, rfl, rfl, ?_⟩⟩
      have sm : Same H (upd H p (.tup [.int (a.fdiv b), .int (a.fmod b)])) := fun c o e => by rw [upd_ne (ne_of_none e np)]; exact e
      refine ⟨_, rfl, rfl, _, rfl, ?_⟩
      by_cases h2 : sg = "/"
      · subst h2
        rw [if_pos rfl] at k
        exact ⟨_, rfl, _, rfl, k _ sm⟩
      · rw [if_neg h2] at k
        rw [decide_eq_false (fun z => h2 (V.str.inj z))]
        exact iteF ⟨_, rfl, k _ sm⟩
end
end RB

namespace RB
open PySem PySem.Spec PyProof.Rows L2 He
theorem if_str {i : Nat} {x sg : Str} {t u : TS} {D : Ends} {σ : L2.St} {H : Hp} (e : σ[i]? = some (some (.str sg))) (h1 : sg = x → t D σ H) (h2 : ¬ sg = x → u D σ H) : tIfS (tTest (tOp rEq (tVar i) (tC (.str x)))) t u D σ H := by
  refine ⟨_, e, rfl, _, rfl, ?_⟩
  by_cases h : sg = x
  · rw [decide_eq_true (congrArg V.str h)]
    exact iteT (h1 h)
  · rw [decide_eq_false (fun z => h (V.str.inj z))]
    exact iteF (h2 h)
def fo1 : List Str := ["sum", "product", "least", "most", "both", "either", "odd", "chain", "capped"]
def lo9 (x : Int) : Int := if x < 1000000000 then x else 1000000000
def capW (x : Int) : Int := if lo9 x > -1000000000 then lo9 x else -1000000000
def jn (f : Str) (r n : Int) : Int :=
  if f = "sum" then kpt (r + n) else if f = "product" then kpt (r * n) else if f = "both" then Builtin.bitAnd r n else if f = "either" then Builtin.bitOr r n else if f = "odd" then Builtin.bitXor r n else
  if f = "chain" then kpt (31 * r + n) else if f = "capped" then capW (r + n) else if f = "least" then (if n < r then n else r) else (if n > r then n else r)
theorem jn_kp {f : Str} {r n : Int} (hr : Kp r) (hn : Kp n) : Kp (jn f r n) := by
  unfold jn capW lo9
  repeat' split
  all_goals first
    | exact kpt_kp _
    | exact and_kp hr hn
    | exact or_kp hr hn
    | exact xor_kp hr hn
    | assumption
    | exact ⟨by omega, by omega⟩
def spJoined : Sp := fun vs H Q _ => ∃ f r n, vs = [.str f, .int r, .int n] ∧ f ∈ fo1 ∧ Kp r ∧ Kp n ∧ ∀ H', Same H H' → Q (.int (jn f r n)) H'
section
variable {P : Program} {w : World} {K : PySem.W.Frag} {mg : Str → Option Value} {base : Heap}
theorem mul_of {a b : Int} (h : Kp a) : CMul a b := by
  obtain ⟨u, v⟩ := h
  exact .inl ⟨by omega, by omega⟩
theorem ok_done (T : Txt K mg) : FnOk P w K mg base (L2.CX P w) 3 (ga K "done") (fd_done K) p_done (spDone K) := by
  refine T.f_done.ok sc_done (fun vs H Q E h => ?_) (fun cdv A outer s H vs Q E hr h => ?_)
  · obtain ⟨_, _, _, rfl, _⟩ := h
    rfl
  · obtain ⟨sg, a, b, rfl, ka, kb, k⟩ := h
    have tk := takes_of (X := cxOf (L2.CX P w) P w K mg base n_done "done" (defScope s_done) (ga K "done") cdv A outer s H E) (E := E) rfl rfl rfl rfl
    have hr1 := hr.mono (show 1 ≤ 2 by decide)
    refine ⟨_, (pss_cons (ps_if (pt_cmpR op_eq (pv 0) pe_str (nomark _)) (pss_one (ps_ret (pe_call (ok_kept T) hr1 rfl T.g_kept T.k_kept T.b_kept .nil pass0 (pa_cons (pe_op op_add (pv 1) (pv 2)) pa_nil)))) pss_nil)
      (pss_cons (ps_if (pt_cmpR op_eq (pv 0) pe_str (nomark _)) (pss_one (ps_ret (pe_call (ok_kept T) hr1 rfl T.g_kept T.k_kept T.b_kept .nil pass0 (pa_cons (pe_op op_sub (pv 1) (pv 2)) pa_nil)))) pss_nil)
      (pss_cons (ps_if (pt_cmpR op_eq (pv 0) pe_str (nomark _)) (pss_one (ps_ret (pe_call (ok_kept T) hr1 rfl T.g_kept T.k_kept T.b_kept .nil pass0 (pa_cons (pe_op op_mul (pv 1) (pv 2)) pa_nil)))) pss_nil)
      (pss_cons (ps_if (PW.pt (pw_or (pt_cmpR op_eq (pv 0) pe_str (nomark _)) (pw_or1 (pt_cmpR op_eq (pv 0) pe_str (nomark _))))) (pss_one (ps_ret (pe_call (ok_divided T) hr rfl T.g_divided T.k_divided T.b_divided .nil (passes_call tk fun _ _ _ _ h => h) (pa_cons (pv 0) (pa_cons (pv 1) (pa_cons (pv 2) pa_nil)))))) pss_nil)
      (pss_cons (ps_if (pt_cmpR op_eq (pv 0) pe_str (nomark _)) (pss_one (ps_ret (pe_callB (call_min2 rfl) (by rfl) T.z_min (by decide +kernel) (pa_cons (pv 1) (pa_cons (pv 2) pa_nil))))) pss_nil)
      (pss_cons (ps_if (pt_cmpR op_eq (pv 0) pe_str (nomark _)) (pss_one (ps_ret (pe_callB (call_max2 rfl) (by rfl) T.z_max (by decide +kernel) (pa_cons (pv 1) (pa_cons (pv 2) pa_nil))))) pss_nil)
      (pss_cons (ps_if (pt_cmpR op_eq (pv 0) pe_str (nomark _)) (pss_one (ps_ret (pe_ifExp (pt_cmpR op_lt (pv 1) (pv 2) (nomark _)) pe_int pe_int))) pss_nil)
      (pss_cons (ps_if (pt_cmpR op_eq (pv 0) pe_str (nomark _)) (pss_one (ps_ret (pe_ifExp (pt_cmpR op_eq (pv 1) (pv 2) (nomark _)) pe_int pe_int))) pss_nil)
      (pss_one (ps_ret (pe_call (ok_by_bits T) hr1 rfl T.g_by_bits T.k_by_bits T.b_by_bits .nil pass0 (pa_cons (pv 0) (pa_cons (pv 1) (pa_cons (pv 2) pa_nil)))))))))))))), ?_⟩
    unfold doneW at k
    refine if_str rfl (fun e => ?_) fun e => ?_
    · rw [if_pos e] at k
      exact ⟨_, rfl, _, rfl, _, _, rfl, rfl, _, rfl, k _ (Same.refl _)⟩
    rw [if_neg e] at k
    refine if_str rfl (fun e => ?_) fun e => ?_
    · rw [if_pos e] at k
      exact ⟨_, rfl, _, rfl, _, _, rfl, rfl, _, rfl, k _ (Same.refl _)⟩
    rw [if_neg e] at k
    refine if_str rfl (fun e => ?_) fun e => ?_
    · rw [if_pos e] at k
      exact ⟨_, rfl, _, rfl, _, _, rfl, rfl, mul_of ka, _, rfl, k _ (Same.refl _)⟩
    rw [if_neg e] at k
    refine ⟨_, rfl, rfl, _, rfl, ?_⟩
    by_cases d : sg = "/" ∨ sg = "rest"
    · rw [if_pos d] at k
      by_cases d1 : sg = "/"
      · rw [decide_eq_true (congrArg V.str d1)]
        exact iteT (iteT ⟨_, rfl, _, rfl, _, rfl, sg, a, b, rfl, ka, kb, k⟩)
      · rw [decide_eq_false (fun z => d1 (V.str.inj z))]
        refine iteF ⟨_, rfl, rfl, _, rfl, ?_⟩
        rw [decide_eq_true (congrArg V.str (d.resolve_left d1))]
        exact iteT ⟨_, rfl, _, rfl, _, rfl, sg, a, b, rfl, ka, kb, k⟩
    rw [if_neg d] at k
    rw [decide_eq_false (fun z => d (.inl (V.str.inj z)))]
    refine iteF ⟨_, rfl, rfl, _, rfl, ?_⟩
    rw [decide_eq_false (fun z => d (.inr (V.str.inj z)))]
    refine iteF ?_
    refine if_str rfl (fun e => ?_) fun e => ?_
    · rw [if_pos e] at k
      exact ⟨_, rfl, _, rfl, _, _, rfl, k _ (Same.refl _)⟩
    rw [if_neg e] at k
    refine if_str rfl (fun e => ?_) fun e => ?_
    · rw [if_pos e] at k
      exact ⟨_, rfl, _, rfl, _, _, rfl, k _ (Same.refl _)⟩
    rw [if_neg e] at k
    refine if_str rfl (fun e => ?_) fun e => ?_
    · rw [if_pos e] at k
      refine ⟨_, rfl, _, rfl, _, _, rfl, rfl, _, rfl, ?_⟩
      by_cases q : a < b
      · rw [if_pos q] at k
        rw [decide_eq_true q]
        exact iteT (k _ (Same.refl _))
      · rw [if_neg q] at k
        rw [decide_eq_false q]
        exact iteF (k _ (Same.refl _))
    rw [if_neg e] at k
    refine if_str rfl (fun e => ?_) fun e => ?_
    · rw [if_pos e] at k
      refine ⟨_, rfl, _, rfl, rfl, _, rfl, ?_⟩
      by_cases q : a = b
      · rw [if_pos q] at k
        rw [decide_eq_true (congrArg V.int q)]
        exact iteT (k _ (Same.refl _))
      · rw [if_neg q] at k
        rw [decide_eq_false (fun z => q (V.int.inj z))]
        exact iteF (k _ (Same.refl _))
    rw [if_neg e] at k
    exact ⟨_, rfl, _, rfl, _, rfl, sg, a, b, rfl, k _ (Same.refl _)⟩
theorem ok_joined (T : Txt K mg) : FnOk P w K mg base (L2.CX P w) 4 (ga K "joined") (fd_joined K) p_joined spJoined := by
  refine T.f_joined.ok sc_joined (fun vs H Q E h => ?_) (fun cdv A outer s H vs Q E hr h => ?_)
  · obtain ⟨_, _, _, rfl, _⟩ := h
    rfl
  · obtain ⟨f, r, n, rfl, hf, kr, kn, k⟩ := h
    have tk := takes_of (X := cxOf (L2.CX P w) P w K mg base n_joined "joined" (defScope s_joined) (ga K "joined") cdv A outer s H E) (E := E) rfl rfl rfl rfl
    have hr1 := hr.mono (show 1 ≤ 3 by decide)
    obtain ⟨tC', gC⟩ := T.cap
    refine ⟨_, (pss_cons (ps_if (pt_cmpR op_eq (pv 0) pe_str (nomark _)) (pss_one (ps_ret (pe_call (ok_kept T) hr1 rfl T.g_kept T.k_kept T.b_kept .nil pass0 (pa_cons (pe_op op_add (pv 1) (pv 2)) pa_nil)))) pss_nil)
      (pss_cons (ps_if (pt_cmpR op_eq (pv 0) pe_str (nomark _)) (pss_one (ps_ret (pe_call (ok_kept T) hr1 rfl T.g_kept T.k_kept T.b_kept .nil pass0 (pa_cons (pe_op op_mul (pv 1) (pv 2)) pa_nil)))) pss_nil)
      (pss_cons (ps_if (pt_cmpR op_eq (pv 0) pe_str (nomark _)) (pss_one (ps_ret (pe_op op_and (pv 1) (pv 2)))) pss_nil)
      (pss_cons (ps_if (pt_cmpR op_eq (pv 0) pe_str (nomark _)) (pss_one (ps_ret (pe_op op_or (pv 1) (pv 2)))) pss_nil)
      (pss_cons (ps_if (pt_cmpR op_eq (pv 0) pe_str (nomark _)) (pss_one (ps_ret (pe_op op_xor (pv 1) (pv 2)))) pss_nil)
      (pss_cons (ps_if (pt_cmpR op_eq (pv 0) pe_str (nomark _)) (pss_one (ps_ret (pe_call (ok_kept T) hr1 rfl T.g_kept T.k_kept T.b_kept .nil pass0 (pa_cons (pe_op op_add (pe_op op_mul pe_int (pv 1)) (pv 2)) pa_nil)))) pss_nil)
      (pss_cons (ps_if (pt_cmpR op_eq (pv 0) pe_str (nomark _)) (pss_one (ps_ret (pe_callB (call_max2 rfl) (by rfl) T.z_max (by decide +kernel) (pa_cons (pe_un un_neg (pe_glob (v := .int 1000000000) rfl gC ⟨tC', rfl⟩)) (pa_cons (pe_callB (call_min2 rfl) (by rfl) T.z_min (by decide +kernel) (pa_cons (pe_glob (v := .int 1000000000) rfl gC ⟨tC', rfl⟩) (pa_cons (pe_op op_add (pv 1) (pv 2)) pa_nil))) pa_nil))))) pss_nil)
      (pss_one (ps_ret (pe_call (ok_done T) hr rfl T.g_done T.k_done T.b_done .nil (passes_call tk fun _ _ _ _ h => h) (pa_cons (pv 0) (pa_cons (pv 1) (pa_cons (pv 2) pa_nil))))))))))))), ?_⟩
    unfold jn at k
    refine if_str rfl (fun e => ?_) fun e => ?_
    · rw [if_pos e] at k
      exact ⟨_, rfl, _, rfl, _, _, rfl, rfl, _, rfl, k _ (Same.refl _)⟩
    rw [if_neg e] at k
    refine if_str rfl (fun e => ?_) fun e => ?_
    · rw [if_pos e] at k
      exact ⟨_, rfl, _, rfl, _, _, rfl, rfl, mul_of kr, _, rfl, k _ (Same.refl _)⟩
    rw [if_neg e] at k
    refine if_str rfl (fun e => ?_) fun e => ?_
    · rw [if_pos e] at k
      exact ⟨_, rfl, _, rfl, _, _, rfl, rfl, k _ (Same.refl _)⟩
    rw [if_neg e] at k
    refine if_str rfl (fun e => ?_) fun e => ?_
    · rw [if_pos e] at k
      exact ⟨_, rfl, _, rfl, _, _, rfl, rfl, k _ (Same.refl _)⟩
    rw [if_neg e] at k
    refine if_str rfl (fun e => ?_) fun e => ?_
    · rw [if_pos e] at k
      exact ⟨_, rfl, _, rfl, _, _, rfl, rfl, k _ (Same.refl _)⟩
    rw [if_neg e] at k
    refine if_str rfl (fun e => ?_) fun e => ?_
    · rw [if_pos e] at k
      exact ⟨_, rfl, _, _, rfl, rfl, .inl ⟨by decide, by decide⟩, _, rfl, _, _, rfl, rfl, _, rfl, k _ (Same.refl _)⟩
    rw [if_neg e] at k
    refine if_str rfl (fun e => ?_) fun e => ?_
    · rw [if_pos e] at k
      exact ⟨_, rfl, _, rfl, _, rfl, _, _, rfl, rfl, _, _, rfl, _, _, rfl, k _ (Same.refl _)⟩
    rw [if_neg e] at k
    rename_i e1 e2 e3 e4 e5 e6
    refine ⟨_, rfl, _, rfl, _, rfl, f, r, n, rfl, kr, kn, ?_⟩
    have z : f = "least" ∨ f = "most" := by
      unfold fo1 at hf
      simp only [List.mem_cons, List.not_mem_nil, or_false] at hf
      rcases hf with h | h | h | h | h | h | h | h | h
      · exact absurd h e1
      · exact absurd h e2
      · exact .inl h
      · exact .inr h
      · exact absurd h e3
      · exact absurd h e4
      · exact absurd h e5
      · exact absurd h e6
      · exact absurd h e
    have ev : doneW f r n = .ok (if f = "least" then (if n < r then n else r) else (if n > r then n else r)) := by
      rcases z with h | h
      · subst h
        rfl
      · subst h
        rfl
    rw [ev]
    exact k
end
end RB

namespace RB
open PySem PySem.Spec PyProof.Rows L2 He
theorem Same.new {H : Hp} {p : Addr} {o : HO} (n : H p = none) : Same H (upd H p o) := fun c u e => by rw [upd_ne (ne_of_none e n)]; exact e
theorem Same.inst {H : Hp} {x dx C : Addr} {o : HO} (nx : H x = none) (nd : H dx = none) : Same H (upd (upd H dx (.own x)) x o) := fun c u e => by rw [upd_ne (ne_of_none e nx), upd_ne (ne_of_none e nd)]; exact e
theorem cut_to {L : List Int} {r : Nat} (h : r ≤ L.length) : cutV (L.map V.int) none (some (r : Int)) = (L.take r).map V.int := by
  unfold cutV
  rw [HT.sIx_none, HT.sIx_nat, List.length_map, Nat.min_eq_left h, List.drop_zero, Nat.sub_zero, List.map_take]
def spStart : Sp := fun vs H Q _ => ∃ a L r, vs = [.ref a, .int ((r : Nat) : Int)] ∧ IL H a L ∧ r ≤ L.length ∧ ∀ H', Same H H' → Q (.int (sta L r)) H'
def spRow (K : PySem.W.Frag) : Sp := fun vs H Q _ => ∃ s L C p O r i j, vs = [.ref s, .int ((r : Nat) : Int), .int i] ∧ SpAt K H s L C p O ∧ r < L.length ∧ sta L r + i = ((j : Nat) : Int) ∧ j < C.length ∧ ∀ H', Same H H' → Q (.int (cv C (sta L r + i))) H'
def spIni (C : Addr) (n : Nat) (fs : List V → List (Str × V)) : Sp := fun vs H Q _ => ∃ p dx ws, vs = .ref p :: ws ∧ ws.length = n ∧ H p = some (.ins C dx []) ∧ Q .non (upd H p (.ins C dx (fs ws)))
def gSpot : List V → List (Str × V)
  | [a, b, c, d, e] => fsSpot a b c d e
  | _ => []
def gNumber : List V → List (Str × V)
  | [a] => fsNumber a
  | _ => []
def gCell : List V → List (Str × V)
  | [a] => fsCell a
  | _ => []
def gShifted : List V → List (Str × V)
  | [a, b, c] => fsShifted a b c
  | _ => []
def gLocal : List V → List (Str × V)
  | [a] => fsLocal a
  | _ => []
def gAt : List V → List (Str × V)
  | [a, b] => fsAt a b
  | _ => []
def gPair : List V → List (Str × V)
  | [a, b, c] => fsPair a b c
  | _ => []
def gChoice : List V → List (Str × V)
  | [a, b, c] => fsChoice a b c
  | _ => []
def tNew (C : Addr) (n : Nat) (fs : List V → List (Str × V)) (dvs : List V) (t : TA) : TE := fun σ H Q => t σ H fun vs H1 => (vs ++ dvs).length = n ∧ ∀ x dx H2, Same H1 H2 → H1 x = none → H2 x = some (.ins C dx (fs (vs ++ dvs))) → Q (.ref x) H2
theorem TA.mono {X : Cx} {es : List Expr} {t t' : TA} (h : PA X es t) (hm : ∀ σ H Q, t' σ H Q → t σ H Q) : PA X es t' := ⟨fun pos pins s σ H Q I q => h.run pos pins s σ H Q I (hm σ H Q q)⟩
theorem pe_new {X : Cx} {k : Nat} {f C : Addr} {fd : FuncData} {ps : List Str} {n : Nat} {fs : List V → List (Str × V)} {dvs : List V} {ds : List Value} {x : Str} {p pos : Pos} {e : Expr} {es : List Expr} {t : TA} (M : Mk X.K C f) (F : FnOk X.prog X.w X.K X.mg X.base CX0 k f fd ps (spIni C n fs)) (hr : Room (k + 1) X.A) (hg : Gl X x) (hm : X.mg x = some (.ref C)) (hb : L2.Binds X.K fd ps ds) (hd : Vals dvs ds)
    (ha : PA X (e :: es) t) (hdb : (x == ("__debug__" : Str)) = false := by decide) (he : starEach (e :: es) X.env = (false, eval e X.env) :: starEach es X.env := by rfl) (hpl : (backTo pos (starEach es X.env)).any (·.1) = false := by rfl) :
    PE X (.Call (.Name x p) (e :: es) [] pos) (tNew C n fs dvs t) := by
  constructor
  intro pins s σ H Q I h
  apply wpAny_Call_Name_kw
  apply ld_glob I hg hm _ hdb
  apply PySem.W.callWith_K (h₀ := X.base) I.ok.mod.kin M.kp _ he hpl
  apply thn (ha.run pos pins s σ H _ I h)
  rintro us s1 ⟨vs, H1, I1, r, q1, q2⟩
  refine ⟨I1.kIn, run_make M F hr hb hd pass0 I1 r fun y dy ny nd nyd => ?_⟩
  refine ⟨y, dy, vs ++ dvs, rfl, q1, upd_same, rfl, q2 y dy _ ?_ ny upd_same⟩
  rw [upd_upd]
  exact Same.inst (C := C) ny nd
section
variable {P : Program} {w : World} {K : PySem.W.Frag} {mg : Str → Option Value} {base : Heap}
theorem ok_start (T : Txt K mg) : FnOk P w K mg base CX0 1 (ga K "start_of") (fd_start_of K) p_start_of spStart := by
  refine T.f_start_of.ok sc_start_of (fun vs H Q E h => ?_) (fun cdv A outer s H vs Q E hr h => ?_)
  · obtain ⟨_, _, _, rfl, _⟩ := h
    rfl
  · obtain ⟨a, L, r, rfl, hL, hl, k⟩ := h
    refine ⟨_, PSs.nox (pss_one (ps_ret (pe_callB (cr_sum rfl) (by rfl) T.z_sum (by decide +kernel) (pa_cons (pe_slice sl_list (pv 0) po_none (po_some (pv 1))) pa_nil)))), ?_⟩
    refine ⟨_, rfl, _, rfl, _, rfl, a, _, rfl, SqL.of hL, fun p np => ⟨p, L.take r, rfl, ?_, k _ (Same.new np)⟩⟩
    rw [cut_to hl]
    exact SqL.of upd_same
theorem ok_row (T : Txt K mg) : FnOk P w K mg base CX0 2 (ga K "row_cell") (fd_row_cell K) p_row_cell (spRow K) := by
  refine T.f_row_cell.ok sc_row_cell (fun vs H Q E h => ?_) (fun cdv A outer s H vs Q E hr h => ?_)
  · obtain ⟨_, _, _, _, _, _, _, _, rfl, _⟩ := h
    rfl
  · obtain ⟨s, L, C, p, O, r, i, j, rfl, hS, hr', e, hj, k⟩ := h
    obtain ⟨dx, l, f, c, o, h1, h2, h3, h4, h5⟩ := hS.ex
    refine ⟨_, PSs.nox (pss_one (ps_ret (pe_ix ix_list (pe_fld (pv 0) rfl) (pe_op op_add (pe_call (ok_start T) hr rfl T.g_start_of T.k_start_of T.b_start_of .nil pass0 (pa_cons (pe_fld (pv 0) rfl) (pa_cons (pv 1) pa_nil))) (pv 2)) (fun _ _ => rfl)))), ?_⟩
    refine ⟨_, rfl, _, _, _, _, _, rfl, h1, T.c_Spot, T.n_Spot_cells, l_Spot_cells .., _, rfl, _, _, _, _, _, rfl, h1, T.c_Spot, T.n_Spot_lengths, l_Spot_lengths .., _, rfl,
      l, L, r, rfl, h2, Nat.le_of_lt hr', fun H' sm => ⟨_, rfl, _, _, rfl, rfl, _, _, _, _, rfl, rfl, SqL.of (h4.same sm), cv_at e hj, k _ sm⟩⟩
theorem ok_Spot (T : Txt K mg) : FnOk P w K mg base CX0 1 (ma K (ga K "Spot") "__init__") (fd_Spot_init K) p_Spot_init (spIni (ga K "Spot") 5 gSpot) := by
  refine T.f_Spot_init.ok sc_Spot_init (fun vs H Q E h => ?_) (fun cdv A outer s H vs Q E hr h => ?_)
  · obtain ⟨p, dx, ws, rfl, hl, _⟩ := h
    exact congrArg Nat.succ hl
  · obtain ⟨p, dx, ws, rfl, hl, hp, k⟩ := h
    match ws, hl with
    | [a, b, c, d, e], _ =>
      refine ⟨_, PSs.nox (pss_cons (ps_fld (pv 0) (pv 1) rfl)
      (pss_cons (ps_fld (pv 0) (pv 2) rfl)
      (pss_cons (ps_fld (pv 0) (pv 3) rfl)
      (pss_cons (ps_fld (pv 0) (pv 4) rfl)
      (pss_one (ps_fld (pv 0) (pv 5) rfl)))))), ?_⟩
      refine ⟨_, rfl, _, rfl, p, _, dx, _, rfl, hp, T.c_Spot, T.n_Spot_lengths, (by show 0 < 1000; decide), _, rfl, _, rfl, p, _, dx, _, rfl, upd_same, T.c_Spot, T.n_Spot_functions, (by show 1 < 1000; decide),
        _, rfl, _, rfl, p, _, dx, _, rfl, upd_same, T.c_Spot, T.n_Spot_cells, (by show 2 < 1000; decide), _, rfl, _, rfl, p, _, dx, _, rfl, upd_same, T.c_Spot, T.n_Spot_place, (by show 3 < 1000; decide), _, rfl, _, rfl, p, _, dx, _, rfl, upd_same, T.c_Spot, T.n_Spot_own, (by show 4 < 1000; decide), ?_⟩
      rw [upd_upd, upd_upd, upd_upd, upd_upd, put_Spot]
      exact k
theorem ok_Number (T : Txt K mg) : FnOk P w K mg base CX0 1 (ma K (ga K "Number") "__init__") (fd_Number_init K) p_Number_init (spIni (ga K "Number") 1 gNumber) := by
  refine T.f_Number_init.ok sc_Number_init (fun vs H Q E h => ?_) (fun cdv A outer s H vs Q E hr h => ?_)
  · obtain ⟨p, dx, ws, rfl, hl, _⟩ := h
    exact congrArg Nat.succ hl
  · obtain ⟨p, dx, ws, rfl, hl, hp, k⟩ := h
    match ws, hl with
    | [a], _ =>
      refine ⟨_, PSs.nox (pss_one (ps_fld (pv 0) (pv 1) rfl)), ?_⟩
      refine ⟨_, rfl, _, rfl, p, _, dx, _, rfl, hp, T.c_Number, T.n_Number_number, (by show 0 < 1000; decide), ?_⟩
      rw [put_Number]
      exact k
theorem ok_Cell (T : Txt K mg) : FnOk P w K mg base CX0 1 (ma K (ga K "Cell") "__init__") (fd_Cell_init K) p_Cell_init (spIni (ga K "Cell") 1 gCell) := by
  refine T.f_Cell_init.ok sc_Cell_init (fun vs H Q E h => ?_) (fun cdv A outer s H vs Q E hr h => ?_)
  · obtain ⟨p, dx, ws, rfl, hl, _⟩ := h
    exact congrArg Nat.succ hl
  · obtain ⟨p, dx, ws, rfl, hl, hp, k⟩ := h
    match ws, hl with
    | [a], _ =>
      refine ⟨_, PSs.nox (pss_one (ps_fld (pv 0) (pv 1) rfl)), ?_⟩
      refine ⟨_, rfl, _, rfl, p, _, dx, _, rfl, hp, T.c_Cell, T.n_Cell_row, (by show 0 < 1000; decide), ?_⟩
      rw [put_Cell]
      exact k
theorem ok_Local (T : Txt K mg) : FnOk P w K mg base CX0 1 (ma K (ga K "Local") "__init__") (fd_Local_init K) p_Local_init (spIni (ga K "Local") 1 gLocal) := by
  refine T.f_Local_init.ok sc_Local_init (fun vs H Q E h => ?_) (fun cdv A outer s H vs Q E hr h => ?_)
  · obtain ⟨p, dx, ws, rfl, hl, _⟩ := h
    exact congrArg Nat.succ hl
  · obtain ⟨p, dx, ws, rfl, hl, hp, k⟩ := h
    match ws, hl with
    | [a], _ =>
      refine ⟨_, PSs.nox (pss_one (ps_fld (pv 0) (pv 1) rfl)), ?_⟩
      refine ⟨_, rfl, _, rfl, p, _, dx, _, rfl, hp, T.c_Local, T.n_Local_at, (by show 0 < 1000; decide), ?_⟩
      rw [put_Local]
      exact k
theorem ok_At (T : Txt K mg) : FnOk P w K mg base CX0 1 (ma K (ga K "At") "__init__") (fd_At_init K) p_At_init (spIni (ga K "At") 2 gAt) := by
  refine T.f_At_init.ok sc_At_init (fun vs H Q E h => ?_) (fun cdv A outer s H vs Q E hr h => ?_)
  · obtain ⟨p, dx, ws, rfl, hl, _⟩ := h
    exact congrArg Nat.succ hl
  · obtain ⟨p, dx, ws, rfl, hl, hp, k⟩ := h
    match ws, hl with
    | [a, b], _ =>
      refine ⟨_, PSs.nox (pss_cons (ps_fld (pv 0) (pv 1) rfl)
      (pss_one (ps_fld (pv 0) (pv 2) rfl))), ?_⟩
      refine ⟨_, rfl, _, rfl, p, _, dx, _, rfl, hp, T.c_At, T.n_At_row, (by show 0 < 1000; decide), _, rfl, _, rfl, p, _, dx, _, rfl, upd_same, T.c_At, T.n_At_place, (by show 1 < 1000; decide), ?_⟩
      rw [upd_upd, put_At]
      exact k
theorem ok_Shifted (T : Txt K mg) : FnOk P w K mg base CX0 1 (ma K (ga K "Shifted") "__init__") (fd_Shifted_init K) p_Shifted_init (spIni (ga K "Shifted") 3 gShifted) := by
  refine T.f_Shifted_init.ok sc_Shifted_init (fun vs H Q E h => ?_) (fun cdv A outer s H vs Q E hr h => ?_)
  · obtain ⟨p, dx, ws, rfl, hl, _⟩ := h
    exact congrArg Nat.succ hl
  · obtain ⟨p, dx, ws, rfl, hl, hp, k⟩ := h
    match ws, hl with
    | [a, b, c], _ =>
      refine ⟨_, PSs.nox (pss_cons (ps_fld (pv 0) (pv 1) rfl)
      (pss_cons (ps_fld (pv 0) (pv 2) rfl)
      (pss_one (ps_fld (pv 0) (pv 3) rfl)))), ?_⟩
      refine ⟨_, rfl, _, rfl, p, _, dx, _, rfl, hp, T.c_Shifted, T.n_Shifted_row, (by show 0 < 1000; decide), _, rfl, _, rfl, p, _, dx, _, rfl, upd_same, T.c_Shifted, T.n_Shifted_by, (by show 1 < 1000; decide), _, rfl, _, rfl, p, _, dx, _, rfl, upd_same, T.c_Shifted, T.n_Shifted_other, (by show 2 < 1000; decide), ?_⟩
      rw [upd_upd, upd_upd, put_Shifted]
      exact k
theorem ok_Pair (T : Txt K mg) : FnOk P w K mg base CX0 1 (ma K (ga K "Pair") "__init__") (fd_Pair_init K) p_Pair_init (spIni (ga K "Pair") 3 gPair) := by
  refine T.f_Pair_init.ok sc_Pair_init (fun vs H Q E h => ?_) (fun cdv A outer s H vs Q E hr h => ?_)
  · obtain ⟨p, dx, ws, rfl, hl, _⟩ := h
    exact congrArg Nat.succ hl
  · obtain ⟨p, dx, ws, rfl, hl, hp, k⟩ := h
    match ws, hl with
    | [a, b, c], _ =>
      refine ⟨_, PSs.nox (pss_cons (ps_fld (pv 0) (pv 1) rfl)
      (pss_cons (ps_fld (pv 0) (pv 2) rfl)
      (pss_one (ps_fld (pv 0) (pv 3) rfl)))), ?_⟩
      refine ⟨_, rfl, _, rfl, p, _, dx, _, rfl, hp, T.c_Pair, T.n_Pair_sign, (by show 0 < 1000; decide), _, rfl, _, rfl, p, _, dx, _, rfl, upd_same, T.c_Pair, T.n_Pair_left, (by show 1 < 1000; decide), _, rfl, _, rfl, p, _, dx, _, rfl, upd_same, T.c_Pair, T.n_Pair_right, (by show 2 < 1000; decide), ?_⟩
      rw [upd_upd, upd_upd, put_Pair]
      exact k
theorem ok_Choice (T : Txt K mg) : FnOk P w K mg base CX0 1 (ma K (ga K "Choice") "__init__") (fd_Choice_init K) p_Choice_init (spIni (ga K "Choice") 3 gChoice) := by
  refine T.f_Choice_init.ok sc_Choice_init (fun vs H Q E h => ?_) (fun cdv A outer s H vs Q E hr h => ?_)
  · obtain ⟨p, dx, ws, rfl, hl, _⟩ := h
    exact congrArg Nat.succ hl
  · obtain ⟨p, dx, ws, rfl, hl, hp, k⟩ := h
    match ws, hl with
    | [a, b, c], _ =>
      refine ⟨_, PSs.nox (pss_cons (ps_fld (pv 0) (pv 1) rfl)
      (pss_cons (ps_fld (pv 0) (pv 2) rfl)
      (pss_one (ps_fld (pv 0) (pv 3) rfl)))), ?_⟩
      refine ⟨_, rfl, _, rfl, p, _, dx, _, rfl, hp, T.c_Choice, T.n_Choice_test, (by show 0 < 1000; decide), _, rfl, _, rfl, p, _, dx, _, rfl, upd_same, T.c_Choice, T.n_Choice_left, (by show 1 < 1000; decide), _, rfl, _, rfl, p, _, dx, _, rfl, upd_same, T.c_Choice, T.n_Choice_right, (by show 2 < 1000; decide), ?_⟩
      rw [upd_upd, upd_upd, put_Choice]
      exact k
end
end RB

namespace RB
open PySem PySem.Spec PyProof.Rows L2 He
def nm : Nat → Str
  | 0 => "Number" | 1 => "Here" | 2 => "Cell" | 3 => "Shifted" | 4 => "Local" | 5 => "At" | 6 => "Pair" | 7 => "Choice" | _ => "Call"
structure WIn (K : PySem.W.Frag) (H : Hp) (n : Nat) (a s : Addr) (f : F) (L C : List Int) (p : Int) (O : List Int) (m : Int) : Prop where
  fa : FAt K H a f
  sp : SpAt K H s L C p O
  gd : Gd L C p m
  kO : ∀ v ∈ O, Kp v
  fi : Fine L m O.length f
  hh : ht f ≤ n
theorem WIn.same {K : PySem.W.Frag} {H H' : Hp} {n : Nat} {a s : Addr} {f : F} {L C : List Int} {p : Int} {O : List Int} {m : Int} (x : WIn K H n a s f L C p O m) (e : Same H H') : WIn K H' n a s f L C p O m := ⟨x.fa.same e, x.sp.same e, x.gd, x.kO, x.fi, x.hh⟩
def spW (K : PySem.W.Frag) (n c : Nat) : Sp := fun vs H Q E => ∃ a s f L C p O m, vs = [.ref a, .ref s] ∧ kd f = c ∧ WIn K H n a s f L C p O m ∧ WEnd K H Q E (wof L C p O f)
def OkW (K : PySem.W.Frag) (n : Nat) (C : Addr) (sp : Sp) : Prop := ∃ c, c ≤ 8 ∧ C = ga K (nm c) ∧ sp = spW K n c
theorem kd_le (f : F) : kd f ≤ 8 := by cases f <;> simp [kd]
theorem fat_ins {K : PySem.W.Frag} {H : Hp} {a : Addr} {f : F} (h : FAt K H a f) : ∃ dx fs, H a = some (.ins (ga K (nm (kd f))) dx fs) ∧ fs.lookup ("worth" : Str) = none := by
  cases f with
  | num n => obtain ⟨dx, h⟩ := h; exact ⟨dx, _, h, l_Number_worth _⟩
  | here => obtain ⟨dx, h⟩ := h; exact ⟨dx, _, h, rfl⟩
  | cell r => obtain ⟨dx, h⟩ := h; exact ⟨dx, _, h, l_Cell_worth _⟩
  | shifted r b o => obtain ⟨dx, h⟩ := h; exact ⟨dx, _, h, l_Shifted_worth ..⟩
  | loc k => obtain ⟨dx, h⟩ := h; exact ⟨dx, _, h, l_Local_worth _⟩
  | at_ r f => obtain ⟨dx, p, h, _⟩ := h; exact ⟨dx, _, h, l_At_worth ..⟩
  | pair s l r => obtain ⟨dx, p, q, h, _⟩ := h; exact ⟨dx, _, h, l_Pair_worth ..⟩
  | choice t l r => obtain ⟨dx, o, p, q, h, _⟩ := h; exact ⟨dx, _, h, l_Choice_worth ..⟩
  | call1 k f => obtain ⟨dx, l, p, h, _⟩ := h; exact ⟨dx, _, h, l_Call_worth ..⟩
  | call2 k f g => obtain ⟨dx, l, p, q, h, _⟩ := h; exact ⟨dx, _, h, l_Call_worth ..⟩
theorem disp_at {K : PySem.W.Frag} {H : Hp} {n : Nat} {a s : Addr} {f : F} {L C : List Int} {p : Int} {O : List Int} {m : Int} {t : TA} {σ : L2.St} {Q : VK} {E : XK} (h : FAt K H a f) (q : t σ H fun vs H2 => ∃ s L C p O m, vs = [.ref s] ∧ WIn K H2 n a s f L C p O m ∧ WEnd K H2 Q E (wof L C p O f))
    (tm : ∀ {R R' : List V → Hp → Prop}, (∀ vs H', R vs H' → R' vs H') → t σ H R → t σ H R') :
    ∃ b D dx fs sp, V.ref a = .ref b ∧ H b = some (.ins D dx fs) ∧ fs.lookup ("worth" : Str) = none ∧ OkW K n D sp ∧ t σ H fun vs H2 => sp (V.ref a :: vs) H2 Q E := by
  obtain ⟨dx, fs, e, l⟩ := fat_ins h
  refine ⟨a, _, dx, fs, _, rfl, e, l, ⟨kd f, kd_le f, rfl, rfl⟩, tm (fun vs H' z => ?_) q⟩
  obtain ⟨s, L, C, p, O, m, rfl, w, k⟩ := z
  exact ⟨a, s, f, L, C, p, O, m, rfl, rfl, w, k⟩
theorem disp1 {K : PySem.W.Frag} {H : Hp} {n : Nat} {a s : Addr} {f : F} {L C : List Int} {p : Int} {O : List Int} {m : Int} {σ : L2.St} {i : Nat} {Q : VK} {E : XK} (e : σ[i]? = some (some (.ref s))) (w : WIn K H n a s f L C p O m) (k : WEnd K H Q E (wof L C p O f)) :
    ∃ b D dx fs sp, V.ref a = .ref b ∧ H b = some (.ins D dx fs) ∧ fs.lookup ("worth" : Str) = none ∧ OkW K n D sp ∧ (tCons (tVar i) tNil) σ H fun vs H2 => sp (V.ref a :: vs) H2 Q E := by
  obtain ⟨dx, fs, e1, l⟩ := fat_ins w.fa
  exact ⟨a, _, dx, fs, _, rfl, e1, l, ⟨kd f, kd_le f, rfl, rfl⟩, _, e, a, s, f, L, C, p, O, m, rfl, rfl, w, k⟩
section
variable {P : Program} {w : World} {K : PySem.W.Frag} {mg : Str → Option Value} {base : Heap}
theorem spW_len {n c : Nat} (vs : List V) (H : Hp) (Q : VK) (E : XK) (h : spW K n c vs H Q E) : vs.length = (["self", "spot"] : List Str).length := by
  obtain ⟨_, _, _, _, _, _, _, _, rfl, _⟩ := h
  rfl
theorem ok_w0 (T : Txt K mg) (n : Nat) : FnOk P w K mg base (L2.CX P w) 3 (ma K (ga K "Number") "worth") (fd_Number_worth K) p_Number_worth (spW K n 0) := by
  refine T.f_Number_worth.ok sc_Number_worth spW_len (fun cdv A outer s0 H vs Q E hr h => ?_)
  obtain ⟨a, s, f, L, C, p, O, m, rfl, hk, wi, q⟩ := h
  cases f with
  | num v =>
    obtain ⟨dx, hH⟩ := wi.fa
    refine ⟨_, (pss_one (ps_ret (pe_fld (pv 0) rfl))), ?_⟩
    exact ⟨_, rfl, a, _, dx, _, _, rfl, hH, T.c_Number, T.n_Number_number, l_Number_number _, q _ (Same.refl _)⟩
  | _ => cases hk
theorem ok_w1 (T : Txt K mg) (n : Nat) : FnOk P w K mg base (L2.CX P w) 3 (ma K (ga K "Here") "worth") (fd_Here_worth K) p_Here_worth (spW K n 1) := by
  refine T.f_Here_worth.ok sc_Here_worth spW_len (fun cdv A outer s0 H vs Q E hr h => ?_)
  obtain ⟨a, s, f, L, C, p, O, m, rfl, hk, wi, q⟩ := h
  cases f with
  | here =>
    obtain ⟨dx, l, f, c, o, h1, h2, h3, h4, h5⟩ := wi.sp.ex
    refine ⟨_, (pss_one (ps_ret (pe_fld (pv 1) rfl))), ?_⟩
    exact ⟨_, rfl, s, _, dx, _, _, rfl, h1, T.c_Spot, T.n_Spot_place, l_Spot_place .., q _ (Same.refl _)⟩
  | _ => cases hk
theorem ok_w2 (T : Txt K mg) (n : Nat) : FnOk P w K mg base (L2.CX P w) 3 (ma K (ga K "Cell") "worth") (fd_Cell_worth K) p_Cell_worth (spW K n 2) := by
  refine T.f_Cell_worth.ok sc_Cell_worth spW_len (fun cdv A outer s0 H vs Q E hr h => ?_)
  obtain ⟨a, s, f, L, C, p, O, m, rfl, hk, wi, q⟩ := h
  cases f with
  | cell r =>
    obtain ⟨dx, hH⟩ := wi.fa
    obtain ⟨dy, l, f, c, o, h1, h2, h3, h4, h5⟩ := wi.sp.ex
    obtain ⟨hr', hm⟩ := wi.fi
    have gp := getD_pos wi.gd.pos hr'
    refine ⟨_, (pss_cons (ps_if (pt_cmpR op_eq (pe_ix ix_list (pe_fld (pv 1) rfl) (pe_fld (pv 0) rfl) (fun _ _ => rfl)) pe_int (nomark _)) (pss_one (ps_ret (pe_call (ok_row T) hr rfl T.g_row_cell T.k_row_cell T.b_row_cell .nil pass0 (pa_cons (pv 1) (pa_cons (pe_fld (pv 0) rfl) (pa_cons (pe_int) pa_nil)))))) pss_nil)
      (pss_one (ps_ret (pe_call (ok_row T) hr rfl T.g_row_cell T.k_row_cell T.b_row_cell .nil pass0 (pa_cons (pv 1) (pa_cons (pe_fld (pv 0) rfl) (pa_cons (pe_fld (pv 1) rfl) pa_nil))))))), ?_⟩
    refine ⟨_, rfl, s, _, dy, _, _, rfl, h1, T.c_Spot, T.n_Spot_lengths, l_Spot_lengths .., _, rfl, a, _, dx, _, _, rfl, hH, T.c_Cell, T.n_Cell_row, l_Cell_row _, l, _, _, _, rfl, rfl, SqL.of h2, row_at hr', rfl, _, rfl, ?_⟩
    unfold wof wo at q
    by_cases e : L.getD r 0 = 1
    · rw [if_pos e] at q
      rw [decide_eq_true (congrArg V.int e)]
      obtain ⟨j, ej, hj⟩ := in_row (i := 0) wi.gd.pos wi.gd.len hr' (by omega) (by omega)
      exact iteT ⟨_, rfl, _, rfl, a, _, dx, _, _, rfl, hH, T.c_Cell, T.n_Cell_row, l_Cell_row _, s, L, C, p, O, r, 0, j, rfl, wi.sp, hr', ej, hj, q⟩
    · rw [if_neg e] at q
      rw [decide_eq_false (fun z => e (V.int.inj z))]
      have em := hm.resolve_left e
      obtain ⟨j, ej, hj⟩ := in_row (i := p) wi.gd.pos wi.gd.len hr' wi.gd.p0 (by rw [em]; exact wi.gd.pm)
      exact iteF ⟨_, rfl, _, rfl, a, _, dx, _, _, rfl, hH, T.c_Cell, T.n_Cell_row, l_Cell_row _, _, rfl, s, _, dy, _, _, rfl, h1, T.c_Spot, T.n_Spot_place, l_Spot_place .., s, L, C, p, O, r, p, j, rfl, wi.sp, hr', ej, hj, q⟩
  | _ => cases hk
theorem ok_w3 (T : Txt K mg) (n : Nat) : FnOk P w K mg base (L2.CX P w) 3 (ma K (ga K "Shifted") "worth") (fd_Shifted_worth K) p_Shifted_worth (spW K n 3) := by
  refine T.f_Shifted_worth.ok sc_Shifted_worth spW_len (fun cdv A outer s0 H vs Q E hr h => ?_)
  obtain ⟨a, s, f, L, C, p, O, m, rfl, hk, wi, q⟩ := h
  cases f with
  | shifted r b o =>
    obtain ⟨dx, hH⟩ := wi.fa
    obtain ⟨dy, l, f, c, o', h1, h2, h3, h4, h5⟩ := wi.sp.ex
    obtain ⟨hr', hm⟩ := wi.fi
    refine ⟨_, (pss_cons (ps_set (i := 2) sc_Shifted_worth.nd rfl (.inl rfl) (pe_op op_add (pe_fld (pv 1) rfl) (pe_fld (pv 0) rfl)))
      (pss_cons (ps_if (pt_chain op_le op_lt pe_int (pv 2) (pe_ix ix_list (pe_fld (pv 1) rfl) (pe_fld (pv 0) rfl) (fun _ _ => rfl))) (pss_one (ps_ret (pe_call (ok_row T) hr rfl T.g_row_cell T.k_row_cell T.b_row_cell .nil pass0 (pa_cons (pv 1) (pa_cons (pe_fld (pv 0) rfl) (pa_cons (pv 2) pa_nil)))))) pss_nil)
      (pss_one (ps_ret (pe_fld (pv 0) rfl))))), ?_⟩
    refine ⟨_, rfl, s, _, dy, _, _, rfl, h1, T.c_Spot, T.n_Spot_place, l_Spot_place .., _, rfl, a, _, dx, _, _, rfl, hH, T.c_Shifted, T.n_Shifted_by, l_Shifted_by .., _, _, rfl, rfl, _, rfl, _, _, rfl, rfl, _, rfl, ?_⟩
    unfold wof wo at q
    by_cases e0 : 0 ≤ p + b
    · rw [decide_eq_true e0]
      refine iteT ⟨_, rfl, s, _, dy, _, _, rfl, h1, T.c_Spot, T.n_Spot_lengths, l_Spot_lengths .., _, rfl, a, _, dx, _, _, rfl, hH, T.c_Shifted, T.n_Shifted_row, l_Shifted_row .., l, _, _, _, rfl, rfl, SqL.of h2, row_at hr', _, _, rfl, rfl, _, rfl, ?_⟩
      by_cases e1 : p + b < L.getD r 0
      · rw [if_pos ⟨e0, e1⟩] at q
        rw [decide_eq_true e1]
        obtain ⟨j, ej, hj⟩ := in_row wi.gd.pos wi.gd.len hr' e0 e1
        exact iteT ⟨_, rfl, _, rfl, a, _, dx, _, _, rfl, hH, T.c_Shifted, T.n_Shifted_row, l_Shifted_row .., _, rfl, s, L, C, p, O, r, p + b, j, rfl, wi.sp, hr', ej, hj, q⟩
      · rw [if_neg (fun z => e1 z.2)] at q
        rw [decide_eq_false e1]
        exact iteF ⟨_, rfl, a, _, dx, _, _, rfl, hH, T.c_Shifted, T.n_Shifted_other, l_Shifted_other .., q _ (Same.refl _)⟩
    · rw [if_neg (fun z => e0 z.1)] at q
      rw [decide_eq_false e0]
      exact iteF ⟨_, rfl, iteF ⟨_, rfl, a, _, dx, _, _, rfl, hH, T.c_Shifted, T.n_Shifted_other, l_Shifted_other .., q _ (Same.refl _)⟩⟩
  | _ => cases hk
theorem ok_w4 (T : Txt K mg) (n : Nat) : FnOk P w K mg base (L2.CX P w) 3 (ma K (ga K "Local") "worth") (fd_Local_worth K) p_Local_worth (spW K n 4) := by
  refine T.f_Local_worth.ok sc_Local_worth spW_len (fun cdv A outer s0 H vs Q E hr h => ?_)
  obtain ⟨a, s, f, L, C, p, O, m, rfl, hk, wi, q⟩ := h
  cases f with
  | loc k =>
    obtain ⟨dx, hH⟩ := wi.fa
    obtain ⟨dy, l, f, c, o, h1, h2, h3, h4, h5⟩ := wi.sp.ex
    have hk' : k < O.length := wi.fi
    refine ⟨_, (pss_one (ps_ret (pe_ix ix_list (pe_fld (pv 1) rfl) (pe_fld (pv 0) rfl) (fun _ _ => rfl)))), ?_⟩
    exact ⟨_, rfl, s, _, dy, _, _, rfl, h1, T.c_Spot, T.n_Spot_own, l_Spot_own .., _, rfl, a, _, dx, _, _, rfl, hH, T.c_Local, T.n_Local_at, l_Local_at _, o, _, _, _, rfl, rfl, SqL.of h5, row_at hk', q _ (Same.refl _)⟩
  | _ => cases hk
def MetW (P : Program) (w : World) (K : PySem.W.Frag) (mg : Str → Option Value) (base : Heap) (n : Nat) : Prop := ∀ C sp, OkW K n C sp → MetOk P w K mg base (L2.CX P w) (n + 4) "worth" C sp
theorem ok_w5 (T : Txt K mg) (n : Nat) (M : MetW P w K mg base n) : FnOk P w K mg base (L2.CX P w) (n + 5) (ma K (ga K "At") "worth") (fd_At_worth K) p_At_worth (spW K (n + 1) 5) := by
  refine T.f_At_worth.ok sc_At_worth spW_len (fun cdv A outer s0 H vs Q E hr h => ?_)
  obtain ⟨a, s, f, L, C, p, O, m, rfl, hk, wi, q⟩ := h
  cases f with
  | at_ r f =>
    obtain ⟨dx, b, hH, hb⟩ := wi.fa
    obtain ⟨dy, l, f', c, o, h1, h2, h3, h4, h5⟩ := wi.sp.ex
    obtain ⟨hr', hf⟩ := wi.fi
    obtain ⟨x1, x2, x3, x4⟩ := T.x_Outside
    have hh : ht f ≤ n := by
      have := wi.hh
      simp only [ht] at this
      omega
    have tk := takes_of (X := cxOf (L2.CX P w) P w K mg base n_At_worth "At.worth" (defScope s_At_worth) (ma K (ga K "At") "worth") cdv A outer s0 H E) (E := E) rfl rfl rfl rfl
    have hr2 := hr.mono (show 2 ≤ n + 4 by omega)
    refine ⟨_, (pss_cons (ps_set (i := 2) sc_At_worth.nd rfl (.inl rfl) (pe_disp (pe_fld (pv 0) rfl) M hr (passes_call tk fun _ _ _ _ h => h) (pa_cons (pv 1) pa_nil)))
      (pss_cons (ps_if (pt_not (pt_chain op_le op_lt pe_int (pv 2) (pe_ix ix_list (pe_fld (pv 1) rfl) (pe_fld (pv 0) rfl) (fun _ _ => rfl)))) (pss_one (ps_raise rfl tk (pmk_own PySem.F.excBase_ValueError x1 T.g_Outside x2 (raises_own x3 x4) rfl))) pss_nil)
      (pss_one (ps_ret (pe_call (ok_row T) hr2 rfl T.g_row_cell T.k_row_cell T.b_row_cell .nil pass0 (pa_cons (pv 1) (pa_cons (pe_fld (pv 0) rfl) (pa_cons (pv 2) pa_nil)))))))), ?_⟩
    refine ⟨_, rfl, a, _, dx, _, _, rfl, hH, T.c_At, T.n_At_place, l_At_place .., ?_⟩
    refine disp1 (n := n) rfl ⟨hb, wi.sp, wi.gd, wi.kO, hf, hh⟩ ?_
    refine WEnd.first (k := fun q => if 0 ≤ q ∧ q < L.getD r 0 then .ok (cv C (sta L r + q)) else .outside) q fun v H1 ev sm k => ?_
    have hH1 := sm _ _ hH
    have h11 := sm _ _ h1
    have h21 : IL H1 l L := h2.same sm
    refine ⟨_, rfl, _, _, rfl, rfl, _, rfl, ?_⟩
    by_cases e0 : 0 ≤ v
    · rw [decide_eq_true e0]
      refine iteT ⟨_, rfl, s, _, dy, _, _, rfl, h11, T.c_Spot, T.n_Spot_lengths, l_Spot_lengths .., _, rfl, a, _, dx, _, _, rfl, hH1, T.c_At, T.n_At_row, l_At_row .., l, _, _, _, rfl, rfl, SqL.of h21, row_at hr', _, _, rfl, rfl, _, rfl, ?_⟩
      by_cases e1 : v < L.getD r 0
      · rw [if_pos ⟨e0, e1⟩] at k
        rw [decide_eq_true e1]
        obtain ⟨j, ej, hj⟩ := in_row wi.gd.pos wi.gd.len hr' e0 e1
        exact iteF ⟨_, rfl, _, rfl, a, _, dx, _, _, rfl, hH1, T.c_At, T.n_At_row, l_At_row .., _, rfl, s, L, C, p, O, r, v, j, rfl, wi.sp.same sm, hr', ej, hj, k⟩
      · rw [if_neg (fun z => e1 z.2)] at k
        rw [decide_eq_false e1]
        exact iteT (k _ (Same.refl _))
    · rw [if_neg (fun z => e0 z.1)] at k
      rw [decide_eq_false e0]
      exact iteF ⟨_, rfl, iteT (k _ (Same.refl _))⟩
  | _ => cases hk
theorem ok_w6 (T : Txt K mg) (n : Nat) (M : MetW P w K mg base n) : FnOk P w K mg base (L2.CX P w) (n + 5) (ma K (ga K "Pair") "worth") (fd_Pair_worth K) p_Pair_worth (spW K (n + 1) 6) := by
  refine T.f_Pair_worth.ok sc_Pair_worth spW_len (fun cdv A outer s0 H vs Q E hr h => ?_)
  obtain ⟨a, s, f, L, C, p, O, m, rfl, hk, wi, q⟩ := h
  cases f with
  | pair sg l r =>
    obtain ⟨dx, b, c, hH, hb, hc⟩ := wi.fa
    obtain ⟨hs, hl, hr'⟩ := wi.fi
    have hh : ht l ≤ n ∧ ht r ≤ n := by
      have := wi.hh
      simp only [ht] at this
      omega
    have tk := takes_of (X := cxOf (L2.CX P w) P w K mg base n_Pair_worth "Pair.worth" (defScope s_Pair_worth) (ma K (ga K "Pair") "worth") cdv A outer s0 H E) (E := E) rfl rfl rfl rfl
    have hr3 := hr.mono (show 3 ≤ n + 4 by omega)
    refine ⟨_, (pss_cons (ps_set (i := 2) sc_Pair_worth.nd rfl (.inl rfl) (pe_disp (pe_fld (pv 0) rfl) M hr (passes_call tk fun _ _ _ _ h => h) (pa_cons (pv 1) pa_nil)))
      (pss_cons (ps_set (i := 3) sc_Pair_worth.nd rfl (.inl rfl) (pe_disp (pe_fld (pv 0) rfl) M hr (passes_call tk fun _ _ _ _ h => h) (pa_cons (pv 1) pa_nil)))
      (pss_one (ps_ret (pe_call (ok_done T) hr3 rfl T.g_done T.k_done T.b_done .nil (passes_call tk fun _ _ _ _ h => h) (pa_cons (pe_fld (pv 0) rfl) (pa_cons (pv 2) (pa_cons (pv 3) pa_nil)))))))), ?_⟩
    refine ⟨_, rfl, a, _, dx, _, _, rfl, hH, T.c_Pair, T.n_Pair_left, l_Pair_left .., ?_⟩
    refine disp1 (n := n) rfl ⟨hb, wi.sp, wi.gd, wi.kO, hl, hh.1⟩ ?_
    refine WEnd.first (k := fun x => (wof L C p O r).then fun y => doneW sg x y) q fun v1 H1 e1 s1 k1 => ?_
    refine ⟨_, rfl, a, _, dx, _, _, rfl, s1 _ _ hH, T.c_Pair, T.n_Pair_right, l_Pair_right .., ?_⟩
    refine disp1 (n := n) rfl ⟨hc.same s1, wi.sp.same s1, wi.gd, wi.kO, hr', hh.2⟩ ?_
    refine WEnd.first (k := fun y => doneW sg v1 y) k1 fun v2 H2 e2 s2 k2 => ?_
    exact ⟨_, rfl, a, _, dx, _, _, rfl, s2 _ _ (s1 _ _ hH), T.c_Pair, T.n_Pair_sign, l_Pair_sign .., _, rfl, _, rfl, sg, v1, v2, rfl, wof_kp wi.gd wi.kO hl e1, wof_kp wi.gd wi.kO hr' e2, k2⟩
  | _ => cases hk
theorem ok_w7 (T : Txt K mg) (n : Nat) (M : MetW P w K mg base n) : FnOk P w K mg base (L2.CX P w) (n + 5) (ma K (ga K "Choice") "worth") (fd_Choice_worth K) p_Choice_worth (spW K (n + 1) 7) := by
  refine T.f_Choice_worth.ok sc_Choice_worth spW_len (fun cdv A outer s0 H vs Q E hr h => ?_)
  obtain ⟨a, s, f, L, C, p, O, m, rfl, hk, wi, q⟩ := h
  cases f with
  | choice t l r =>
    obtain ⟨dx, b0, b, c, hH, ha, hb, hc⟩ := wi.fa
    obtain ⟨ht', hl, hr'⟩ := wi.fi
    have hh : ht t ≤ n ∧ ht l ≤ n ∧ ht r ≤ n := by
      have := wi.hh
      simp only [ht] at this
      omega
    have tk := takes_of (X := cxOf (L2.CX P w) P w K mg base n_Choice_worth "Choice.worth" (defScope s_Choice_worth) (ma K (ga K "Choice") "worth") cdv A outer s0 H E) (E := E) rfl rfl rfl rfl
    refine ⟨_, (pss_cons (ps_if (pt_cmpR op_ne (pe_disp (pe_fld (pv 0) rfl) M hr (passes_call tk fun _ _ _ _ h => h) (pa_cons (pv 1) pa_nil)) pe_int (nomark _)) (pss_one (ps_ret (pe_disp (pe_fld (pv 0) rfl) M hr (passes_call tk fun _ _ _ _ h => h) (pa_cons (pv 1) pa_nil)))) pss_nil)
      (pss_one (ps_ret (pe_disp (pe_fld (pv 0) rfl) M hr (passes_call tk fun _ _ _ _ h => h) (pa_cons (pv 1) pa_nil))))), ?_⟩
    refine ⟨_, rfl, a, _, dx, _, _, rfl, hH, T.c_Choice, T.n_Choice_test, l_Choice_test .., ?_⟩
    refine disp1 (n := n) rfl ⟨ha, wi.sp, wi.gd, wi.kO, ht', hh.1⟩ ?_
    refine WEnd.first (k := fun x => if x ≠ 0 then wof L C p O l else wof L C p O r) q fun v1 H1 e1 s1 k1 => ?_
    refine ⟨rfl, _, rfl, ?_⟩
    by_cases e : v1 = 0
    · rw [if_neg (fun z => z e)] at k1
      rw [decide_eq_true (congrArg V.int e)]
      refine iteF ⟨_, rfl, a, _, dx, _, _, rfl, s1 _ _ hH, T.c_Choice, T.n_Choice_right, l_Choice_right .., ?_⟩
      exact disp1 (n := n) rfl ⟨hc.same s1, wi.sp.same s1, wi.gd, wi.kO, hr', hh.2.2⟩ k1
    · rw [if_pos e] at k1
      rw [decide_eq_false (fun z => e (V.int.inj z))]
      refine iteT ⟨_, rfl, a, _, dx, _, _, rfl, s1 _ _ hH, T.c_Choice, T.n_Choice_left, l_Choice_left .., ?_⟩
      exact disp1 (n := n) rfl ⟨hb.same s1, wi.sp.same s1, wi.gd, wi.kO, hl, hh.2.1⟩ k1
  | _ => cases hk
end
end RB

namespace RB
open PySem PySem.Spec PyProof.Rows L2 He
def evR (L C : List Int) (p : Int) (O : List Int) (k : Nat) : List F → List Int → Wo
  | [], acc => cfB L C p k acc
  | f :: r, acc => (wof L C p O f).then fun v => evR L C p O k r (acc ++ [v])
def hands : F → List F
  | .call1 _ a => [a]
  | .call2 _ a b => [a, b]
  | _ => []
def cAt : F → Nat
  | .call1 k _ => k
  | .call2 k _ _ => k
  | _ => 0
theorem wof_call {L C : List Int} {p : Int} {O : List Int} {f : F} (h : kd f = 8) : wof L C p O f = evR L C p O (cAt f) (hands f) [] := by
  cases f with
  | call1 k a => rfl
  | call2 k a b => rfl
  | _ => cases h
def FsAt (K : PySem.W.Frag) (H : Hp) (ps : List Addr) (fs : List F) : Prop := ps.length = fs.length ∧ ∀ (i : Nat) (p : Addr) (f : F), ps[i]? = some p → fs[i]? = some f → FAt K H p f
theorem call_parts {K : PySem.W.Frag} {H : Hp} {a : Addr} {f : F} (h : kd f = 8) (hf : FAt K H a f) : ∃ dx l ps, H a = some (.ins (ga K "Call") dx (fsCall (.int (cAt f)) (.ref l))) ∧ H l = some (.lst (ps.map V.ref)) ∧ FsAt K H ps (hands f) := by
  cases f with
  | call1 k b =>
    obtain ⟨dx, l, p, h1, h2, h3⟩ := hf
    refine ⟨dx, l, [p], h1, h2, rfl, fun i q g e1 e2 => ?_⟩
    match i, e1, e2 with
    | 0, e1, e2 =>
      cases e1
      cases e2
      exact h3
    | i + 1, e1, e2 => simp at e1
  | call2 k b c =>
    obtain ⟨dx, l, p, q, h1, h2, h3, h4⟩ := hf
    refine ⟨dx, l, [p, q], h1, h2, rfl, fun i q' g e1 e2 => ?_⟩
    match i, e1, e2 with
    | 0, e1, e2 =>
      cases e1
      cases e2
      exact h3
    | 1, e1, e2 =>
      cases e1
      cases e2
      exact h4
    | i + 2, e1, e2 => simp at e1
  | _ => cases h
theorem call_fine {L : List Int} {m : Int} {k : Nat} {f : F} (h : kd f = 8) (hf : Fine L m k f) : (∀ g ∈ hands f, Fine L m k g) ∧ (cAt f = 0 ∧ (hands f).length = 1 ∨ cAt f = 1 ∧ (hands f).length = 2) := by
  cases f with
  | call1 k b =>
    obtain ⟨rfl, h1⟩ := hf
    exact ⟨fun g hg => by rw [List.mem_singleton.mp hg]; exact h1, .inl ⟨rfl, rfl⟩⟩
  | call2 k b c =>
    obtain ⟨rfl, h1, h2⟩ := hf
    refine ⟨fun g hg => ?_, .inr ⟨rfl, rfl⟩⟩
    rcases List.mem_cons.mp hg with e | hg
    · rw [e]
      exact h1
    · rw [List.mem_singleton.mp hg]
      exact h2
  | _ => cases h
theorem call_ht {f : F} {n : Nat} (h : kd f = 8) (hn : ht f ≤ n + 1) : (∀ g ∈ hands f, ht g ≤ n) ∧ 2 ≤ n := by
  cases f with
  | call1 k b =>
    simp only [ht] at hn
    exact ⟨fun g hg => by rw [List.mem_singleton.mp hg]; omega, by omega⟩
  | call2 k b c =>
    simp only [ht] at hn
    refine ⟨fun g hg => ?_, by omega⟩
    rcases List.mem_cons.mp hg with e | hg
    · rw [e]
      omega
    · rw [List.mem_singleton.mp hg]
      omega
  | _ => cases h
section
variable {P : Program} {w : World} {K : PySem.W.Frag} {mg : Str → Option Value} {base : Heap}
theorem ok_w8 (T : Txt K mg) (n : Nat) (M : MetW P w K mg base n) : FnOk P w K mg base (L2.CX P w) (n + 5) (ma K (ga K "Call") "worth") (fd_Call_worth K) p_Call_worth (spW K (n + 1) 8) := by
  refine T.f_Call_worth.ok sc_Call_worth spW_len (fun cdv A outer s0 H vs Q E hr h => ?_)
  obtain ⟨a, s, f, L, C, p, O, m, rfl, hk, wi, q⟩ := h
  obtain ⟨dx, l, ps, hH, hl, hps, hfs⟩ := call_parts hk wi.fa
  obtain ⟨hfi, hcl⟩ := call_fine hk wi.fi
  obtain ⟨hht, h2n⟩ := call_ht hk wi.hh
  rw [wof_call hk] at q
  have tk := takes_of (X := cxOf (L2.CX P w) P w K mg base n_Call_worth "Call.worth" (defScope s_Call_worth) (ma K (ga K "Call") "worth") cdv A outer s0 H E) (E := E) rfl rfl rfl rfl
  have hr2 : Room 2 _ := hr.mono (show 2 ≤ n + 4 by omega)
  refine ⟨_, (pss_cons (ps_set (i := 2) sc_Call_worth.nd rfl (.inl rfl) (pe_lst pa_nil))
      (pss_cons (ps_for (passes_of rfl) rfl (pi_list (pe_fld (pv 0) rfl)) (pg_name (i := 3) sc_Call_worth.nd rfl (.inl rfl)) (pss_one (ps_expr (pe_bm PySem.F.plainAttrs_list PySem.F.slot_list_append PySem.F.type_list_append mt_append (pv 2) (pa_cons (pe_disp (pv 3) M hr (passes_call tk fun _ _ _ _ h => h) (pa_cons (pv 1) pa_nil)) pa_nil)))))
      (pss_cons (ps_set (i := 4) sc_Call_worth.nd rfl (.inl rfl) (pe_ix ix_tup (pe_ix ix_list (pe_fld (pv 1) rfl) (pe_fld (pv 0) rfl) (fun _ _ => rfl)) pe_int (fun _ _ => rfl)))
      (pss_one (ps_ret (pe_disp (pv 4) M hr (passes_call tk fun _ _ _ _ h => h) (pa_cons (pe_new T.m_Spot (ok_Spot T) hr2 rfl T.g_Spot T.b_Spot_init .nil (pa_cons (pe_fld (pv 1) rfl) (pa_cons (pe_fld (pv 1) rfl) (pa_cons (pe_fld (pv 1) rfl) (pa_cons (pe_fld (pv 1) rfl) (pa_cons (pv 2) pa_nil)))))) pa_nil))))))), ?_⟩
  refine ⟨Nat.zero_le _, fun o no => ?_⟩
  have sm0 : Same H (upd H o (.lst [])) := Same.new no
  refine ⟨_, rfl, a, _, dx, _, _, rfl, sm0 _ _ hH, T.c_Call, T.n_Call_handed, l_Call_handed .., l, rfl, ⟨_, SqL.of (sm0 _ _ hl)⟩,
    for_list (K := K) (a := l) (xs := ps.map V.ref) (fun i σ H' => ∃ (acc : List Int) (v : Option V), σ = [some (.ref a), some (.ref s), some (.ref o), v, none] ∧ acc.length = i ∧ (∀ v ∈ acc, Kp v) ∧ Same H H' ∧ H' o = some (.lst (acc.map V.int)) ∧ WEnd K H Q E (evR L C p O (cAt f) ((hands f).drop i) acc))
      ⟨[], none, rfl, rfl, by simp, sm0, upd_same, q⟩ (fun i σ H' _ ⟨_, _, _, _, _, sm, _⟩ => SqL.of (sm _ _ hl)) ?_ ?_⟩
  · rintro i y σ H1 hi ⟨acc, v, rfl, hacc, hka, sm, ho, k⟩
    rw [List.getElem?_map] at hi
    cases hp : ps[i]? with
    | none =>
      rw [hp] at hi
      cases hi
    | some b =>
      rw [hp] at hi
      obtain rfl : V.ref b = y := Option.some.inj hi
      have hil : i < (hands f).length := by
        rw [← hps]
        exact (List.getElem?_eq_some_iff.mp hp).1
      have hg : (hands f)[i]? = some (hands f)[i] := List.getElem?_eq_getElem hil
      have hd : (hands f).drop i = (hands f)[i] :: (hands f).drop (i + 1) := List.drop_eq_getElem_cons hil
      rw [hd] at k
      have mem : (hands f)[i] ∈ hands f := List.getElem_mem hil
      refine ⟨_, rfl, .inl ⟨rfl, _, SqL.of ho⟩, ?_⟩
      refine ⟨_, rfl, ?_⟩
      refine disp1 (n := n) (f := (hands f)[i]) rfl ⟨(hfs i b _ hp hg).same sm, wi.sp.same sm, wi.gd, wi.kO, hfi _ mem, hht _ mem⟩ ?_
      refine WEnd.first (k := fun v => evR L C p O (cAt f) ((hands f).drop (i + 1)) (acc ++ [v])) (k.at_ sm) fun v1 H2 e1 s2 k1 => ?_
      have ho2 := s2 _ _ ho
      have small : (acc.map V.int).length < sizeLine := by
        rw [List.length_map, hacc, sizeLine_eq]
        rcases hcl with ⟨_, z⟩ | ⟨_, z⟩ <;> omega
      refine ⟨o, acc.map V.int, .int v1, rfl, rfl, ho2, small, acc ++ [v1], _, rfl, by simp [hacc], ?_, ?_, by rw [upd_same, List.map_append]; rfl, ?_⟩
      · intro x hx
        rcases List.mem_append.mp hx with hx | hx
        · exact hka x hx
        · rw [List.mem_singleton.mp hx]
          exact wof_kp wi.gd wi.kO (hfi _ mem) e1
      · intro c u e
        rw [upd_ne (ne_of_none e no)]
        exact s2 _ _ (sm _ _ e)
      · have e1' : wof L C p O (hands f)[i] = .ok v1 := e1
        show WEnd K H Q E (evR L C p O (cAt f) ((hands f).drop (i + 1)) (acc ++ [v1]))
        unfold evR at k
        rw [e1'] at k
        exact k
  · rintro σ H1 ⟨acc, v, rfl, hacc, hka, sm, ho, k⟩
    have e0 : (hands f).drop (ps.map V.ref).length = [] := by
      rw [List.length_map, hps]
      exact List.drop_length
    rw [e0] at k
    have hacc2 : acc.length = (hands f).length := by rw [hacc, List.length_map, hps]
    have sp1 := wi.sp.same sm
    obtain ⟨dy, l', fl, c, o', h1, h2, h3, h4, h5⟩ := sp1.ex
    obtain ⟨t0, t1, b0, b1, g1, g2, g3, g4, g5⟩ := h3.ex
    have hH1 := sm _ _ hH
    have pick : ∃ (j : Nat) (t b : Addr) (z : Int), cAt f = j ∧ acc.length = j + 1 ∧ ([V.ref t0, V.ref t1] : List V)[j]? = some (.ref t) ∧ H1 t = some (.tup [.int z, .ref b]) ∧ FAt K H1 b (bod j) ∧ Fine L m (j + 1) (bod j) := by
      rcases hcl with ⟨c1, c2⟩ | ⟨c1, c2⟩
      · exact ⟨0, t0, b0, 1, c1, by omega, rfl, g2, g4, fine_bod0 L m⟩
      · exact ⟨1, t1, b1, 2, c1, by omega, rfl, g3, g5, fine_bod1 L m⟩
    obtain ⟨j, t, b, z, ej, ea, et, hT, hF, hfb⟩ := pick
    refine ⟨_, rfl, s, _, dy, _, _, rfl, h1, T.c_Spot, T.n_Spot_functions, l_Spot_functions .., _, rfl, a, _, dx, _, _, rfl, hH1, T.c_Call, T.n_Call_at, l_Call_at .., fl, _, _, _, rfl, rfl, SqL.of g1, atI_nat (by rw [ej]; exact et),
      t, _, _, _, rfl, rfl, SqT.of hT, atI_nat (j := 1) rfl, _, rfl, ?_⟩
    obtain ⟨db, fs, eb, lb⟩ := fat_ins hF
    refine ⟨b, _, db, fs, _, rfl, eb, lb, ⟨kd (bod j), kd_le _, rfl, rfl⟩, ?_⟩
    refine ⟨_, rfl, s, _, dy, _, _, rfl, h1, T.c_Spot, T.n_Spot_lengths, l_Spot_lengths .., _, rfl, s, _, dy, _, _, rfl, h1, T.c_Spot, T.n_Spot_functions, l_Spot_functions .., _, rfl, s, _, dy, _, _, rfl, h1, T.c_Spot, T.n_Spot_cells, l_Spot_cells .., _, rfl, s, _, dy, _, _, rfl, h1, T.c_Spot, T.n_Spot_place, l_Spot_place .., _, rfl, rfl, fun x dx' H2 s2 nx hx => ?_⟩
    have sm2 := sm.trans s2
    refine ⟨b, x, bod j, L, C, p, acc, m, rfl, rfl, ⟨hF.same s2, ⟨dx', l', fl, c, o, hx, h2.same s2, ⟨⟨t0, t1, b0, b1, s2 _ _ g1, s2 _ _ g2, s2 _ _ g3, g4.same s2, g5.same s2⟩⟩, h4.same s2, s2 _ _ ho⟩, wi.gd, hka, by rw [ea]; exact hfb, by rw [ht_bod]; exact h2n⟩, ?_⟩
    rw [wof_bod, ← ej]
    exact k.at_ sm2
theorem met_w (T : Txt K mg) : ∀ n, MetW P w K mg base n := by
  have none8 : ∀ {c : Nat} {f : Addr} {fd : FuncData} (l : Nat), 5 ≤ c → FnOk P w K mg base (L2.CX P w) l f fd ["self", "spot"] (spW K 0 c) := fun {c f fd} l hc => by
    have no : ∀ vs H Q E, ¬ spW K 0 c vs H Q E := by
      rintro vs H Q E ⟨a, s, g, L, C, p, O, m, _, hk, wi, _⟩
      have z := wi.hh
      cases g <;> simp only [kd, ht] at hk z <;> omega
    exact ⟨fun vs H Q E h => absurd h (no vs H Q E), fun A outer s H args us vs Q E _ _ _ _ h => absurd h (no vs H Q E)⟩
  intro n
  induction n with
  | zero =>
    rintro C sp ⟨c, hc, rfl, rfl⟩
    match c, hc with
    | 0, _ => exact ⟨T.c_Number, _, _, _, T.w_Number_worth, (ok_w0 T 0).mono (by decide), T.b_Number_worth⟩
    | 1, _ => exact ⟨T.c_Here, _, _, _, T.w_Here_worth, (ok_w1 T 0).mono (by decide), T.b_Here_worth⟩
    | 2, _ => exact ⟨T.c_Cell, _, _, _, T.w_Cell_worth, (ok_w2 T 0).mono (by decide), T.b_Cell_worth⟩
    | 3, _ => exact ⟨T.c_Shifted, _, _, _, T.w_Shifted_worth, (ok_w3 T 0).mono (by decide), T.b_Shifted_worth⟩
    | 4, _ => exact ⟨T.c_Local, _, _, _, T.w_Local_worth, (ok_w4 T 0).mono (by decide), T.b_Local_worth⟩
    | 5, _ => exact ⟨T.c_At, _, _, _, T.w_At_worth, none8 _ (by decide), T.b_At_worth⟩
    | 6, _ => exact ⟨T.c_Pair, _, _, _, T.w_Pair_worth, none8 _ (by decide), T.b_Pair_worth⟩
    | 7, _ => exact ⟨T.c_Choice, _, _, _, T.w_Choice_worth, none8 _ (by decide), T.b_Choice_worth⟩
    | 8, _ => exact ⟨T.c_Call, _, _, _, T.w_Call_worth, none8 _ (by decide), T.b_Call_worth⟩
  | succ n ih =>
    rintro C sp ⟨c, hc, rfl, rfl⟩
    match c, hc with
    | 0, _ => exact ⟨T.c_Number, _, _, _, T.w_Number_worth, (ok_w0 T (n + 1)).mono (by omega), T.b_Number_worth⟩
    | 1, _ => exact ⟨T.c_Here, _, _, _, T.w_Here_worth, (ok_w1 T (n + 1)).mono (by omega), T.b_Here_worth⟩
    | 2, _ => exact ⟨T.c_Cell, _, _, _, T.w_Cell_worth, (ok_w2 T (n + 1)).mono (by omega), T.b_Cell_worth⟩
    | 3, _ => exact ⟨T.c_Shifted, _, _, _, T.w_Shifted_worth, (ok_w3 T (n + 1)).mono (by omega), T.b_Shifted_worth⟩
    | 4, _ => exact ⟨T.c_Local, _, _, _, T.w_Local_worth, (ok_w4 T (n + 1)).mono (by omega), T.b_Local_worth⟩
    | 5, _ => exact ⟨T.c_At, _, _, _, T.w_At_worth, (ok_w5 T n ih).mono (by omega), T.b_At_worth⟩
    | 6, _ => exact ⟨T.c_Pair, _, _, _, T.w_Pair_worth, (ok_w6 T n ih).mono (by omega), T.b_Pair_worth⟩
    | 7, _ => exact ⟨T.c_Choice, _, _, _, T.w_Choice_worth, (ok_w7 T n ih).mono (by omega), T.b_Choice_worth⟩
    | 8, _ => exact ⟨T.c_Call, _, _, _, T.w_Call_worth, (ok_w8 T n ih).mono (by omega), T.b_Call_worth⟩
end
end RB

namespace RB
open PySem PySem.Spec PyProof.Rows L2 He
section
variable {K : PySem.W.Frag} {mg : Str → Option Value}
theorem Txt.clsO_ (T : Txt K mg) : PySem.W.specialIn K (.builtin "object.__class__") "__get__" = some (some (.builtin "getset_descriptor.__get__")) ∧ PySem.W.takesIn K (.builtin "object.__class__") = some true := by
  obtain ⟨a, b⟩ := ba (T.ex_ 0 rfl)
  exact ⟨eqO_ok a, of_decide_eq_true b⟩
theorem insF_ok {x : Str} (h : insF K x = true) : PySem.W.findIn K (.ref (ga K x)) "__class__" = some (some (.builtin "object.__class__")) ∧ PySem.W.mroIn K (ga K x) (.type "object") = some true := by
  obtain ⟨a, b⟩ := ba h
  exact ⟨eqO_ok a, of_decide_eq_true b⟩
theorem Txt.ty (T : Txt K mg) {x : Str} (h : insF K x = true) (c : Cls K (ga K x)) {H : Hp} {a dx : Addr} {fs : List (Str × V)} (e : H a = some (.ins (ga K x) dx fs)) : TyX K H (.ref a) (.ref (ga K x)) := by
  obtain ⟨h1, h2⟩ := insF_ok h
  obtain ⟨h3, h4⟩ := T.clsO_
  exact .base (.ins e c h1 h3 h4 h2)
theorem kitF_ok {x y : Str} {b : Bool} (h : kitF K x y b = true) : PySem.W.kitOne K (.ref (ga K x)) (.ref (ga K y)) = some b := of_decide_eq_true h
theorem oex_ok {x : Str} (h : oexF K x = true) : OexC K (ga K x) := by
  unfold oexF at h
  obtain ⟨h0, h⟩ := ba h
  obtain ⟨h1, h⟩ := ba h
  obtain ⟨h2, h⟩ := ba h
  obtain ⟨h3, h4⟩ := ba h
  refine ⟨?_, eqO_ok h1, of_decide_eq_true h2, of_decide_eq_true h3, h4⟩
  split at h0
  · rename_i od cd osl e
    obtain ⟨nm', bs, mro, ns, qn, hd, sn, sb, ab, col, dl⟩ := cd
    obtain ⟨u1, h0⟩ := ba h0
    obtain ⟨u2, h0⟩ := ba h0
    obtain ⟨u3, u4⟩ := ba h0
    have v1 : dl = false := of_decide_eq_true u1
    have v2 : hd = true := of_decide_eq_true u2
    subst v1 v2
    split at u3
    · rename_i C' bm em
      obtain ⟨w1, w2⟩ := ba u3
      have w1' : C' = ga K x := of_decide_eq_true w1
      have em' : mro = .ref C' :: bm := em
      subst em'
      subst w1'
      split at u4
      · rename_i k0 k1 k2 k3 nn k5 hs
        have w3 : nn = "ValueError.__new__" := of_decide_eq_true u4
        subst w3
        have hsl : osl = #[k0, k1, k2, k3, some (.builtin "ValueError.__new__"), k5] := by
          obtain ⟨l⟩ := osl
          simp only at hs
          rw [hs]
        subst hsl
        exact ⟨nm', qn, ns, bs, bm, sn, sb, ab, col, od, k0, k1, k2, k3, k5, e, w2⟩
      · cases u4
    · cases u3
  · cases h0
theorem Txt.oex (T : Txt K mg) : OexC K (ga K "Stopped") := oex_ok (T.ex_ 6 rfl)
theorem fnF_ok {x m : Str} (h : fnF K x m = true) : PySem.W.findIn K (.ref (ga K x)) m = some (some (.ref (ma K (ga K x) m))) ∧ PySem.W.typeIn K (.ref (ma K (ga K x) m)) = some (.type "function") ∧ PySem.W.keepIn K (.ref (ma K (ga K x) m)) = true := by
  obtain ⟨a, h⟩ := ba h
  obtain ⟨b, c⟩ := ba h
  exact ⟨eqO_ok a, beq_iff_eq.mp b, c⟩
theorem nofF_ok {x f : Str} (h : nofF K x f = true) : PySem.W.findIn K (.ref (ga K x)) f = some none := eqO_ok h
theorem Txt.cfn (T : Txt K mg) : CFn K (ga K "Step") "__init__" (ma K (ga K "Step") "__init__") := by
  have h := T.ex_ 11 rfl
  unfold cinF at h
  obtain ⟨a, h⟩ := ba h
  obtain ⟨b, c⟩ := ba h
  refine ⟨a, eqO_ok b, ?_, (fnF_ok (T.ex_ 12 rfl)).2.2⟩
  split at c
  · rename_i v e
    rw [e, of_decide_eq_true c]
  · cases c
theorem Txt.mk0 (T : Txt K mg) : Mk0 K (ga K "Here") := by
  have h := T.ex_ 13 rfl
  unfold mk0F at h
  obtain ⟨a, h⟩ := ba h
  obtain ⟨b, c⟩ := ba h
  exact ⟨a, eqO_ok b, c⟩
end
def gFold : List V → List (Str × V)
  | [a, b, c, d, e] => fsFold a b c d e
  | _ => []
def gRunning : List V → List (Str × V)
  | [a, b, c, e] => fsRunning a b c e
  | _ => []
def SameX (p : Addr) (H H' : Hp) : Prop := ∀ b o, H b = some o → b ≠ p → H' b = some o
def spStepI (K : PySem.W.Frag) : Sp := fun vs H Q _ => ∃ p x C dx, vs = [.ref p, x] ∧ (C = ga K "Fold" ∨ C = ga K "Running") ∧ H p = some (.ins C dx []) ∧ Q .non (upd H p (.ins C dx [("target", x)]))
def spCallI (K : PySem.W.Frag) : Sp := fun vs H Q _ => ∃ p dx x h xs, vs = [.ref p, x, .ref h] ∧ H p = some (.ins (ga K "Call") dx []) ∧ H h = some (.lst xs) ∧
  ∀ H' l, SameX p H H' → H' p = some (.ins (ga K "Call") dx (fsCall x (.ref l))) → H' l = some (.lst xs) → Q .non H'
def spProgI (K : PySem.W.Frag) : Sp := fun vs H Q _ => ∃ p dx a b c xs ys zs, vs = [.ref p, .ref a, .ref b, .ref c] ∧ H p = some (.ins (ga K "Program") dx []) ∧ H a = some (.lst xs) ∧ H b = some (.lst ys) ∧ H c = some (.lst zs) ∧
  ∀ H' l m n, SameX p H H' → H' p = some (.ins (ga K "Program") dx (fsProgram (.ref l) (.ref m) (.ref n))) → H' l = some (.lst xs) → H' m = some (.lst ys) → H' n = some (.lst zs) → Q .non H'
def fsStop (st pl kn : V) : List (Str × V) := [("kind", kn), ("place", pl), ("step", st)]
def spStopI (K : PySem.W.Frag) : Sp := fun vs H Q _ => ∃ a x y z, vs = [.ref a, x, y, z] ∧ H a = some (exo a (ga K "Stopped") none) ∧
  ∀ H' d, H d = none → d ≠ a → H' a = some (exo a (ga K "Stopped") (some d)) → H' d = some (exd d (fsStop x y z)) → (∀ b, b ≠ a → b ≠ d → H' b = H b) → Q .non H'
section
variable {P : Program} {w : World} {K : PySem.W.Frag} {mg : Str → Option Value} {base : Heap}
theorem ok_StepI (T : Txt K mg) : FnOk P w K mg base CX0 1 (ma K (ga K "Step") "__init__") (fd_Step_init K) p_Step_init (spStepI K) := by
  refine T.f_Step_init.ok sc_Step_init (fun vs H Q E h => ?_) (fun cdv A outer s H vs Q E hr h => ?_)
  · obtain ⟨_, _, _, _, rfl, _⟩ := h
    rfl
  · obtain ⟨p, x, C, dx, rfl, hC, hp, k⟩ := h
    refine ⟨_, PSs.nox (pss_one (ps_fld (pv 0) (pv 1) rfl)), ?_⟩
    rcases hC with rfl | rfl
    · exact ⟨_, rfl, _, rfl, p, _, dx, _, rfl, hp, T.c_Fold, T.n_Fold_target, (by show 0 < 1000; decide), k⟩
    · exact ⟨_, rfl, _, rfl, p, _, dx, _, rfl, hp, T.c_Running, T.n_Running_target, (by show 0 < 1000; decide), k⟩
theorem ok_Fold (T : Txt K mg) : FnOk P w K mg base CX0 2 (ma K (ga K "Fold") "__init__") (fd_Fold_init K) p_Fold_init (spIni (ga K "Fold") 5 gFold) := by
  refine T.f_Fold_init.ok sc_Fold_init (fun vs H Q E h => ?_) (fun cdv A outer s H vs Q E hr h => ?_)
  · obtain ⟨p, dx, ws, rfl, hl, _⟩ := h
    exact congrArg Nat.succ hl
  · obtain ⟨p, dx, ws, rfl, hl, hp, k⟩ := h
    match ws, hl with
    | [a, b, c, d, e], _ =>
      refine ⟨_, PSs.nox (pss_cons (ps_expr (pe_cfn T.cfn (ok_StepI T) hr T.b_Step_init pass0 rfl T.g_Step (pa_cons (pv 0) (pa_cons (pv 1) pa_nil))))
      (pss_cons (ps_fld (pv 0) (pv 2) rfl)
      (pss_cons (ps_fld (pv 0) (pv 3) rfl)
      (pss_cons (ps_fld (pv 0) (pv 4) rfl)
      (pss_one (ps_fld (pv 0) (pv 5) rfl)))))), ?_⟩
      refine ⟨_, rfl, _, rfl, p, a, _, dx, rfl, .inl rfl, hp, _, rfl, _, rfl, p, _, dx, _, rfl, upd_same, T.c_Fold, T.n_Fold_fold, (by show 1 < 1000; decide),
        _, rfl, _, rfl, p, _, dx, _, rfl, upd_same, T.c_Fold, T.n_Fold_value, (by show 2 < 1000; decide), _, rfl, _, rfl, p, _, dx, _, rfl, upd_same, T.c_Fold, T.n_Fold_many, (by show 3 < 1000; decide), _, rfl, _, rfl, p, _, dx, _, rfl, upd_same, T.c_Fold, T.n_Fold_test, (by show 4 < 1000; decide), ?_⟩
      rw [upd_upd, upd_upd, upd_upd, upd_upd, put_Fold]
      exact k
theorem ok_Running (T : Txt K mg) : FnOk P w K mg base CX0 2 (ma K (ga K "Running") "__init__") (fd_Running_init K) p_Running_init (spIni (ga K "Running") 4 gRunning) := by
  refine T.f_Running_init.ok sc_Running_init (fun vs H Q E h => ?_) (fun cdv A outer s H vs Q E hr h => ?_)
  · obtain ⟨p, dx, ws, rfl, hl, _⟩ := h
    exact congrArg Nat.succ hl
  · obtain ⟨p, dx, ws, rfl, hl, hp, k⟩ := h
    match ws, hl with
    | [a, b, c, e], _ =>
      refine ⟨_, PSs.nox (pss_cons (ps_expr (pe_cfn T.cfn (ok_StepI T) hr T.b_Step_init pass0 rfl T.g_Step (pa_cons (pv 0) (pa_cons (pv 1) pa_nil))))
      (pss_cons (ps_fld (pv 0) (pv 2) rfl)
      (pss_cons (ps_fld (pv 0) (pv 3) rfl)
      (pss_one (ps_fld (pv 0) (pv 4) rfl))))), ?_⟩
      refine ⟨_, rfl, _, rfl, p, a, _, dx, rfl, .inr rfl, hp, _, rfl, _, rfl, p, _, dx, _, rfl, upd_same, T.c_Running, T.n_Running_fold, (by show 1 < 1000; decide),
        _, rfl, _, rfl, p, _, dx, _, rfl, upd_same, T.c_Running, T.n_Running_value, (by show 2 < 1000; decide), _, rfl, _, rfl, p, _, dx, _, rfl, upd_same, T.c_Running, T.n_Running_test, (by show 3 < 1000; decide), ?_⟩
      rw [upd_upd, upd_upd, upd_upd, put_Running]
      exact k
theorem ok_CallI (T : Txt K mg) : FnOk P w K mg base CX0 1 (ma K (ga K "Call") "__init__") (fd_Call_init K) p_Call_init (spCallI K) := by
  refine T.f_Call_init.ok sc_Call_init (fun vs H Q E h => ?_) (fun cdv A outer s H vs Q E hr h => ?_)
  · obtain ⟨_, _, _, _, _, rfl, _⟩ := h
    rfl
  · obtain ⟨p, dx, x, h, xs, rfl, hp, hh, k⟩ := h
    refine ⟨_, PSs.nox (pss_cons (ps_fld (pv 0) (pv 1) rfl)
      (pss_one (ps_fld (pv 0) (pe_callTy call_list_of (by rfl) T.z_list (by decide +kernel) (pa_cons (pv 2) pa_nil)) rfl))), ?_⟩
    have nph : h ≠ p := ne_of hh hp (by intro q; cases q)
    refine ⟨_, rfl, _, rfl, p, _, dx, _, rfl, hp, T.c_Call, T.n_Call_at, (by show 0 < 1000; decide), _, rfl, h, xs, rfl, .inl (SqL.of ((upd_ne nph).trans hh)), fun l nl => ?_⟩
    have npl : p ≠ l := by
      rintro rfl
      rw [upd_same] at nl
      cases nl
    have nl0 : H l = none := by rw [upd_ne npl.symm] at nl; exact nl
    refine ⟨_, rfl, p, _, dx, _, rfl, (upd_ne npl).trans upd_same, T.c_Call, T.n_Call_handed, (by show 1 < 1000; decide), ?_⟩
    rw [put_Call]
    exact k _ l (fun b o e nb => by rw [upd_ne nb, upd_ne (ne_of_none e nl0), upd_ne nb]; exact e) upd_same (by rw [upd_ne npl.symm, upd_same])
theorem ok_ProgI (T : Txt K mg) : FnOk P w K mg base CX0 1 (ma K (ga K "Program") "__init__") (fd_Program_init K) p_Program_init (spProgI K) := by
  refine T.f_Program_init.ok sc_Program_init (fun vs H Q E h => ?_) (fun cdv A outer s H vs Q E hr h => ?_)
  · obtain ⟨_, _, _, _, _, _, _, _, rfl, _⟩ := h
    rfl
  · obtain ⟨p, dx, a, b, c, xs, ys, zs, rfl, hp, ha, hb, hc, k⟩ := h
    refine ⟨_, PSs.nox (pss_cons (ps_fld (pv 0) (pe_callTy call_list_of (by rfl) T.z_list (by decide +kernel) (pa_cons (pv 1) pa_nil)) rfl)
      (pss_cons (ps_fld (pv 0) (pe_callTy call_list_of (by rfl) T.z_list (by decide +kernel) (pa_cons (pv 2) pa_nil)) rfl)
      (pss_one (ps_fld (pv 0) (pe_callTy call_list_of (by rfl) T.z_list (by decide +kernel) (pa_cons (pv 3) pa_nil)) rfl)))), ?_⟩
    have npa : a ≠ p := ne_of ha hp (by intro q; cases q)
    have npb : b ≠ p := ne_of hb hp (by intro q; cases q)
    have npc : c ≠ p := ne_of hc hp (by intro q; cases q)
    refine ⟨_, rfl, a, xs, rfl, .inl (SqL.of ha), fun l nl => ?_⟩
    have npl : p ≠ l := ne_of_none hp nl
    have s1 : SameX p H (upd (upd H l (.lst xs)) p (.ins (ga K "Program") dx (putF "lengths" (.ref l) []))) := fun q o e nq => by rw [upd_ne nq, upd_ne (ne_of_none e nl)]; exact e
    refine ⟨_, rfl, p, _, dx, _, rfl, (upd_ne npl).trans hp, T.c_Program, T.n_Program_lengths, (by show 0 < 1000; decide), ?_⟩
    refine ⟨_, rfl, b, ys, rfl, .inl (SqL.of (s1 _ _ hb npb)), fun m nm => ?_⟩
    have npm : p ≠ m := by
      rintro rfl
      rw [upd_same] at nm
      cases nm
    have nlm : l ≠ m := by
      rintro rfl
      rw [upd_ne npl.symm, upd_same] at nm
      cases nm
    refine ⟨_, rfl, p, _, dx, _, rfl, (upd_ne npm).trans upd_same, T.c_Program, T.n_Program_functions, (by show 1 < 1000; decide), ?_⟩
    have s2 : ∀ q o, (upd (upd H l (.lst xs)) p (.ins (ga K "Program") dx (putF "lengths" (.ref l) []))) q = some o → q ≠ p → upd (upd (upd (upd H l (.lst xs)) p (.ins (ga K "Program") dx (putF "lengths" (.ref l) []))) m (.lst ys)) p (.ins (ga K "Program") dx (putF "functions" (.ref m) (putF "lengths" (.ref l) []))) q = some o := fun q o e nq => by rw [upd_ne nq, upd_ne (ne_of_none e nm)]; exact e
    refine ⟨_, rfl, c, zs, rfl, .inl (SqL.of (s2 _ _ (s1 _ _ hc npc) npc)), fun n nn => ?_⟩
    have npn : p ≠ n := by
      rintro rfl
      rw [upd_same] at nn
      cases nn
    refine ⟨_, rfl, p, _, dx, _, rfl, (upd_ne npn).trans upd_same, T.c_Program, T.n_Program_steps, (by show 2 < 1000; decide), ?_⟩
    rw [put_Program]
    have s3 : ∀ q o, _ = some o → q ≠ p → upd (upd (upd (upd (upd (upd H l (.lst xs)) p (.ins (ga K "Program") dx (putF "lengths" (.ref l) []))) m (.lst ys)) p (.ins (ga K "Program") dx (putF "functions" (.ref m) (putF "lengths" (.ref l) [])))) n (.lst zs)) p (.ins (ga K "Program") dx (fsProgram (.ref l) (.ref m) (.ref n))) q = some o := fun q o e nq => by rw [upd_ne nq, upd_ne (ne_of_none e nn)]; exact e
    refine k _ l m n (fun q o e nq => s3 q o (s2 q o (s1 q o e nq) nq) nq) upd_same (s3 l _ (s2 l _ ?_ npl.symm) npl.symm) (s3 m _ ?_ npm.symm) (by rw [upd_ne npn.symm, upd_same])
    · rw [upd_ne npl.symm, upd_same]
    · rw [upd_ne npm.symm, upd_same]
theorem ok_StopI (T : Txt K mg) : FnOk P w K mg base CX0 1 (ma K (ga K "Stopped") "__init__") (fd_Stopped_init K) p_Stopped_init (spStopI K) := by
  refine T.f_Stopped_init.ok sc_Stopped_init (fun vs H Q E h => ?_) (fun cdv A outer s H vs Q E hr h => ?_)
  · obtain ⟨_, _, _, _, rfl, _⟩ := h
    rfl
  · obtain ⟨a, x, y, z, rfl, ha, k⟩ := h
    refine ⟨_, PSs.nox (pss_cons (ps_ost (pv 0) (pv 1))
      (pss_cons (ps_ost (pv 0) (pv 2))
      (pss_one (ps_ost (pv 0) (pv 3))))), ?_⟩
    refine ⟨_, rfl, _, rfl, a, _, rfl, T.oex, nofF_ok (T.ex_ 8 rfl), .inl ⟨ha, fun d nd nda => ?_⟩⟩
    refine ⟨_, rfl, _, rfl, a, _, rfl, T.oex, nofF_ok (T.ex_ 9 rfl), .inr ⟨d, _, upd_same, (upd_ne nda).trans upd_same, (by show 1 ≤ 900; decide), ?_⟩⟩
    refine ⟨_, rfl, _, rfl, a, _, rfl, T.oex, nofF_ok (T.ex_ 10 rfl), .inr ⟨d, _, (upd_ne nda.symm).trans upd_same, upd_same, (by show 2 ≤ 900; decide), ?_⟩⟩
    exact k _ d nd nda (by rw [upd_ne nda.symm, upd_ne nda.symm, upd_same]) upd_same fun b h1 h2 => by rw [upd_ne h2, upd_ne h2, upd_ne h1, upd_ne h2]
end
end RB

namespace RB
open PySem PySem.Spec PyProof.Rows L2 He
def tDispS (Ok : Addr → Sp → Prop) (m : Str) (E : L2.St → XK) (ta : TE) (t : TA) : TE := fun σ H Q => ta σ H fun x H1 => ∃ a C dx fs sp, x = .ref a ∧ H1 a = some (.ins C dx fs) ∧ fs.lookup m = none ∧ Ok C sp ∧ t σ H1 fun vs H2 => sp (x :: vs) H2 Q (E σ)
theorem pe_dispS {X : Cx} {cx : CXT} {k : Nat} {E : L2.St → XK} {m : Str} {pos apos : Pos} {e o : Expr} {es : List Expr} {ta : TE} {t : TA} {Ok : Addr → Sp → Prop} {pl : Sem Bool} (he : PE X o ta) (hok : ∀ C sp, Ok C sp → MetOk X.prog X.w X.K X.mg X.base cx k m C sp) (hr : Room k X.A) (hx : ∀ σ, PassesAt cx X σ (E σ)) (ha : PA X (e :: es) t)
    (hst : starEach (e :: es) X.env = (false, eval e X.env) :: starEach es X.env := by rfl) (hpl : (backTo pos (starEach es X.env)).any (·.1) = false := by rfl)
    (ht : eval (.Call (.Attribute o m apos) (e :: es) [] pos) X.env = (do
      let ov ← eval o X.env
      standAt apos.atName
      let (f, first) ← holding [ov] (getMethod ov m pl)
      callWith pos f first (backTo pos (starEach (e :: es) X.env)) (backToKw pos (keywordEach [] X.env))) := by rfl) :
    PE X (.Call (.Attribute o m apos) (e :: es) [] pos) (tDispS Ok m E ta t) := by
  constructor
  intro pins s σ H Q I h
  apply PySem.W.methodCall_KW (pl := pl) _ ht
  apply thn (he.run pins s σ H _ I h)
  rintro u s1 ⟨x, H1, I1, rx, a, C, dx, fs, sp, ex, ea, l, q0, q⟩
  subst ex
  obtain rfl : u = Value.ref a := rx
  obtain ⟨f, fd, ps, hm, F, hb⟩ := (hok C sp q0).ex
  apply getmeth_ok I1 ea (hok C sp q0).cl hm l
  apply PySem.W.callWith_K (first := [.ref a]) (h₀ := X.base) I.ok.mod.kin hm.kp _ hst hpl
  apply thn (ha.run pos pins s1 σ H1 _ I1 q)
  rintro us s2 ⟨vs, H2, I2, r, q2⟩
  exact ⟨I2.kIn, run_fnS (us := .ref a :: us) (vs := .ref a :: vs) F hr hb (hx σ) I2 (.cons rfl r) q2⟩
structure Sd where
  isF : Bool
  tg : Nat
  fo : Str
  val : F
  many : Int
  test : Option F
def TAt (K : PySem.W.Frag) (H : Hp) (v : V) : Option F → Prop
  | none => v = .non
  | some f => ∃ p, v = .ref p ∧ FAt K H p f
theorem TAt.same {K : PySem.W.Frag} {H H' : Hp} {v : V} {o : Option F} (s : Same H H') (h : TAt K H v o) : TAt K H' v o := by
  cases o with
  | none => exact h
  | some f =>
    obtain ⟨p, e, h⟩ := h
    exact ⟨p, e, h.same s⟩
def StepAt (K : PySem.W.Frag) (H : Hp) (a : Addr) (d : Sd) : Prop := ∃ dx v tv, FAt K H v d.val ∧ TAt K H tv d.test ∧
  H a = some (match d.isF with
    | true => .ins (ga K "Fold") dx (fsFold (.int d.tg) (.str d.fo) (.ref v) (.int d.many) tv)
    | false => .ins (ga K "Running") dx (fsRunning (.int d.tg) (.str d.fo) (.ref v) tv))
theorem StepAt.same {K : PySem.W.Frag} {H H' : Hp} {a : Addr} {d : Sd} (s : Same H H') (h : StepAt K H a d) : StepAt K H' a d := by
  obtain ⟨dx, v, tv, h1, h2, h3⟩ := h
  exact ⟨dx, v, tv, h1.same s, h2.same s, s _ _ h3⟩
structure StF (K : PySem.W.Frag) (H : Hp) (a : Addr) (d : Sd) (C dx : Addr) (fs : List (Str × V)) (v : Addr) (tv : V) : Prop where
  at_ : H a = some (.ins C dx fs)
  cl : Cls K C
  n1 : NoAttr K C "target"
  n2 : NoAttr K C "fold"
  n3 : NoAttr K C "value"
  n4 : NoAttr K C "test"
  l1 : fs.lookup ("target" : Str) = some (.int d.tg)
  l2 : fs.lookup ("fold" : Str) = some (.str d.fo)
  l3 : fs.lookup ("value" : Str) = some (.ref v)
  l4 : fs.lookup ("test" : Str) = some tv
  f1 : FAt K H v d.val
  f2 : TAt K H tv d.test
theorem StepAt.read {K : PySem.W.Frag} {mg : Str → Option Value} (T : Txt K mg) {H : Hp} {a : Addr} {d : Sd} (h : StepAt K H a d) : ∃ C dx fs v tv, StF K H a d C dx fs v tv := by
  obtain ⟨dx, v, tv, h1, h2, h3⟩ := h
  cases e : d.isF with
  | true =>
    rw [e] at h3
    exact ⟨_, dx, _, v, tv, h3, T.c_Fold, T.n_Fold_target, T.n_Fold_fold, T.n_Fold_value, T.n_Fold_test, l_Fold_target .., l_Fold_fold .., l_Fold_value .., l_Fold_test .., h1, h2⟩
  | false =>
    rw [e] at h3
    exact ⟨_, dx, _, v, tv, h3, T.c_Running, T.n_Running_target, T.n_Running_fold, T.n_Running_value, T.n_Running_test, l_Running_target .., l_Running_fold .., l_Running_value .., l_Running_test .., h1, h2⟩
def SEnd (K : PySem.W.Frag) (H : Hp) (Q : VK) (E : XK) (num p : Int) : Wo → Prop
  | .ok v => ∀ H', Same H H' → Q (.int v) H'
  | .nought => ∀ H' d, Same H H' → H' d = some (.xd (fsStop (.int num) (.int p) (.str "nought"))) → E (.ref (ga K "Stopped")) (some d) H'
  | .outside => ∀ H' d, Same H H' → H' d = some (.xd (fsStop (.int num) (.int p) (.str "outside"))) → E (.ref (ga K "Stopped")) (some d) H'
theorem SEnd.at_ {K : PySem.W.Frag} {H H1 : Hp} {Q : VK} {E : XK} {num p : Int} {w : Wo} (h : SEnd K H Q E num p w) (s : Same H H1) : SEnd K H1 Q E num p w := by
  cases w with
  | ok v => exact fun H' s' => h H' (s.trans s')
  | nought => exact fun H' d s' => h H' d (s.trans s')
  | outside => exact fun H' d s' => h H' d (s.trans s')
theorem SEnd.imp {K : PySem.W.Frag} {H : Hp} {Q Q' : VK} {E : XK} {num p : Int} {w : Wo} (h : SEnd K H Q E num p w) (g : ∀ v H', w = .ok v → Same H H' → Q (.int v) H' → Q' (.int v) H') : SEnd K H Q' E num p w := by
  cases w with
  | ok v => exact fun H' s' => g v H' rfl s' (h H' s')
  | nought => exact h
  | outside => exact h
def spAsk (K : PySem.W.Frag) (n : Nat) : Sp := fun vs H Q E => ∃ a s f L C p O m num, vs = [.ref a, .ref s, .int num] ∧ WIn K H n a s f L C p O m ∧ SEnd K H Q E num p (wof L C p O f)
def tW (L C : List Int) (p : Int) : Option F → Wo
  | none => .ok 1
  | some f => wof L C p [] f
def TIn (K : PySem.W.Frag) (H : Hp) (n : Nat) (s : Addr) (o : Option F) (L C : List Int) (p m : Int) : Prop := SpAt K H s L C p [] ∧ Gd L C p m ∧ ∀ f, o = some f → Fine L m 0 f ∧ ht f ≤ n
def spPass (K : PySem.W.Frag) (n : Nat) : Sp := fun vs H Q E => ∃ a s d L C p m num, vs = [.ref a, .ref s, .int num] ∧ StepAt K H a d ∧ TIn K H n s d.test L C p m ∧ SEnd K H (fun v H' => ∃ i, v = .int i ∧ Q (.bl (decide (i = 0))) H') E num p (tW L C p d.test)
def spMany : Sp := fun vs H Q _ => ∃ a l L r, vs = [.ref a, .ref l] ∧ IL H l L ∧ r < L.length ∧ Q (.int (L.getD r 0)) H
section
variable {P : Program} {w : World} {K : PySem.W.Frag} {mg : Str → Option Value} {base : Heap}
theorem ok_ask (T : Txt K mg) (n : Nat) : FnOk P w K mg base (L2.CX P w) (n + 5) (ga K "ask_form") (fd_ask_form K) p_ask_form (spAsk K n) := by
  refine T.f_ask_form.ok sc_ask_form (fun vs H Q E h => ?_) (fun cdv A outer s0 H vs Q E hr h => ?_)
  · obtain ⟨_, _, _, _, _, _, _, _, _, rfl, _⟩ := h
    rfl
  · obtain ⟨a, s, f, L, C, p, O, m, num, rfl, wi, q⟩ := h
    have tk := takes_of (X := cxOf (L2.CX P w) P w K mg base n_ask_form "ask_form" (defScope s_ask_form) (ga K "ask_form") cdv A outer s0 H E) (E := E) rfl rfl rfl rfl
    have M : MetW P w K mg base n := met_w T n
    have hr1 := hr.mono (show 2 ≤ n + 4 by omega)
    obtain ⟨i1, i2, _⟩ := fnF_ok (T.ex_ 7 rfl)
    refine ⟨_, (pss_cons (ps_try_manyE (pss_one (ps_ret (pv 3))) rfl rfl tk (fun W pn xe tkW po => (pss_one (ps_set (i := 3) sc_ask_form.nd rfl (.inl rfl) (pe_dispS (E := WE W) (pv 0) M hr (fun σ => passAt tkW σ) (pa_cons (pv 1) pa_nil)))))
        (.cons ⟨rfl, by decide, .inl T.g_ByNought⟩ (fun a oe cls d pn hz hf => (pss_one (ps_set (i := 4) sc_ask_form.nd rfl (.inl rfl) pe_str))) (.cons ⟨rfl, by decide, .inl T.g_Outside⟩ (fun a oe cls d pn hz hf => (pss_one (ps_set (i := 4) sc_ask_form.nd rfl (.inl rfl) pe_str))) .nil)))
      (pss_one (ps_raise rfl tk (pmk_oex T.oex i1 i2 (ok_StopI T) hr1 T.b_Stopped_init .nil pass0 rfl T.g_Stopped (pa_cons (pv 2) (pa_cons (pe_fld (pv 1) rfl) (pa_cons (pv 4) pa_nil))))))), ?_⟩
    obtain ⟨dy, l, f', c, o, h1, h2, h3, h4, h5⟩ := wi.sp.ex
    have stop : ∀ (kind : Str) (H1 : Hp), Same H H1 → (∀ H' d, Same H H' → H' d = some (.xd (fsStop (.int num) (.int p) (.str kind))) → E (.ref (ga K "Stopped")) (some d) H') →
        tMkO (ga K "Stopped") (spStopI K) [] (tCons (tVar 2) (tCons (tFld K (tVar 1) "place") (tCons (tVar 4) tNil))) [some (.ref a), some (.ref s), some (.int num), none, some (.str kind)] H1 fun cls d H' => E cls d H' := by
      intro kind H1 sm k
      refine ⟨_, rfl, _, rfl, s, _, dy, _, _, rfl, sm _ _ h1, T.c_Spot, T.n_Spot_place, l_Spot_place .., _, rfl, by show 3 ≤ 1000; decide, fun b nb => ?_⟩
      refine ⟨b, .int num, .int p, .str kind, rfl, upd_same, fun H' d nd ndb hb hd ho => ⟨rfl, d, _, hb, hd, ?_, ?_⟩⟩
      · rw [upd_ne ndb] at nd
        exact nd
      · have nd1 : H1 d = none := by
          rw [upd_ne ndb] at nd
          exact nd
        refine k _ d (fun x u e => ?_) upd_same
        have e1 := sm _ _ e
        have xb : x ≠ b := ne_of_none e1 nb
        have xd : x ≠ d := ne_of_none e1 nd1
        rw [upd_ne xd, del_ne xb, ho x xb xd, upd_ne xb]
        exact e1
    refine ⟨_, rfl, disp1 (n := n) (f := f) rfl wi ?_⟩
    cases e : wof L C p O f with
    | ok v =>
      rw [e] at q
      exact fun H1 s1 => ⟨_, rfl, q H1 s1⟩
    | nought =>
      rw [e] at q
      exact fun H1 s1 => ⟨true, T.e_ByNought_ByNought, fun _ a na => stop "nought" H1 s1 q, fun z => nomatch z⟩
    | outside =>
      rw [e] at q
      exact fun H1 s1 => ⟨false, T.e_Outside_ByNought, (fun z => nomatch z), fun _ => ⟨true, T.e_Outside_Outside, fun _ a na => stop "outside" H1 s1 q, fun z => nomatch z⟩⟩
end
end RB

namespace RB
open PySem PySem.Spec PyProof.Rows L2 He
def mny (d : Sd) (L : List Int) : Int := if d.isF = true then d.many else L.getD d.tg 0
def spMny (K : PySem.W.Frag) (b : Bool) : Sp := fun vs H Q _ => ∃ a l L d, vs = [.ref a, .ref l] ∧ StepAt K H a d ∧ d.isF = b ∧ IL H l L ∧ d.tg < L.length ∧ Q (.int (mny d L)) H
def OkM (K : PySem.W.Frag) (C : Addr) (sp : Sp) : Prop := (C = ga K "Fold" ∧ sp = spMny K true) ∨ (C = ga K "Running" ∧ sp = spMny K false)
def spCount (K : PySem.W.Frag) : Sp := fun vs H Q _ => ∃ l a d, vs = [.ref l] ∧ H l = some (.lst [.ref a]) ∧ StepAt K H a d ∧ Q (.int 1) H
section
variable {P : Program} {w : World} {K : PySem.W.Frag} {mg : Str → Option Value} {base : Heap}
theorem ok_pass (T : Txt K mg) (n : Nat) : FnOk P w K mg base (L2.CX P w) (n + 6) (ga K "passed_over") (fd_passed_over K) p_passed_over (spPass K n) := by
  refine T.f_passed_over.ok sc_passed_over (fun vs H Q E h => ?_) (fun cdv A outer s0 H vs Q E hr h => ?_)
  · obtain ⟨_, _, _, _, _, _, _, _, rfl, _⟩ := h
    rfl
  · obtain ⟨a, s, d, L, C, p, m, num, rfl, hst, ⟨sp, gd, fi⟩, q⟩ := h
    have tk := takes_of (X := cxOf (L2.CX P w) P w K mg base n_passed_over "passed_over" (defScope s_passed_over) (ga K "passed_over") cdv A outer s0 H E) (E := E) rfl rfl rfl rfl
    obtain ⟨D, dx, fs, v, tv, R⟩ := hst.read T
    refine ⟨_, (pss_one (ps_ret (pe_and (pe_cmpR op_notN (pe_fld (pv 0) rfl) pe_non (nomark _)) (pe_one (pe_cmpR op_eq (pe_call (ok_ask T n) hr rfl T.g_ask_form T.k_ask_form T.b_ask_form .nil (passes_call tk fun _ _ _ _ h => h) (pa_cons (pe_fld (pv 0) rfl) (pa_cons (pv 1) (pa_cons (pv 2) pa_nil)))) pe_int (nomark _)))))), ?_⟩
    refine ⟨_, rfl, a, D, dx, fs, tv, rfl, R.at_, R.cl, R.n4, R.l4, rfl, _, rfl, ?_⟩
    have R2 := R.f2
    cases e : d.test with
    | none =>
      rw [e] at R2 q
      obtain rfl : tv = .non := R2
      obtain ⟨i, ei, k⟩ := q H (Same.refl _)
      cases ei
      exact iteF k
    | some f =>
      rw [e] at R2 q
      obtain ⟨b, rfl, hb⟩ := R2
      obtain ⟨f1, f2⟩ := fi f e
      refine iteT ⟨_, rfl, a, D, dx, fs, _, rfl, R.at_, R.cl, R.n4, R.l4, _, rfl, _, rfl, b, s, f, L, C, p, [], m, num, rfl, ⟨hb, sp, gd, by simp, f1, f2⟩, ?_⟩
      refine SEnd.imp q fun v' H' _ _ k => ?_
      obtain ⟨i, ei, k⟩ := k
      cases ei
      refine ⟨rfl, ?_⟩
      have ee : decide (V.int v' = V.int 0) = decide (v' = 0) := by
        by_cases z : v' = 0
        · rw [decide_eq_true z, decide_eq_true (congrArg V.int z)]
        · rw [decide_eq_false z, decide_eq_false (fun q => z (V.int.inj q))]
      rw [ee]
      exact k
theorem ok_mnyF (T : Txt K mg) : FnOk P w K mg base CX0 1 (ma K (ga K "Fold") "many_of") (fd_Fold_many_of K) p_Fold_many_of (spMny K true) := by
  refine T.f_Fold_many_of.ok sc_Fold_many_of (fun vs H Q E h => ?_) (fun cdv A outer s0 H vs Q E hr h => ?_)
  · obtain ⟨_, _, _, _, rfl, _⟩ := h
    rfl
  · obtain ⟨a, l, L, d, rfl, hst, hF, hL, hl, k⟩ := h
    obtain ⟨dx, v, tv, h1, h2, h3⟩ := hst
    rw [hF] at h3
    refine ⟨_, PSs.nox (pss_one (ps_ret (pe_fld (pv 0) rfl))), ?_⟩
    unfold mny at k
    rw [if_pos hF] at k
    exact ⟨_, rfl, a, _, dx, _, _, rfl, h3, T.c_Fold, T.n_Fold_many, l_Fold_many .., k⟩
theorem ok_cnt (T : Txt K mg) : FnOk P w K mg base CX0 1 (ga K "count_of") (fd_count_of K) p_count_of (spCount K) := by
  refine T.f_count_of.ok sc_count_of (fun vs H Q E h => ?_) (fun cdv A outer s0 H vs Q E hr h => ?_)
  · obtain ⟨_, _, _, rfl, _⟩ := h
    rfl
  · obtain ⟨l, a, d, rfl, hl, hst, k⟩ := h
    refine ⟨_, PSs.nox (pss_cons (ps_set (i := 1) sc_count_of.nd rfl (.inl rfl) pe_int)
      (pss_cons (ps_for PassesOwn.never rfl (pi_list (pv 0)) (pg_name (i := 2) sc_count_of.nd rfl (.inl rfl)) (pss_cons (ps_aug (i := 1) sc_count_of.nd rfl (.inl rfl) pe_int ip_add)
      (pss_one (ps_if (pt_val (pe_callB call_isi (by rfl) T.z_isinstance (by decide +kernel) (pa_cons (pv 2) (pa_cons (pe_glob (v := .ref (ga K "Till")) rfl T.g_Till rfl) pa_nil)))) pss_never pss_nil))))
      (pss_one (ps_ret (pv 1))))), ?_⟩
    refine ⟨_, rfl, l, rfl, ⟨_, SqL.of hl⟩, for_list (K := K) (a := l) (xs := [.ref a]) (fun i σ H' => ∃ v, σ = [some (.ref l), some (.int i), v] ∧ H' = H) ⟨none, rfl, rfl⟩ (fun i σ H' _ ⟨_, _, e⟩ => by rw [e]; exact SqL.of hl) ?_ ?_⟩
    · rintro i y σ H1 hi ⟨v, rfl, rfl⟩
      have hi0 : i = 0 ∧ y = .ref a := by
        match i, hi with
        | 0, hi =>
          cases hi
          exact ⟨rfl, rfl⟩
        | i + 1, hi => simp at hi
      obtain ⟨rfl, rfl⟩ := hi0
      obtain ⟨dx, v', tv, h1, h2, h3⟩ := hst
      refine ⟨_, rfl, _, _, rfl, rfl, _, rfl, ?_⟩
      cases e : d.isF with
      | true =>
        rw [e] at h3
        exact ⟨_, _, _, _, false, rfl, .own _, T.ty (T.ex_ 1 rfl) T.c_Fold h3, kitF_ok (T.ex_ 16 rfl), false, rfl, iteF ⟨_, rfl, rfl⟩⟩
      | false =>
        rw [e] at h3
        exact ⟨_, _, _, _, false, rfl, .own _, T.ty (T.ex_ 2 rfl) T.c_Running h3, kitF_ok (T.ex_ 20 rfl), false, rfl, iteF ⟨_, rfl, rfl⟩⟩
    · rintro σ H1 ⟨v, rfl, rfl⟩
      exact ⟨_, rfl, k⟩
end
end RB

namespace RB
open PySem PySem.Spec PyProof.Rows L2 He
inductive El where
  | pass | ok (v : Int) | bad (k : Str)
def Wo.el : Wo → El
  | .ok v => .ok v
  | .nought => .bad "nought"
  | .outside => .bad "outside"
def elW (d : Sd) (L C : List Int) (p : Int) : El := match tW L C p d.test with
  | .ok t => if t = 0 then .pass else (wof L C p [] d.val).el
  | .nought => .bad "nought"
  | .outside => .bad "outside"
def rn (d : Sd) (run : Option Int) (v : Int) : Int := match run with
  | none => v
  | some u => jn d.fo u v
def nxC (d : Sd) (L C : List Int) (run : Option Int) (p v : Int) : List Int := if d.isF = true then C.set (sta L d.tg).toNat (jn d.fo (cv C (sta L d.tg)) v) else C.set (sta L d.tg + p).toNat (rn d run v)
def nxR (d : Sd) (run : Option Int) (v : Int) : Option Int := if d.isF = true then run else some (rn d run v)
def goE (d : Sd) (L : List Int) : Nat → Int → List Int → Option Int → List Int × Option (Int × Str)
  | 0, _, C, _ => (C, none)
  | n + 1, p, C, run => match elW d L C p with
    | .pass => goE d L n (p + 1) C run
    | .ok v => goE d L n (p + 1) (nxC d L C run p v) (nxR d run v)
    | .bad k => (C, some (p, k))
structure SOk (d : Sd) (L : List Int) (n : Nat) : Prop where
  tg : d.tg < L.length
  fo : d.fo ∈ fo1
  fv : Fine L (mny d L) 0 d.val
  hv : ht d.val ≤ n
  ft : ∀ f, d.test = some f → Fine L (mny d L) 0 f ∧ ht f ≤ n
  one : d.isF = true → L.getD d.tg 0 = 1
  m0 : 1 ≤ mny d L
  mm : mny d L ≤ 400
structure COk (L C : List Int) : Prop where
  pos : ∀ l ∈ L, 1 ≤ l
  len : (C.length : Int) = L.sum
  kp : ∀ c ∈ C, Kp c
def ROk (run : Option Int) : Prop := ∀ u, run = some u → Kp u
theorem COk.gd {L C : List Int} {d : Sd} {n : Nat} {p : Int} (c : COk L C) (s : SOk d L n) (h0 : 0 ≤ p) (h1 : p < mny d L) : Gd L C p (mny d L) := ⟨c.pos, c.len, c.kp, h0, h1, s.mm⟩
theorem mem_set {α : Type} {l : List α} {i : Nat} {a x : α} (h : x ∈ l.set i a) : x ∈ l ∨ x = a := List.mem_or_eq_of_mem_set h
theorem rn_kp {d : Sd} {run : Option Int} {v : Int} (h : ROk run) (hv : Kp v) : Kp (rn d run v) := by
  cases run with
  | none => exact hv
  | some u => exact jn_kp (h u rfl) hv
theorem nxR_ok {d : Sd} {run : Option Int} {v : Int} (h : ROk run) (hv : Kp v) : ROk (nxR d run v) := by
  unfold nxR
  split
  · exact h
  · intro u e
    rw [← Option.some.inj e]
    exact rn_kp h hv
theorem nxC_ok {d : Sd} {L C : List Int} {run : Option Int} {p v : Int} (c : COk L C) (h : ROk run) (hv : Kp v) : COk L (nxC d L C run p v) := by
  unfold nxC
  split
  · refine ⟨c.pos, by rw [List.length_set]; exact c.len, fun x hx => ?_⟩
    rcases mem_set hx with hx | hx
    · exact c.kp x hx
    · rw [hx]
      exact jn_kp (cv_kp c.kp _) hv
  · refine ⟨c.pos, by rw [List.length_set]; exact c.len, fun x hx => ?_⟩
    rcases mem_set hx with hx | hx
    · exact c.kp x hx
    · rw [hx]
      exact rn_kp h hv
theorem tg_at {L C : List Int} {d : Sd} {n : Nat} {p : Int} (c : COk L C) (s : SOk d L n) (h0 : 0 ≤ p) (h1 : p < L.getD d.tg 0) : ∃ j : Nat, sta L d.tg + p = (j : Int) ∧ j < C.length := in_row c.pos c.len s.tg h0 h1
theorem ixN_at {n j : Nat} {i : Int} (e : i = (j : Int)) (h : j < n) : ixN n i = some j := by
  unfold ixN
  rw [if_pos (by omega), if_pos (by omega), e]
  rfl
structure PrAt (K : PySem.W.Frag) (H : Hp) (a : Addr) (L : List Int) (st : Addr) : Prop where
  ex : ∃ dx l f s, H a = some (.ins (ga K "Program") dx (fsProgram (.ref l) (.ref f) (.ref s))) ∧ IL H l L ∧ FnsAt K H f ∧ H s = some (.lst [.ref st])
theorem PrAt.same {K : PySem.W.Frag} {H H' : Hp} {a st : Addr} {L : List Int} (e : Same H H') (h : PrAt K H a L st) : PrAt K H' a L st := by
  obtain ⟨dx, l, f, s, h1, h2, h3, h4⟩ := h.ex
  exact ⟨dx, l, f, s, e _ _ h1, h2.same e, h3.same e, e _ _ h4⟩
def PEnd (K : PySem.W.Frag) (H0 : Hp) (c : Addr) (Q : VK) (E : XK) (num : Int) : List Int × Option (Int × Str) → Prop
  | (C, none) => ∀ H', Same H0 H' → IL H' c C → Q .non H'
  | (C, some (p, k)) => ∀ H' dd, Same H0 H' → IL H' c C → H' dd = some (.xd (fsStop (.int num) (.int p) (.str k))) → E (.ref (ga K "Stopped")) (some dd) H'
section
variable {K : PySem.W.Frag} {H0 H2 : Hp} {c : Addr} {Q R : VK} {E : XK} {num p : Int} {d : Sd} {L C : List Int} {run : Option Int} {r : Nat}
theorem el_test (hk : PEnd K H0 c Q E num (goE d L (r + 1) p C run)) (s : Same H0 H2) (hc : IL H2 c C) (g : ∀ t H3, tW L C p d.test = .ok t → Same H2 H3 → R (.int t) H3) : SEnd K H2 R E num p (tW L C p d.test) := by
  unfold goE elW at hk
  cases e : tW L C p d.test with
  | ok t => exact fun H' s' => g t H' e s'
  | nought =>
    rw [e] at hk
    exact fun H' dd s' hd => hk H' dd (s.trans s') (hc.same s') hd
  | outside =>
    rw [e] at hk
    exact fun H' dd s' hd => hk H' dd (s.trans s') (hc.same s') hd
theorem el_val {t : Int} (hk : PEnd K H0 c Q E num (goE d L (r + 1) p C run)) (et : tW L C p d.test = .ok t) (ht : ¬ t = 0) (s : Same H0 H2) (hc : IL H2 c C) (g : ∀ v H3, wof L C p [] d.val = .ok v → Same H2 H3 → R (.int v) H3) : SEnd K H2 R E num p (wof L C p [] d.val) := by
  unfold goE elW at hk
  rw [et] at hk
  dsimp only at hk
  rw [if_neg ht] at hk
  cases e : wof L C p [] d.val with
  | ok v => exact fun H' s' => g v H' e s'
  | nought =>
    rw [e] at hk
    exact fun H' dd s' hd => hk H' dd (s.trans s') (hc.same s') hd
  | outside =>
    rw [e] at hk
    exact fun H' dd s' hd => hk H' dd (s.trans s') (hc.same s') hd
theorem go_pass {α : Type} {f : List Int × Option (Int × Str) → α} (et : tW L C p d.test = .ok 0) : f (goE d L (r + 1) p C run) = f (goE d L r (p + 1) C run) := by
  show f (match elW d L C p with
    | .pass => goE d L r (p + 1) C run
    | .ok v => goE d L r (p + 1) (nxC d L C run p v) (nxR d run v)
    | .bad k => (C, some (p, k))) = _
  unfold elW
  rw [et]
  rfl
theorem go_ok {α : Type} {f : List Int × Option (Int × Str) → α} {t v : Int} (et : tW L C p d.test = .ok t) (ht : ¬ t = 0) (ev : wof L C p [] d.val = .ok v) : f (goE d L (r + 1) p C run) = f (goE d L r (p + 1) (nxC d L C run p v) (nxR d run v)) := by
  show f (match elW d L C p with
    | .pass => goE d L r (p + 1) C run
    | .ok v => goE d L r (p + 1) (nxC d L C run p v) (nxR d run v)
    | .bad k => (C, some (p, k))) = _
  unfold elW
  rw [et]
  dsimp only
  rw [if_neg ht, ev]
  rfl
end
end RB

namespace RB
open PySem PySem.Spec PyProof.Rows L2 He
def spPlay (K : PySem.W.Frag) (b : Bool) : Sp := fun vs H Q E => ∃ H0 a pr c st num d L C, vs = [.ref a, .int num, .ref pr, .ref c] ∧ d.isF = b ∧ StepAt K H0 a d ∧ PrAt K H0 pr L st ∧ Same H0 H ∧ H0 c = none ∧ IL H c C ∧ SOk d L 4 ∧ COk L C ∧ PEnd K H0 c Q E num (goE d L (mny d L).toNat 0 C none)
theorem Same.off {H0 H : Hp} {c : Addr} {o : HO} (s : Same H0 H) (n : H0 c = none) : Same H0 (upd H c o) := fun b u e => by rw [upd_ne (ne_of_none e n)]; exact s _ _ e
section
variable {P : Program} {w : World} {K : PySem.W.Frag} {mg : Str → Option Value} {base : Heap}
theorem spPlay_len {b : Bool} (vs : List V) (H : Hp) (Q : VK) (E : XK) (h : spPlay K b vs H Q E) : vs.length = 4 := by
  obtain ⟨_, _, _, _, _, _, _, _, _, rfl, _⟩ := h
  rfl
theorem ok_playF (T : Txt K mg) : FnOk P w K mg base (L2.CX P w) 11 (ga K "play_fold") (fd_play_fold K) p_play_fold (spPlay K true) := by
  refine T.f_play_fold.ok sc_play_fold spPlay_len (fun cdv A outer s0 H vs Q E hr h => ?_)
  obtain ⟨H0, a, pr, c, st, num, d, L, C, rfl, hF, hst, hpr, sm, nc, hc, so, co, k⟩ := h
  have tk := takes_of (X := cxOf (L2.CX P w) P w K mg base n_play_fold "play_fold" (defScope s_play_fold) (ga K "play_fold") cdv A outer s0 H E) (E := E) rfl rfl rfl rfl
  have hr1 := hr.mono (show 1 ≤ 10 by decide)
  have hr2 : Room 2 _ := hr.mono (show 2 ≤ 10 by decide)
  have hr4 := hr.mono (show 4 ≤ 10 by decide)
  have hr9 := hr.mono (show 9 ≤ 10 by decide)
  refine ⟨_, (pss_cons (ps_set (i := 4) sc_play_fold.nd rfl (.inl rfl) (pe_call (ok_start T) hr1 rfl T.g_start_of T.k_start_of T.b_start_of .nil pass0 (pa_cons (pe_fld (pv 2) rfl) (pa_cons (pe_fld (pv 0) rfl) pa_nil))))
      (pss_one (ps_for (passes_of rfl) rfl (pi_range1 rfl T.z_range (pa_cons (pe_meth (pv 0) T.c_Fold T.w_Fold_many_of (ok_mnyF T) hr1 T.b_Fold_many_of .nil pass0 (pa_cons (pe_fld (pv 2) rfl) pa_nil)) pa_nil)) (pg_name (i := 5) sc_play_fold.nd rfl (.inl rfl)) (pss_cons (ps_set (i := 6) sc_play_fold.nd rfl (.inl rfl) (pe_new T.m_Spot (ok_Spot T) hr2 rfl T.g_Spot T.b_Spot_init .nil (pa_cons (pe_fld (pv 2) rfl) (pa_cons (pe_fld (pv 2) rfl) (pa_cons (pv 3) (pa_cons (pv 5) (pa_cons (pe_lst pa_nil) pa_nil)))))))
      (pss_cons (ps_if (pt_val (pe_call (ok_pass T 4) hr rfl T.g_passed_over T.k_passed_over T.b_passed_over .nil (passes_call tk fun _ _ _ _ h => h) (pa_cons (pv 0) (pa_cons (pv 6) (pa_cons (pv 1) pa_nil))))) (pss_one (ps_continue)) pss_nil)
      (pss_cons (ps_set (i := 7) sc_play_fold.nd rfl (.inl rfl) (pe_call (ok_ask T 4) hr9 rfl T.g_ask_form T.k_ask_form T.b_ask_form .nil (passes_call tk fun _ _ _ _ h => h) (pa_cons (pe_fld (pv 0) rfl) (pa_cons (pv 6) (pa_cons (pv 1) pa_nil)))))
      (pss_one (ps_asg (pe_call (ok_joined T) hr4 rfl T.g_joined T.k_joined T.b_joined .nil (passes_call tk fun _ _ _ _ h => h) (pa_cons (pe_fld (pv 0) rfl) (pa_cons (pe_ix ix_list (pv 3) (pv 4) (fun _ _ => rfl)) (pa_cons (pv 7) pa_nil)))) (pg_sub (pv 3) (pv 4) set_list))))))))), ?_⟩
  obtain ⟨dp, l, f, sl, p1, p2, p3, p4⟩ := hpr.ex
  obtain ⟨D, dx, fs, v, tv, R⟩ := (hst.same sm).read T
  have hm63 : -(2 ^ 62) ≤ mny d L ∧ mny d L < 2 ^ 62 := by
    have := so.m0
    have := so.mm
    constructor <;> omega
  have stF : ∀ {H' : Hp}, Same H0 H' → ∃ dx v tv, H' a = some (.ins (ga K "Fold") dx (fsFold (.int d.tg) (.str d.fo) (.ref v) (.int d.many) tv)) := fun {H'} s => by
    obtain ⟨dx, v, tv, _, _, h3⟩ := hst.same s
    rw [hF] at h3
    exact ⟨dx, v, tv, h3⟩
  refine ⟨_, rfl, pr, _, dp, _, _, rfl, sm _ _ p1, T.c_Program, T.n_Program_lengths, l_Program_lengths .., _, rfl, a, D, dx, fs, _, rfl, R.at_, R.cl, R.n1, R.l1, l, L, d.tg, rfl, p2.same sm, Nat.le_of_lt so.tg, fun H1 s1 => ?_⟩
  have sm1 := sm.trans s1
  have hc1 := hc.same s1
  obtain ⟨dx', v', tv', hst1⟩ := stF sm1
  refine ⟨_, rfl, a, dx', _, rfl, hst1, l_Fold_many_of .., _, rfl, pr, _, dp, _, _, rfl, sm1 _ _ p1, T.c_Program, T.n_Program_lengths, l_Program_lengths .., a, l, L, d, rfl, hst.same sm1, hF, p2.same sm1, so.tg, mny d L, rfl, hm63.1, hm63.2, ?_⟩
  refine for_range (lo := 0) (n := (mny d L).toNat) (fun i σ H' => ∃ (Ci : List Int) (v5 v6 v7 : Option V), σ = [some (.ref a), some (.int num), some (.ref pr), some (.ref c), some (.int (sta L d.tg)), v5, v6, v7] ∧ Same H0 H' ∧ IL H' c Ci ∧ COk L Ci ∧ PEnd K H0 c Q E num (goE d L ((mny d L).toNat - i) i Ci none))
    ⟨C, none, none, none, rfl, sm1, hc1, co, k⟩ ?_ ?_
  · rintro i σ H2 hi ⟨Ci, v5, v6, v7, rfl, sm2, hc2, co2, k2⟩
    have er : (mny d L).toNat - i = ((mny d L).toNat - (i + 1)) + 1 := by omega
    rw [er] at k2
    have e0 : (0 : Int) + (i : Int) = (i : Int) := by omega
    rw [e0]
    have hip : (i : Int) < mny d L := by omega
    refine ⟨_, rfl, pr, _, dp, _, _, rfl, sm2 _ _ p1, T.c_Program, T.n_Program_lengths, l_Program_lengths .., _, rfl, pr, _, dp, _, _, rfl, sm2 _ _ p1, T.c_Program, T.n_Program_functions, l_Program_functions .., _, rfl, _, rfl, Nat.zero_le _, fun o no => ⟨rfl, fun x dy H3 s3 nx hx => ?_⟩⟩
    have s23 : Same H2 H3 := (Same.new no).trans s3
    have sm3 := sm2.trans s23
    have hc3 := hc2.same s23
    have spx : SpAt K H3 x L Ci i [] := ⟨dy, l, f, c, o, hx, p2.same sm3, p3.same sm3, hc3, s3 _ _ upd_same⟩
    have gd := co2.gd so (p := (i : Int)) (by omega) hip
    refine ⟨_, rfl, _, rfl, _, rfl, a, x, d, L, Ci, i, _, num, rfl, hst.same sm3, ⟨spx, gd, so.ft⟩, el_test k2 sm3 hc3 fun t H4 et s4 => ⟨t, rfl, _, rfl, ?_⟩⟩
    have sm4 := sm3.trans s4
    have hc4 := hc3.same s4
    have ei : ((i : Int) + 1) = ((i + 1 : Nat) : Int) := by omega
    by_cases ht : t = 0
    · subst ht
      rw [go_pass (f := PEnd K H0 c Q E num) et, ei] at k2
      exact iteT ⟨Ci, _, _, _, rfl, sm4, hc4, co2, k2⟩
    rw [decide_eq_false ht]
    refine iteF ?_
    obtain ⟨D4, dx4, fs4, v4, tv4, R4⟩ := (hst.same sm4).read T
    refine ⟨_, rfl, a, D4, dx4, fs4, _, rfl, R4.at_, R4.cl, R4.n3, R4.l3, _, rfl, _, rfl, v4, x, d.val, L, Ci, i, [], _, num, rfl, ⟨R4.f1, spx.same s4, gd, by simp, so.fv, so.hv⟩, el_val k2 et ht sm4 hc4 fun u H5 eu s5 => ?_⟩
    have sm5 := sm4.trans s5
    have hc5 := hc4.same s5
    obtain ⟨D5, dx5, fs5, v5', tv5, R5⟩ := (hst.same sm5).read T
    have one := so.one hF
    obtain ⟨j, ej, hj⟩ := tg_at co2 so (p := 0) (by omega) (by omega)
    have ej' : sta L d.tg = (j : Int) := by omega
    have ku : Kp u := wof_kp gd (by simp) so.fv eu
    refine ⟨_, rfl, a, D5, dx5, fs5, _, rfl, R5.at_, R5.cl, R5.n2, R5.l2, _, rfl, _, rfl, c, _, _, _, rfl, rfl, SqL.of hc5, cv_at ej' hj, _, rfl, d.fo, _, u, rfl, so.fo, cv_kp co2.kp _, ku, fun H6 s6 => ?_⟩
    have sm6 := sm5.trans s6
    have hc6 := hc5.same s6
    refine ⟨_, rfl, _, rfl, c, _, _, j, rfl, rfl, hc6, ixN_at ej' (by rw [List.length_map]; exact hj), ?_⟩
    rw [go_ok (f := PEnd K H0 c Q E num) et ht eu, ei] at k2
    have eR : nxR d none u = none := by
      unfold nxR
      rw [if_pos hF]
    rw [eR] at k2
    have eC : (Ci.map V.int).set j (.int (jn d.fo (cv Ci (sta L d.tg)) u)) = (nxC d L Ci none i u).map V.int := by
      unfold nxC
      rw [if_pos hF, ej', Int.toNat_natCast, List.map_set]
    rw [eC]
    exact ⟨_, _, _, _, rfl, Same.off sm6 nc, upd_same, nxC_ok co2 (fun _ e => nomatch e) ku, k2⟩
  · rintro σ H2 ⟨Ci, v5, v6, v7, rfl, sm2, hc2, co2, k2⟩
    rw [Nat.sub_self] at k2
    exact k2 H2 sm2 hc2
end
end RB

namespace RB
open PySem PySem.Spec PyProof.Rows L2 He
def rV : Option Int → V
  | none => .non
  | some u => .int u
section
variable {P : Program} {w : World} {K : PySem.W.Frag} {mg : Str → Option Value} {base : Heap}
theorem ok_mnyR (T : Txt K mg) : FnOk P w K mg base CX0 1 (ma K (ga K "Running") "many_of") (fd_Step_many_of K) p_Step_many_of (spMny K false) := by
  refine T.f_Step_many_of.ok sc_Step_many_of (fun vs H Q E h => ?_) (fun cdv A outer s0 H vs Q E hr h => ?_)
  · obtain ⟨_, _, _, _, rfl, _⟩ := h
    rfl
  · obtain ⟨a, l, L, d, rfl, hst, hF, hL, hl, k⟩ := h
    obtain ⟨dx, v, tv, h1, h2, h3⟩ := hst
    rw [hF] at h3
    refine ⟨_, PSs.nox (pss_one (ps_ret (pe_ix ix_list (pv 1) (pe_fld (pv 0) rfl) (fun _ _ => rfl)))), ?_⟩
    unfold mny at k
    rw [hF, if_neg Bool.false_ne_true] at k
    exact ⟨_, rfl, _, rfl, a, _, dx, _, _, rfl, h3, T.c_Running, T.n_Running_target, l_Running_target .., l, _, _, _, rfl, rfl, SqL.of hL, row_at hl, k⟩
theorem ok_playR (T : Txt K mg) : FnOk P w K mg base (L2.CX P w) 11 (ga K "play_running") (fd_play_running K) p_play_running (spPlay K false) := by
  refine T.f_play_running.ok sc_play_running spPlay_len (fun cdv A outer s0 H vs Q E hr h => ?_)
  obtain ⟨H0, a, pr, c, st, num, d, L, C, rfl, hF, hst, hpr, sm, nc, hc, so, co, k⟩ := h
  have tk := takes_of (X := cxOf (L2.CX P w) P w K mg base n_play_running "play_running" (defScope s_play_running) (ga K "play_running") cdv A outer s0 H E) (E := E) rfl rfl rfl rfl
  have hr1 := hr.mono (show 1 ≤ 10 by decide)
  have hr2 : Room 2 _ := hr.mono (show 2 ≤ 10 by decide)
  have hr4 := hr.mono (show 4 ≤ 10 by decide)
  have hr9 := hr.mono (show 9 ≤ 10 by decide)
  refine ⟨_, (pss_cons (ps_set (i := 4) sc_play_running.nd rfl (.inl rfl) (pe_call (ok_start T) hr1 rfl T.g_start_of T.k_start_of T.b_start_of .nil pass0 (pa_cons (pe_fld (pv 2) rfl) (pa_cons (pe_fld (pv 0) rfl) pa_nil))))
      (pss_cons (ps_set (i := 5) sc_play_running.nd rfl (.inl rfl) pe_non)
      (pss_one (ps_for (passes_of rfl) rfl (pi_range1 rfl T.z_range (pa_cons (pe_meth (pv 0) T.c_Running T.w_Running_many_of (ok_mnyR T) hr1 T.b_Step_many_of .nil pass0 (pa_cons (pe_fld (pv 2) rfl) pa_nil)) pa_nil)) (pg_name (i := 6) sc_play_running.nd rfl (.inl rfl)) (pss_cons (ps_set (i := 7) sc_play_running.nd rfl (.inl rfl) (pe_new T.m_Spot (ok_Spot T) hr2 rfl T.g_Spot T.b_Spot_init .nil (pa_cons (pe_fld (pv 2) rfl) (pa_cons (pe_fld (pv 2) rfl) (pa_cons (pv 3) (pa_cons (pv 6) (pa_cons (pe_lst pa_nil) pa_nil)))))))
      (pss_cons (ps_if (pt_val (pe_call (ok_pass T 4) hr rfl T.g_passed_over T.k_passed_over T.b_passed_over .nil (passes_call tk fun _ _ _ _ h => h) (pa_cons (pv 0) (pa_cons (pv 7) (pa_cons (pv 1) pa_nil))))) (pss_one (ps_continue)) pss_nil)
      (pss_cons (ps_set (i := 8) sc_play_running.nd rfl (.inl rfl) (pe_call (ok_ask T 4) hr9 rfl T.g_ask_form T.k_ask_form T.b_ask_form .nil (passes_call tk fun _ _ _ _ h => h) (pa_cons (pe_fld (pv 0) rfl) (pa_cons (pv 7) (pa_cons (pv 1) pa_nil)))))
      (pss_cons (ps_if (pt_cmpR op_notN (pv 5) pe_non (nomark _)) (pss_one (ps_set (i := 8) sc_play_running.nd rfl (.inl rfl) (pe_call (ok_joined T) hr4 rfl T.g_joined T.k_joined T.b_joined .nil (passes_call tk fun _ _ _ _ h => h) (pa_cons (pe_fld (pv 0) rfl) (pa_cons (pv 5) (pa_cons (pv 8) pa_nil)))))) pss_nil)
      (pss_cons (ps_set (i := 5) sc_play_running.nd rfl (.inl rfl) (pv 8))
      (pss_one (ps_asg (pv 8) (pg_sub (pv 3) (pe_op op_add (pv 4) (pv 6)) set_list)))))))))))), ?_⟩
  obtain ⟨dp, l, f, sl, p1, p2, p3, p4⟩ := hpr.ex
  obtain ⟨D, dx, fs, v, tv, R⟩ := (hst.same sm).read T
  have hm63 : -(2 ^ 62) ≤ mny d L ∧ mny d L < 2 ^ 62 := by
    have := so.m0
    have := so.mm
    constructor <;> omega
  have stF : ∀ {H' : Hp}, Same H0 H' → ∃ dx v tv, H' a = some (.ins (ga K "Running") dx (fsRunning (.int d.tg) (.str d.fo) (.ref v) tv)) := fun {H'} s => by
    obtain ⟨dx, v, tv, _, _, h3⟩ := hst.same s
    rw [hF] at h3
    exact ⟨dx, v, tv, h3⟩
  have em : mny d L = L.getD d.tg 0 := by
    unfold mny
    rw [hF, if_neg Bool.false_ne_true]
  refine ⟨_, rfl, pr, _, dp, _, _, rfl, sm _ _ p1, T.c_Program, T.n_Program_lengths, l_Program_lengths .., _, rfl, a, D, dx, fs, _, rfl, R.at_, R.cl, R.n1, R.l1, l, L, d.tg, rfl, p2.same sm, Nat.le_of_lt so.tg, fun H1 s1 => ?_⟩
  have sm1 := sm.trans s1
  have hc1 := hc.same s1
  obtain ⟨dx', v', tv', hst1⟩ := stF sm1
  refine ⟨_, rfl, a, dx', _, rfl, hst1, l_Running_many_of .., _, rfl, pr, _, dp, _, _, rfl, sm1 _ _ p1, T.c_Program, T.n_Program_lengths, l_Program_lengths .., a, l, L, d, rfl, hst.same sm1, hF, p2.same sm1, so.tg, mny d L, rfl, hm63.1, hm63.2, ?_⟩
  refine for_range (lo := 0) (n := (mny d L).toNat) (fun i σ H' => ∃ (Ci : List Int) (run : Option Int) (v5 v6 v7 : Option V), σ = [some (.ref a), some (.int num), some (.ref pr), some (.ref c), some (.int (sta L d.tg)), some (rV run), v5, v6, v7] ∧ Same H0 H' ∧ IL H' c Ci ∧ COk L Ci ∧ ROk run ∧ PEnd K H0 c Q E num (goE d L ((mny d L).toNat - i) i Ci run))
    ⟨C, none, none, none, none, rfl, sm1, hc1, co, (fun _ e => nomatch e), k⟩ ?_ ?_
  · rintro i σ H2 hi ⟨Ci, run, v5, v6, v7, rfl, sm2, hc2, co2, ro, k2⟩
    have er : (mny d L).toNat - i = ((mny d L).toNat - (i + 1)) + 1 := by omega
    rw [er] at k2
    have e0 : (0 : Int) + (i : Int) = (i : Int) := by omega
    rw [e0]
    have hip : (i : Int) < mny d L := by omega
    refine ⟨_, rfl, pr, _, dp, _, _, rfl, sm2 _ _ p1, T.c_Program, T.n_Program_lengths, l_Program_lengths .., _, rfl, pr, _, dp, _, _, rfl, sm2 _ _ p1, T.c_Program, T.n_Program_functions, l_Program_functions .., _, rfl, _, rfl, Nat.zero_le _, fun o no => ⟨rfl, fun x dy H3 s3 nx hx => ?_⟩⟩
    have s23 : Same H2 H3 := (Same.new no).trans s3
    have sm3 := sm2.trans s23
    have hc3 := hc2.same s23
    have spx : SpAt K H3 x L Ci i [] := ⟨dy, l, f, c, o, hx, p2.same sm3, p3.same sm3, hc3, s3 _ _ upd_same⟩
    have gd := co2.gd so (p := (i : Int)) (by omega) hip
    refine ⟨_, rfl, _, rfl, _, rfl, a, x, d, L, Ci, i, _, num, rfl, hst.same sm3, ⟨spx, gd, so.ft⟩, el_test k2 sm3 hc3 fun t H4 et s4 => ⟨t, rfl, _, rfl, ?_⟩⟩
    have sm4 := sm3.trans s4
    have hc4 := hc3.same s4
    have ei : ((i : Int) + 1) = ((i + 1 : Nat) : Int) := by omega
    by_cases ht : t = 0
    · subst ht
      rw [go_pass (f := PEnd K H0 c Q E num) et, ei] at k2
      exact iteT ⟨Ci, run, _, _, _, rfl, sm4, hc4, co2, ro, k2⟩
    rw [decide_eq_false ht]
    refine iteF ?_
    obtain ⟨D4, dx4, fs4, v4, tv4, R4⟩ := (hst.same sm4).read T
    refine ⟨_, rfl, a, D4, dx4, fs4, _, rfl, R4.at_, R4.cl, R4.n3, R4.l3, _, rfl, _, rfl, v4, x, d.val, L, Ci, i, [], _, num, rfl, ⟨R4.f1, spx.same s4, gd, by simp, so.fv, so.hv⟩, el_val k2 et ht sm4 hc4 fun u H5 eu s5 => ?_⟩
    have sm5 := sm4.trans s5
    have hc5 := hc4.same s5
    obtain ⟨D5, dx5, fs5, v5', tv5, R5⟩ := (hst.same sm5).read T
    obtain ⟨j, ej, hj⟩ := tg_at co2 so (p := (i : Int)) (by omega) (by omega)
    have ku : Kp u := wof_kp gd (by simp) so.fv eu
    rw [go_ok (f := PEnd K H0 c Q E num) et ht eu, ei] at k2
    have eR : nxR d run u = some (rn d run u) := by
      unfold nxR
      rw [hF, if_neg Bool.false_ne_true]
    have kR := nxR_ok (d := d) ro ku
    rw [eR] at k2 kR
    have eC : (Ci.map V.int).set j (.int (rn d run u)) = (nxC d L Ci run i u).map V.int := by
      unfold nxC
      rw [hF, if_neg Bool.false_ne_true, ej, Int.toNat_natCast, List.map_set]
    have fin : ∀ (H6 : Hp) (w8 : V), w8 = .int (rn d run u) → Same H5 H6 → ∃ (Ci' : List Int) (run' : Option Int) (v5 v6 v7 : Option V), [some (.ref a), some (.int num), some (.ref pr), some (.ref c), some (.int (sta L d.tg)), some w8, some (.int (i : Int)), some (.ref x), some w8] = [some (.ref a), some (.int num), some (.ref pr), some (.ref c), some (.int (sta L d.tg)), some (rV run'), v5, v6, v7] ∧
        Same H0 (upd H6 c (.lst ((Ci.map V.int).set j w8))) ∧ IL (upd H6 c (.lst ((Ci.map V.int).set j w8))) c Ci' ∧ COk L Ci' ∧ ROk run' ∧ PEnd K H0 c Q E num (goE d L ((mny d L).toNat - (i + 1)) (i + 1 : Nat) Ci' run') := by
      rintro H6 w8 rfl s6
      rw [eC]
      exact ⟨_, some (rn d run u), _, _, _, rfl, Same.off (sm5.trans s6) nc, upd_same, nxC_ok co2 ro ku, kR, k2⟩
    refine ⟨_, rfl, rfl, _, rfl, ?_⟩
    cases run with
    | none =>
      refine iteF ⟨_, rfl, _, rfl, _, rfl, _, rfl, _, rfl, _, _, rfl, rfl, c, _, _, j, rfl, rfl, hc5, ixN_at ej (by rw [List.length_map]; exact hj), ?_⟩
      exact fin H5 _ rfl (Same.refl _)
    | some r =>
      refine iteT ⟨_, rfl, a, D5, dx5, fs5, _, rfl, R5.at_, R5.cl, R5.n2, R5.l2, _, rfl, _, rfl, d.fo, r, u, rfl, so.fo, ro r rfl, ku, fun H6 s6 => ?_⟩
      refine ⟨_, rfl, _, rfl, _, rfl, _, rfl, _, rfl, _, _, rfl, rfl, c, _, _, j, rfl, rfl, hc5.same s6, ixN_at ej (by rw [List.length_map]; exact hj), ?_⟩
      exact fin H6 _ rfl s6
  · rintro σ H2 ⟨Ci, run, v5, v6, v7, rfl, sm2, hc2, co2, ro, k2⟩
    rw [Nat.sub_self] at k2
    exact k2 H2 sm2 hc2
end
end RB

namespace RB
open PySem PySem.Spec PyProof.Rows L2 He
def spStep (K : PySem.W.Frag) : Sp := fun vs H Q E => ∃ b, spPlay K b vs H Q E
def spSteps (K : PySem.W.Frag) : Sp := fun vs H Q E => ∃ H0 s a pr c num d L C, vs = [.ref s, .int num, .ref pr, .ref c] ∧ H0 s = some (.lst [.ref a]) ∧ StepAt K H0 a d ∧ PrAt K H0 pr L a ∧ Same H0 H ∧ H0 c = none ∧ IL H c C ∧ SOk d L 4 ∧ COk L C ∧ PEnd K H0 c Q E num (goE d L (mny d L).toNat 0 C none)
def RfAt (H : Hp) (v : V) : Option (Int × Str) → Prop
  | none => v = .non
  | some (p, k) => ∃ t, v = .ref t ∧ H t = some (.tup [.int 0, .int p, .str k])
theorem RfAt.same {H H' : Hp} {v : V} {o : Option (Int × Str)} (s : Same H H') (h : RfAt H v o) : RfAt H' v o := by
  cases o with
  | none => exact h
  | some x =>
    obtain ⟨p, k⟩ := x
    obtain ⟨t, e, h⟩ := h
    exact ⟨t, e, s _ _ h⟩
def FdAt (H : Hp) (q : Addr) (r : List Int × Option (Int × Str)) : Prop := ∃ nw rf, H q = some (.tup [.ref nw, rf]) ∧ IL H nw r.1 ∧ RfAt H rf r.2
theorem FdAt.same {H H' : Hp} {q : Addr} {r : List Int × Option (Int × Str)} (s : Same H H') (h : FdAt H q r) : FdAt H' q r := by
  obtain ⟨nw, rf, h1, h2, h3⟩ := h
  exact ⟨nw, rf, s _ _ h1, h2.same s, h3.same s⟩
def spPlayed (K : PySem.W.Frag) : Sp := fun vs H Q _ => ∃ pr cs a d L C, vs = [.ref pr, .ref cs] ∧ StepAt K H a d ∧ PrAt K H pr L a ∧ IL H cs C ∧ SOk d L 4 ∧ COk L C ∧
  ∀ H' q, Same H H' → FdAt H' q (goE d L (mny d L).toNat 0 C none) → Q (.ref q) H'
theorem PEnd.step {K : PySem.W.Frag} {H0 : Hp} {c : Addr} {Q Q' : VK} {E E' : XK} {num : Int} {r : List Int × Option (Int × Str)} (h : PEnd K H0 c Q E num r) (g : ∀ C' H', r = (C', none) → Same H0 H' → IL H' c C' → Q' .non H')
    (e : ∀ C' p k H' dd, r = (C', some (p, k)) → Same H0 H' → IL H' c C' → H' dd = some (.xd (fsStop (.int num) (.int p) (.str k))) → E (.ref (ga K "Stopped")) (some dd) H' → E' (.ref (ga K "Stopped")) (some dd) H') : PEnd K H0 c Q' E' num r := by
  obtain ⟨C', o⟩ := r
  cases o with
  | none => exact fun H' s hc => g C' H' rfl s hc
  | some x =>
    obtain ⟨p, k⟩ := x
    exact fun H' dd s hc hd => e C' p k H' dd rfl s hc hd (h H' dd s hc hd)
theorem l_stop_step (x y z : V) : (fsStop x y z).lookup ("step" : Str) = some x := by kernel_rfl
theorem l_stop_place (x y z : V) : (fsStop x y z).lookup ("place" : Str) = some y := by kernel_rfl
theorem l_stop_kind (x y z : V) : (fsStop x y z).lookup ("kind" : Str) = some z := by kernel_rfl
section
variable {P : Program} {w : World} {K : PySem.W.Frag} {mg : Str → Option Value} {base : Heap}
theorem ok_step (T : Txt K mg) : FnOk P w K mg base (L2.CX P w) 12 (ga K "play_step") (fd_play_step K) p_play_step (spStep K) := by
  refine T.f_play_step.ok sc_play_step (fun vs H Q E h => ?_) (fun cdv A outer s0 H vs Q E hr h => ?_)
  · obtain ⟨b, h⟩ := h
    exact spPlay_len vs H Q E h
  obtain ⟨b, H0, a, pr, c, st, num, d, L, C, rfl, hF, hst, hpr, sm, nc, hc, so, co, k⟩ := h
  have tk := takes_of (X := cxOf (L2.CX P w) P w K mg base n_play_step "play_step" (defScope s_play_step) (ga K "play_step") cdv A outer s0 H E) (E := E) rfl rfl rfl rfl
  refine ⟨_, (pss_one (ps_if (pt_val (pe_callB call_isi (by rfl) T.z_isinstance (by decide +kernel) (pa_cons (pv 0) (pa_cons (pe_glob (v := .ref (ga K "Till")) rfl T.g_Till rfl) pa_nil)))) pss_never
    (pss_one (ps_if (pt_val (pe_callB call_isi (by rfl) T.z_isinstance (by decide +kernel) (pa_cons (pv 0) (pa_cons (pe_glob (v := .ref (ga K "Let")) rfl T.g_Let rfl) pa_nil)))) pss_never
    (pss_one (ps_if (pt_val (pe_callB call_isi (by rfl) T.z_isinstance (by decide +kernel) (pa_cons (pv 0) (pa_cons (pe_glob (v := .ref (ga K "Put")) rfl T.g_Put rfl) pa_nil)))) pss_never
    (pss_one (ps_if (pt_val (pe_callB call_isi (by rfl) T.z_isinstance (by decide +kernel) (pa_cons (pv 0) (pa_cons (pe_glob (v := .ref (ga K "Fold")) rfl T.g_Fold rfl) pa_nil)))) (pss_one (ps_expr (pe_call (ok_playF T) hr rfl T.g_play_fold T.k_play_fold T.b_play_fold .nil (passes_call tk fun _ _ _ _ h => h) (pa_cons (pv 0) (pa_cons (pv 1) (pa_cons (pv 2) (pa_cons (pv 3) pa_nil)))))))
      (pss_one (ps_expr (pe_call (ok_playR T) hr rfl T.g_play_running T.k_play_running T.b_play_running .nil (passes_call tk fun _ _ _ _ h => h) (pa_cons (pv 0) (pa_cons (pv 1) (pa_cons (pv 2) (pa_cons (pv 3) pa_nil))))))))))))))), ?_⟩
  obtain ⟨dx, v', tv, h1, h2, h3⟩ := hst.same sm
  have k' : PEnd K H0 c (fun _ H1 => Q .non H1) E num (goE d L (mny d L).toNat 0 C none) := k.step (fun C' H' e s hc' => by
    rw [e] at k
    exact k H' s hc') fun _ _ _ _ _ _ _ _ _ z => z
  cases b with
  | true =>
    rw [hF] at h3
    have ty := T.ty (T.ex_ 1 rfl) T.c_Fold h3
    exact ⟨_, rfl, _, _, _, _, false, rfl, .own _, ty, kitF_ok (T.ex_ 16 rfl), false, rfl, iteF ⟨_, rfl, _, _, _, _, false, rfl, .own _, ty, kitF_ok (T.ex_ 17 rfl), false, rfl, iteF ⟨_, rfl, _, _, _, _, false, rfl, .own _, ty, kitF_ok (T.ex_ 18 rfl), false, rfl, iteF ⟨_, rfl, _, _, _, _, true, rfl, .own _, ty, kitF_ok (T.ex_ 19 rfl), true, rfl,
      iteT ⟨_, rfl, _, rfl, _, rfl, _, rfl, H0, a, pr, c, st, num, d, L, C, rfl, hF, hst, hpr, sm, nc, hc, so, co, k'⟩⟩⟩⟩⟩
  | false =>
    rw [hF] at h3
    have ty := T.ty (T.ex_ 2 rfl) T.c_Running h3
    exact ⟨_, rfl, _, _, _, _, false, rfl, .own _, ty, kitF_ok (T.ex_ 20 rfl), false, rfl, iteF ⟨_, rfl, _, _, _, _, false, rfl, .own _, ty, kitF_ok (T.ex_ 21 rfl), false, rfl, iteF ⟨_, rfl, _, _, _, _, false, rfl, .own _, ty, kitF_ok (T.ex_ 22 rfl), false, rfl, iteF ⟨_, rfl, _, _, _, _, false, rfl, .own _, ty, kitF_ok (T.ex_ 23 rfl), false, rfl,
      iteF ⟨_, rfl, _, rfl, _, rfl, _, rfl, H0, a, pr, c, st, num, d, L, C, rfl, hF, hst, hpr, sm, nc, hc, so, co, k'⟩⟩⟩⟩⟩
theorem ok_steps (T : Txt K mg) : FnOk P w K mg base (L2.CX P w) 13 (ga K "play_steps") (fd_play_steps K) p_play_steps (spSteps K) := by
  refine T.f_play_steps.ok sc_play_steps (fun vs H Q E h => ?_) (fun cdv A outer s0 H vs Q E hr h => ?_)
  · obtain ⟨_, _, _, _, _, _, _, _, _, rfl, _⟩ := h
    rfl
  obtain ⟨H0, s, a, pr, c, num, d, L, C, rfl, hs, hst, hpr, sm, nc, hc, so, co, k⟩ := h
  have tk := takes_of (X := cxOf (L2.CX P w) P w K mg base n_play_steps "play_steps" (defScope s_play_steps) (ga K "play_steps") cdv A outer s0 H E) (E := E) rfl rfl rfl rfl
  have hr1 := hr.mono (show 1 ≤ 12 by decide)
  refine ⟨_, (pss_one (ps_for (passes_of rfl) rfl (pi_list (pv 0)) (pg_name (i := 4) sc_play_steps.nd rfl (.inl rfl)) (pss_cons (ps_expr (pe_call (ok_step T) hr rfl T.g_play_step T.k_play_step T.b_play_step .nil (passes_call tk fun _ _ _ _ h => h) (pa_cons (pv 4) (pa_cons (pv 1) (pa_cons (pv 2) (pa_cons (pv 3) pa_nil))))))
      (pss_one (ps_aug (i := 1) sc_play_steps.nd rfl (.inl rfl) (pe_call (ok_cnt T) hr1 rfl T.g_count_of T.k_count_of T.b_count_of .nil pass0 (pa_cons (pe_lst (pa_cons (pv 4) pa_nil)) pa_nil)) ip_add))))), ?_⟩
  refine ⟨_, rfl, s, rfl, ⟨_, SqL.of (sm _ _ hs)⟩, for_list (K := K) (a := s) (xs := [.ref a]) (fun i σ H' => ∃ (z : Int) (v : Option V), σ = [some (.ref s), some (.int z), some (.ref pr), some (.ref c), v] ∧ Same H0 H' ∧ ((i = 0 ∧ z = num ∧ IL H' c C) ∨ (i = 1 ∧ ∃ C', goE d L (mny d L).toNat 0 C none = (C', none) ∧ IL H' c C')))
    ⟨num, none, rfl, sm, .inl ⟨rfl, rfl, hc⟩⟩ (fun i σ H' _ ⟨_, _, _, sm', _⟩ => SqL.of (sm' _ _ hs)) ?_ ?_⟩
  · rintro i y σ H1 hi ⟨z, v, rfl, sm1, hz⟩
    have hi0 : i = 0 ∧ y = .ref a := by
      match i, hi with
      | 0, hi =>
        cases hi
        exact ⟨rfl, rfl⟩
      | i + 1, hi => simp at hi
    obtain ⟨rfl, rfl⟩ := hi0
    obtain ⟨_, rfl, hc1⟩ := hz.resolve_right (fun q => by cases q.1)
    refine ⟨_, rfl, _, rfl, _, rfl, _, rfl, d.isF, H0, a, pr, c, a, _, d, L, C, rfl, rfl, hst, hpr, sm1, nc, hc1, so, co, k.step (fun C' H2 e s2 hc2 => ?_) fun _ _ _ _ _ _ _ _ _ z => z⟩
    refine ⟨_, rfl, _, rfl, (by show 1 ≤ sizeLine; decide), fun l nl => ?_⟩
    have s3 := s2.trans (Same.new (o := .lst [.ref a]) nl)
    refine ⟨l, a, d, rfl, upd_same, hst.same s3, _, _, rfl, rfl, _, _, rfl, s3, .inr ⟨rfl, C', e, ?_⟩⟩
    exact hc2.same (Same.new nl)
  · rintro σ H1 ⟨z, v, rfl, sm1, hz⟩
    obtain ⟨_, C', e, hc1⟩ := hz.resolve_left (fun q => by cases q.1)
    rw [e] at k
    exact k H1 sm1 hc1
theorem ok_played (T : Txt K mg) : FnOk P w K mg base CX0 14 (ga K "played") (fd_played K) p_played (spPlayed K) := by
  refine T.f_played.ok sc_played (fun vs H Q E h => ?_) (fun cdv A outer s0 H vs Q E hr h => ?_)
  · obtain ⟨_, _, _, _, _, _, rfl, _⟩ := h
    rfl
  obtain ⟨pr, cs, a, d, L, C, rfl, hst, hpr, hcs, so, co, k⟩ := h
  have xf : XfC K (ga K "Stopped") := xfB_ok (T.ex_ 5 rfl)
  refine ⟨_, PSs.nox (pss_cons (ps_set (i := 2) sc_played.nd rfl (.inl rfl) (pe_callTy call_list_of (by rfl) T.z_list (by decide +kernel) (pa_cons (pv 1) pa_nil)))
      (pss_cons (ps_set (i := 3) sc_played.nd rfl (.inl rfl) pe_non)
      (pss_cons (ps_try_as (i := 4) rfl rfl sc_played.nd rfl rfl ⟨rfl, by decide, .inl T.g_Stopped⟩ takes0 (fun W pn xe tkW po => (pss_one (ps_expr (pe_callS (E := WE W) (ok_steps T) hr rfl T.g_play_steps T.k_play_steps T.b_play_steps (fun σ => passAt tkW σ) (pa_cons ((show PE _ _ (tFld K (tVar 0) "steps") from pe_fld (pv 0) rfl)) (pa_cons (pe_int) (pa_cons (pv 0) (pa_cons (pv 2) pa_nil))))))))
      (fun a oe cls d pn hz hf => (pss_one (ps_set (i := 3) sc_played.nd rfl (.inl rfl) (pe_tup (pa_cons (pe_xf (X := (cxOf CX0 P w K mg base n_played "played" (defScope s_played) (ga K "played") cdv A outer s0 H E).nox) xf (nofF_ok (T.ex_ 8 rfl)) hz hf (pv 4)) (pa_cons (pe_xf (X := (cxOf CX0 P w K mg base n_played "played" (defScope s_played) (ga K "played") cdv A outer s0 H E).nox) xf (nofF_ok (T.ex_ 9 rfl)) hz hf (pv 4)) (pa_cons (pe_xf (X := (cxOf CX0 P w K mg base n_played "played" (defScope s_played) (ga K "played") cdv A outer s0 H E).nox) xf (nofF_ok (T.ex_ 10 rfl)) hz hf (pv 4)) pa_nil))))))))
      (pss_one (ps_ret (pe_tup (pa_cons (pv 2) (pa_cons (pv 3) pa_nil)))))))), ?_⟩
  obtain ⟨dp, l, f, sl, p1, p2, p3, p4⟩ := hpr.ex
  refine ⟨_, rfl, cs, _, rfl, .inl (SqL.of hcs), fun nw nn => ?_⟩
  have s1 : Same H (upd H nw (.lst (C.map V.int))) := Same.new nn
  have fin : ∀ (H2 : Hp) (rf : V) (v4 : Option V), Same H H2 → IL H2 nw (goE d L (mny d L).toNat 0 C none).1 → RfAt H2 rf (goE d L (mny d L).toNat 0 C none).2 → tRet (tTup (tCons (tVar 2) (tCons (tVar 3) tNil))) { nx := fun _ H' => Q .non H', rt := Q } [some (.ref pr), some (.ref cs), some (.ref nw), some rf, v4] H2 := by
    intro H2 rf v4 s2 hn hr2
    refine ⟨_, rfl, _, rfl, (by show 2 ≤ sizeLine; decide), fun q nq => ?_⟩
    have s3 : Same H2 (upd H2 q (.tup [.ref nw, rf])) := Same.new nq
    exact k _ q (s2.trans s3) ⟨nw, rf, upd_same, hn.same s3, hr2.same s3⟩
  refine ⟨_, rfl, pr, _, dp, _, _, rfl, s1 _ _ p1, T.c_Program, T.n_Program_steps, l_Program_steps .., _, rfl, _, rfl, H, sl, a, pr, nw, 0, d, L, C, rfl, p4, hst, hpr, s1, nn, upd_same, so, co, ?_⟩
  generalize goE d L (mny d L).toNat 0 C none = r at fin
  obtain ⟨C', o⟩ := r
  cases o with
  | none => exact fun H2 s2 hn => fin H2 .non none s2 hn rfl
  | some x =>
    obtain ⟨p, kk⟩ := x
    intro H2 dd s2 hn hd
    refine ⟨true, T.e_Stopped_Stopped, fun _ e ne => ?_, fun z => nomatch z⟩
    refine ⟨_, rfl, rfl, rfl, dd, _, _, rfl, hd, l_stop_step .., _, rfl, rfl, rfl, dd, _, _, rfl, hd, l_stop_place .., _, rfl, rfl, rfl, dd, _, _, rfl, hd, l_stop_kind .., (by show 3 ≤ sizeLine; decide), fun t nt => ?_⟩
    have s3 : Same H2 (upd H2 t (.tup [.int 0, .int p, .str kk])) := Same.new nt
    exact fin _ (.ref t) none (s2.trans s3) (hn.same s3) ⟨t, rfl, upd_same⟩
end
end RB

namespace RB
open PySem PySem.Spec PyProof.Rows L2 He
theorem iteB1 {b : Bool} {p q : Prop} (h : b = true) (k : p) : if b = true then p else q := by
  rw [if_pos h]
  exact k
theorem iteB0 {b : Bool} {p q : Prop} (h : b = false) (k : q) : if b = true then p else q := by
  rw [h]
  exact k
theorem toNat_is {i : Int} (h : 0 ≤ i) : i = ((i.toNat : Nat) : Int) := (Int.toNat_of_nonneg h).symm
def spWhole : Sp := fun vs H Q _ => ∃ i : Int, vs = [.int i] ∧ Q (.bl true) H
def spKeptBy : Sp := fun vs H Q _ => ∃ c : Int, vs = [.int c] ∧ ∀ v H', Kp v → Same H H' → Q (.int v) H'
def spMix : Sp := fun vs H Q _ => ∃ c f p : Int, vs = [.int c, .int f, .int p] ∧ 0 < p ∧ 0 ≤ f ∧ f < 2 ^ 64 ∧ Q (.int (c * f % p)) H
def edges : List Int := [-9223372036854775808, 9223372036854775807, -1, 4294967296, -9223372036854775807, 3037000500]
theorem edges_kp : ∀ c ∈ edges, Kp c := by
  intro c h
  unfold edges at h
  simp only [List.mem_cons, List.not_mem_nil, or_false] at h
  rcases h with h | h | h | h | h | h <;> (subst h; exact ⟨by decide, by decide⟩)
section
variable {P : Program} {w : World} {K : PySem.W.Frag} {mg : Str → Option Value} {base : Heap}
theorem ok_whole (T : Txt K mg) : FnOk P w K mg base CX0 1 (ga K "_law_whole") (fd_l_whole K) p_l_whole spWhole := by
  refine T.f_l_whole.ok sc_l_whole (fun vs H Q E h => ?_) (fun cdv A outer s H vs Q E hr h => ?_)
  · obtain ⟨_, rfl, _⟩ := h
    rfl
  · obtain ⟨i, rfl, k⟩ := h
    refine ⟨_, PSs.nox (pss_one (ps_ret (pe_and (pe_callB call_isi (by rfl) T.z_isinstance (by decide +kernel) (pa_cons (pv 0) (pa_cons (pe_bltn (v := .ty "int") rfl T.z_int (by decide +kernel) rfl) pa_nil))) (pe_one (pe_not (pe_callB call_isi (by rfl) T.z_isinstance (by decide +kernel) (pa_cons (pv 0) (pa_cons (pe_bltn (v := .ty "bool") rfl T.z_bool (by decide +kernel) rfl) pa_nil)))))))), ?_⟩
    refine ⟨_, rfl, _, _, _, _, true, rfl, .ty _, .base (.int i), kit_ty (by decide +kernel), true, rfl, iteT ⟨_, rfl, _, _, _, _, false, rfl, .ty _, .base (.int i), kit_ty (by decide +kernel), false, rfl, k⟩⟩
theorem ok_mix (T : Txt K mg) : FnOk P w K mg base CX0 1 (ga K "_law_mix") (fd_l_mix K) p_l_mix spMix := by
  refine T.f_l_mix.ok sc_l_mix (fun vs H Q E h => ?_) (fun cdv A outer s H vs Q E hr h => ?_)
  · obtain ⟨_, _, _, rfl, _⟩ := h
    rfl
  · obtain ⟨c, f, p, rfl, hp, hf, hf2, k⟩ := h
    refine ⟨_, PSs.nox (pss_one (ps_ret (pe_op op_mod (pe_op op_mul (pv 0) (pv 1)) (pv 2)))), ?_⟩
    exact ⟨_, rfl, _, rfl, _, _, rfl, rfl, .inr ⟨by omega, hf2⟩, _, rfl, _, _, rfl, rfl, hp, k⟩
theorem ok_keptBy (T : Txt K mg) : FnOk P w K mg base CX0 1 (ga K "_law_kept_by") (fd_l_kept_by K) p_l_kept_by spKeptBy := by
  refine T.f_l_kept_by.ok sc_l_kept_by (fun vs H Q E h => ?_) (fun cdv A outer s H vs Q E hr h => ?_)
  · obtain ⟨_, rfl, _⟩ := h
    rfl
  · obtain ⟨c, rfl, k⟩ := h
    refine ⟨_, PSs.nox (pss_cons (ps_set (i := 1) sc_l_kept_by.nd rfl (.inl rfl) (pe_op op_mod (pv 0) pe_int))
      (pss_cons (ps_if (pt_cmpR op_eq (pv 1) pe_int (nomark _)) (pss_one (ps_ret (pe_op op_sub (pe_op op_mod (pe_op op_fdiv (pv 0) pe_int) pe_int) pe_int))) pss_nil)
      (pss_cons (ps_if (pt_cmpR op_eq (pv 1) pe_int (nomark _)) (pss_cons (ps_set (i := 2) sc_l_kept_by.nd rfl (.inl rfl) (pe_lst (pa_cons (pe_un un_neg pe_int) (pa_cons (pe_int) (pa_cons (pe_un un_neg pe_int) (pa_cons (pe_int) (pa_cons (pe_un un_neg pe_int) (pa_cons (pe_int) pa_nil))))))))
      (pss_one (ps_ret (pe_ix ix_list (pv 2) (pe_op op_mod (pe_op op_fdiv (pv 0) pe_int) pe_int) (fun _ _ => rfl))))) pss_nil)
      (pss_cons (ps_if (pt_cmpR op_eq (pv 1) pe_int (nomark _)) (pss_one (ps_ret (pe_op op_sub (pe_op op_mod (pe_op op_mul (pe_op op_fdiv (pv 0) pe_int) pe_int) pe_int) pe_int))) pss_nil)
      (pss_one (ps_ret (pe_op op_sub (pe_op op_mod (pe_op op_mul (pe_op op_fdiv (pv 0) pe_int) pe_int) pe_int) pe_int))))))), ?_⟩
    refine ⟨_, rfl, _, _, rfl, rfl, (by show (0 : Int) < 4; decide), _, rfl, rfl, _, rfl, ?_⟩
    cases decide (V.int (c % 4) = V.int 0) with
    | true => exact iteT ⟨_, rfl, _, _, rfl, rfl, ⟨by decide, by decide⟩, _, _, rfl, rfl, (by show (0 : Int) < 7; decide), _, _, rfl, rfl, k _ _ ⟨by omega, by omega⟩ (Same.refl _)⟩
    | false =>
    refine iteF ⟨_, rfl, rfl, _, rfl, ?_⟩
    cases decide (V.int (c % 4) = V.int 1) with
    | true =>
      refine iteT ⟨_, rfl, _, rfl, _, rfl, (by show 6 ≤ sizeLine; decide), fun l nl => ?_⟩
      have h0 : (0 : Int) ≤ c / 4 % 6 := by omega
      refine ⟨_, rfl, _, rfl, _, _, rfl, rfl, ⟨by decide, by decide⟩, _, _, rfl, rfl, (by show (0 : Int) < 6; decide), l, edges.map V.int, _, .int (cv edges (c / 4 % 6)), rfl, rfl, SqL.of upd_same, cv_at (toNat_is h0) (by show _ < 6; omega), k _ _ (cv_kp edges_kp _) (Same.new nl)⟩
    | false =>
    refine iteF ⟨_, rfl, rfl, _, rfl, ?_⟩
    cases decide (V.int (c % 4) = V.int 2) with
    | true => exact iteT ⟨_, rfl, _, _, rfl, rfl, ⟨by decide, by decide⟩, _, _, rfl, rfl, .inr ⟨by decide, by decide⟩, _, _, rfl, rfl, (by show (0 : Int) < 2001; decide), _, _, rfl, rfl, k _ _ ⟨by omega, by omega⟩ (Same.refl _)⟩
    | false => exact iteF ⟨_, rfl, _, _, rfl, rfl, ⟨by decide, by decide⟩, _, _, rfl, rfl, .inr ⟨by decide, by decide⟩, _, _, rfl, rfl, (by show (0 : Int) < 18446744073709551616; decide), _, _, rfl, rfl, k _ _ ⟨by omega, by omega⟩ (Same.refl _)⟩
end
end RB

namespace RB
open PySem PySem.Spec PyProof.Rows L2 He
def foB (c : Int) : Str := fo1.getD (c * 41358 % 2147483543 % 9).toNat "sum"
theorem getD_mem {α : Type} {l : List α} {i : Nat} {d : α} (h : i < l.length) : l.getD i d ∈ l := by
  rw [List.getD_eq_getElem?_getD, List.getElem?_eq_getElem h]
  exact List.getElem_mem h
theorem foB_mem (c : Int) : foB c ∈ fo1 := by
  unfold foB
  exact getD_mem (by show _ < 9; omega)
theorem cap_eq (x : Int) : (if (if x > -1000000000 then x else -1000000000) < 1000000000 then (if x > -1000000000 then x else -1000000000) else 1000000000) = capW x := by
  unfold capW lo9
  repeat' split
  all_goals omega
def spFoldBy : Sp := fun vs H Q _ => ∃ c : Int, vs = [.int c] ∧ ∀ H', Same H H' → Q (.str (foB c)) H'
section
variable {P : Program} {w : World} {K : PySem.W.Frag} {mg : Str → Option Value} {base : Heap}
theorem ok_foldBy (T : Txt K mg) : FnOk P w K mg base CX0 2 (ga K "_law_fold_by") (fd_l_fold_by K) p_l_fold_by spFoldBy := by
  refine T.f_l_fold_by.ok sc_l_fold_by (fun vs H Q E h => ?_) (fun cdv A outer s H vs Q E hr h => ?_)
  · obtain ⟨_, rfl, _⟩ := h
    rfl
  · obtain ⟨c, rfl, k⟩ := h
    refine ⟨_, PSs.nox (pss_cons (ps_set (i := 1) sc_l_fold_by.nd rfl (.inl rfl) (pe_lst (pa_cons (pe_str) (pa_cons (pe_str) (pa_cons (pe_str) (pa_cons (pe_str) (pa_cons (pe_str) (pa_cons (pe_str) (pa_cons (pe_str) (pa_cons (pe_str) (pa_cons (pe_str) pa_nil)))))))))))
      (pss_one (ps_ret (pe_ix ix_list (pv 1) (pe_op op_mod (pe_call (ok_mix T) hr rfl T.g_l_mix T.k_l_mix T.b_l_mix .nil pass0 (pa_cons (pv 0) (pa_cons (pe_int) (pa_cons (pe_int) pa_nil)))) pe_int) (fun _ _ => rfl))))), ?_⟩
    have h0 : (0 : Int) ≤ c * 41358 % 2147483543 % 9 := by omega
    refine ⟨(by show 9 ≤ sizeLine; decide), fun l nl => ⟨_, rfl, _, rfl, c, _, _, rfl, by decide, by decide, by decide, _, _, rfl, rfl, (by show (0 : Int) < 9; decide), l, fo1.map V.str, _, .str (foB c), rfl, rfl, SqL.of upd_same, ?_, k _ (Same.new nl)⟩⟩
    rw [toNat_is h0]
    refine atI_nat ?_
    have q : (c * 41358 % 2147483543 % 9).toNat < fo1.length := by show _ < 9; omega
    unfold foB
    rw [List.getElem?_map, List.getD_eq_getElem?_getD, List.getElem?_eq_getElem q]
    rfl
theorem ok_ljoined (T : Txt K mg) : FnOk P w K mg base CX0 1 (ga K "_law_joined") (fd_l_joined K) p_l_joined spJoined := by
  refine T.f_l_joined.ok sc_l_joined (fun vs H Q E h => ?_) (fun cdv A outer s H vs Q E hr h => ?_)
  · obtain ⟨f, r, n, rfl, _⟩ := h
    rfl
  · obtain ⟨f, r, n, rfl, hf, kr, kn, k⟩ := h
    refine ⟨_, PSs.nox (pss_cons (ps_if (pt_cmpR op_in_seq (pv 0) (pe_tup (pa_cons (pe_str) (pa_cons (pe_str) (pa_cons (pe_str) pa_nil)))) (by rfl)) (pss_one (ps_ret (pe_ix ix_list (pe_lst (pa_cons (pe_op op_and (pv 1) (pv 2)) (pa_cons (pe_op op_or (pv 1) (pv 2)) (pa_cons (pe_op op_xor (pv 1) (pv 2)) pa_nil)))) (pe_bm PySem.F.plainAttrs_list PySem.F.slot_list_index PySem.F.type_list_index mt_index (pe_lst (pa_cons (pe_str) (pa_cons (pe_str) (pa_cons (pe_str) pa_nil)))) (pa_cons (pv 0) pa_nil)) (fun _ _ => rfl)))) pss_nil)
      (pss_cons (ps_if (pt_cmpR op_in_seq (pv 0) (pe_tup (pa_cons (pe_str) (pa_cons (pe_str) pa_nil))) (by rfl)) (pss_one (ps_ret (pe_ifExp (pt_cmpR op_eq (pv 0) pe_str (nomark _)) (pe_callB (call_min2 rfl) (by rfl) T.z_min (by decide +kernel) (pa_cons (pv 1) (pa_cons (pv 2) pa_nil))) (pe_callB (call_max2 rfl) (by rfl) T.z_max (by decide +kernel) (pa_cons (pv 1) (pa_cons (pv 2) pa_nil)))))) pss_nil)
      (pss_cons (ps_if (pt_cmpR op_eq (pv 0) pe_str (nomark _)) (pss_one (ps_ret (pe_callB (call_min2 rfl) (by rfl) T.z_min (by decide +kernel) (pa_cons (pe_int) (pa_cons (pe_callB (call_max2 rfl) (by rfl) T.z_max (by decide +kernel) (pa_cons (pe_un un_neg pe_int) (pa_cons (pe_op op_add (pv 1) (pv 2)) pa_nil))) pa_nil))))) pss_nil)
      (pss_cons (ps_set (i := 3) sc_l_joined.nd rfl (.inl rfl) (pe_op op_add (pv 1) (pv 2)))
      (pss_cons (ps_if (pt_cmpR op_eq (pv 0) pe_str (nomark _)) (pss_one (ps_set (i := 3) sc_l_joined.nd rfl (.inl rfl) (pe_op op_mul (pv 1) (pv 2)))) pss_nil)
      (pss_cons (ps_if (pt_cmpR op_eq (pv 0) pe_str (nomark _)) (pss_one (ps_set (i := 3) sc_l_joined.nd rfl (.inl rfl) (pe_op op_add (pe_op op_mul pe_int (pv 1)) (pv 2)))) pss_nil)
      (pss_one (ps_ret (pe_op op_sub (pe_op op_mod (pe_op op_add (pv 3) pe_int) pe_int) pe_int))))))))), ?_⟩
    unfold fo1 at hf
    simp only [List.mem_cons, List.not_mem_nil, or_false] at hf
    rcases hf with h | h | h | h | h | h | h | h | h
    · subst h
      refine ⟨_, rfl, (by show 3 ≤ sizeLine; decide), fun t nt => ⟨t, [.str "both", .str "either", .str "odd"], rfl, .inr (SqT.of upd_same), rfl, rfl, _, rfl, iteB0 (by decide +kernel) ?_⟩⟩
      refine ⟨_, rfl, (by show 2 ≤ sizeLine; decide), fun t2 nt2 => ⟨t2, [.str "least", .str "most"], rfl, .inr (SqT.of upd_same), rfl, rfl, _, rfl, iteB0 (by decide +kernel) ?_⟩⟩
      have s2 := (Same.new (o := .tup [.str "both", .str "either", .str "odd"]) nt).trans (Same.new (o := .tup [.str "least", .str "most"]) nt2)
      refine ⟨_, rfl, rfl, _, rfl, iteB0 (by decide +kernel) ⟨_, rfl, _, rfl, _, _, rfl, rfl, ?_⟩⟩
      refine ⟨_, rfl, rfl, _, rfl, iteB0 (by decide +kernel) ?_⟩
      refine ⟨_, rfl, rfl, _, rfl, iteB0 (by decide +kernel) ?_⟩
      exact ⟨_, rfl, _, _, rfl, rfl, _, _, rfl, rfl, (by show (0 : Int) < 18446744073709551616; decide), _, _, rfl, rfl, k _ s2⟩
    · subst h
      refine ⟨_, rfl, (by show 3 ≤ sizeLine; decide), fun t nt => ⟨t, [.str "both", .str "either", .str "odd"], rfl, .inr (SqT.of upd_same), rfl, rfl, _, rfl, iteB0 (by decide +kernel) ?_⟩⟩
      refine ⟨_, rfl, (by show 2 ≤ sizeLine; decide), fun t2 nt2 => ⟨t2, [.str "least", .str "most"], rfl, .inr (SqT.of upd_same), rfl, rfl, _, rfl, iteB0 (by decide +kernel) ?_⟩⟩
      have s2 := (Same.new (o := .tup [.str "both", .str "either", .str "odd"]) nt).trans (Same.new (o := .tup [.str "least", .str "most"]) nt2)
      refine ⟨_, rfl, rfl, _, rfl, iteB0 (by decide +kernel) ⟨_, rfl, _, rfl, _, _, rfl, rfl, ?_⟩⟩
      refine ⟨_, rfl, rfl, _, rfl, iteB1 (by decide +kernel) ⟨_, rfl, _, rfl, _, _, rfl, rfl, mul_of kr, ?_⟩⟩
      refine ⟨_, rfl, rfl, _, rfl, iteB0 (by decide +kernel) ?_⟩
      exact ⟨_, rfl, _, _, rfl, rfl, _, _, rfl, rfl, (by show (0 : Int) < 18446744073709551616; decide), _, _, rfl, rfl, k _ s2⟩
    · subst h
      refine ⟨_, rfl, (by show 3 ≤ sizeLine; decide), fun t nt => ⟨t, [.str "both", .str "either", .str "odd"], rfl, .inr (SqT.of upd_same), rfl, rfl, _, rfl, iteB0 (by decide +kernel) ?_⟩⟩
      refine ⟨_, rfl, (by show 2 ≤ sizeLine; decide), fun t2 nt2 => ⟨t2, [.str "least", .str "most"], rfl, .inr (SqT.of upd_same), rfl, rfl, _, rfl, iteB1 (by decide +kernel) ?_⟩⟩
      have s2 := (Same.new (o := .tup [.str "both", .str "either", .str "odd"]) nt).trans (Same.new (o := .tup [.str "least", .str "most"]) nt2)
      refine ⟨_, rfl, rfl, _, rfl, iteB1 (by decide +kernel) ?_⟩
      exact ⟨_, rfl, _, rfl, _, _, rfl, k _ s2⟩
    · subst h
      refine ⟨_, rfl, (by show 3 ≤ sizeLine; decide), fun t nt => ⟨t, [.str "both", .str "either", .str "odd"], rfl, .inr (SqT.of upd_same), rfl, rfl, _, rfl, iteB0 (by decide +kernel) ?_⟩⟩
      refine ⟨_, rfl, (by show 2 ≤ sizeLine; decide), fun t2 nt2 => ⟨t2, [.str "least", .str "most"], rfl, .inr (SqT.of upd_same), rfl, rfl, _, rfl, iteB1 (by decide +kernel) ?_⟩⟩
      have s2 := (Same.new (o := .tup [.str "both", .str "either", .str "odd"]) nt).trans (Same.new (o := .tup [.str "least", .str "most"]) nt2)
      refine ⟨_, rfl, rfl, _, rfl, iteB0 (by decide +kernel) ?_⟩
      exact ⟨_, rfl, _, rfl, _, _, rfl, k _ s2⟩
    · subst h
      refine ⟨_, rfl, (by show 3 ≤ sizeLine; decide), fun t nt => ⟨t, [.str "both", .str "either", .str "odd"], rfl, .inr (SqT.of upd_same), rfl, rfl, _, rfl, iteB1 (by decide +kernel) ?_⟩⟩
      have s1 := Same.new (o := .tup [.str "both", .str "either", .str "odd"]) nt
      refine ⟨_, rfl, _, rfl, _, _, rfl, rfl, _, rfl, _, rfl, _, _, rfl, rfl, _, rfl, _, rfl, _, _, rfl, rfl, (by show 3 ≤ sizeLine; decide), fun l nl => ⟨(by show 3 ≤ sizeLine; decide), fun m nm => ?_⟩⟩
      have s2 := s1.trans ((Same.new (o := .lst [.int (Builtin.bitAnd r n), .int (Builtin.bitOr r n), .int (Builtin.bitXor r n)]) nl).trans (Same.new (o := .lst [.str "both", .str "either", .str "odd"]) nm))
      have lm : l ≠ m := by
        rintro rfl
        rw [upd_same] at nm
        cases nm
      refine ⟨.inl ⟨rfl, _, SqL.of upd_same⟩, _, rfl, m, [.str "both", .str "either", .str "odd"], _, 0, _, rfl, rfl, SqL.of upd_same, rfl, rfl, rfl, (by decide +kernel), (fun m z h0 _ => absurd h0 (Nat.not_lt_zero _)), ?_⟩
      exact ⟨l, _, _, _, rfl, rfl, SqL.of ((upd_ne lm).trans upd_same), atI_nat (j := 0) rfl, k _ s2⟩
    · subst h
      refine ⟨_, rfl, (by show 3 ≤ sizeLine; decide), fun t nt => ⟨t, [.str "both", .str "either", .str "odd"], rfl, .inr (SqT.of upd_same), rfl, rfl, _, rfl, iteB1 (by decide +kernel) ?_⟩⟩
      have s1 := Same.new (o := .tup [.str "both", .str "either", .str "odd"]) nt
      refine ⟨_, rfl, _, rfl, _, _, rfl, rfl, _, rfl, _, rfl, _, _, rfl, rfl, _, rfl, _, rfl, _, _, rfl, rfl, (by show 3 ≤ sizeLine; decide), fun l nl => ⟨(by show 3 ≤ sizeLine; decide), fun m nm => ?_⟩⟩
      have s2 := s1.trans ((Same.new (o := .lst [.int (Builtin.bitAnd r n), .int (Builtin.bitOr r n), .int (Builtin.bitXor r n)]) nl).trans (Same.new (o := .lst [.str "both", .str "either", .str "odd"]) nm))
      have lm : l ≠ m := by
        rintro rfl
        rw [upd_same] at nm
        cases nm
      refine ⟨.inl ⟨rfl, _, SqL.of upd_same⟩, _, rfl, m, [.str "both", .str "either", .str "odd"], _, 1, _, rfl, rfl, SqL.of upd_same, rfl, rfl, rfl, (by decide +kernel), (fun m z h0 e => by
        match m, h0 with
        | 0, _ =>
          cases e
          decide +kernel), ?_⟩
      exact ⟨l, _, _, _, rfl, rfl, SqL.of ((upd_ne lm).trans upd_same), atI_nat (j := 1) rfl, k _ s2⟩
    · subst h
      refine ⟨_, rfl, (by show 3 ≤ sizeLine; decide), fun t nt => ⟨t, [.str "both", .str "either", .str "odd"], rfl, .inr (SqT.of upd_same), rfl, rfl, _, rfl, iteB1 (by decide +kernel) ?_⟩⟩
      have s1 := Same.new (o := .tup [.str "both", .str "either", .str "odd"]) nt
      refine ⟨_, rfl, _, rfl, _, _, rfl, rfl, _, rfl, _, rfl, _, _, rfl, rfl, _, rfl, _, rfl, _, _, rfl, rfl, (by show 3 ≤ sizeLine; decide), fun l nl => ⟨(by show 3 ≤ sizeLine; decide), fun m nm => ?_⟩⟩
      have s2 := s1.trans ((Same.new (o := .lst [.int (Builtin.bitAnd r n), .int (Builtin.bitOr r n), .int (Builtin.bitXor r n)]) nl).trans (Same.new (o := .lst [.str "both", .str "either", .str "odd"]) nm))
      have lm : l ≠ m := by
        rintro rfl
        rw [upd_same] at nm
        cases nm
      refine ⟨.inl ⟨rfl, _, SqL.of upd_same⟩, _, rfl, m, [.str "both", .str "either", .str "odd"], _, 2, _, rfl, rfl, SqL.of upd_same, rfl, rfl, rfl, (by decide +kernel), (fun m z h0 e => by
        match m, h0 with
        | 0, _ =>
          cases e
          decide +kernel
        | 1, _ =>
          cases e
          decide +kernel), ?_⟩
      exact ⟨l, _, _, _, rfl, rfl, SqL.of ((upd_ne lm).trans upd_same), atI_nat (j := 2) rfl, k _ s2⟩
    · subst h
      refine ⟨_, rfl, (by show 3 ≤ sizeLine; decide), fun t nt => ⟨t, [.str "both", .str "either", .str "odd"], rfl, .inr (SqT.of upd_same), rfl, rfl, _, rfl, iteB0 (by decide +kernel) ?_⟩⟩
      refine ⟨_, rfl, (by show 2 ≤ sizeLine; decide), fun t2 nt2 => ⟨t2, [.str "least", .str "most"], rfl, .inr (SqT.of upd_same), rfl, rfl, _, rfl, iteB0 (by decide +kernel) ?_⟩⟩
      have s2 := (Same.new (o := .tup [.str "both", .str "either", .str "odd"]) nt).trans (Same.new (o := .tup [.str "least", .str "most"]) nt2)
      refine ⟨_, rfl, rfl, _, rfl, iteB0 (by decide +kernel) ⟨_, rfl, _, rfl, _, _, rfl, rfl, ?_⟩⟩
      refine ⟨_, rfl, rfl, _, rfl, iteB0 (by decide +kernel) ?_⟩
      refine ⟨_, rfl, rfl, _, rfl, iteB1 (by decide +kernel) ⟨_, rfl, _, _, rfl, rfl, .inl ⟨by decide, by decide⟩, _, rfl, _, _, rfl, rfl, ?_⟩⟩
      exact ⟨_, rfl, _, _, rfl, rfl, _, _, rfl, rfl, (by show (0 : Int) < 18446744073709551616; decide), _, _, rfl, rfl, k _ s2⟩
    · subst h
      refine ⟨_, rfl, (by show 3 ≤ sizeLine; decide), fun t nt => ⟨t, [.str "both", .str "either", .str "odd"], rfl, .inr (SqT.of upd_same), rfl, rfl, _, rfl, iteB0 (by decide +kernel) ?_⟩⟩
      refine ⟨_, rfl, (by show 2 ≤ sizeLine; decide), fun t2 nt2 => ⟨t2, [.str "least", .str "most"], rfl, .inr (SqT.of upd_same), rfl, rfl, _, rfl, iteB0 (by decide +kernel) ?_⟩⟩
      have s2 := (Same.new (o := .tup [.str "both", .str "either", .str "odd"]) nt).trans (Same.new (o := .tup [.str "least", .str "most"]) nt2)
      refine ⟨_, rfl, rfl, _, rfl, iteB1 (by decide +kernel) ⟨_, rfl, _, rfl, _, rfl, _, _, rfl, rfl, _, _, rfl, _, _, rfl, ?_⟩⟩
      have z := k _ s2
      show Q (.int (if (if r + n > -1000000000 then r + n else -1000000000) < 1000000000 then (if r + n > -1000000000 then r + n else -1000000000) else 1000000000)) _
      rw [cap_eq]
      exact z
end
end RB

namespace RB
open PySem PySem.Spec PyProof.Rows L2 He
def rIsX (K : PySem.W.Frag) (D a : Addr) (cls : Value) (d : Option Addr) : List V → Hp → VK → Prop := fun xs H Q => cls = .ref D ∧ d = none ∧ rIsE K D a xs H Q
theorem call_isX {X : Cx} {a D : Addr} {oe : Obj} {pn : List (Addr × Obj)} {cls : Value} {d : Option Addr} (C : ExcC X.K D) (hz : Zc cls d oe) (hf : ∃ vs, oe.data = .fields vs) : CallR (X.suite a ((a, oe) :: pn)) (.builtin "isinstance") (rIsX X.K D a cls d) := by
  intro pins s σ H xs us Q I r h
  obtain ⟨rfl, rfl, h⟩ := h
  exact call_isE C hz hf pins s σ H xs us Q I r h
theorem Txt.excN {K : PySem.W.Frag} {mg : Str → Option Value} (T : Txt K mg) : ExcC K (ga K "ByNought") := by
  obtain ⟨h1, h2⟩ := insF_ok (T.ex_ 3 rfl)
  obtain ⟨h3, h4⟩ := T.clsO_
  have x : XfC K (ga K "ByNought") := xfB_ok (T.ex_ 4 rfl)
  exact ⟨x.ga, x.gg, x.exC, x.hdC, h1, h3, h4, h2⟩
def wP : Wo → Str × Int
  | .ok v => ("", v)
  | .nought => ("nought", 0)
  | .outside => ("outside", 0)
def spAsked (K : PySem.W.Frag) (n : Nat) : Sp := fun vs H Q _ => ∃ a s f L C p O m, vs = [.ref a, .ref s] ∧ WIn K H n a s f L C p O m ∧ ∀ H' t, Same H H' → H' t = some (.tup [.str (wP (wof L C p O f)).1, .int (wP (wof L C p O f)).2]) → Q (.ref t) H'
def EEnd (H : Hp) (Q : VK) : El → Prop
  | .pass => ∀ H', Same H H' → Q .non H'
  | .ok v => ∀ H' t, Same H H' → H' t = some (.tup [.str "", .int v]) → Q (.ref t) H'
  | .bad k => ∀ H' t i, Same H H' → k ≠ "" → H' t = some (.tup [.str k, .int i]) → Q (.ref t) H'
def spElement (K : PySem.W.Frag) (n : Nat) : Sp := fun vs H Q _ => ∃ a s d L C p m, vs = [.ref a, .ref s] ∧ StepAt K H a d ∧ TIn K H n s d.test L C p m ∧ Fine L m 0 d.val ∧ ht d.val ≤ n ∧ EEnd H Q (elW d L C p)
def spFuns (K : PySem.W.Frag) : Sp := fun vs H Q _ => vs = [] ∧ ∀ H' a, Same H H' → FnsAt K H' a → Q (.ref a) H'
section
variable {P : Program} {w : World} {K : PySem.W.Frag} {mg : Str → Option Value} {base : Heap}
theorem ok_asked (T : Txt K mg) (n : Nat) : FnOk P w K mg base CX0 (n + 5) (ga K "_law_asked") (fd_l_asked K) p_l_asked (spAsked K n) := by
  refine T.f_l_asked.ok sc_l_asked (fun vs H Q E h => ?_) (fun cdv A outer s0 H vs Q E hr h => ?_)
  · obtain ⟨_, _, _, _, _, _, _, _, rfl, _⟩ := h
    rfl
  · obtain ⟨a, s, f, L, C, p, O, m, rfl, wi, k⟩ := h
    have M : MetW P w K mg base n := met_w T n
    refine ⟨_, PSs.nox (pss_cons (ps_set (i := 2) sc_l_asked.nd rfl (.inl rfl) pe_int)
      (pss_cons (ps_set (i := 3) sc_l_asked.nd rfl (.inl rfl) pe_str)
      (pss_cons (ps_tryX pss_nil rfl rfl sc_l_asked.nd takes0 (fun W pn xe tkW po => (pss_one (ps_set (i := 2) sc_l_asked.nd rfl (.inl rfl) (pe_dispS (E := WE W) (pv 0) M hr (fun σ => passAt tkW σ) (pa_cons (pv 1) pa_nil)))))
        (.named (i := 4) rfl rfl ⟨rfl, by decide, .inl T.g_ByNought⟩ (fun a oe cls d pn hz hf => (pss_one (ps_set (i := 3) sc_l_asked.nd rfl (.inl rfl) (pe_ifExp (pt_val (pe_callB (call_isX (X := (cxOf CX0 P w K mg base n_l_asked "_law_asked" (defScope s_l_asked) (ga K "_law_asked") cdv A outer s0 H E).nox) T.excN hz hf) (by rfl) T.z_isinstance (by decide +kernel) (pa_cons (pv 4) (pa_cons (pe_glob (v := .ref (ga K "Outside")) rfl T.g_Outside rfl) pa_nil)))) pe_str pe_str))))
        (.bare ⟨rfl, by decide, .inl T.g_Outside⟩ (fun a oe cls d pn hz hf => (pss_one (ps_set (i := 3) sc_l_asked.nd rfl (.inl rfl) pe_str))) .nil)))
      (pss_one (ps_ret (pe_tup (pa_cons (pv 3) (pa_cons (pv 2) pa_nil)))))))), ?_⟩
    refine ⟨_, rfl, disp1 (n := n) (f := f) rfl wi ?_⟩
    cases e : wof L C p O f with
    | ok v =>
      rw [e] at k
      exact fun H1 s1 => ⟨_, rfl, _, rfl, (by show 2 ≤ sizeLine; decide), fun t nt => k _ t (s1.trans (Same.new nt)) upd_same⟩
    | nought =>
      rw [e] at k
      exact fun H1 s1 => ⟨true, T.e_ByNought_ByNought, fun _ a na => ⟨_, rfl, rfl, rfl, _, _, false, rfl, fun _ r => r, kitF_ok (T.ex_ 24 rfl), false, rfl, iteF ⟨_, rfl, _, rfl, (by show 2 ≤ sizeLine; decide), fun t nt => k _ t (s1.trans (Same.new nt)) upd_same⟩⟩, fun z => nomatch z⟩
    | outside =>
      rw [e] at k
      exact fun H1 s1 => ⟨false, T.e_Outside_ByNought, (fun z => nomatch z), fun _ => ⟨true, T.e_Outside_Outside, fun _ a na => ⟨_, rfl, _, rfl, (by show 2 ≤ sizeLine; decide), fun t nt => k _ t (s1.trans (Same.new nt)) upd_same⟩, fun z => nomatch z⟩⟩
theorem ok_element (T : Txt K mg) (n : Nat) : FnOk P w K mg base CX0 (n + 6) (ga K "_law_element") (fd_l_element K) p_l_element (spElement K n) := by
  refine T.f_l_element.ok sc_l_element (fun vs H Q E h => ?_) (fun cdv A outer s0 H vs Q E hr h => ?_)
  · obtain ⟨_, _, _, _, _, _, _, rfl, _⟩ := h
    rfl
  · obtain ⟨a, s, d, L, C, p, m, rfl, hst, ⟨sp, gd, fi⟩, fv, hv, k⟩ := h
    obtain ⟨D, dx, fs, v, tv, R⟩ := hst.read T
    refine ⟨_, PSs.nox (pss_cons (ps_if (pt_cmpR op_notN (pe_fld (pv 0) rfl) pe_non (nomark _)) (pss_cons (ps_set (i := 2) sc_l_element.nd rfl (.inl rfl) (pe_call (ok_asked T n) hr rfl T.g_l_asked T.k_l_asked T.b_l_asked .nil pass0 (pa_cons (pe_fld (pv 0) rfl) (pa_cons (pv 1) pa_nil))))
      (pss_cons (ps_if (pt_cmpR op_ne (pe_ix ix_tup (pv 2) pe_int (fun _ _ => rfl)) pe_str (nomark _)) (pss_one (ps_ret (pv 2))) pss_nil)
      (pss_one (ps_if (pt_cmpR op_eq (pe_ix ix_tup (pv 2) pe_int (fun _ _ => rfl)) pe_int (nomark _)) (pss_one (ps_ret pe_non)) pss_nil)))) pss_nil)
      (pss_one (ps_ret (pe_call (ok_asked T n) hr rfl T.g_l_asked T.k_l_asked T.b_l_asked .nil pass0 (pa_cons (pe_fld (pv 0) rfl) (pa_cons (pv 1) pa_nil)))))), ?_⟩
    have fin : ∀ (H1 : Hp) (x : Option V), Same H H1 → EEnd H Q (wof L C p [] d.val).el → tRet (tCall (spAsked K n) [] E (tCons (tFld K (tVar 0) "value") (tCons (tVar 1) tNil))) { nx := fun _ H' => Q .non H', rt := Q } [some (.ref a), some (.ref s), x] H1 := by
      intro H1 x s1 k
      refine ⟨_, rfl, a, D, dx, fs, _, rfl, s1 _ _ R.at_, R.cl, R.n3, R.l3, _, rfl, v, s, d.val, L, C, p, [], m, rfl, ⟨R.f1.same s1, sp.same s1, gd, by simp, fv, hv⟩, fun H2 t s2 e => ?_⟩
      cases ew : wof L C p [] d.val with
      | ok u =>
        rw [ew] at k e
        exact k H2 t (s1.trans s2) e
      | nought =>
        rw [ew] at k e
        exact k H2 t 0 (s1.trans s2) (by decide +kernel) e
      | outside =>
        rw [ew] at k e
        exact k H2 t 0 (s1.trans s2) (by decide +kernel) e
    refine ⟨_, rfl, a, D, dx, fs, tv, rfl, R.at_, R.cl, R.n4, R.l4, rfl, _, rfl, ?_⟩
    have R2 := R.f2
    unfold elW at k
    cases e : d.test with
    | none =>
      rw [e] at R2 k
      obtain rfl : tv = .non := R2
      exact iteF (fin H none (Same.refl _) k)
    | some f =>
      rw [e] at R2 k
      obtain ⟨b, rfl, hb⟩ := R2
      obtain ⟨f1, f2⟩ := fi f e
      refine iteT ⟨_, rfl, a, D, dx, fs, _, rfl, R.at_, R.cl, R.n4, R.l4, _, rfl, b, s, f, L, C, p, [], m, rfl, ⟨hb, sp, gd, by simp, f1, f2⟩, fun H2 t s2 et => ?_⟩
      refine ⟨_, rfl, t, _, 0, _, rfl, rfl, SqT.of et, rfl, rfl, _, rfl, ?_⟩
      have k : EEnd H Q (match wof L C p [] f with
        | .ok t => if t = 0 then .pass else (wof L C p [] d.val).el
        | .nought => .bad "nought"
        | .outside => .bad "outside") := k
      cases ew : wof L C p [] f with
      | ok u =>
        rw [ew] at k et
        refine iteB0 (show (!decide (V.str "" = V.str "")) = false by decide +kernel) ⟨_, rfl, t, _, 1, _, rfl, rfl, SqT.of et, rfl, rfl, _, rfl, ?_⟩
        dsimp only at k
        by_cases z : u = 0
        · rw [if_pos z] at k
          exact iteB1 (decide_eq_true (congrArg V.int z)) (k H2 s2)
        · rw [if_neg z] at k
          exact iteB0 (decide_eq_false fun q => z (V.int.inj q)) (fin H2 _ s2 k)
      | nought =>
        rw [ew] at k et
        exact iteB1 (by decide +kernel) ⟨_, rfl, k H2 t 0 s2 (by decide +kernel) et⟩
      | outside =>
        rw [ew] at k et
        exact iteB1 (by decide +kernel) ⟨_, rfl, k H2 t 0 s2 (by decide +kernel) et⟩
theorem ok_funs (T : Txt K mg) : FnOk P w K mg base CX0 3 (ga K "_law_functions") (fd_l_functions K) p_l_functions (spFuns K) := by
  refine T.f_l_functions.ok sc_l_functions (fun vs H Q E h => ?_) (fun cdv A outer s0 H vs Q E hr h => ?_)
  · obtain ⟨rfl, _⟩ := h
    rfl
  · obtain ⟨rfl, k⟩ := h
    refine ⟨_, PSs.nox (pss_cons (ps_set (i := 0) sc_l_functions.nd rfl (.inl rfl) (pe_new T.m_Choice (ok_Choice T) hr rfl T.g_Choice T.b_Choice_init .nil (pa_cons (pe_new T.m_Local (ok_Local T) hr rfl T.g_Local T.b_Local_init .nil (pa_cons (pe_int) pa_nil)) (pa_cons (pe_new T.m_Pair (ok_Pair T) hr rfl T.g_Pair T.b_Pair_init .nil (pa_cons (pe_str) (pa_cons (pe_new T.m_Number (ok_Number T) hr rfl T.g_Number T.b_Number_init .nil (pa_cons (pe_int) pa_nil)) (pa_cons (pe_new T.m_Local (ok_Local T) hr rfl T.g_Local T.b_Local_init .nil (pa_cons (pe_int) pa_nil)) pa_nil)))) (pa_cons (pe_mk0 T.mk0 rfl T.g_Here) pa_nil)))))
      (pss_one (ps_ret (pe_lst (pa_cons (pe_tup (pa_cons (pe_int) (pa_cons (pv 0) pa_nil))) (pa_cons (pe_tup (pa_cons (pe_int) (pa_cons (pe_new T.m_Pair (ok_Pair T) hr rfl T.g_Pair T.b_Pair_init .nil (pa_cons (pe_str) (pa_cons (pe_new T.m_Pair (ok_Pair T) hr rfl T.g_Pair T.b_Pair_init .nil (pa_cons (pe_str) (pa_cons (pe_new T.m_Local (ok_Local T) hr rfl T.g_Local T.b_Local_init .nil (pa_cons (pe_int) pa_nil)) (pa_cons (pe_new T.m_Number (ok_Number T) hr rfl T.g_Number T.b_Number_init .nil (pa_cons (pe_int) pa_nil)) pa_nil)))) (pa_cons (pe_new T.m_Local (ok_Local T) hr rfl T.g_Local T.b_Local_init .nil (pa_cons (pe_int) pa_nil)) pa_nil)))) pa_nil))) pa_nil)))))), ?_⟩
    refine ⟨rfl, fun x1 d1 H1 s1 n1 h1 => ⟨rfl, fun x2 d2 H2 s2 n2 h2 => ⟨rfl, fun x3 d3 H3 s3 n3 h3 => ⟨rfl, fun x4 d4 H4 s4 n4 h4 => fun x5 d5 n5 m5 ne5 => ?_⟩⟩⟩⟩
    have s5 := Same.inst (C := ga K "Here") (o := .ins (ga K "Here") d5 []) n5 m5
    generalize e5 : upd (upd H4 d5 (.own x5)) x5 (.ins (ga K "Here") d5 []) = H5 at s5
    have h5 : H5 x5 = some (.ins (ga K "Here") d5 []) := by rw [← e5]; exact upd_same
    have a1 : FAt K H1 x1 (.loc 0) := ⟨d1, h1⟩
    have a2 : FAt K H2 x2 (.num 60) := ⟨d2, h2⟩
    have a3 : FAt K H3 x3 (.loc 0) := ⟨d3, h3⟩
    have a4 : FAt K H4 x4 (.pair "/" (.num 60) (.loc 0)) := ⟨d4, x2, x3, h4, a2.same (s3.trans s4), a3.same s4⟩
    have a5 : FAt K H5 x5 .here := ⟨d5, h5⟩
    refine ⟨rfl, fun x6 d6 H6 s6 n6 h6 => ?_⟩
    have a6 : FAt K H6 x6 (bod 0) := ⟨d6, x1, x4, x5, h6, a1.same (s2.trans (s3.trans (s4.trans (s5.trans s6)))), a4.same (s5.trans s6), a5.same s6⟩
    refine ⟨_, rfl, (by show 2 ≤ sizeLine; decide), fun t0 nt0 => ?_⟩
    have st := Same.new (o := .tup [.int 1, .ref x6]) nt0
    have z0 : upd H6 t0 (.tup [.int 1, .ref x6]) t0 = some (.tup [.int 1, .ref x6]) := upd_same
    refine ⟨rfl, fun x7 d7 H7 s7 n7 h7 => ⟨rfl, fun x8 d8 H8 s8 n8 h8 => ⟨rfl, fun x9 d9 H9 s9 n9 h9 => ⟨rfl, fun xa da Ha sa na ha => ⟨rfl, fun xb db Hb sb nb hb => ?_⟩⟩⟩⟩⟩
    have a7 : FAt K H7 x7 (.loc 0) := ⟨d7, h7⟩
    have a8 : FAt K H8 x8 (.num 3) := ⟨d8, h8⟩
    have a9 : FAt K H9 x9 (.pair "*" (.loc 0) (.num 3)) := ⟨d9, x7, x8, h9, a7.same (s8.trans s9), a8.same s9⟩
    have aa : FAt K Ha xa (.loc 1) := ⟨da, ha⟩
    have ab : FAt K Hb xb (bod 1) := ⟨db, x9, xa, hb, a9.same (sa.trans sb), aa.same sb⟩
    refine ⟨(by show 2 ≤ sizeLine; decide), fun t1 nt1 => ⟨(by show 2 ≤ sizeLine; decide), fun l nl => ?_⟩⟩
    have su := Same.new (o := .tup [.int 2, .ref xb]) nt1
    have sl := Same.new (o := .lst [.ref t0, .ref t1]) nl
    have se := (s7.trans (s8.trans (s9.trans (sa.trans sb))))
    refine k _ l ((s1.trans (s2.trans (s3.trans (s4.trans (s5.trans s6))))).trans (st.trans (se.trans (su.trans sl)))) ⟨t0, t1, x6, xb, upd_same, (se.trans (su.trans sl)) _ _ z0, sl _ _ upd_same, a6.same (st.trans (se.trans (su.trans sl))), ab.same (su.trans sl)⟩
end
end RB

namespace RB
open PySem PySem.Spec PyProof.Rows L2 He
def NL (H : Hp) (a : Addr) (rs : List Nat) : Prop := H a = some (.lst (rs.map fun r : Nat => V.int (r : Int)))
theorem NL.same {H H' : Hp} {a : Addr} {rs : List Nat} (s : Same H H') (h : NL H a rs) : NL H' a rs := s _ _ h
theorem nat_at {rs : List Nat} {i : Int} (h : 0 < rs.length) : ∃ r, r ∈ rs ∧ atI (rs.map fun r : Nat => V.int (r : Int)) (i % (rs.length : Int)) = some (.int ((r : Nat) : Int)) := by
  have h0 : 0 ≤ i % (rs.length : Int) := by
    have := Int.emod_nonneg i (show (rs.length : Int) ≠ 0 by omega)
    exact this
  have h1 : i % (rs.length : Int) < rs.length := Int.emod_lt_of_pos _ (by omega)
  obtain ⟨j, hj⟩ : ∃ j : Nat, i % (rs.length : Int) = j := ⟨_, toNat_is h0⟩
  rw [hj] at h1 ⊢
  have q : j < rs.length := by omega
  refine ⟨rs[j], List.getElem_mem q, atI_nat ?_⟩
  rw [List.getElem?_map, List.getElem?_eq_getElem q]
  rfl
theorem twoways {b : Bool} {X t G : Prop} (far : G) (h : G → X) : if b = true then X else (if false = true then t else G) := by
  cases b with
  | true => exact iteT (h far)
  | false => exact iteF (iteF far)
structure LIn (H : Hp) (ra fa la : Addr) (rs fs : List Nat) (L : List Int) (m : Int) : Prop where
  hr : NL H ra rs
  hf : NL H fa fs
  hl : IL H la L
  r1 : ∀ r ∈ rs, r < L.length ∧ (L.getD r 0 = 1 ∨ L.getD r 0 = m)
  f1 : ∀ r ∈ fs, r < L.length
  l1 : ∀ l ∈ L, 1 ≤ l ∧ l ≤ 400
theorem LIn.same {H H' : Hp} {ra fa la : Addr} {rs fs : List Nat} {L : List Int} {m : Int} (s : Same H H') (h : LIn H ra fa la rs fs L m) : LIn H' ra fa la rs fs L m := ⟨h.hr.same s, h.hf.same s, h.hl.same s, h.r1, h.f1, h.l1⟩
theorem LIn.kp {H : Hp} {ra fa la : Addr} {rs fs : List Nat} {L : List Int} {m : Int} (h : LIn H ra fa la rs fs L m) (r : Nat) : Kp (L.getD r 0) := by
  rw [List.getD_eq_getElem?_getD]
  cases e : L[r]? with
  | none => exact ⟨by decide, by decide⟩
  | some c =>
    obtain ⟨h1, h2⟩ := h.l1 c (List.mem_of_getElem? e)
    exact ⟨by show _ ≤ c; omega, by show c < _; omega⟩
def FQ (K : PySem.W.Frag) (H : Hp) (Q : VK) (L : List Int) (m : Int) (n : Nat) : Prop := ∀ H' x f, Same H H' → FAt K H' x f → Fine L m 0 f → ht f ≤ n → Q (.ref x) H'
def spLeaf (K : PySem.W.Frag) : Sp := fun vs H Q _ => ∃ (c : Int) (ra fa la : Addr) (rs fs : List Nat) (L : List Int) (m : Int), vs = [.int c, .ref ra, .ref fa, .ref la] ∧ LIn H ra fa la rs fs L m ∧ FQ K H Q L m 3
section
variable {P : Program} {w : World} {K : PySem.W.Frag} {mg : Str → Option Value} {base : Heap}
theorem ok_leaf (T : Txt K mg) : FnOk P w K mg base CX0 3 (ga K "_law_leaf_by") (fd_l_leaf_by K) p_l_leaf_by (spLeaf K) := by
  refine T.f_l_leaf_by.ok sc_l_leaf_by (fun vs H Q E h => ?_) (fun cdv A outer s H vs Q E hr h => ?_)
  · obtain ⟨_, _, _, _, _, _, _, _, rfl, _⟩ := h
    rfl
  · obtain ⟨c, ra, fa, la, rs, fs, L, m, rfl, li, k⟩ := h
    have hr1 := hr.mono (show 1 ≤ 2 by decide)
    refine ⟨_, PSs.nox (pss_cons (ps_set (i := 4) sc_l_leaf_by.nd rfl (.inl rfl) (pe_op op_mod (pv 0) pe_int))
      (pss_cons (ps_set (i := 5) sc_l_leaf_by.nd rfl (.inl rfl) (pe_op op_fdiv (pv 0) pe_int))
      (pss_cons (ps_if (pt_cmpR op_eq (pv 4) pe_int (nomark _)) (pss_one (ps_ret (pe_mk0 T.mk0 rfl T.g_Here))) pss_nil)
      (pss_cons (ps_if (PW.pt (pw_and (pt_cmpR op_in_seq (pv 4) (pe_tup (pa_cons (pe_int) (pa_cons (pe_int) pa_nil))) (by rfl)) (pw_and1 (pt_cmpR op_gt (pe_callB call_len_seq (by rfl) T.z_len (by decide +kernel) (pa_cons (pv 1) pa_nil)) pe_int (nomark _))))) (pss_one (ps_ret (pe_new T.m_Cell (ok_Cell T) hr rfl T.g_Cell T.b_Cell_init .nil (pa_cons (pe_ix ix_list (pv 1) (pe_op op_mod (pv 5) (pe_callB call_len_seq (by rfl) T.z_len (by decide +kernel) (pa_cons (pv 1) pa_nil))) (fun _ _ => rfl)) pa_nil)))) pss_nil)
      (pss_cons (ps_if (PW.pt (pw_and (pt_cmpR op_gt (pv 4) pe_int (nomark _)) (pw_and1 (pt_cmpR op_gt (pe_callB call_len_seq (by rfl) T.z_len (by decide +kernel) (pa_cons (pv 2) pa_nil)) pe_int (nomark _))))) (pss_cons (ps_set (i := 6) sc_l_leaf_by.nd rfl (.inl rfl) (pe_ix ix_list (pv 2) (pe_op op_mod (pv 5) (pe_callB call_len_seq (by rfl) T.z_len (by decide +kernel) (pa_cons (pv 2) pa_nil))) (fun _ _ => rfl)))
      (pss_cons (ps_set (i := 7) sc_l_leaf_by.nd rfl (.inl rfl) (pe_op op_sub (pe_op op_mod (pe_op op_fdiv (pv 5) pe_int) pe_int) pe_int))
      (pss_cons (ps_if (pt_cmpR op_eq (pv 4) pe_int (nomark _)) (pss_one (ps_ret (pe_new T.m_Shifted (ok_Shifted T) hr rfl T.g_Shifted T.b_Shifted_init .nil (pa_cons (pv 6) (pa_cons (pv 7) (pa_cons (pe_call (ok_keptBy T) hr1 rfl T.g_l_kept_by T.k_l_kept_by T.b_l_kept_by .nil pass0 (pa_cons (pe_op op_fdiv (pv 5) pe_int) pa_nil)) pa_nil)))))) pss_nil)
      (pss_cons (ps_set (i := 8) sc_l_leaf_by.nd rfl (.inl rfl) (pe_new T.m_Pair (ok_Pair T) hr rfl T.g_Pair T.b_Pair_init .nil (pa_cons (pe_str) (pa_cons (pe_mk0 T.mk0 rfl T.g_Here) (pa_cons (pe_new T.m_Number (ok_Number T) hr rfl T.g_Number T.b_Number_init .nil (pa_cons (pv 7) pa_nil)) pa_nil)))))
      (pss_cons (ps_if (pt_cmpR op_gt (pe_op op_mod (pe_op op_fdiv (pv 5) pe_int) pe_int) pe_int (nomark _)) (pss_one (ps_set (i := 8) sc_l_leaf_by.nd rfl (.inl rfl) (pe_new T.m_Pair (ok_Pair T) hr rfl T.g_Pair T.b_Pair_init .nil (pa_cons (pe_str) (pa_cons (pv 8) (pa_cons (pe_new T.m_Number (ok_Number T) hr rfl T.g_Number T.b_Number_init .nil (pa_cons (pe_ix ix_list (pv 3) (pv 6) (fun _ _ => rfl)) pa_nil)) pa_nil)))))) pss_nil)
      (pss_one (ps_ret (pe_new T.m_At (ok_At T) hr rfl T.g_At T.b_At_init .nil (pa_cons (pv 6) (pa_cons (pv 8) pa_nil)))))))))) pss_nil)
      (pss_one (ps_ret (pe_new T.m_Number (ok_Number T) hr rfl T.g_Number T.b_Number_init .nil (pa_cons (pe_ifExp (pt_cmpR op_eq (pv 4) pe_int (nomark _)) (pe_op op_sub (pe_op op_mod (pv 5) pe_int) pe_int) (pe_call (ok_keptBy T) hr1 rfl T.g_l_kept_by T.k_l_kept_by T.b_l_kept_by .nil pass0 (pa_cons (pv 5) pa_nil))) pa_nil))))))))), ?_⟩
    have fin : ∀ (H1 : Hp), Same H H1 → tNew (ga K "Number") 1 gNumber [] (tCons (tIf (tTest (tOp rEq (tVar 4) (tC (.int 0)))) (tOp (rI0 fun i j => .int (i - j)) (tOp (rI (fun _ j => 0 < j) fun i j => .int (i % j)) (tVar 5) (tC (.int 5))) (tC (.int 1))) (tCall spKeptBy [] E (tCons (tVar 5) tNil))) tNil)
        [some (.int c), some (.ref ra), some (.ref fa), some (.ref la), some (.int (c % 7)), some (.int (c / 7)), none, none, none] H1 Q := by
      intro H1 s1
      refine ⟨_, rfl, rfl, _, rfl, ?_⟩
      cases decide (V.int (c % 7) = V.int 0) with
      | true => exact iteT ⟨_, rfl, _, _, rfl, rfl, (by show (0 : Int) < 5; decide), _, _, rfl, rfl, rfl, fun x dx H2 s2 nx hx => k _ x (.num (c / 7 % 5 - 1)) (s1.trans s2) ⟨dx, hx⟩ ⟨by omega, by omega⟩ (by show 0 ≤ 3; decide)⟩
      | false => exact iteF ⟨_, rfl, _, rfl, fun v H2 kv s2 => ⟨rfl, fun x dx H3 s3 nx hx => k _ x (.num v) (s1.trans (s2.trans s3)) ⟨dx, hx⟩ kv (by show 0 ≤ 3; decide)⟩⟩
    refine ⟨_, rfl, _, _, rfl, rfl, (by show (0 : Int) < 7; decide), _, rfl, _, _, rfl, rfl, ⟨by decide, by decide⟩, _, rfl, rfl, _, rfl, ?_⟩
    cases decide (V.int (c % 7) = V.int 2) with
    | true => exact iteT fun x dx nx nd ne => k _ x .here (Same.inst (C := ga K "Here") nx nd) ⟨dx, upd_same⟩ trivial (by show 0 ≤ 3; decide)
    | false =>
    refine iteF ⟨_, rfl, (by show 2 ≤ sizeLine; decide), fun t nt => ⟨t, [.int 3, .int 4], rfl, .inr (SqT.of upd_same), rfl, rfl, _, rfl, ?_⟩⟩
    have s1 := Same.new (o := .tup [.int 3, .int 4]) nt
    generalize e1 : upd H t (.tup [.int 3, .int 4]) = H1 at s1
    have l1 := li.same s1
    refine twoways ?_ fun far => ?_
    rotate_left 1
    · refine ⟨_, rfl, ra, _, rfl, .inl (SqL.of l1.hr), _, _, rfl, rfl, _, rfl, ?_⟩
      rw [List.length_map]
      by_cases z : (0 : Int) < (rs.length : Int)
      · rw [decide_eq_true z]
        obtain ⟨r, hrm, hat⟩ := nat_at (rs := rs) (i := c / 7) (by omega)
        refine iteT ⟨_, rfl, _, rfl, _, rfl, ra, _, rfl, .inl (SqL.of l1.hr), _, _, rfl, rfl, ?_, ra, _, _, .int ((r : Nat) : Int), rfl, rfl, SqL.of l1.hr, ?_, rfl, fun x dx H2 s2 nx hx => k _ x (.cell r) (s1.trans s2) ⟨dx, hx⟩ (l1.r1 r hrm) (by show 0 ≤ 3; decide)⟩
        · rw [List.length_map]
          exact z
        · rw [List.length_map]
          exact hat
      · rw [decide_eq_false z]
        exact iteF far
    · refine ⟨_, rfl, _, _, rfl, rfl, _, rfl, ?_⟩
      cases decide ((4 : Int) < c % 7) with
      | false => exact iteF (iteF (fin H1 s1))
      | true =>
      refine iteT ⟨_, rfl, fa, _, rfl, .inl (SqL.of l1.hf), _, _, rfl, rfl, _, rfl, ?_⟩
      rw [List.length_map]
      by_cases z : (0 : Int) < (fs.length : Int)
      · rw [decide_eq_true z]
        obtain ⟨r, hrm, hat⟩ := nat_at (rs := fs) (i := c / 7) (by omega)
        have hrL := l1.f1 r hrm
        refine iteT ⟨_, rfl, _, rfl, _, rfl, fa, _, rfl, .inl (SqL.of l1.hf), _, _, rfl, rfl, ?_, fa, _, _, .int ((r : Nat) : Int), rfl, rfl, SqL.of l1.hf, ?_, _, rfl, _, _, rfl, rfl, ⟨by decide, by decide⟩, _, _, rfl, rfl, (by show (0 : Int) < 7; decide), _, _, rfl, rfl, _, rfl, rfl, _, rfl, ?_⟩
        · rw [List.length_map]
          exact z
        · rw [List.length_map]
          exact hat
        cases decide (V.int (c % 7) = V.int 5) with
        | true =>
          refine iteT ⟨_, rfl, _, rfl, _, rfl, _, _, rfl, rfl, ⟨by decide, by decide⟩, _, rfl, fun v H2 kv s2 => ⟨rfl, fun x dx H3 s3 nx hx => ?_⟩⟩
          exact k _ x (.shifted r (c / 7 / 7 % 7 - 3) v) (s1.trans (s2.trans s3)) ⟨dx, hx⟩ ⟨hrL, kv⟩ (by show 0 ≤ 3; decide)
        | false =>
        refine iteF fun x2 d2 n2 m2 e2 => ?_
        have s2 := Same.inst (C := ga K "Here") (o := .ins (ga K "Here") d2 []) n2 m2
        generalize e2 : upd (upd H1 d2 (.own x2)) x2 (.ins (ga K "Here") d2 []) = H2 at s2
        have h2 : H2 x2 = some (.ins (ga K "Here") d2 []) := by rw [← e2]; exact upd_same
        refine ⟨_, rfl, rfl, fun x3 d3 H3 s3 n3 h3 => ⟨rfl, fun x4 d4 H4 s4 n4 h4 => ?_⟩⟩
        have kb : Kp (c / 7 / 7 % 7 - 3) := ⟨by omega, by omega⟩
        have p4 : FAt K H4 x4 (.pair "+" .here (.num (c / 7 / 7 % 7 - 3))) := ⟨d4, x2, x3, h4, ⟨d2, (s3.trans s4) _ _ h2⟩, ⟨d3, s4 _ _ h3⟩⟩
        have f4 : Fine L m 0 (.pair "+" .here (.num (c / 7 / 7 % 7 - 3))) := ⟨by decide +kernel, trivial, kb⟩
        refine ⟨_, rfl, _, _, rfl, rfl, ⟨by decide, by decide⟩, _, _, rfl, rfl, (by show (0 : Int) < 8; decide), _, _, rfl, rfl, _, rfl, ?_⟩
        have s4' := s1.trans (s2.trans (s3.trans s4))
        cases decide ((0 : Int) < c / 7 / 49 % 8) with
        | true =>
          refine iteT ⟨_, rfl, _, rfl, _, rfl, la, _, _, _, rfl, rfl, SqL.of (li.same s4').hl, row_at hrL, rfl, fun x5 d5 H5 s5 n5 h5 => ⟨rfl, fun x6 d6 H6 s6 n6 h6 => ⟨_, rfl, _, rfl, rfl, fun x7 d7 H7 s7 n7 h7 => ?_⟩⟩⟩
          refine k _ x7 (.at_ r (.pair "rest" (.pair "+" .here (.num (c / 7 / 7 % 7 - 3))) (.num (L.getD r 0)))) (s4'.trans (s5.trans (s6.trans s7))) ⟨d7, x6, h7, ⟨d6, x4, x5, s7 _ _ h6, p4.same (s5.trans (s6.trans s7)), ⟨d5, (s6.trans s7) _ _ h5⟩⟩⟩ ⟨hrL, ⟨by decide +kernel, f4, li.kp r⟩⟩ (by show 3 ≤ 3; decide)
        | false =>
          refine iteF ⟨_, rfl, _, rfl, rfl, fun x7 d7 H7 s7 n7 h7 => ?_⟩
          exact k _ x7 (.at_ r (.pair "+" .here (.num (c / 7 / 7 % 7 - 3)))) (s4'.trans s7) ⟨d7, x4, h7, p4.same s7⟩ ⟨hrL, f4⟩ (by show 2 ≤ 3; decide)
      · rw [decide_eq_false z]
        exact iteF (fin H1 s1)
end
end RB

namespace RB
open PySem PySem.Spec PyProof.Rows L2 He
def spValue (K : PySem.W.Frag) : Sp := fun vs H Q _ => ∃ (c : Int) (ra fa la : Addr) (rs fs : List Nat) (L : List Int) (m : Int), vs = [.int c, .ref ra, .ref fa, .ref la] ∧ LIn H ra fa la rs fs L m ∧ FQ K H Q L m 4
theorem sign_at (i : Int) : ∃ s, s ∈ sg1 ∧ atI (sg1.map V.str) (i % 12) = some (.str s) := by
  have h0 : 0 ≤ i % 12 := by omega
  obtain ⟨j, hj⟩ : ∃ j : Nat, i % 12 = j := ⟨_, toNat_is h0⟩
  rw [hj]
  have q : j < sg1.length := by show j < 12; omega
  refine ⟨sg1[j], List.getElem_mem q, atI_nat ?_⟩
  rw [List.getElem?_map, List.getElem?_eq_getElem q]
  rfl
theorem fine_same_ht {a b n : Nat} (h1 : a ≤ n) (h2 : b ≤ n) : max a b ≤ n := Nat.max_le.mpr ⟨h1, h2⟩
section
variable {P : Program} {w : World} {K : PySem.W.Frag} {mg : Str → Option Value} {base : Heap}
theorem ok_value (T : Txt K mg) : FnOk P w K mg base CX0 4 (ga K "_law_value_by") (fd_l_value_by K) p_l_value_by (spValue K) := by
  refine T.f_l_value_by.ok sc_l_value_by (fun vs H Q E h => ?_) (fun cdv A outer s H vs Q E hr h => ?_)
  · obtain ⟨_, _, _, _, _, _, _, _, rfl, _⟩ := h
    rfl
  · obtain ⟨c, ra, fa, la, rs, fs, L, m, rfl, li, k⟩ := h
    have hr1 := hr.mono (show 1 ≤ 3 by decide)
    have hr2 := hr.mono (show 2 ≤ 3 by decide)
    refine ⟨_, PSs.nox (pss_cons (ps_set (i := 4) sc_l_value_by.nd rfl (.inl rfl) (pe_lst (pa_cons (pe_str) (pa_cons (pe_str) (pa_cons (pe_str) (pa_cons (pe_str) (pa_cons (pe_str) (pa_cons (pe_str) (pa_cons (pe_str) (pa_cons (pe_str) (pa_cons (pe_str) (pa_cons (pe_str) (pa_cons (pe_str) (pa_cons (pe_str) pa_nil))))))))))))))
      (pss_cons (ps_set (i := 5) sc_l_value_by.nd rfl (.inl rfl) (pe_op op_mod (pv 0) pe_int))
      (pss_cons (ps_set (i := 6) sc_l_value_by.nd rfl (.inl rfl) (pe_call (ok_leaf T) hr rfl T.g_l_leaf_by T.k_l_leaf_by T.b_l_leaf_by .nil pass0 (pa_cons (pe_call (ok_mix T) hr1 rfl T.g_l_mix T.k_l_mix T.b_l_mix .nil pass0 (pa_cons (pv 0) (pa_cons (pe_int) (pa_cons (pe_int) pa_nil)))) (pa_cons (pv 1) (pa_cons (pv 2) (pa_cons (pv 3) pa_nil))))))
      (pss_cons (ps_set (i := 7) sc_l_value_by.nd rfl (.inl rfl) (pe_call (ok_leaf T) hr rfl T.g_l_leaf_by T.k_l_leaf_by T.b_l_leaf_by .nil pass0 (pa_cons (pe_call (ok_mix T) hr1 rfl T.g_l_mix T.k_l_mix T.b_l_mix .nil pass0 (pa_cons (pv 0) (pa_cons (pe_int) (pa_cons (pe_int) pa_nil)))) (pa_cons (pv 1) (pa_cons (pv 2) (pa_cons (pv 3) pa_nil))))))
      (pss_cons (ps_if (pt_cmpR op_eq (pv 5) pe_int (nomark _)) (pss_one (ps_ret (pv 6))) pss_nil)
      (pss_cons (ps_if (pt_cmpR op_lt (pv 5) pe_int (nomark _)) (pss_one (ps_ret (pe_new T.m_Pair (ok_Pair T) hr2 rfl T.g_Pair T.b_Pair_init .nil (pa_cons (pe_ix ix_list (pv 4) (pe_op op_mod (pe_op op_fdiv (pv 0) pe_int) pe_int) (fun _ _ => rfl)) (pa_cons (pv 6) (pa_cons (pv 7) pa_nil)))))) pss_nil)
      (pss_cons (ps_if (pt_cmpR op_eq (pv 5) pe_int (nomark _)) (pss_one (ps_ret (pe_new T.m_Choice (ok_Choice T) hr2 rfl T.g_Choice T.b_Choice_init .nil (pa_cons (pv 6) (pa_cons (pv 7) (pa_cons (pe_call (ok_leaf T) hr rfl T.g_l_leaf_by T.k_l_leaf_by T.b_l_leaf_by .nil pass0 (pa_cons (pe_call (ok_mix T) hr1 rfl T.g_l_mix T.k_l_mix T.b_l_mix .nil pass0 (pa_cons (pv 0) (pa_cons (pe_int) (pa_cons (pe_int) pa_nil)))) (pa_cons (pv 1) (pa_cons (pv 2) (pa_cons (pv 3) pa_nil))))) pa_nil)))))) pss_nil)
      (pss_one (ps_ret (pe_make T.m_Call (ok_CallI T) hr2 rfl T.g_Call T.b_Call_init .nil pass0 (pa_cons (pe_op op_mod (pe_op op_fdiv (pv 0) pe_int) pe_int) (pa_cons (pe_slice sl_list (pe_lst (pa_cons (pv 6) (pa_cons (pv 7) pa_nil))) po_none (po_some (pe_op op_add pe_int (pe_op op_mod (pe_op op_fdiv (pv 0) pe_int) pe_int)))) pa_nil)))))))))))), ?_⟩
    refine ⟨(by show 12 ≤ sizeLine; decide), fun l nl => ?_⟩
    have s0 := Same.new (o := .lst (sg1.map V.str)) nl
    have hl0 : upd H l (.lst (sg1.map V.str)) l = some (.lst (sg1.map V.str)) := upd_same
    refine ⟨_, rfl, _, _, rfl, rfl, (by show (0 : Int) < 6; decide), ?_⟩
    refine ⟨_, rfl, c, _, _, rfl, by decide, by decide, by decide, _, rfl, _, rfl, _, rfl, _, ra, fa, la, rs, fs, L, m, rfl, li.same s0, fun H1 x f s1 hx fx tx => ?_⟩
    refine ⟨_, rfl, c, _, _, rfl, by decide, by decide, by decide, _, rfl, _, rfl, _, rfl, _, ra, fa, la, rs, fs, L, m, rfl, li.same (s0.trans s1), fun H2 y g s2 hy fy ty => ?_⟩
    have sh := s0.trans (s1.trans s2)
    have hx2 := hx.same s2
    refine ⟨_, rfl, rfl, _, rfl, ?_⟩
    cases decide (V.int (c % 6) = V.int 0) with
    | true => exact iteT ⟨_, rfl, k _ x f sh hx2 fx (by omega)⟩
    | false =>
    refine iteF ⟨_, rfl, _, _, rfl, rfl, _, rfl, ?_⟩
    cases decide (c % 6 < 4) with
    | true =>
      obtain ⟨sg, hs, hat⟩ := sign_at (c / 6)
      refine iteT ⟨_, rfl, _, rfl, _, _, rfl, rfl, ⟨by decide, by decide⟩, _, _, rfl, rfl, (by show (0 : Int) < 12; decide), l, sg1.map V.str, _, _, rfl, rfl, SqL.of ((s1.trans s2) _ _ hl0), hat, _, rfl, _, rfl, rfl, fun z dz H3 s3 nz hz => ?_⟩
      exact k _ z (.pair sg f g) (sh.trans s3) ⟨dz, x, y, hz, hx2.same s3, hy.same s3⟩ ⟨hs, fx, fy⟩ (by show max (ht f) (ht g) + 1 ≤ 4; have := fine_same_ht tx ty; omega)
    | false =>
    refine iteF ⟨_, rfl, rfl, _, rfl, ?_⟩
    cases decide (V.int (c % 6) = V.int 4) with
    | true =>
      refine iteT ⟨_, rfl, _, rfl, _, rfl, c, _, _, rfl, by decide, by decide, by decide, _, rfl, _, rfl, _, rfl, _, ra, fa, la, rs, fs, L, m, rfl, li.same sh, fun H3 z h s3 hz fz tz => ⟨rfl, fun q dq H4 s4 nq hq => ?_⟩⟩
      exact k _ q (.choice f g h) (sh.trans (s3.trans s4)) ⟨dq, x, y, z, hq, hx2.same (s3.trans s4), hy.same (s3.trans s4), hz.same s4⟩ ⟨fx, fy, fz⟩ (by show max (ht f) (max (ht g) (ht h)) + 1 ≤ 4; have := fine_same_ht tx (fine_same_ht ty tz); omega)
    | false =>
    refine iteF ⟨_, rfl, _, _, rfl, rfl, ⟨by decide, by decide⟩, _, _, rfl, rfl, (by show (0 : Int) < 2; decide), _, rfl, _, rfl, (by show 2 ≤ sizeLine; decide), fun t nt => ⟨_, rfl, _, _, rfl, rfl, ⟨by decide, by decide⟩, _, _, rfl, rfl, (by show (0 : Int) < 2; decide), _, _, rfl, rfl, _, rfl, t, _, rfl, SqL.of upd_same, fun u nu => ?_⟩⟩
    have s3 := Same.new (o := .lst [.ref x, .ref y]) nt
    generalize upd H2 t (.lst [.ref x, .ref y]) = H3 at s3 nu
    rcases (show c / 6 % 2 = 0 ∨ c / 6 % 2 = 1 by omega) with e | e
    · dsimp only
      rw [e]
      have s4 := Same.new (o := .lst (cutV [V.ref x, V.ref y] none (some (1 + 0)))) nu
      have hu : upd H3 u (.lst (cutV [V.ref x, V.ref y] none (some (1 + 0)))) u = some (.lst [.ref x]) := upd_same
      generalize upd H3 u (.lst (cutV [V.ref x, V.ref y] none (some (1 + 0)))) = H4 at s4 hu
      intro q dq nq nd nqd
      have s5 := Same.inst (C := ga K "Call") (o := .ins (ga K "Call") dq []) nq nd
      refine ⟨q, dq, _, u, _, rfl, upd_same, s5 _ _ hu, fun H6 v s6 hq hv => ?_⟩
      have s7 : Same H4 H6 := fun b o e => s6 b o (s5 _ _ e) (ne_of_none e nq)
      refine ⟨rfl, k _ q (.call1 0 f) (sh.trans (s3.trans (s4.trans s7))) ⟨dq, v, x, hq, hv, hx2.same (s3.trans (s4.trans s7))⟩ ⟨rfl, fx⟩ (by show max (ht f) 2 + 1 ≤ 4; have := fine_same_ht tx (show 2 ≤ 3 by decide); omega)⟩
    · dsimp only
      rw [e]
      have s4 := Same.new (o := .lst (cutV [V.ref x, V.ref y] none (some (1 + 1)))) nu
      have hu : upd H3 u (.lst (cutV [V.ref x, V.ref y] none (some (1 + 1)))) u = some (.lst [.ref x, .ref y]) := upd_same
      generalize upd H3 u (.lst (cutV [V.ref x, V.ref y] none (some (1 + 1)))) = H4 at s4 hu
      intro q dq nq nd nqd
      have s5 := Same.inst (C := ga K "Call") (o := .ins (ga K "Call") dq []) nq nd
      refine ⟨q, dq, _, u, _, rfl, upd_same, s5 _ _ hu, fun H6 v s6 hq hv => ?_⟩
      have s7 : Same H4 H6 := fun b o e => s6 b o (s5 _ _ e) (ne_of_none e nq)
      refine ⟨rfl, k _ q (.call2 1 f g) (sh.trans (s3.trans (s4.trans s7))) ⟨dq, v, x, y, hq, hv, hx2.same (s3.trans (s4.trans s7)), hy.same (s3.trans (s4.trans s7))⟩ ⟨rfl, fx, fy⟩ (by show max (max (ht f) (ht g)) 2 + 1 ≤ 4; have := fine_same_ht (fine_same_ht tx ty) (show 2 ≤ 3 by decide); omega)⟩
end
end RB

namespace RB
open PySem PySem.Spec PyProof.Rows L2 He
theorem SqL.same {K : PySem.W.Frag} {H H' : Hp} {a : Addr} {xs : List V} (s : Same H H') (h : SqL K H a xs) : SqL K H' a xs := by
  rcases h with (h | ⟨o, h⟩) | h
  · exact .inl (.inl (s _ _ h))
  · exact .inl (.inr ⟨o, s _ _ h⟩)
  · exact .inr h
structure LOk (L : List Int) : Prop where
  b : ∀ l ∈ L, 1 ≤ l ∧ l ≤ 400
  one : 1 ∈ L
  len : L.length ≤ 64
theorem pick4 (a b c d z : Int) : ∃ y, (y = a ∨ y = b ∨ y = c ∨ y = d) ∧ atI [V.int a, V.int b, V.int c, V.int d] (z % 4) = some (.int y) := by
  rcases (show z % 4 = 0 ∨ z % 4 = 1 ∨ z % 4 = 2 ∨ z % 4 = 3 by omega) with e | e | e | e
  · rw [e]; exact ⟨a, .inl rfl, rfl⟩
  · rw [e]; exact ⟨b, .inr (.inl rfl), rfl⟩
  · rw [e]; exact ⟨c, .inr (.inr (.inl rfl)), rfl⟩
  · rw [e]; exact ⟨d, .inr (.inr (.inr rfl)), rfl⟩
def cutI (ns : List Int) (lo hi : Option Int) : List Int := (ns.drop (HT.sIx ns.length 0 lo)).take (HT.sIx ns.length ns.length hi - HT.sIx ns.length 0 lo)
theorem cutI_eq (ns : List Int) (lo hi : Option Int) : cutV (ns.map V.int) lo hi = (cutI ns lo hi).map V.int := by
  unfold cutV cutI
  rw [List.length_map, List.map_take, List.map_drop]
theorem cutI_le (ns : List Int) (lo hi : Option Int) : (cutI ns lo hi).length ≤ ns.length := by
  unfold cutI
  rw [List.length_take, List.length_drop]
  omega
theorem line_of {n : Nat} (h : n ≤ 100000) : n < sizeLine := by
  rw [sizeLine_eq]
  omega
def spLengths (K : PySem.W.Frag) : Sp := fun vs H Q _ => ∃ (a : Addr) (ns : List Int), vs = [.ref a, .int 400] ∧ SqL K H a (ns.map V.int) ∧ ns.length ≤ 63 ∧ ∀ H' l L, Same H H' → IL H' l L → LOk L → Q (.ref l) H'
def spCells : Sp := fun vs H Q _ => ∃ (a l : Addr) (ns L : List Int), vs = [.ref a, .ref l] ∧ IL H a ns ∧ 0 < ns.length ∧ IL H l L ∧ LOk L ∧ ∀ H' c C, Same H H' → IL H' c C → COk L C → Q (.ref c) H'
theorem LOk.sum {L : List Int} (h : LOk L) : 0 ≤ L.sum ∧ L.sum ≤ 25600 := by
  have q : ∀ L : List Int, (∀ l ∈ L, 1 ≤ l ∧ l ≤ 400) → 0 ≤ L.sum ∧ L.sum ≤ 400 * (L.length : Int) := by
    intro L
    induction L with
    | nil => intro _; simp
    | cons a L ih =>
      intro h
      have h1 := h a List.mem_cons_self
      have h2 := ih fun l hl => h l (List.mem_cons_of_mem _ hl)
      simp only [List.length_cons, List.sum_cons]
      omega
  have := q L h.b
  have := h.len
  omega
theorem ins_ok {L : List Int} {j : Nat} (h : ∀ l ∈ L, 1 ≤ l ∧ l ≤ 400) (hl : L.length ≤ 63) : LOk (L.take j ++ [1] ++ L.drop j) := by
  refine ⟨fun l hm => ?_, ?_, ?_⟩
  · rw [List.mem_append, List.mem_append, List.mem_singleton] at hm
    rcases hm with (hm | hm) | hm
    · exact h l (List.mem_of_mem_take hm)
    · rw [hm]
      exact ⟨by decide, by decide⟩
    · exact h l (List.mem_of_mem_drop hm)
  · simp
  · rw [List.length_append, List.length_append, List.length_take, List.length_drop, List.length_singleton]
    omega
section
variable {P : Program} {w : World} {K : PySem.W.Frag} {mg : Str → Option Value} {base : Heap}
theorem ok_lengths (T : Txt K mg) : FnOk P w K mg base CX0 1 (ga K "_law_lengths_by") (fd_l_lengths_by K) p_l_lengths_by (spLengths K) := by
  refine T.f_l_lengths_by.ok sc_l_lengths_by (fun vs H Q E h => ?_) (fun cdv A outer s H vs Q E hr h => ?_)
  · obtain ⟨_, _, rfl, _⟩ := h
    rfl
  · obtain ⟨a, ns, rfl, ha, h63, k⟩ := h
    refine ⟨_, PSs.nox (pss_cons (ps_if (pt_cmpR op_eq (pe_callB call_len_seq (by rfl) T.z_len (by decide +kernel) (pa_cons (pv 0) pa_nil)) pe_int (nomark _)) (pss_one (ps_ret (pe_lst (pa_cons (pe_int) pa_nil)))) pss_nil)
      (pss_cons (ps_set (i := 2) sc_l_lengths_by.nd rfl (.inl rfl) (pe_op op_add pe_int (pe_op op_mod (pe_ix ix_list (pv 0) pe_int (fun _ _ => rfl)) pe_int)))
      (pss_cons (ps_if (pt_cmpR op_eq (pe_op op_mod (pe_op op_fdiv (pe_ix ix_list (pv 0) pe_int (fun _ _ => rfl)) pe_int) pe_int) pe_int (nomark _)) (pss_one (ps_set (i := 2) sc_l_lengths_by.nd rfl (.inl rfl) (pv 1))) pss_nil)
      (pss_cons (ps_set (i := 3) sc_l_lengths_by.nd rfl (.inl rfl) (pe_lst pa_nil))
      (pss_cons (ps_for PassesOwn.never rfl (pi_list (pe_slice sl_list (pv 0) (po_some pe_int) (po_some pe_int))) (pg_name (i := 4) sc_l_lengths_by.nd rfl (.inl rfl)) (pss_one (ps_expr (pe_bm PySem.F.plainAttrs_list PySem.F.slot_list_append PySem.F.type_list_append mt_append (pv 3) (pa_cons (pe_ix ix_list (pe_lst (pa_cons (pv 2) (pa_cons (pv 2) (pa_cons (pe_int) (pa_cons (pe_op op_add pe_int (pe_op op_mod (pe_op op_fdiv (pv 4) pe_int) pe_int)) pa_nil))))) (pe_op op_mod (pv 4) pe_int) (fun _ _ => rfl)) pa_nil)))))
      (pss_cons (ps_expr (pe_bm PySem.F.plainAttrs_list PySem.F.slot_list_insert PySem.F.type_list_insert mt_insert (pv 3) (pa_cons (pe_op op_mod (pe_op op_fdiv (pe_ix ix_list (pv 0) pe_int (fun _ _ => rfl)) pe_int) (pe_op op_add (pe_callB call_len_seq (by rfl) T.z_len (by decide +kernel) (pa_cons (pv 3) pa_nil)) pe_int)) (pa_cons (pe_int) pa_nil))))
      (pss_one (ps_ret (pv 3))))))))), ?_⟩
    refine ⟨_, rfl, a, _, rfl, .inl ha, rfl, _, rfl, ?_⟩
    cases ns with
    | nil =>
      exact iteB1 (by decide +kernel) ⟨(by show 1 ≤ sizeLine; decide), fun l nl => k _ l [1] (Same.new nl) upd_same ⟨fun x hx => by
        rw [List.mem_singleton] at hx
        rw [hx]
        exact ⟨by decide, by decide⟩, List.mem_singleton.mpr rfl, by decide⟩⟩
    | cons c0 tl =>
    have hne : decide (V.int (((c0 :: tl).map V.int).length : Int) = V.int 0) = false := decide_eq_false fun q => by
      have q := V.int.inj q
      rw [List.length_map, List.length_cons] at q
      omega
    have at0 : atI ((c0 :: tl).map V.int) 0 = some (.int c0) := atI_nat (j := 0) rfl
    refine iteB0 hne ⟨_, rfl, a, _, _, _, rfl, rfl, ha, at0, _, _, rfl, rfl, (by show (0 : Int) < 7; decide), _, _, rfl, rfl, ?_⟩
    refine ⟨_, rfl, a, _, _, _, rfl, rfl, ha, at0, _, _, rfl, rfl, ⟨by decide, by decide⟩, _, _, rfl, rfl, (by show (0 : Int) < 8; decide), rfl, _, rfl, ?_⟩
    have hM : (1 : Int) ≤ 1 + c0 % 7 ∧ 1 + c0 % 7 ≤ 400 := by omega
    cases decide (V.int (c0 / 7 % 8) = V.int 3) with
    | true =>
      refine iteT ⟨_, rfl, ?_⟩
      refine ⟨Nat.zero_le _, fun l nl => ⟨_, rfl, _, rfl, _, rfl, a, _, rfl, SqL.same (Same.new nl) ha, fun p np => ⟨p, rfl, ⟨_, SqL.of upd_same⟩, ?_⟩⟩⟩
      rw [cutI_eq]
      have pl : p ≠ l := by
        rintro rfl
        rw [upd_same] at np
        cases np
      have np0 : H p = none := by
        rw [upd_ne pl] at np
        exact np
      have hcs := cutI_le (c0 :: tl) (some 1) (some 6)
      generalize cutI (c0 :: tl) (some 1) (some 6) = cs at hcs
      refine for_list (K := K) (a := p) (xs := cs.map V.int) (fun i σ H' => ∃ (Li : List Int) (v : Option V), σ = [some (.ref a), some (.int 400), some (.int 400), some (.ref l), v] ∧ Same H H' ∧ H' p = some (.lst (cs.map V.int)) ∧ IL H' l Li ∧ Li.length = i ∧ ∀ x ∈ Li, 1 ≤ x ∧ x ≤ 400)
        ⟨[], none, rfl, (Same.new nl).trans (Same.new np), upd_same, (upd_ne pl.symm).trans upd_same, rfl, by simp⟩ (fun i σ H' _ ⟨_, _, _, _, hp, _⟩ => SqL.of hp) ?_ ?_
      · rintro i x σ H1 hi ⟨Li, v, rfl, s1, hp, hL, hlen, hb⟩
        rw [List.getElem?_map] at hi
        have hin : i < cs.length := by
          rcases Nat.lt_or_ge i cs.length with q | q
          · exact q
          · rw [List.getElem?_eq_none q] at hi
            cases hi
        rw [List.getElem?_eq_getElem hin] at hi
        cases hi
        obtain ⟨y, hy, hat⟩ := pick4 400 400 1 (1 + cs[i] / 4 % 6) cs[i]
        refine ⟨_, rfl, .inl ⟨rfl, _, SqL.of hL⟩, _, rfl, _, rfl, _, rfl, _, _, rfl, rfl, ⟨by decide, by decide⟩, _, _, rfl, rfl, (by show (0 : Int) < 6; decide), _, _, rfl, rfl, (by show 4 ≤ sizeLine; decide), fun q nq => ?_⟩
        have s2 := Same.new (o := .lst [V.int 400, .int 400, .int 1, .int (1 + cs[i] / 4 % 6)]) nq
        refine ⟨_, rfl, _, _, rfl, rfl, (by show (0 : Int) < 4; decide), q, _, _, _, rfl, rfl, SqL.of upd_same, hat, l, _, _, rfl, rfl, s2 _ _ hL, ?_, ?_⟩
        · rw [List.length_map]
          exact line_of (by simp only [List.length_cons] at h63 hcs; omega)
        · refine ⟨Li ++ [y], _, rfl, Same.off (s1.trans s2) nl, (upd_ne pl).trans (s2 _ _ hp), ?_, by rw [List.length_append, hlen]; rfl, fun z hz => ?_⟩
          · show upd _ l _ l = _
            rw [upd_same, List.map_append]
            rfl
          · rcases List.mem_append.mp hz with hz | hz
            · exact hb z hz
            · rw [List.mem_singleton] at hz
              rw [hz]
              rcases hy with h | h | h | h <;> (rw [h]; omega)
      · rintro σ H1 ⟨Li, v, rfl, s1, hp, hL, hlen, hb⟩
        rw [List.length_map] at hlen
        have h1 : Li.length ≤ 63 := by omega
        have hpos : (0 : Int) < (((Li.map V.int).length : Nat) : Int) + 1 := by omega
        have i0 : 0 ≤ c0 / 56 % ((((Li.map V.int).length : Nat) : Int) + 1) := Int.emod_nonneg _ (by omega)
        have i1 : c0 / 56 % ((((Li.map V.int).length : Nat) : Int) + 1) < (((Li.map V.int).length : Nat) : Int) + 1 := Int.emod_lt_of_pos _ hpos
        have i2 : (((Li.map V.int).length : Nat) : Int) ≤ 63 := by
          rw [List.length_map]
          omega
        refine ⟨_, rfl, .inl ⟨rfl, _, SqL.of hL⟩, _, rfl, a, _, _, _, rfl, rfl, SqL.same s1 ha, at0, _, _, rfl, rfl, ⟨by decide, by decide⟩, _, rfl, l, _, rfl, .inl (SqL.of hL), _, _, rfl, rfl, _, _, rfl, rfl, hpos, l, _, _, _, rfl, rfl, hL, ?_, i0, by omega, _, rfl, ?_⟩
        · rw [List.length_map]
          exact line_of (by omega)
        · refine k _ l _ (Same.off s1 nl) ?_ (ins_ok (j := (c0 / 56 % ((((Li.map V.int).length : Nat) : Int) + 1)).toNat) hb h1)
          show upd _ l _ l = _
          rw [upd_same, List.map_append, List.map_append, List.map_take, List.map_drop]
          rfl
    | false =>
      refine iteF ?_
      refine ⟨Nat.zero_le _, fun l nl => ⟨_, rfl, _, rfl, _, rfl, a, _, rfl, SqL.same (Same.new nl) ha, fun p np => ⟨p, rfl, ⟨_, SqL.of upd_same⟩, ?_⟩⟩⟩
      rw [cutI_eq]
      have pl : p ≠ l := by
        rintro rfl
        rw [upd_same] at np
        cases np
      have np0 : H p = none := by
        rw [upd_ne pl] at np
        exact np
      have hcs := cutI_le (c0 :: tl) (some 1) (some 6)
      generalize cutI (c0 :: tl) (some 1) (some 6) = cs at hcs
      refine for_list (K := K) (a := p) (xs := cs.map V.int) (fun i σ H' => ∃ (Li : List Int) (v : Option V), σ = [some (.ref a), some (.int 400), some (.int (1 + c0 % 7)), some (.ref l), v] ∧ Same H H' ∧ H' p = some (.lst (cs.map V.int)) ∧ IL H' l Li ∧ Li.length = i ∧ ∀ x ∈ Li, 1 ≤ x ∧ x ≤ 400)
        ⟨[], none, rfl, (Same.new nl).trans (Same.new np), upd_same, (upd_ne pl.symm).trans upd_same, rfl, by simp⟩ (fun i σ H' _ ⟨_, _, _, _, hp, _⟩ => SqL.of hp) ?_ ?_
      · rintro i x σ H1 hi ⟨Li, v, rfl, s1, hp, hL, hlen, hb⟩
        rw [List.getElem?_map] at hi
        have hin : i < cs.length := by
          rcases Nat.lt_or_ge i cs.length with q | q
          · exact q
          · rw [List.getElem?_eq_none q] at hi
            cases hi
        rw [List.getElem?_eq_getElem hin] at hi
        cases hi
        obtain ⟨y, hy, hat⟩ := pick4 (1 + c0 % 7) (1 + c0 % 7) 1 (1 + cs[i] / 4 % 6) cs[i]
        refine ⟨_, rfl, .inl ⟨rfl, _, SqL.of hL⟩, _, rfl, _, rfl, _, rfl, _, _, rfl, rfl, ⟨by decide, by decide⟩, _, _, rfl, rfl, (by show (0 : Int) < 6; decide), _, _, rfl, rfl, (by show 4 ≤ sizeLine; decide), fun q nq => ?_⟩
        have s2 := Same.new (o := .lst [V.int (1 + c0 % 7), .int (1 + c0 % 7), .int 1, .int (1 + cs[i] / 4 % 6)]) nq
        refine ⟨_, rfl, _, _, rfl, rfl, (by show (0 : Int) < 4; decide), q, _, _, _, rfl, rfl, SqL.of upd_same, hat, l, _, _, rfl, rfl, s2 _ _ hL, ?_, ?_⟩
        · rw [List.length_map]
          exact line_of (by simp only [List.length_cons] at h63 hcs; omega)
        · refine ⟨Li ++ [y], _, rfl, Same.off (s1.trans s2) nl, (upd_ne pl).trans (s2 _ _ hp), ?_, by rw [List.length_append, hlen]; rfl, fun z hz => ?_⟩
          · show upd _ l _ l = _
            rw [upd_same, List.map_append]
            rfl
          · rcases List.mem_append.mp hz with hz | hz
            · exact hb z hz
            · rw [List.mem_singleton] at hz
              rw [hz]
              rcases hy with h | h | h | h <;> (rw [h]; omega)
      · rintro σ H1 ⟨Li, v, rfl, s1, hp, hL, hlen, hb⟩
        rw [List.length_map] at hlen
        have h1 : Li.length ≤ 63 := by omega
        have hpos : (0 : Int) < (((Li.map V.int).length : Nat) : Int) + 1 := by omega
        have i0 : 0 ≤ c0 / 56 % ((((Li.map V.int).length : Nat) : Int) + 1) := Int.emod_nonneg _ (by omega)
        have i1 : c0 / 56 % ((((Li.map V.int).length : Nat) : Int) + 1) < (((Li.map V.int).length : Nat) : Int) + 1 := Int.emod_lt_of_pos _ hpos
        have i2 : (((Li.map V.int).length : Nat) : Int) ≤ 63 := by
          rw [List.length_map]
          omega
        refine ⟨_, rfl, .inl ⟨rfl, _, SqL.of hL⟩, _, rfl, a, _, _, _, rfl, rfl, SqL.same s1 ha, at0, _, _, rfl, rfl, ⟨by decide, by decide⟩, _, rfl, l, _, rfl, .inl (SqL.of hL), _, _, rfl, rfl, _, _, rfl, rfl, hpos, l, _, _, _, rfl, rfl, hL, ?_, i0, by omega, _, rfl, ?_⟩
        · rw [List.length_map]
          exact line_of (by omega)
        · refine k _ l _ (Same.off s1 nl) ?_ (ins_ok (j := (c0 / 56 % ((((Li.map V.int).length : Nat) : Int) + 1)).toNat) hb h1)
          show upd _ l _ l = _
          rw [upd_same, List.map_append, List.map_append, List.map_take, List.map_drop]
          rfl
end
end RB

namespace RB
open PySem PySem.Spec PyProof.Rows L2 He
theorem mod_nat {i : Int} {n : Nat} (h : 0 < n) : ∃ j : Nat, i % (n : Int) = j ∧ j < n := by
  have h0 := Int.emod_nonneg i (show (n : Int) ≠ 0 by omega)
  have h1 := Int.emod_lt_of_pos i (show (0 : Int) < n by omega)
  exact ⟨(i % (n : Int)).toNat, by omega, by omega⟩
theorem nat_atD {rs : List Nat} {j : Nat} (h : j < rs.length) : atI (rs.map fun r : Nat => V.int (r : Int)) (j : Int) = some (.int ((rs.getD j 0 : Nat) : Int)) := by
  refine atI_nat ?_
  rw [List.getElem?_map, List.getElem?_eq_getElem h, List.getD_eq_getElem?_getD, List.getElem?_eq_getElem h]
  rfl
def onesTo (L : List Int) (i : Nat) : List Nat := (List.range i).filter fun r => decide (L.getD r 0 = 1)
def onesOf (L : List Int) : List Nat := onesTo L L.length
theorem onesTo_succ (L : List Int) (i : Nat) : onesTo L (i + 1) = if L.getD i 0 = 1 then onesTo L i ++ [i] else onesTo L i := by
  unfold onesTo
  rw [List.range_succ, List.filter_append]
  by_cases h : L.getD i 0 = 1
  · rw [if_pos h, List.filter_cons_of_pos (p := fun r => decide (L.getD r 0 = 1)) (decide_eq_true h), List.filter_nil]
  · rw [if_neg h, List.filter_cons_of_neg (p := fun r => decide (L.getD r 0 = 1)) (by rw [decide_eq_false h]; decide), List.filter_nil, List.append_nil]
theorem onesTo_le (L : List Int) (i : Nat) : (onesTo L i).length ≤ i := by
  unfold onesTo
  have := List.length_filter_le (fun r => decide (L.getD r 0 = 1)) (List.range i)
  rwa [List.length_range] at this
theorem ones_mem {L : List Int} {r : Nat} (h : r ∈ onesOf L) : r < L.length ∧ L.getD r 0 = 1 := by
  unfold onesOf onesTo at h
  rw [List.mem_filter, List.mem_range] at h
  exact ⟨h.1, of_decide_eq_true h.2⟩
theorem ones_pos {L : List Int} (h : LOk L) : 0 < (onesOf L).length := by
  obtain ⟨j, hj, e⟩ := List.getElem_of_mem h.one
  have : j ∈ onesOf L := by
    unfold onesOf onesTo
    rw [List.mem_filter, List.mem_range]
    refine ⟨hj, decide_eq_true ?_⟩
    rw [List.getD_eq_getElem?_getD, List.getElem?_eq_getElem hj]
    exact e
  exact List.length_pos_of_mem this
theorem LOk.pos {L : List Int} (h : LOk L) : 0 < L.length := List.length_pos_of_mem h.one
def tgI (c : Int) (L : List Int) : Int := c * 48271 % 2147483647 % (L.length : Int)
def tgB (c : Int) (L : List Int) : Nat := if c % 2 = 0 then (onesOf L).getD (tgI c L % ((onesOf L).length : Int)).toNat 0 else (tgI c L).toNat
theorem tgB_lt {c : Int} {L : List Int} (h : LOk L) : tgB c L < L.length := by
  unfold tgB
  split
  · obtain ⟨j, hj, hl⟩ := mod_nat (i := tgI c L) (ones_pos h)
    rw [hj]
    exact (ones_mem (getD_mem (d := 0) (show (j : Int).toNat < _ by rw [Int.toNat_natCast]; exact hl))).1
  · obtain ⟨j, hj, hl⟩ := mod_nat (i := c * 48271 % 2147483647) h.pos
    unfold tgI
    rw [hj, Int.toNat_natCast]
    exact hl
theorem tgB_one {c : Int} {L : List Int} (h : LOk L) (e : c % 2 = 0) : L.getD (tgB c L) 0 = 1 := by
  unfold tgB
  rw [if_pos e]
  obtain ⟨j, hj, hl⟩ := mod_nat (i := tgI c L) (ones_pos h)
  rw [hj]
  exact (ones_mem (getD_mem (d := 0) (show (j : Int).toNat < _ by rw [Int.toNat_natCast]; exact hl))).2
def myB (c : Int) (L : List Int) : Int := if c % 2 = 1 then L.getD (tgB c L) 0 else if c / 2 % 4 = 0 then 1 + c / 8 % 7 else L.getD (c * 40692 % 2147483579 % (L.length : Int)).toNat 0
theorem getD_b {L : List Int} {r : Nat} (h : LOk L) (hr : r < L.length) : 1 ≤ L.getD r 0 ∧ L.getD r 0 ≤ 400 := h.b _ (getD_mem hr)
theorem myB_b {c : Int} {L : List Int} (h : LOk L) : 1 ≤ myB c L ∧ myB c L ≤ 400 := by
  unfold myB
  split
  · exact getD_b h (tgB_lt h)
  · split
    · omega
    · obtain ⟨j, hj, hl⟩ := mod_nat (i := c * 40692 % 2147483579) h.pos
      rw [hj, Int.toNat_natCast]
      exact getD_b h hl
def spTarget : Sp := fun vs H Q _ => ∃ (c : Int) (l : Addr) (L : List Int), vs = [.int c, .ref l] ∧ IL H l L ∧ LOk L ∧ ∀ H', Same H H' → Q (.int ((tgB c L : Nat) : Int)) H'
def spManyBy : Sp := fun vs H Q _ => ∃ (c : Int) (l : Addr) (L : List Int), vs = [.int c, .ref l] ∧ IL H l L ∧ LOk L ∧ ∀ H', Same H H' → Q (.int (myB c L)) H'
section
variable {P : Program} {w : World} {K : PySem.W.Frag} {mg : Str → Option Value} {base : Heap}
theorem ok_cells (T : Txt K mg) : FnOk P w K mg base CX0 2 (ga K "_law_cells_by") (fd_l_cells_by K) p_l_cells_by spCells := by
  refine T.f_l_cells_by.ok sc_l_cells_by (fun vs H Q E h => ?_) (fun cdv A outer s H vs Q E hr h => ?_)
  · obtain ⟨_, _, _, _, rfl, _⟩ := h
    rfl
  · obtain ⟨a, l, ns, L, rfl, ha, hn, hl, lo, k⟩ := h
    refine ⟨_, PSs.nox (pss_cons (ps_set (i := 2) sc_l_cells_by.nd rfl (.inl rfl) (pe_lst pa_nil))
      (pss_cons (ps_for PassesOwn.never rfl (pi_range1 rfl T.z_range (pa_cons (pe_callB (cr_sum rfl) (by rfl) T.z_sum (by decide +kernel) (pa_cons (pv 1) pa_nil)) pa_nil)) (pg_name (i := 3) sc_l_cells_by.nd rfl (.inl rfl)) (pss_one (ps_expr (pe_bm PySem.F.plainAttrs_list PySem.F.slot_list_append PySem.F.type_list_append mt_append (pv 2) (pa_cons (pe_call (ok_keptBy T) hr rfl T.g_l_kept_by T.k_l_kept_by T.b_l_kept_by .nil pass0 (pa_cons (pe_call (ok_mix T) hr rfl T.g_l_mix T.k_l_mix T.b_l_mix .nil pass0 (pa_cons (pe_op op_add (pe_ix ix_list (pv 0) (pe_op op_mod (pv 3) (pe_callB call_len_seq (by rfl) T.z_len (by decide +kernel) (pa_cons (pv 0) pa_nil))) (fun _ _ => rfl)) (pe_op op_mul (pv 3) (pv 3))) (pa_cons (pe_int) (pa_cons (pe_int) pa_nil)))) pa_nil)) pa_nil)))))
      (pss_one (ps_ret (pv 2))))), ?_⟩
    have hs := lo.sum
    refine ⟨Nat.zero_le _, fun c nc => ⟨_, rfl, l, L, rfl, SqL.same (Same.new nc) (SqL.of hl), L.sum, rfl, by omega, by omega, ?_⟩⟩
    refine for_range (lo := 0) (n := L.sum.toNat) (fun i σ H' => ∃ (Ci : List Int) (v : Option V), σ = [some (.ref a), some (.ref l), some (.ref c), v] ∧ Same H H' ∧ IL H' c Ci ∧ Ci.length = i ∧ ∀ x ∈ Ci, Kp x) ⟨[], none, rfl, Same.new nc, upd_same, rfl, by simp⟩ ?_ ?_
    · rintro i σ H1 hi ⟨Ci, v, rfl, s1, hc, hlen, hk⟩
      have e0 : (0 : Int) + (i : Int) = (i : Int) := by omega
      rw [e0]
      obtain ⟨j, hj, hjl⟩ := mod_nat (i := (i : Int)) hn
      have hlm : ((ns.map V.int).length : Int) = (ns.length : Int) := by rw [List.length_map]
      refine ⟨_, rfl, .inl ⟨rfl, _, SqL.of hc⟩, _, rfl, _, rfl, _, rfl, a, _, rfl, .inl (SqL.of (ha.same s1)), _, _, rfl, rfl, (by rw [hlm]; omega), a, _, _, _, rfl, rfl, SqL.of (ha.same s1), (by rw [hlm, hj]; exact row_at hjl), _, rfl, _, rfl, _, _, rfl, rfl, .inl ⟨by omega, by omega⟩, _, _, rfl, rfl, _, _, _, rfl, by decide, by decide, by decide, _, rfl, fun v2 H2 kv s2 => ?_⟩
      refine ⟨c, _, _, rfl, rfl, s2 _ _ hc, ?_, Ci ++ [v2], _, rfl, Same.off (s1.trans s2) nc, ?_, by rw [List.length_append, hlen]; rfl, fun x hx => ?_⟩
      · rw [List.length_map, hlen]
        exact line_of (by omega)
      · show upd _ c _ c = _
        rw [upd_same, List.map_append]
        rfl
      · rcases List.mem_append.mp hx with hx | hx
        · exact hk x hx
        · rw [List.mem_singleton] at hx
          rw [hx]
          exact kv
    · rintro σ H1 ⟨Ci, v, rfl, s1, hc, hlen, hk⟩
      exact ⟨_, rfl, k _ c Ci s1 hc ⟨fun x hx => (lo.b x hx).1, by rw [hlen]; omega, hk⟩⟩
theorem ok_target (T : Txt K mg) : FnOk P w K mg base CX0 2 (ga K "_law_target_by") (fd_l_target_by K) p_l_target_by spTarget := by
  refine T.f_l_target_by.ok sc_l_target_by (fun vs H Q E h => ?_) (fun cdv A outer s H vs Q E hr h => ?_)
  · obtain ⟨_, _, _, rfl, _⟩ := h
    rfl
  · obtain ⟨c, l, L, rfl, hl, lo, k⟩ := h
    refine ⟨_, PSs.nox (pss_cons (ps_set (i := 2) sc_l_target_by.nd rfl (.inl rfl) (pe_op op_mod (pe_call (ok_mix T) hr rfl T.g_l_mix T.k_l_mix T.b_l_mix .nil pass0 (pa_cons (pv 0) (pa_cons (pe_int) (pa_cons (pe_int) pa_nil)))) (pe_callB call_len_seq (by rfl) T.z_len (by decide +kernel) (pa_cons (pv 1) pa_nil))))
      (pss_cons (ps_if (pt_cmpR op_eq (pe_op op_mod (pv 0) pe_int) pe_int (nomark _)) (pss_cons (ps_setLc (i := 3) (own := [("_law_row", 4)]) (g := gName 4) rfl sc_l_target_by.nd rfl rfl (sw_true rfl rfl rfl (by decide +kernel)) (pi_range1 rfl T.z_range (pa_cons (pe_callB call_len_seq (by rfl) T.z_len (by decide +kernel) (pa_cons (pv 1) pa_nil)) pa_nil)) (blkOk_by (N := n_l_target_by) (sc := defScope s_l_target_by) (by decide +kernel)) (fun _ _ _ _ _ => pg_name (i := 4) sc_l_target_by.nd rfl (.inl rfl)) (fun _ _ _ _ _ => pts_one (pt_cmpR op_eq (pe_ix (show IxR _ (rIxL K) from ix_list) (pv 1) (pv 4) (fun _ _ => rfl)) pe_int (nomark _))) (fun _ _ _ _ _ => pv 4))
      (pss_one (ps_set (i := 2) sc_l_target_by.nd rfl (.inl rfl) (pe_ix ix_list (pv 3) (pe_op op_mod (pv 2) (pe_callB call_len_seq (by rfl) T.z_len (by decide +kernel) (pa_cons (pv 3) pa_nil))) (fun _ _ => rfl))))) pss_nil)
      (pss_one (ps_ret (pv 2))))), ?_⟩
    have hlm : ((L.map V.int).length : Int) = (L.length : Int) := by rw [List.length_map]
    have lp := lo.pos
    have l64 := lo.len
    have e2 : c * 48271 % 2147483647 % ((L.map V.int).length : Int) = tgI c L := by rw [hlm]; rfl
    refine ⟨_, rfl, c, _, _, rfl, by decide, by decide, by decide, _, rfl, l, _, rfl, .inl (SqL.of hl), _, _, rfl, rfl, (by rw [hlm]; omega), ?_⟩
    refine ⟨_, rfl, _, _, rfl, rfl, (by show (0 : Int) < 2; decide), rfl, _, rfl, ?_⟩
    unfold tgB at k
    by_cases h2 : c % 2 = 0
    · rw [if_pos h2] at k
      refine iteB1 (decide_eq_true (congrArg V.int h2)) ⟨_, rfl, l, _, rfl, .inl (SqL.of hl), (L.length : Int), congrArg (fun z => [V.int z]) hlm, by omega, by omega, fun D hD => ?_⟩
      refine lc_range (lo := 0) (n := (L.length : Int).toNat) (fun i H' => Same H H' ∧ NL H' D (onesTo L i)) ⟨Same.new hD, upd_same⟩ ?_ ?_
      · rintro i H1 hi ⟨s1, hn⟩
        have e0 : (0 : Int) + (i : Int) = (i : Int) := by omega
        rw [e0]
        have hil : i < L.length := by omega
        refine ⟨rfl, _, rfl, _, rfl, l, _, _, _, rfl, rfl, SqL.of (hl.same s1), row_at hil, rfl, _, rfl, ?_⟩
        have so := onesTo_succ L i
        by_cases h1 : L.getD i 0 = 1
        · rw [if_pos h1] at so
          refine iteB1 (decide_eq_true (congrArg V.int h1)) ⟨_, rfl, _, hn, ?_, Same.off s1 hD, ?_⟩
          · rw [List.length_map]
            have := onesTo_le L i
            exact line_of (by omega)
          · show upd _ D _ D = _
            rw [upd_same, so, List.map_append]
            rfl
        · rw [if_neg h1] at so
          refine iteB0 (decide_eq_false fun q => h1 (V.int.inj q)) ⟨s1, ?_⟩
          rw [so]
          exact hn
      · rintro H1 ⟨s1, hn⟩
        rw [Int.toNat_natCast] at hn
        have op := ones_pos lo
        obtain ⟨j, hj, hjl⟩ := mod_nat (i := tgI c L) op
        have ho : (((onesOf L).map fun r : Nat => V.int (r : Int)).length : Int) = ((onesOf L).length : Int) := by rw [List.length_map]
        rw [hj, Int.toNat_natCast] at k
        exact ⟨_, rfl, _, rfl, _, rfl, D, _, rfl, .inl (SqL.of hn), _, _, rfl, rfl, (by show (0 : Int) < _; rw [List.length_map]; exact Int.natCast_pos.mpr op), D, _, _, _, rfl, rfl, SqL.of hn, (by show atI _ (c * 48271 % 2147483647 % ((L.map V.int).length : Int) % (((onesOf L).map fun r : Nat => V.int (r : Int)).length : Int)) = _; rw [e2, ho, hj]; exact nat_atD hjl), _, rfl, k _ s1⟩
    · rw [if_neg h2] at k
      refine iteB0 (decide_eq_false fun q => h2 (V.int.inj q)) ⟨_, rfl, ?_⟩
      have z := k H (Same.refl _)
      have nn : 0 ≤ tgI c L := Int.emod_nonneg _ (show (L.length : Int) ≠ 0 by omega)
      rw [← toNat_is nn] at z
      show Q (.int (c * 48271 % 2147483647 % ((L.map V.int).length : Int))) H
      rw [e2]
      exact z
theorem ok_manyBy (T : Txt K mg) : FnOk P w K mg base CX0 3 (ga K "_law_many_by") (fd_l_many_by K) p_l_many_by spManyBy := by
  refine T.f_l_many_by.ok sc_l_many_by (fun vs H Q E h => ?_) (fun cdv A outer s H vs Q E hr h => ?_)
  · obtain ⟨_, _, _, rfl, _⟩ := h
    rfl
  · obtain ⟨c, l, L, rfl, hl, lo, k⟩ := h
    have hr1 := hr.mono (show 1 ≤ 2 by decide)
    refine ⟨_, PSs.nox (pss_cons (ps_if (pt_cmpR op_eq (pe_op op_mod (pv 0) pe_int) pe_int (nomark _)) (pss_one (ps_ret (pe_ix ix_list (pv 1) (pe_call (ok_target T) hr rfl T.g_l_target_by T.k_l_target_by T.b_l_target_by .nil pass0 (pa_cons (pv 0) (pa_cons (pv 1) pa_nil))) (fun _ _ => rfl)))) pss_nil)
      (pss_cons (ps_if (pt_cmpR op_eq (pe_op op_mod (pe_op op_fdiv (pv 0) pe_int) pe_int) pe_int (nomark _)) (pss_one (ps_ret (pe_op op_add pe_int (pe_op op_mod (pe_op op_fdiv (pv 0) pe_int) pe_int)))) pss_nil)
      (pss_one (ps_ret (pe_ix ix_list (pv 1) (pe_op op_mod (pe_call (ok_mix T) hr1 rfl T.g_l_mix T.k_l_mix T.b_l_mix .nil pass0 (pa_cons (pv 0) (pa_cons (pe_int) (pa_cons (pe_int) pa_nil)))) (pe_callB call_len_seq (by rfl) T.z_len (by decide +kernel) (pa_cons (pv 1) pa_nil))) (fun _ _ => rfl)))))), ?_⟩
    have hlm : ((L.map V.int).length : Int) = (L.length : Int) := by rw [List.length_map]
    have lp := lo.pos
    unfold myB at k
    refine ⟨_, rfl, _, _, rfl, rfl, (by show (0 : Int) < 2; decide), rfl, _, rfl, ?_⟩
    by_cases h1 : c % 2 = 1
    · rw [if_pos h1] at k
      exact iteB1 (decide_eq_true (congrArg V.int h1)) ⟨_, rfl, _, rfl, _, rfl, c, l, L, rfl, hl, lo, fun H' s' => ⟨l, _, _, _, rfl, rfl, SqL.of (hl.same s'), row_at (tgB_lt lo), k H' s'⟩⟩
    rw [if_neg h1] at k
    refine iteB0 (decide_eq_false fun q => h1 (V.int.inj q)) ⟨_, rfl, _, _, rfl, rfl, ⟨by decide, by decide⟩, _, _, rfl, rfl, (by show (0 : Int) < 4; decide), rfl, _, rfl, ?_⟩
    by_cases h2 : c / 2 % 4 = 0
    · rw [if_pos h2] at k
      exact iteB1 (decide_eq_true (congrArg V.int h2)) ⟨_, rfl, _, _, rfl, rfl, ⟨by decide, by decide⟩, _, _, rfl, rfl, (by show (0 : Int) < 7; decide), _, _, rfl, rfl, k H (Same.refl _)⟩
    rw [if_neg h2] at k
    obtain ⟨j, hj, hjl⟩ := mod_nat (i := c * 40692 % 2147483579) lp
    rw [hj, Int.toNat_natCast] at k
    exact iteB0 (decide_eq_false fun q => h2 (V.int.inj q)) ⟨_, rfl, _, rfl, c, _, _, rfl, by decide, by decide, by decide, _, rfl, l, _, rfl, .inl (SqL.of hl), _, _, rfl, rfl, (by rw [hlm]; omega), l, _, _, _, rfl, rfl, SqL.of hl, (by rw [hlm, hj]; exact row_at hjl), k H (Same.refl _)⟩
end
end RB

namespace RB
open PySem PySem.Spec PyProof.Rows L2 He
theorem iteS {b : Bool} {p q : Prop} (h1 : b = true → p) (h0 : b = false → q) : if b = true then p else q := by
  cases b with
  | true => exact iteT (h1 rfl)
  | false => exact iteF (h0 rfl)
theorem tIf_join {tt : TT} {t u : TE} {σ : L2.St} {H : Hp} {Q : VK} (G : V → Hp → Prop) (rest : ∀ x H', G x H' → Q x H') (h : ∀ Q' : VK, (∀ x H', G x H' → Q' x H') → tIf tt t u σ H Q') : tIf tt t u σ H Q := h Q rest
theorem tIfS_join {tt : TT} {t u : TS} {D : Ends} {σ : L2.St} {H : Hp} (G : L2.St → Hp → Prop) (rest : ∀ σ' H', G σ' H' → D.nx σ' H') (h : ∀ D' : Ends, (∀ σ' H', G σ' H' → D'.nx σ' H') → tIfS tt t u D' σ H) : tIfS tt t u D σ H := h D rest
theorem inV2 {x a b : Int} (h : inV (V.int x) [V.int a, V.int b] = true) : x = a ∨ x = b := by
  unfold inV at h
  rw [List.any_cons, List.any_cons, List.any_nil, Bool.or_false, Bool.or_eq_true] at h
  rcases h with h | h
  · exact .inl (eq_of_beq (α := Int) h).symm
  · exact .inr (eq_of_beq (α := Int) h).symm
def spStepBy (K : PySem.W.Frag) : Sp := fun vs H Q _ => ∃ (c : Int) (l : Addr) (L : List Int), vs = [.int c, .ref l] ∧ IL H l L ∧ LOk L ∧
  ∀ H' a d, Same H H' → StepAt K H' a d → d.fo = foB c → d.tg = tgB c L → mny d L = myB c L → d.test.isSome = decide (c % 3 = 0) → SOk d L 4 → Q (.ref a) H'
section
variable {P : Program} {w : World} {K : PySem.W.Frag} {mg : Str → Option Value} {base : Heap}
theorem ok_stepBy (T : Txt K mg) : FnOk P w K mg base CX0 5 (ga K "_law_step_by") (fd_l_step_by K) p_l_step_by (spStepBy K) := by
  refine T.f_l_step_by.ok sc_l_step_by (fun vs H Q E h => ?_) (fun cdv A outer s H vs Q E hr h => ?_)
  · obtain ⟨_, _, _, rfl, _⟩ := h
    rfl
  obtain ⟨c, l, L, rfl, hl, lo, k⟩ := h
  have hr1 := hr.mono (show 1 ≤ 4 by decide)
  have hr2 := hr.mono (show 2 ≤ 4 by decide)
  have hr3 := hr.mono (show 3 ≤ 4 by decide)
  obtain ⟨dF0, vF0, bF0⟩ := T.b0_Fold_init
  obtain ⟨dF1, vF1, bF1⟩ := T.b1_Fold_init
  obtain ⟨dR0, vR0, bR0⟩ := T.b0_Running_init
  obtain ⟨dR1, vR1, bR1⟩ := T.b1_Running_init
  refine ⟨_, PSs.nox (pss_cons (ps_set (i := 2) sc_l_step_by.nd rfl (.inr rfl) (pe_call (ok_target T) hr2 rfl T.g_l_target_by T.k_l_target_by T.b_l_target_by .nil pass0 (pa_cons (pv 0) (pa_cons (pv 1) pa_nil))))
      (pss_cons (ps_set (i := 3) sc_l_step_by.nd rfl (.inr rfl) (pe_call (ok_manyBy T) hr3 rfl T.g_l_many_by T.k_l_many_by T.b_l_many_by .nil pass0 (pa_cons (pv 0) (pa_cons (pv 1) pa_nil))))
      (pss_cons (ps_setLc (i := 4) (own := [("_law_row", 5)]) (g := gName 5) rfl sc_l_step_by.nd rfl rfl (sw_true rfl rfl rfl (by decide +kernel)) (pi_range1 rfl T.z_range (pa_cons (pe_callB call_len_seq (by rfl) T.z_len (by decide +kernel) (pa_cons (pv 1) pa_nil)) pa_nil)) (blkOk_by (N := n_l_step_by) (sc := defScope s_l_step_by) (by decide +kernel)) (fun _ _ _ _ _ => pg_name (i := 5) sc_l_step_by.nd rfl (.inl rfl)) (fun _ _ _ _ _ => pts_one (pt_cmpR op_ne (pv 5) (pv 2) (nomark _))) (fun _ _ _ _ _ => pv 5))
      (pss_cons (ps_set (i := 6) sc_l_step_by.nd rfl (.inl rfl) (pe_ifExp (pt_cmpR op_eq (pe_op op_mod (pv 0) pe_int) pe_int (nomark _)) (pv 4) (pe_listRg rfl rfl T.z_list (prg_1 rfl T.z_range (pe_callB call_len_seq (by rfl) T.z_len (by decide +kernel) (pa_cons (pv 1) pa_nil))))))
      (pss_cons (ps_setLc (i := 7) (own := [("_law_row", 5)]) (g := gName 5) rfl sc_l_step_by.nd rfl rfl (sw_true rfl rfl rfl (by decide +kernel)) (pi_list (pv 6)) (blkOk_by (N := n_l_step_by) (sc := defScope s_l_step_by) (by decide +kernel)) (fun _ _ _ _ _ => pg_name (i := 5) sc_l_step_by.nd rfl (.inl rfl)) (fun _ _ _ _ _ => pts_one (pt_cmpR (show OpR _ _ (rIn K false) from op_in_seq) (pe_ix (show IxR _ (rIxL K) from ix_list) (pv 1) (pv 5) (fun _ _ => rfl)) (pe_tup (pa_cons (pv 3) (pa_cons (pe_int) pa_nil))) (by rfl))) (fun _ _ _ _ _ => pv 5))
      (pss_cons (ps_set (i := 8) sc_l_step_by.nd rfl (.inl rfl) (pe_call (ok_value T) hr rfl T.g_l_value_by T.k_l_value_by T.b_l_value_by .nil pass0 (pa_cons (pe_call (ok_mix T) hr1 rfl T.g_l_mix T.k_l_mix T.b_l_mix .nil pass0 (pa_cons (pv 0) (pa_cons (pe_int) (pa_cons (pe_int) pa_nil)))) (pa_cons (pv 7) (pa_cons (pv 4) (pa_cons (pv 1) pa_nil))))))
      (pss_cons (ps_set (i := 9) sc_l_step_by.nd rfl (.inl rfl) pe_non)
      (pss_cons (ps_if (pt_cmpR op_eq (pe_op op_mod (pv 0) pe_int) pe_int (nomark _)) (pss_one (ps_set (i := 9) sc_l_step_by.nd rfl (.inl rfl) (pe_call (ok_value T) hr rfl T.g_l_value_by T.k_l_value_by T.b_l_value_by .nil pass0 (pa_cons (pe_call (ok_mix T) hr1 rfl T.g_l_mix T.k_l_mix T.b_l_mix .nil pass0 (pa_cons (pv 0) (pa_cons (pe_int) (pa_cons (pe_int) pa_nil)))) (pa_cons (pv 7) (pa_cons (pv 4) (pa_cons (pv 1) pa_nil))))))) pss_nil)
      (pss_cons (ps_if (pt_cmpR op_eq (pe_op op_mod (pv 0) pe_int) pe_int (nomark _)) (pss_cons (ps_if (pt_cmpR op_eq (pe_op op_mod (pv 0) pe_int) pe_int (nomark _)) (pss_one (ps_ret (pe_new T.m_Fold (ok_Fold T) hr3 rfl T.g_Fold bF0 vF0 (pa_cons (pv 2) (pa_cons (pe_call (ok_foldBy T) hr2 rfl T.g_l_fold_by T.k_l_fold_by T.b_l_fold_by .nil pass0 (pa_cons (pv 0) pa_nil)) (pa_cons (pv 8) (pa_cons (pv 3) pa_nil))))))) pss_nil)
      (pss_one (ps_ret (pe_new T.m_Fold (ok_Fold T) hr3 rfl T.g_Fold bF1 vF1 (pa_cons (pv 2) (pa_cons (pe_call (ok_foldBy T) hr2 rfl T.g_l_fold_by T.k_l_fold_by T.b_l_fold_by .nil pass0 (pa_cons (pv 0) pa_nil)) (pa_cons (pv 8) (pa_cons (pv 3) (pa_cons (pv 9) pa_nil))))))))) pss_nil)
      (pss_cons (ps_if (pt_cmpR op_eq (pe_op op_mod (pv 0) pe_int) pe_int (nomark _)) (pss_one (ps_ret (pe_new T.m_Running (ok_Running T) hr3 rfl T.g_Running bR0 vR0 (pa_cons (pv 2) (pa_cons (pe_call (ok_foldBy T) hr2 rfl T.g_l_fold_by T.k_l_fold_by T.b_l_fold_by .nil pass0 (pa_cons (pv 0) pa_nil)) (pa_cons (pv 8) pa_nil)))))) pss_nil)
      (pss_one (ps_ret (pe_new T.m_Running (ok_Running T) hr3 rfl T.g_Running bR1 vR1 (pa_cons (pv 2) (pa_cons (pe_call (ok_foldBy T) hr2 rfl T.g_l_fold_by T.k_l_fold_by T.b_l_fold_by .nil pass0 (pa_cons (pv 0) pa_nil)) (pa_cons (pv 8) (pa_cons (pv 9) pa_nil))))))))))))))))), ?_⟩
  have hlm : ((L.map V.int).length : Int) = (L.length : Int) := by rw [List.length_map]
  have lp := lo.pos
  have l64 := lo.len
  have mb := myB_b (c := c) lo
  refine ⟨_, rfl, _, rfl, c, l, L, rfl, hl, lo, fun H1 s1 => ⟨_, rfl, _, rfl, c, l, L, rfl, hl.same s1, lo, fun H2 s2 => ?_⟩⟩
  have sm2 := s1.trans s2
  refine ⟨_, rfl, l, _, rfl, .inl (SqL.of (hl.same sm2)), (L.length : Int), congrArg (fun z => [V.int z]) hlm, by omega, by omega, fun D hD => ?_⟩
  refine lc_range (lo := 0) (n := (L.length : Int).toNat) (fun i H' => Same H2 H' ∧ ∃ fs, NL H' D fs ∧ fs.length ≤ i ∧ ∀ r ∈ fs, r < L.length) ⟨Same.new hD, [], upd_same, Nat.le_refl _, by simp⟩ ?_ ?_
  · rintro i H3 hi ⟨s3, fs, hn, hle, hfs⟩
    have e0 : (0 : Int) + (i : Int) = (i : Int) := by omega
    rw [e0]
    have hil : i < L.length := by omega
    refine ⟨rfl, _, rfl, _, rfl, rfl, _, rfl, iteS (fun _ => ⟨_, rfl, _, hn, ?_, Same.off s3 hD, fs ++ [i], ?_, ?_, fun r hr => ?_⟩) (fun _ => ⟨s3, fs, hn, by omega, hfs⟩)⟩
    · rw [List.length_map]
      exact line_of (by omega)
    · show upd _ D _ D = _
      rw [upd_same, List.map_append]
      rfl
    · rw [List.length_append, List.length_singleton]
      omega
    · rcases List.mem_append.mp hr with hr | hr
      · exact hfs r hr
      · rw [List.mem_singleton] at hr
        rw [hr]
        exact hil
  rintro H3 ⟨s3, fs, hfar, hfle, hfs⟩
  have sm3 := sm2.trans s3
  have hl3 := hl.same sm3
  rw [show gName 4 = fun v σ H Q => Q (σ.set 4 (some v)) H from rfl]
  dsimp only [tSeq, tAsg]
  refine tIf_join (fun x H' => ∃ (near : Addr) (ns : List Nat), x = .ref near ∧ Same H3 H' ∧ NL H' near ns ∧ ns.length ≤ 64 ∧ ∀ r ∈ ns, r < L.length) ?_ fun Q' hQ => ?_
  rotate_left 1
  · refine ⟨_, rfl, _, _, rfl, rfl, (by show (0 : Int) < 2; decide), rfl, _, rfl, iteS (fun _ => ?_) (fun _ => ?_)⟩
    · exact ⟨_, rfl, hQ _ _ ⟨D, fs, rfl, Same.refl _, hfar, by omega, hfs⟩⟩
    · refine ⟨_, rfl, l, _, rfl, .inl (SqL.of hl3), _, rfl, RgOk.of_le (by omega) (by omega) (by omega) (by omega), fun q nq => hQ _ _ ⟨q, List.range L.length, rfl, Same.new nq, ?_, by rw [List.length_range]; exact l64, fun r hr => List.mem_range.mp hr⟩⟩
      show upd H3 q _ q = _
      rw [upd_same]
      unfold rgV
      rw [hlm, Int.sub_zero, Int.toNat_natCast]
      congr 2
      refine List.map_congr_left fun r _ => ?_
      rw [Int.zero_add]
  rintro x H4 ⟨near, ns, rfl, s4, hn4, hnl, hns⟩
  have sm4 := sm3.trans s4
  have hl4 := hl.same sm4
  refine ⟨_, rfl, near, rfl, ⟨_, SqL.of hn4⟩, fun D2 hD2 => ?_⟩
  refine lc_list (K := K) (a := near) (xs := ns.map fun r : Nat => V.int (r : Int)) (fun i H' => Same H4 H' ∧ ∃ rs, NL H' D2 rs ∧ rs.length ≤ i ∧ ∀ r ∈ rs, r < L.length ∧ (L.getD r 0 = 1 ∨ L.getD r 0 = myB c L)) ⟨Same.new hD2, [], upd_same, Nat.le_refl _, by simp⟩ (fun i H' _ h => SqL.of (hn4.same h.1)) ?_ ?_
  · rintro i x H5 hi ⟨s5, rs, hn, hle, hrs⟩
    rw [List.getElem?_map] at hi
    have hin : i < ns.length := by
      rcases Nat.lt_or_ge i ns.length with q | q
      · exact q
      · rw [List.getElem?_eq_none q] at hi
        cases hi
    rw [List.getElem?_eq_getElem hin] at hi
    cases hi
    have hri := hns _ (List.getElem_mem hin)
    have hl5 := hl4.same s5
    refine ⟨rfl, _, rfl, _, rfl, l, _, _, _, rfl, rfl, SqL.of hl5, row_at hri, _, rfl, (by show 2 ≤ sizeLine; decide), fun t nt => ⟨t, [V.int (myB c L), .int 1], rfl, .inr (SqT.of upd_same), rfl, rfl, _, rfl, ?_⟩⟩
    have st := Same.new (o := .tup [V.int (myB c L), .int 1]) nt
    refine iteS (fun e => ⟨_, rfl, _, st _ _ hn, ?_, Same.off (s5.trans st) hD2, rs ++ [ns[i]], ?_, ?_, fun r hr => ?_⟩) (fun _ => ⟨s5.trans st, rs, hn.same st, by omega, hrs⟩)
    · rw [List.length_map]
      exact line_of (by omega)
    · show upd _ D2 _ D2 = _
      rw [upd_same, List.map_append]
      rfl
    · rw [List.length_append, List.length_singleton]
      omega
    · rcases List.mem_append.mp hr with hr | hr
      · exact hrs r hr
      · rw [List.mem_singleton] at hr
        rw [hr]
        exact ⟨hri, (inV2 e).symm⟩
  rintro H5 ⟨s5, rs, hrows, hrle, hrs⟩
  have sm5 := sm4.trans s5
  have li : LIn H5 D2 D l rs fs L (myB c L) := ⟨hrows, hfar.same (s4.trans s5), hl.same sm5, hrs, hfs, lo.b⟩
  refine ⟨_, rfl, c, _, _, rfl, by decide, by decide, by decide, _, rfl, _, rfl, _, rfl, _, D2, D, l, rs, fs, L, _, rfl, li, fun H6 v fv s6 hv fiv htv => ?_⟩
  have sm6 := sm5.trans s6
  rw [show gName 8 = fun v σ H Q => Q (σ.set 8 (some v)) H from rfl, show gName 9 = fun v σ H Q => Q (σ.set 9 (some v)) H from rfl]
  dsimp only [tSeq, tAsg, tC]
  refine tIfS_join (fun σ' H' => ∃ tv o, σ' = [some (.int c), some (.ref l), some (.int ((tgB c L : Nat) : Int)), some (.int (myB c L)), some (.ref D), none, some (.ref near), some (.ref D2), some (.ref v), some tv] ∧ Same H6 H' ∧ TAt K H' tv o ∧ o.isSome = decide (c % 3 = 0) ∧ ∀ f, o = some f → Fine L (myB c L) 0 f ∧ ht f ≤ 4) ?_ fun D' hD' => ?_
  rotate_left 1
  · refine ⟨_, rfl, _, _, rfl, rfl, (by show (0 : Int) < 3; decide), rfl, _, rfl, iteS (fun e => ?_) (fun e => ?_)⟩
    · have e3 : c % 3 = 0 := V.int.inj (of_decide_eq_true e)
      refine ⟨_, rfl, c, _, _, rfl, by decide, by decide, by decide, _, rfl, _, rfl, _, rfl, _, D2, D, l, rs, fs, L, _, rfl, li.same s6, fun H7 u fu s7 hu fiu htu => hD' _ _ ⟨.ref u, some fu, rfl, s7, ⟨u, rfl, hu⟩, (decide_eq_true e3).symm, fun f ef => ?_⟩⟩
      cases ef
      exact ⟨fiu, htu⟩
    · have e3 : ¬ c % 3 = 0 := fun q => of_decide_eq_false e (congrArg V.int q)
      exact hD' _ _ ⟨.non, none, rfl, Same.refl _, rfl, (decide_eq_false e3).symm, fun f ef => by cases ef⟩
  rintro σ' H7 ⟨tv, o, rfl, s7, hT, hS, hO⟩
  have sm7 := sm6.trans s7
  have hv7 := hv.same s7
  have one3 : c % 3 = 1 → tv = .non ∧ o = none := by
    intro e
    rw [decide_eq_false (by omega)] at hS
    cases o with
    | none => exact ⟨hT, rfl⟩
    | some f => cases hS
  refine ⟨_, rfl, _, _, rfl, rfl, (by show (0 : Int) < 2; decide), rfl, _, rfl, iteS (fun e => ?_) (fun e => ?_)⟩
  · have e2 : c % 2 = 0 := V.int.inj (of_decide_eq_true e)
    have fin : ∀ H' a dx, Same H H' → Same H7 H' → H' a = some (.ins (ga K "Fold") dx (fsFold (.int ((tgB c L : Nat) : Int)) (.str (foB c)) (.ref v) (.int (myB c L)) tv)) → Q (.ref a) H' := by
      intro H' a dx s8 s9 ha
      refine k H' a ⟨true, tgB c L, foB c, fv, myB c L, o⟩ s8 ⟨dx, v, tv, hv7.same s9, hT.same s9, ha⟩ rfl rfl rfl hS ⟨tgB_lt lo, foB_mem c, fiv, htv, hO, fun _ => tgB_one lo e2, mb.1, mb.2⟩
    refine ⟨_, rfl, _, _, rfl, rfl, (by show (0 : Int) < 3; decide), rfl, _, rfl, iteS (fun e => ?_) (fun e => ?_)⟩
    · obtain ⟨rfl, rfl⟩ := one3 (V.int.inj (of_decide_eq_true e))
      exact ⟨_, rfl, _, rfl, c, rfl, fun H8 s8 => ⟨_, rfl, _, rfl, rfl, fun x dx H9 s9 nx hx => fin H9 x dx (sm7.trans (s8.trans s9)) (s8.trans s9) hx⟩⟩
    · exact ⟨_, rfl, _, rfl, c, rfl, fun H8 s8 => ⟨_, rfl, _, rfl, _, rfl, rfl, fun x dx H9 s9 nx hx => fin H9 x dx (sm7.trans (s8.trans s9)) (s8.trans s9) hx⟩⟩
  · have e2 : ¬ c % 2 = 0 := fun q => of_decide_eq_false e (congrArg V.int q)
    have em : myB c L = L.getD (tgB c L) 0 := by
      unfold myB
      rw [if_pos (by omega)]
    have fin : ∀ H' a dx, Same H H' → Same H7 H' → H' a = some (.ins (ga K "Running") dx (fsRunning (.int ((tgB c L : Nat) : Int)) (.str (foB c)) (.ref v) tv)) → Q (.ref a) H' := by
      intro H' a dx s8 s9 ha
      have hm : mny ⟨false, tgB c L, foB c, fv, myB c L, o⟩ L = myB c L := em.symm
      refine k H' a ⟨false, tgB c L, foB c, fv, myB c L, o⟩ s8 ⟨dx, v, tv, hv7.same s9, hT.same s9, ha⟩ rfl rfl hm hS ⟨tgB_lt lo, foB_mem c, by rw [hm]; exact fiv, htv, by rw [hm]; exact hO, (fun z => by cases z), by rw [hm]; exact mb.1, by rw [hm]; exact mb.2⟩
    refine ⟨_, rfl, _, _, rfl, rfl, (by show (0 : Int) < 3; decide), rfl, _, rfl, iteS (fun e => ?_) (fun e => ?_)⟩
    · obtain ⟨rfl, rfl⟩ := one3 (V.int.inj (of_decide_eq_true e))
      exact ⟨_, rfl, _, rfl, c, rfl, fun H8 s8 => ⟨_, rfl, rfl, fun x dx H9 s9 nx hx => fin H9 x dx (sm7.trans (s8.trans s9)) (s8.trans s9) hx⟩⟩
    · exact ⟨_, rfl, _, rfl, c, rfl, fun H8 s8 => ⟨_, rfl, _, rfl, rfl, fun x dx H9 s9 nx hx => fin H9 x dx (sm7.trans (s8.trans s9)) (s8.trans s9) hx⟩⟩
end
end RB

namespace RB
open PySem PySem.Spec PyProof.Rows L2 He
theorem el_ok {d : Sd} {L C : List Int} {p v : Int} (e : elW d L C p = .ok v) : wof L C p [] d.val = .ok v := by
  unfold elW at e
  cases et : tW L C p d.test with
  | ok t =>
    rw [et] at e
    dsimp only at e
    by_cases z : t = 0
    · rw [if_pos z] at e
      cases e
    · rw [if_neg z] at e
      cases ew : wof L C p [] d.val with
      | ok u =>
        rw [ew] at e
        cases e
        rfl
      | nought =>
        rw [ew] at e
        cases e
      | outside =>
        rw [ew] at e
        cases e
  | nought =>
    rw [et] at e
    cases e
  | outside =>
    rw [et] at e
    cases e
section
variable {d : Sd} {L C : List Int} {run : Option Int} {p v : Int} {r : Nat} {k : Str}
theorem goE_pass (e : elW d L C p = .pass) : goE d L (r + 1) p C run = goE d L r (p + 1) C run := by
  show (match elW d L C p with
    | .pass => goE d L r (p + 1) C run
    | .ok v => goE d L r (p + 1) (nxC d L C run p v) (nxR d run v)
    | .bad k => (C, some (p, k))) = _
  rw [e]
theorem goE_ok (e : elW d L C p = .ok v) : goE d L (r + 1) p C run = goE d L r (p + 1) (nxC d L C run p v) (nxR d run v) := by
  show (match elW d L C p with
    | .pass => goE d L r (p + 1) C run
    | .ok v => goE d L r (p + 1) (nxC d L C run p v) (nxR d run v)
    | .bad k => (C, some (p, k))) = _
  rw [e]
theorem goE_bad (e : elW d L C p = .bad k) : goE d L (r + 1) p C run = (C, some (p, k)) := by
  show (match elW d L C p with
    | .pass => goE d L r (p + 1) C run
    | .ok v => goE d L r (p + 1) (nxC d L C run p v) (nxR d run v)
    | .bad k => (C, some (p, k))) = _
  rw [e]
end
def KQ (H : Hp) (Q : VK) (r : List Int × Option (Int × Str)) : Prop := ∀ H' q, Same H H' → FdAt H' q r → Q (.ref q) H'
def spDue (K : PySem.W.Frag) : Sp := fun vs H Q _ => ∃ (a l fn cs : Addr) (d : Sd) (L C : List Int), vs = [.ref a, .ref l, .ref fn, .ref cs, .int (mny d L)] ∧ StepAt K H a d ∧ IL H l L ∧ FnsAt K H fn ∧ IL H cs C ∧ SOk d L 4 ∧ COk L C ∧ KQ H Q (goE d L (mny d L).toNat 0 C none)
section
variable {P : Program} {w : World} {K : PySem.W.Frag} {mg : Str → Option Value} {base : Heap}
theorem ok_due (T : Txt K mg) : FnOk P w K mg base CX0 11 (ga K "_law_due") (fd_l_due K) p_l_due (spDue K) := by
  refine T.f_l_due.ok sc_l_due (fun vs H Q E h => ?_) (fun cdv A outer s0 H vs Q E hr h => ?_)
  · obtain ⟨_, _, _, _, _, _, _, rfl, _⟩ := h
    rfl
  obtain ⟨a, l, fn, cs, d, L, C, rfl, hst, hl, hfn, hcs, so, co, k⟩ := h
  have hr1 := hr.mono (show 1 ≤ 10 by decide)
  have hr2 : Room 2 _ := hr.mono (show 2 ≤ 10 by decide)
  refine ⟨_, PSs.nox (pss_cons (ps_set (i := 5) sc_l_due.nd rfl (.inl rfl) (pe_callTy call_list_of (by rfl) T.z_list (by decide +kernel) (pa_cons (pv 3) pa_nil)))
      (pss_cons (ps_set (i := 6) sc_l_due.nd rfl (.inl rfl) (pe_callB (cr_sum rfl) (by rfl) T.z_sum (by decide +kernel) (pa_cons (pe_slice sl_list (pv 1) po_none (po_some (pe_fld (pv 0) rfl))) pa_nil)))
      (pss_cons (ps_set (i := 7) sc_l_due.nd rfl (.inl rfl) pe_non)
      (pss_cons (ps_for PassesOwn.never rfl (pi_range1 rfl T.z_range (pa_cons (pv 4) pa_nil)) (pg_name (i := 8) sc_l_due.nd rfl (.inl rfl)) (pss_cons (ps_set (i := 9) sc_l_due.nd rfl (.inl rfl) (pe_call (ok_element T 4) hr rfl T.g_l_element T.k_l_element T.b_l_element .nil pass0 (pa_cons (pv 0) (pa_cons (pe_new T.m_Spot (ok_Spot T) hr2 rfl T.g_Spot T.b_Spot_init .nil (pa_cons (pv 1) (pa_cons (pv 2) (pa_cons (pv 5) (pa_cons (pv 8) (pa_cons (pe_lst pa_nil) pa_nil)))))) pa_nil))))
      (pss_cons (ps_if (pt_cmpR op_isN (pv 9) pe_non (nomark _)) (pss_one (ps_continue)) pss_nil)
      (pss_cons (ps_if (pt_cmpR op_ne (pe_ix ix_tup (pv 9) pe_int (fun _ _ => rfl)) pe_str (nomark _)) (pss_one (ps_ret (pe_tup (pa_cons (pv 5) (pa_cons (pe_tup (pa_cons (pe_int) (pa_cons (pv 8) (pa_cons (pe_ix ix_tup (pv 9) pe_int (fun _ _ => rfl)) pa_nil)))) pa_nil))))) pss_nil)
      (pss_one (ps_if (pt_val (pe_callB call_isi (by rfl) T.z_isinstance (by decide +kernel) (pa_cons (pv 0) (pa_cons (pe_glob (v := .ref (ga K "Fold")) rfl T.g_Fold rfl) pa_nil)))) (pss_one (ps_asg (pe_call (ok_ljoined T) hr1 rfl T.g_l_joined T.k_l_joined T.b_l_joined .nil pass0 (pa_cons (pe_fld (pv 0) rfl) (pa_cons (pe_ix ix_list (pv 5) (pv 6) (fun _ _ => rfl)) (pa_cons (pe_ix ix_tup (pv 9) pe_int (fun _ _ => rfl)) pa_nil)))) (pg_sub (pv 5) (pv 6) set_list)))
        (pss_cons (ps_set (i := 7) sc_l_due.nd rfl (.inl rfl) (pe_ifExp (pt_cmpR op_isN (pv 7) pe_non (nomark _)) (pe_ix ix_tup (pv 9) pe_int (fun _ _ => rfl)) (pe_call (ok_ljoined T) hr1 rfl T.g_l_joined T.k_l_joined T.b_l_joined .nil pass0 (pa_cons (pe_fld (pv 0) rfl) (pa_cons (pv 7) (pa_cons (pe_ix ix_tup (pv 9) pe_int (fun _ _ => rfl)) pa_nil))))))
      (pss_one (ps_asg (pv 7) (pg_sub (pv 5) (pe_op op_add (pv 6) (pv 8)) set_list))))))))))
      (pss_one (ps_ret (pe_tup (pa_cons (pv 5) (pa_cons (pe_non) pa_nil))))))))), ?_⟩
  have m0 := so.m0
  have mm := so.mm
  refine ⟨_, rfl, cs, _, rfl, .inl (SqL.of hcs), fun nw nn => ?_⟩
  have s1 : Same H (upd H nw (.lst (C.map V.int))) := Same.new nn
  obtain ⟨D, dx, fs, v, tv, R⟩ := (hst.same s1).read T
  refine ⟨_, rfl, _, rfl, a, D, dx, fs, _, rfl, R.at_, R.cl, R.n1, R.l1, _, rfl, l, _, rfl, SqL.of (hl.same s1), fun p np => ⟨p, L.take d.tg, rfl, ?_, ?_⟩⟩
  · rw [cut_to (Nat.le_of_lt so.tg)]
    exact SqL.of upd_same
  rw [cut_to (Nat.le_of_lt so.tg)]
  have hnw : upd (upd H nw (.lst (C.map V.int))) p (.lst ((L.take d.tg).map V.int)) nw = some (.lst (C.map V.int)) := (Same.new np) _ _ upd_same
  have s2 := s1.trans (Same.new (o := .lst ((L.take d.tg).map V.int)) np)
  refine ⟨_, rfl, mny d L, rfl, by omega, by omega, ?_⟩
  refine for_range (lo := 0) (n := (mny d L).toNat) (fun i σ H' => ∃ (Ci : List Int) (run : Option Int) (v8 v9 : Option V), σ = [some (.ref a), some (.ref l), some (.ref fn), some (.ref cs), some (.int (mny d L)), some (.ref nw), some (.int (sta L d.tg)), some (rV run), v8, v9] ∧ Same H H' ∧ IL H' nw Ci ∧ COk L Ci ∧ ROk run ∧ (d.isF = true → run = none) ∧ KQ H Q (goE d L ((mny d L).toNat - i) i Ci run))
    ⟨C, none, none, none, rfl, s2, hnw, co, (fun _ e => nomatch e), fun _ => rfl, k⟩ ?_ ?_
  · rintro i σ H2 hi ⟨Ci, run, v8, v9, rfl, sm2, hc2, co2, ro, rF, k2⟩
    have er : (mny d L).toNat - i = ((mny d L).toNat - (i + 1)) + 1 := by omega
    rw [er] at k2
    have e0 : (0 : Int) + (i : Int) = (i : Int) := by omega
    rw [e0]
    have ei : ((i : Int) + 1) = ((i + 1 : Nat) : Int) := by omega
    have hip : (i : Int) < mny d L := by omega
    refine ⟨_, rfl, _, rfl, _, rfl, _, rfl, _, rfl, Nat.zero_le _, fun o no => ⟨rfl, fun x dy H3 s3 nx hx => ?_⟩⟩
    have s23 : Same H2 H3 := (Same.new no).trans s3
    have sm3 := sm2.trans s23
    have hc3 := hc2.same s23
    have spx : SpAt K H3 x L Ci i [] := ⟨dy, l, fn, nw, o, hx, hl.same sm3, hfn.same sm3, hc3, s3 _ _ upd_same⟩
    have gd := co2.gd so (p := (i : Int)) (by omega) hip
    refine ⟨a, x, d, L, Ci, i, mny d L, rfl, hst.same sm3, ⟨spx, gd, so.ft⟩, so.fv, so.hv, ?_⟩
    cases e : elW d L Ci i with
    | pass =>
      rw [goE_pass e, ei] at k2
      exact fun H4 s4 => ⟨_, rfl, rfl, _, rfl, iteB1 (by decide +kernel) ⟨Ci, run, _, _, rfl, sm3.trans s4, hc3.same s4, co2, ro, rF, k2⟩⟩
    | bad kd =>
      rw [goE_bad e] at k2
      intro H4 t z s4 ne et
      have sm4 := sm3.trans s4
      refine ⟨_, rfl, rfl, _, rfl, iteB0 (decide_eq_false fun q => by cases q) ⟨_, rfl, t, _, 0, _, rfl, rfl, SqT.of et, rfl, rfl, _, rfl, iteB1 (by rw [decide_eq_false fun q => ne (V.str.inj q)]; rfl) ?_⟩⟩
      refine ⟨_, rfl, _, rfl, _, rfl, t, _, 0, _, rfl, rfl, SqT.of et, rfl, (by show 3 ≤ sizeLine; decide), fun q nq => ⟨(by show 2 ≤ sizeLine; decide), fun y ny => ?_⟩⟩
      have s5 := Same.new (o := .tup [.int 0, .int (i : Int), .str kd]) nq
      have hq : upd H4 q (.tup [.int 0, .int (i : Int), .str kd]) q = some (.tup [.int 0, .int (i : Int), .str kd]) := upd_same
      have s6 := Same.new (o := .tup [.ref nw, .ref q]) ny
      exact k2 _ y (sm4.trans (s5.trans s6)) ⟨nw, .ref q, upd_same, hc3.same (s4.trans (s5.trans s6)), q, rfl, s6 _ _ hq⟩
    | ok u =>
      rw [goE_ok e, ei] at k2
      intro H4 t s4 et
      have sm4 := sm3.trans s4
      have hc4 := hc3.same s4
      have ku : Kp u := wof_kp gd (by simp) so.fv (el_ok e)
      obtain ⟨D4, dx4, fs4, v4, tv4, R4⟩ := (hst.same sm4).read T
      refine ⟨_, rfl, rfl, _, rfl, iteB0 (decide_eq_false fun q => by cases q) ⟨_, rfl, t, _, 0, _, rfl, rfl, SqT.of et, rfl, rfl, _, rfl, iteB0 (show (!decide (V.str "" = V.str "")) = false by decide +kernel) ?_⟩⟩
      obtain ⟨dx', v', tv', h1, h2, h3⟩ := hst.same sm4
      cases hF : d.isF with
      | true =>
        rw [hF] at h3
        have hn := rF hF
        subst hn
        have one := so.one hF
        obtain ⟨j, ej, hj⟩ := tg_at co2 so (p := 0) (by omega) (by omega)
        have ej' : sta L d.tg = (j : Int) := by omega
        refine ⟨_, rfl, _, _, _, _, true, rfl, .own _, T.ty (T.ex_ 1 rfl) T.c_Fold h3, kitF_ok (T.ex_ 19 rfl), true, rfl, iteT ⟨_, rfl, a, D4, dx4, fs4, _, rfl, R4.at_, R4.cl, R4.n2, R4.l2, _, rfl, _, rfl, nw, _, _, _, rfl, rfl, SqL.of hc4, cv_at ej' hj, _, rfl, t, _, 1, _, rfl, rfl, SqT.of et, rfl, d.fo, _, u, rfl, so.fo, cv_kp co2.kp _, ku, fun H6 s6 => ?_⟩⟩
        have eR : nxR d none u = none := by
          unfold nxR
          rw [if_pos hF]
        rw [eR] at k2
        have eC : (Ci.map V.int).set j (.int (jn d.fo (cv Ci (sta L d.tg)) u)) = (nxC d L Ci none i u).map V.int := by
          unfold nxC
          rw [if_pos hF, ej', Int.toNat_natCast, List.map_set]
        refine ⟨_, rfl, _, rfl, nw, _, _, j, rfl, rfl, hc4.same s6, ixN_at ej' (by rw [List.length_map]; exact hj), ?_⟩
        rw [eC]
        exact ⟨_, none, _, _, rfl, Same.off (sm4.trans s6) nn, upd_same, nxC_ok co2 (fun _ e => nomatch e) ku, (fun _ e => nomatch e), fun _ => rfl, k2⟩
      | false =>
        rw [hF] at h3
        have em : mny d L = L.getD d.tg 0 := by
          unfold mny
          rw [hF, if_neg Bool.false_ne_true]
        obtain ⟨j, ej, hj⟩ := tg_at co2 so (p := (i : Int)) (by omega) (by omega)
        have eR : nxR d run u = some (rn d run u) := by
          unfold nxR
          rw [hF, if_neg Bool.false_ne_true]
        have kR := nxR_ok (d := d) ro ku
        rw [eR] at k2 kR
        have eC : (Ci.map V.int).set j (.int (rn d run u)) = (nxC d L Ci run i u).map V.int := by
          unfold nxC
          rw [hF, if_neg Bool.false_ne_true, ej, Int.toNat_natCast, List.map_set]
        refine ⟨_, rfl, _, _, _, _, false, rfl, .own _, T.ty (T.ex_ 2 rfl) T.c_Running h3, kitF_ok (T.ex_ 23 rfl), false, rfl, iteF ⟨_, rfl, rfl, _, rfl, ?_⟩⟩
        have fin : ∀ (H6 : Hp) (w8 : V), w8 = .int (rn d run u) → Same H4 H6 → ∃ (Ci' : List Int) (run' : Option Int) (v8 v9 : Option V), [some (.ref a), some (.ref l), some (.ref fn), some (.ref cs), some (.int (mny d L)), some (.ref nw), some (.int (sta L d.tg)), some w8, some (.int (i : Int)), some (.ref t)] = [some (.ref a), some (.ref l), some (.ref fn), some (.ref cs), some (.int (mny d L)), some (.ref nw), some (.int (sta L d.tg)), some (rV run'), v8, v9] ∧
            Same H (upd H6 nw (.lst ((Ci.map V.int).set j w8))) ∧ IL (upd H6 nw (.lst ((Ci.map V.int).set j w8))) nw Ci' ∧ COk L Ci' ∧ ROk run' ∧ (false = true → run' = none) ∧ KQ H Q (goE d L ((mny d L).toNat - (i + 1)) (i + 1 : Nat) Ci' run') := by
          rintro H6 w8 rfl s6
          rw [eC]
          exact ⟨_, some (rn d run u), _, _, rfl, Same.off (sm4.trans s6) nn, upd_same, nxC_ok co2 ro ku, kR, (fun z => by cases z), k2⟩
        cases run with
        | none =>
          exact iteB1 (by decide +kernel) ⟨_, rfl, t, _, 1, _, rfl, rfl, SqT.of et, rfl, _, rfl, _, rfl, _, rfl, _, rfl, _, _, rfl, rfl, nw, _, _, j, rfl, rfl, hc4, ixN_at ej (by rw [List.length_map]; exact hj), fin H4 _ rfl (Same.refl _)⟩
        | some r =>
          exact iteB0 (decide_eq_false fun q => by cases q) ⟨_, rfl, a, D4, dx4, fs4, _, rfl, R4.at_, R4.cl, R4.n2, R4.l2, _, rfl, _, rfl, t, _, 1, _, rfl, rfl, SqT.of et, rfl, d.fo, r, u, rfl, so.fo, ro r rfl, ku, fun H6 s6 => ⟨_, rfl, _, rfl, _, rfl, _, rfl, _, _, rfl, rfl, nw, _, _, j, rfl, rfl, hc4.same s6, ixN_at ej (by rw [List.length_map]; exact hj), fin H6 _ rfl s6⟩⟩
  · rintro σ H2 ⟨Ci, run, v8, v9, rfl, sm2, hc2, co2, ro, rF, k2⟩
    rw [Nat.sub_self] at k2
    refine ⟨_, rfl, (by show 2 ≤ sizeLine; decide), fun y ny => ?_⟩
    have s6 := Same.new (o := .tup [.ref nw, .non]) ny
    exact k2 _ y (sm2.trans s6) ⟨nw, .non, upd_same, hc2.same s6, rfl⟩
end
end RB

namespace RB
open PySem PySem.Spec PyProof.Rows L2 He
def dI (ns : List Int) : PyData := .list (ns.map PyData.int)
theorem dp_ints {K : PySem.W.Frag} {H : Hp} : ∀ ns : List Int, DpAll K H (ns.map V.int) (ns.map PyData.int)
  | [] => .nil
  | n :: ns => .cons (.int n) (dp_ints ns)
theorem IL.dp {K : PySem.W.Frag} {H : Hp} {a : Addr} {ns : List Int} (h : IL H a ns) : Dp K H (.ref a) (dI ns) := .lst (SqL.of h) (dp_ints ns)
theorem lay_ints : ∀ ns : List Int, PyData.canLayAll0 (ns.map PyData.int) = true
  | [] => rfl
  | n :: ns => lay_ints ns
theorem dep_ints : ∀ ns : List Int, PyData.depthAll (ns.map PyData.int) = 0
  | [] => rfl
  | n :: ns => by
    show max 0 (PyData.depthAll (ns.map PyData.int)) = 0
    rw [dep_ints ns]
    rfl
theorem sh_ints (ns : List Int) : SeqAt.shaped (dI ns) = true := by
  unfold SeqAt.shaped dI
  rw [Bool.and_eq_true]
  refine ⟨lay_ints ns, decide_eq_true ?_⟩
  show PyData.depthAll (ns.map PyData.int) + 1 ≤ 64
  rw [dep_ints]
  decide
theorem eqv_ints : ∀ ns : List Int, PyData.eqvAll (ns.map PyData.int) (ns.map PyData.int) = true
  | [] => rfl
  | n :: ns => by
    show (n == n && PyData.eqvAll (ns.map PyData.int) (ns.map PyData.int)) = true
    rw [eqv_ints ns, beq_self_eq_true]
    rfl
theorem eq_ints (ns : List Int) : PyData.eqv (dI ns) (dI ns) = true := eqv_ints ns
def dR (p : Int) (k : Str) : PyData := .tuple [.int 0, .int p, .str k]
theorem sh_ref {p : Int} {k : Str} (h : k = "nought" ∨ k = "outside") : SeqAt.shaped (dR p k) = true := by
  rcases h with h | h <;> (subst h; kernel_rfl)
theorem eq_ref (p : Int) (k : Str) : PyData.eqv (dR p k) (dR p k) = true := by
  show ((0 : Int) == 0 && (p == p && (k == k && true))) = true
  rw [beq_self_eq_true, beq_self_eq_true, beq_self_eq_true]
  rfl
theorem goE_kind {d : Sd} {L : List Int} : ∀ (n : Nat) (p : Int) (C : List Int) (run : Option Int) (q : Int) (k : Str), (goE d L n p C run).2 = some (q, k) → k = "nought" ∨ k = "outside" := by
  intro n
  induction n with
  | zero => intro p C run q k h; cases h
  | succ n ih =>
    intro p C run q k h
    cases e : elW d L C p with
    | pass =>
      rw [goE_pass e] at h
      exact ih _ _ _ _ _ h
    | ok v =>
      rw [goE_ok e] at h
      exact ih _ _ _ _ _ h
    | bad kd =>
      rw [goE_bad e] at h
      cases h
      unfold elW at e
      cases et : tW L C p d.test with
      | ok t =>
        rw [et] at e
        dsimp only at e
        by_cases z : t = 0
        · rw [if_pos z] at e
          cases e
        · rw [if_neg z] at e
          cases ew : wof L C p [] d.val with
          | ok u =>
            rw [ew] at e
            cases e
          | nought =>
            rw [ew] at e
            cases e
            exact .inl rfl
          | outside =>
            rw [ew] at e
            cases e
            exact .inr rfl
      | nought =>
        rw [et] at e
        cases e
        exact .inl rfl
      | outside =>
        rw [et] at e
        cases e
        exact .inr rfl
def spTold : Sp := fun vs H Q _ => ∃ (f g : Addr) (r : List Int × Option (Int × Str)), vs = [.ref f, .ref g] ∧ FdAt H f r ∧ FdAt H g r ∧ (∀ q k, r.2 = some (q, k) → k = "nought" ∨ k = "outside") ∧ Q (.bl true) H
section
variable {P : Program} {w : World} {K : PySem.W.Frag} {mg : Str → Option Value} {base : Heap}
theorem ok_told (T : Txt K mg) : FnOk P w K mg base CX0 2 (ga K "_law_told") (fd_l_told K) p_l_told spTold := by
  refine T.f_l_told.ok sc_l_told (fun vs H Q E h => ?_) (fun cdv A outer s0 H vs Q E hr h => ?_)
  · obtain ⟨_, _, _, rfl, _⟩ := h
    rfl
  obtain ⟨f, g, ⟨C, o⟩, rfl, hf, hg, hk, k⟩ := h
  refine ⟨_, PSs.nox (pss_cons (ps_if (PW.pt (pw_or (pt_not (pt_val (pe_callB call_isi (by rfl) T.z_isinstance (by decide +kernel) (pa_cons (pv 0) (pa_cons (pe_bltn (v := .ty "tuple") rfl T.z_tuple (by decide +kernel) rfl) pa_nil))))) (pw_or (pt_cmpR op_ne (pe_callB call_len_seq (by rfl) T.z_len (by decide +kernel) (pa_cons (pv 0) pa_nil)) pe_int (nomark _)) (pw_or1 (pt_not (pt_val (pe_callB call_isi (by rfl) T.z_isinstance (by decide +kernel) (pa_cons (pe_ix ix_tup (pv 0) pe_int (fun _ _ => rfl)) (pa_cons (pe_bltn (v := .ty "list") rfl T.z_list (by decide +kernel) rfl) pa_nil))))))))) (pss_one (ps_ret pe_bl)) pss_nil)
      (pss_cons (ps_for PassesOwn.never rfl (pi_list (pe_ix ix_tup (pv 0) pe_int (fun _ _ => rfl))) (pg_name (i := 2) sc_l_told.nd rfl (.inl rfl)) (pss_one (ps_if (pt_not (pt_val (pe_call (ok_whole T) hr rfl T.g_l_whole T.k_l_whole T.b_l_whole .nil pass0 (pa_cons (pv 2) pa_nil)))) (pss_one (ps_ret pe_bl)) pss_nil)))
      (pss_cons (ps_if (PW.pt (pw_or (pt_cmpR op_isN (pe_ix ix_tup (pv 1) pe_int (fun _ _ => rfl)) pe_non (nomark _)) (pw_or1 (pt_cmpR op_isN (pe_ix ix_tup (pv 0) pe_int (fun _ _ => rfl)) pe_non (nomark _))))) (pss_one (ps_ret (pe_and (pe_cmpR (op_eqD hr.units) (pe_ix ix_tup (pv 0) pe_int (fun _ _ => rfl)) (pe_ix ix_tup (pv 1) pe_int (fun _ _ => rfl)) (nomark _)) (pe_and (pe_cmpR op_isN (pe_ix ix_tup (pv 0) pe_int (fun _ _ => rfl)) pe_non (nomark _)) (pe_one (pe_cmpR op_isN (pe_ix ix_tup (pv 1) pe_int (fun _ _ => rfl)) pe_non (nomark _))))))) pss_nil)
      (pss_cons (ps_if (PW.pt (pw_or (pt_not (pt_val (pe_callB call_isi (by rfl) T.z_isinstance (by decide +kernel) (pa_cons (pe_ix ix_tup (pv 0) pe_int (fun _ _ => rfl)) (pa_cons (pe_bltn (v := .ty "tuple") rfl T.z_tuple (by decide +kernel) rfl) pa_nil))))) (pw_or (pt_cmpR op_ne (pe_callB call_len_seq (by rfl) T.z_len (by decide +kernel) (pa_cons (pe_ix ix_tup (pv 0) pe_int (fun _ _ => rfl)) pa_nil)) pe_int (nomark _)) (pw_or1 (pt_not (pt_val (pe_callB call_isi (by rfl) T.z_isinstance (by decide +kernel) (pa_cons (pe_ix ix_tup (pe_ix ix_tup (pv 0) pe_int (fun _ _ => rfl)) pe_int (fun _ _ => rfl)) (pa_cons (pe_bltn (v := .ty "str") rfl T.z_str (by decide +kernel) rfl) pa_nil))))))))) (pss_one (ps_ret pe_bl)) pss_nil)
      (pss_one (ps_ret (pe_and (pe_call (ok_whole T) hr rfl T.g_l_whole T.k_l_whole T.b_l_whole .nil pass0 (pa_cons (pe_ix ix_tup (pe_ix ix_tup (pv 0) pe_int (fun _ _ => rfl)) pe_int (fun _ _ => rfl)) pa_nil)) (pe_and (pe_call (ok_whole T) hr rfl T.g_l_whole T.k_l_whole T.b_l_whole .nil pass0 (pa_cons (pe_ix ix_tup (pe_ix ix_tup (pv 0) pe_int (fun _ _ => rfl)) pe_int (fun _ _ => rfl)) pa_nil)) (pe_and (pe_cmpR (op_eqD hr.units) (pe_ix ix_tup (pv 0) pe_int (fun _ _ => rfl)) (pe_ix ix_tup (pv 1) pe_int (fun _ _ => rfl)) (nomark _)) (pe_one (pe_cmpR (op_eqD hr.units) (pe_ix ix_tup (pv 0) pe_int (fun _ _ => rfl)) (pe_ix ix_tup (pv 1) pe_int (fun _ _ => rfl)) (nomark _)))))))))))), ?_⟩
  obtain ⟨fn, fr, f1, f2, f3⟩ := hf
  obtain ⟨gn, gr, g1, g2, g3⟩ := hg
  refine ⟨_, rfl, _, _, _, _, true, rfl, .ty _, .base (.tup f1), kit_ty (by decide +kernel), true, rfl, iteF ⟨_, rfl, f, _, rfl, .inr (SqT.of f1), rfl, _, rfl, iteB0 (show (!decide (V.int 2 = V.int 2)) = false by decide +kernel) ⟨_, rfl, f, _, 0, _, rfl, rfl, SqT.of f1, rfl, _, _, _, _, true, rfl, .ty _, .base (.lst f2), kit_ty (by decide +kernel), true, rfl, iteF ?_⟩⟩⟩
  refine ⟨_, rfl, f, _, 0, _, rfl, rfl, SqT.of f1, rfl, fn, rfl, ⟨_, SqL.of f2⟩, for_list (K := K) (a := fn) (xs := C.map V.int) (fun i σ H' => ∃ v, σ = [some (.ref f), some (.ref g), v] ∧ H' = H) ⟨none, rfl, rfl⟩ (fun i σ H' _ ⟨_, _, e⟩ => by rw [e]; exact SqL.of f2) ?_ ?_⟩
  · rintro i x σ H1 hi ⟨v, rfl, rfl⟩
    rw [List.getElem?_map] at hi
    cases e : C[i]? with
    | none =>
      rw [e] at hi
      cases hi
    | some z =>
      rw [e] at hi
      cases hi
      exact ⟨_, rfl, z, rfl, true, rfl, iteF ⟨_, rfl, rfl⟩⟩
  · rintro σ H1 ⟨v, rfl, rfl⟩
    refine ⟨_, rfl, g, _, 1, _, rfl, rfl, SqT.of g1, rfl, rfl, _, rfl, ?_⟩
    cases o with
    | none =>
      cases f3
      cases g3
      exact iteB1 (by decide +kernel) ⟨_, rfl, f, _, 0, _, rfl, rfl, SqT.of f1, rfl, _, rfl, g, _, 0, _, rfl, rfl, SqT.of g1, rfl, dI C, dI C, f2.dp, g2.dp, sh_ints C, sh_ints C, _, rfl, iteB1 (eq_ints C) ⟨_, rfl, f, _, 1, _, rfl, rfl, SqT.of f1, rfl, rfl, _, rfl, iteB1 (by decide +kernel) ⟨_, rfl, g, _, 1, _, rfl, rfl, SqT.of g1, rfl, rfl, k⟩⟩⟩
    | some x =>
      obtain ⟨p, kd⟩ := x
      obtain ⟨ft, rfl, hft⟩ := f3
      obtain ⟨gt, rfl, hgt⟩ := g3
      have kk := hk p kd rfl
      have df : Dp K H1 (.ref ft) (dR p kd) := .tup (SqT.of hft) (.cons (.int 0) (.cons (.int p) (.cons (.str kd) .nil)))
      have dg : Dp K H1 (.ref gt) (dR p kd) := .tup (SqT.of hgt) (.cons (.int 0) (.cons (.int p) (.cons (.str kd) .nil)))
      refine iteB0 (decide_eq_false fun q => by cases q) ⟨_, rfl, f, _, 1, _, rfl, rfl, SqT.of f1, rfl, rfl, _, rfl, iteB0 (decide_eq_false fun q => by cases q) ?_⟩
      refine ⟨_, rfl, f, _, 1, _, rfl, rfl, SqT.of f1, rfl, _, _, _, _, true, rfl, .ty _, .base (.tup hft), kit_ty (by decide +kernel), true, rfl, iteF ⟨_, rfl, f, _, 1, _, rfl, rfl, SqT.of f1, rfl, ft, _, rfl, .inr (SqT.of hft), rfl, _, rfl, iteB0 (show (!decide (V.int 3 = V.int 3)) = false by decide +kernel) ⟨_, rfl, f, _, 1, _, rfl, rfl, SqT.of f1, rfl, ft, _, 2, _, rfl, rfl, SqT.of hft, rfl, _, _, _, _, true, rfl, .ty _, .base (.str kd), kit_ty (by decide +kernel), true, rfl, iteF ?_⟩⟩⟩
      refine ⟨_, rfl, f, _, 1, _, rfl, rfl, SqT.of f1, rfl, ft, _, 0, _, rfl, rfl, SqT.of hft, rfl, 0, rfl, true, rfl, iteT ⟨_, rfl, f, _, 1, _, rfl, rfl, SqT.of f1, rfl, ft, _, 1, _, rfl, rfl, SqT.of hft, rfl, p, rfl, true, rfl, iteT ⟨_, rfl, f, _, 0, _, rfl, rfl, SqT.of f1, rfl, _, rfl, g, _, 0, _, rfl, rfl, SqT.of g1, rfl, dI C, dI C, f2.dp, g2.dp, sh_ints C, sh_ints C, _, rfl, iteB1 (eq_ints C) ⟨_, rfl, f, _, 1, _, rfl, rfl, SqT.of f1, rfl, _, rfl, g, _, 1, _, rfl, rfl, SqT.of g1, rfl, dR p kd, dR p kd, df, dg, sh_ref kk, sh_ref kk, ?_⟩⟩⟩⟩
      rw [eq_ref]
      exact k
end
end RB

namespace RB
open PySem PySem.Spec PyProof.Rows L2 He
def rCatF (K : PySem.W.Frag) : R2 := fun x y H Q => ∃ l b xs zs, x = .ref l ∧ y = .ref b ∧ SqL K H l xs ∧ SqL K H b zs ∧ xs.length + zs.length ≤ sizeLine ∧ ∀ p, H p = none → Q (.ref p) (upd H p (.lst (xs ++ zs)))
theorem op_catF {X : Cx} : OpR X (binaryOp .Add) (rCatF X.K) := by
  intro pins s σ H x y v u Q I rx ry h
  obtain ⟨l, b, xs, zs, rfl, rfl, hH, hB, hz, q⟩ := h
  cases rx
  cases ry
  obtain ⟨its, r, ⟨⟨cls, dd, data, sl⟩, n, ho, hc, hd0, hd⟩, hl⟩ := I.list hH
  obtain ⟨its2, r2, ⟨⟨cls2, dd2, data2, sl2⟩, n2, ho2, hc2, hd02, hd2⟩, hl2⟩ := I.list hB
  simp only at hc hd hc2 hd2
  subst hc hd hc2 hd2
  have e1 := r.length
  have e2 := r2.length
  have ea : its.toArray ++ its2.toArray = (its ++ its2).toArray := by simp
  refine concat_meets ⟨_, ho, rfl⟩ ⟨_, ho2, rfl⟩ noFill_list_add seq_list_add PySem.F.slot_list_add PySem.F.entry_list_add (PySem.F.args_list_add_2 _ _) (list_addW l b its.toArray its2.toArray n n2 dd dd2 sl sl2 (by rw [List.size_toArray, List.size_toArray]; omega)) ⟨ho, ho2, ?_⟩
  rw [ea]
  exact ⟨.ref _, _, I.lnew (t' := s.toks) (r.append r2) (by rw [List.length_append]; omega), rfl, q _ I.fresh⟩
theorem goE_cok {d : Sd} {L : List Int} (so : SOk d L 4) : ∀ (n : Nat) (p : Int) (C : List Int) (run : Option Int), COk L C → ROk run → 0 ≤ p → p + n ≤ mny d L → COk L (goE d L n p C run).1 := by
  intro n
  induction n with
  | zero => intro p C run co _ _ _; exact co
  | succ n ih =>
    intro p C run co ro h0 h1
    cases e : elW d L C p with
    | pass =>
      rw [goE_pass e]
      exact ih _ _ _ co ro (by omega) (by omega)
    | bad k =>
      rw [goE_bad e]
      exact co
    | ok v =>
      have gd := co.gd so (p := p) h0 (by omega)
      have ku : Kp v := wof_kp gd (by simp) so.fv (el_ok e)
      rw [goE_ok e]
      exact ih _ _ _ (nxC_ok co ro ku) (nxR_ok ro ku) (by omega) (by omega)
theorem tForL_join {K : PySem.W.Frag} {te : TE} {g : TG} {tb : TS} {D : Ends} {σ : L2.St} {H : Hp} (G : V → Hp → Prop) (rest : ∀ x H', G x H' → tFor (iList K (fun _ H Q => Q x H)) g tb D σ H') (h : ∀ Q' : VK, (∀ x H', G x H' → Q' x H') → te σ H Q') : tFor (iList K te) g tb D σ H := h _ fun x H' q => rest x H' q
def spLaw (K : PySem.W.Frag) : Sp := fun vs H Q _ => ∃ (a : Addr) (ns : List Int), vs = [.ref a] ∧ ns.length ≤ 63 ∧ SqL K H a (ns.map V.int) ∧ ∀ H', Q (.bl true) H'
section
variable {P : Program} {w : World} {K : PySem.W.Frag} {mg : Str → Option Value} {base : Heap}
theorem StepAt.isStep (T : Txt K mg) {H : Hp} {a : Addr} {d : Sd} (h : StepAt K H a d) : ∃ t, TyX K H (.ref a) t ∧ PySem.W.kitOne K t (.ref (ga K "Step")) = some true := by
  obtain ⟨dx, v, tv, h1, h2, h3⟩ := h
  cases e : d.isF with
  | true =>
    rw [e] at h3
    exact ⟨_, T.ty (T.ex_ 1 rfl) T.c_Fold h3, kitF_ok (T.ex_ 14 rfl)⟩
  | false =>
    rw [e] at h3
    exact ⟨_, T.ty (T.ex_ 2 rfl) T.c_Running h3, kitF_ok (T.ex_ 15 rfl)⟩
theorem StepAt.disp {H : Hp} {a : Addr} {d : Sd} (h : StepAt K H a d) : ∃ C dx fs, H a = some (.ins C dx fs) ∧ fs.lookup ("many_of" : Str) = none ∧ OkM K C (spMny K d.isF) := by
  obtain ⟨dx, v, tv, h1, h2, h3⟩ := h
  cases e : d.isF with
  | true =>
    rw [e] at h3
    exact ⟨_, dx, _, h3, l_Fold_many_of .., .inl ⟨rfl, rfl⟩⟩
  | false =>
    rw [e] at h3
    exact ⟨_, dx, _, h3, l_Running_many_of .., .inr ⟨rfl, rfl⟩⟩
theorem met_m (T : Txt K mg) : ∀ C sp, OkM K C sp → MetOk P w K mg base CX0 1 "many_of" C sp := by
  intro C sp h
  rcases h with ⟨rfl, rfl⟩ | ⟨rfl, rfl⟩
  · exact ⟨T.c_Fold, _, _, _, T.w_Fold_many_of, ok_mnyF T, T.b_Fold_many_of⟩
  · exact ⟨T.c_Running, _, _, _, T.w_Running_many_of, ok_mnyR T, T.b_Step_many_of⟩
theorem ok_law (T : Txt K mg) : FnOk P w K mg base CX0 15 (ga K "law") (fd_law K) p_law (spLaw K) := by
  refine T.f_law.ok sc_law (fun vs H Q E h => ?_) (fun cdv A outer s0 H vs Q E hr h => ?_)
  · obtain ⟨_, _, rfl, _⟩ := h
    rfl
  obtain ⟨a, ns, rfl, h63, hS, k⟩ := h
  have hr1 := hr.mono (show 1 ≤ 14 by decide)
  have hr2 := hr.mono (show 2 ≤ 14 by decide)
  have hr3 := hr.mono (show 3 ≤ 14 by decide)
  have hr5 := hr.mono (show 5 ≤ 14 by decide)
  have hr11 := hr.mono (show 11 ≤ 14 by decide)
  refine ⟨_, PSs.nox (pss_cons (ps_set (i := 1) sc_law.nd rfl (.inl rfl) (pe_call (ok_lengths T) hr1 rfl T.g_l_lengths_by T.k_l_lengths_by T.b_l_lengths_by .nil pass0 (pa_cons (pv 0) (pa_cons (pe_int) pa_nil))))
      (pss_cons (ps_set (i := 2) sc_law.nd rfl (.inl rfl) (pe_call0 (ok_funs T) hr3 rfl T.g_l_functions T.k_l_functions T.b_l_functions .nil pass0))
      (pss_cons (ps_set (i := 3) sc_law.nd rfl (.inl rfl) (pe_call (ok_cells T) hr2 rfl T.g_l_cells_by T.k_l_cells_by T.b_l_cells_by .nil pass0 (pa_cons (pe_op op_catF (pv 0) (pe_lst (pa_cons (pe_int) pa_nil))) (pa_cons (pv 1) pa_nil))))
      (pss_cons (ps_for PassesOwn.never rfl (pi_list (pe_ix ix_list (pe_lst (pa_cons (pv 0) (pa_cons (pe_slice sl_list (pv 0) po_none (po_some pe_int)) pa_nil))) (pe_callTy call_int1 (by rfl) T.z_int (by decide +kernel) (pa_cons (pe_cmpR op_gt (pe_callB (cr_max rfl) (by rfl) T.z_max (by decide +kernel) (pa_cons (pv 1) pa_nil)) pe_int (nomark _)) pa_nil)) (fun _ _ => rfl))) (pg_name (i := 4) sc_law.nd rfl (.inl rfl)) (pss_cons (ps_set (i := 5) sc_law.nd rfl (.inl rfl) (pe_call (ok_stepBy T) hr5 rfl T.g_l_step_by T.k_l_step_by T.b_l_step_by .nil pass0 (pa_cons (pv 4) (pa_cons (pv 1) pa_nil))))
      (pss_cons (ps_set (i := 6) sc_law.nd rfl (.inl rfl) (pe_call (ok_manyBy T) hr3 rfl T.g_l_many_by T.k_l_many_by T.b_l_many_by .nil pass0 (pa_cons (pv 4) (pa_cons (pv 1) pa_nil))))
      (pss_cons (ps_if (PW.pt (pw_or (pt_not (pt_val (pe_callB call_isi (by rfl) T.z_isinstance (by decide +kernel) (pa_cons (pv 5) (pa_cons (pe_glob (v := .ref (ga K "Step")) rfl T.g_Step rfl) pa_nil))))) (pw_or (pt_cmpR op_ne (pe_fld (pv 5) rfl) (pe_call (ok_foldBy T) hr2 rfl T.g_l_fold_by T.k_l_fold_by T.b_l_fold_by .nil pass0 (pa_cons (pv 4) pa_nil)) (nomark _)) (pw_or1 (pt_cmpR op_ne (pe_disp (pv 5) (met_m T) hr1 pass0 (pa_cons (pe_callTy call_list_of (by rfl) T.z_list (by decide +kernel) (pa_cons (pv 1) pa_nil)) pa_nil)) (pv 6) (nomark _)))))) (pss_one (ps_ret pe_bl)) pss_nil)
      (pss_cons (ps_if (PW.pt (pw_or (pt_cmpR op_ne (pe_fld (pv 5) rfl) (pe_call (ok_target T) hr2 rfl T.g_l_target_by T.k_l_target_by T.b_l_target_by .nil pass0 (pa_cons (pv 4) (pa_cons (pv 1) pa_nil))) (nomark _)) (pw_or1 (pt_cmpR op_eq (pe_cmpR op_isN (pe_fld (pv 5) rfl) pe_non (nomark _)) (pe_cmpR op_eq (pe_op op_mod (pv 4) pe_int) pe_int (nomark _)) (nomark _))))) (pss_one (ps_ret pe_bl)) pss_nil)
      (pss_cons (ps_set (i := 7) sc_law.nd rfl (.inl rfl) (pe_call (ok_due T) hr11 rfl T.g_l_due T.k_l_due T.b_l_due .nil pass0 (pa_cons (pv 5) (pa_cons (pv 1) (pa_cons (pv 2) (pa_cons (pv 3) (pa_cons (pv 6) pa_nil)))))))
      (pss_cons (ps_set (i := 8) sc_law.nd rfl (.inl rfl) (pe_callTy call_list_of (by rfl) T.z_list (by decide +kernel) (pa_cons (pv 3) pa_nil)))
      (pss_cons (ps_set (i := 9) sc_law.nd rfl (.inl rfl) (pe_call (ok_played T) hr rfl T.g_played T.k_played T.b_played .nil pass0 (pa_cons (pe_make T.m_Program (ok_ProgI T) hr2 rfl T.g_Program T.b_Program_init .nil pass0 (pa_cons (pe_callTy call_list_of (by rfl) T.z_list (by decide +kernel) (pa_cons (pv 1) pa_nil)) (pa_cons (pe_callTy call_list_of (by rfl) T.z_list (by decide +kernel) (pa_cons (pv 2) pa_nil)) (pa_cons (pe_lst (pa_cons (pv 5) pa_nil)) pa_nil)))) (pa_cons (pv 8) pa_nil))))
      (pss_cons (ps_if (PW.pt (pw_or (pt_not (pt_val (pe_call (ok_told T) hr2 rfl T.g_l_told T.k_l_told T.b_l_told .nil pass0 (pa_cons (pv 9) (pa_cons (pv 7) pa_nil))))) (pw_or1 (pt_cmpR (op_neD hr.units) (pv 8) (pv 3) (nomark _))))) (pss_one (ps_ret pe_bl)) pss_nil)
      (pss_one (ps_set (i := 3) sc_law.nd rfl (.inl rfl) (pe_ix ix_tup (pv 7) pe_int (fun _ _ => rfl)))))))))))))
      (pss_one (ps_ret pe_bl)))))), ?_⟩
  refine ⟨_, rfl, a, ns, rfl, hS, h63, fun H1 l L s1 hl lo => ⟨rfl, fun H2 fn s2 hfn => ?_⟩⟩
  refine ⟨_, rfl, (by show 1 ≤ sizeLine; decide), fun q nq => ⟨a, q, _, _, rfl, rfl, SqL.same (s1.trans (s2.trans (Same.new nq))) hS, SqL.of upd_same, ?_, fun r nr => ?_⟩⟩
  · rw [List.length_map]
    exact Nat.le_of_lt (line_of (by simp only [List.length_cons, List.length_nil]; omega))
  have s3 := (Same.new (o := .lst [.int 0]) nq).trans (Same.new (o := .lst (ns.map V.int ++ [.int 0])) nr)
  have hr0 : upd (upd H2 q (.lst [.int 0])) r (.lst (ns.map V.int ++ [.int 0])) r = some (.lst ((ns ++ [0]).map V.int)) := by
    rw [upd_same, List.map_append]
    rfl
  refine ⟨_, rfl, r, l, ns ++ [0], L, rfl, hr0, (by rw [List.length_append]; simp), hl.same (s2.trans s3), lo, fun H4 c0 C0 s4 hc0 co0 => ?_⟩
  have hl4 := hl.same (s2.trans (s3.trans s4))
  have hfn4 := hfn.same (s3.trans s4)
  have hS4 := SqL.same (s1.trans (s2.trans (s3.trans s4))) hS
  rw [show gName 3 = fun v σ H Q => Q (σ.set 3 (some v)) H from rfl]
  dsimp only [tSeq]
  refine tForL_join (fun x H' => ∃ (b : Addr) (cs : List Int), x = .ref b ∧ Same H4 H' ∧ SqL K H' b (cs.map V.int)) ?_ fun Q' hQ => ?_
  rotate_left 1
  · refine ⟨_, rfl, _, rfl, _, rfl, a, _, rfl, hS4, fun p np => ⟨(by show 2 ≤ sizeLine; decide), fun t nt => ⟨_, rfl, l, L, rfl, SqL.of (hl4.same ((Same.new np).trans (Same.new nt))), lo.pos, fun m _ _ => ⟨_, _, rfl, rfl, .inr ⟨_, rfl, ?_⟩⟩⟩⟩⟩
    have s5 := (Same.new (o := .lst (cutV (ns.map V.int) none (some 9))) np).trans (Same.new (o := .lst [V.ref a, .ref p]) nt)
    cases decide ((60 : Int) < m) with
    | true => exact ⟨t, [V.ref a, .ref p], 1, .ref p, rfl, rfl, SqL.of upd_same, atI_nat (j := 1) rfl, hQ _ _ ⟨p, cutI ns none (some 9), rfl, s5, SqL.of (by rw [← cutI_eq]; exact (Same.new nt) _ _ upd_same)⟩⟩
    | false => exact ⟨t, [V.ref a, .ref p], 0, .ref a, rfl, rfl, SqL.of upd_same, atI_nat (j := 0) rfl, hQ _ _ ⟨a, ns, rfl, s5, SqL.same s5 hS4⟩⟩
  rintro x H5 ⟨b, cs, rfl, s5, hb⟩
  refine ⟨b, rfl, ⟨_, hb⟩, for_list (K := K) (a := b) (xs := cs.map V.int) (fun i σ H' => ∃ (c : Addr) (C : List Int) (v4 v5 v6 v7 v8 v9 : Option V), σ = [some (.ref a), some (.ref l), some (.ref fn), some (.ref c), v4, v5, v6, v7, v8, v9] ∧ Same H5 H' ∧ IL H' c C ∧ COk L C)
    ⟨c0, C0, none, none, none, none, none, none, rfl, Same.refl _, hc0.same s5, co0⟩ (fun i σ H' _ ⟨_, _, _, _, _, _, _, _, _, sm, _⟩ => SqL.same sm hb) ?_ ?_⟩
  · rintro i x σ H6 hi ⟨c, C, v4, v5, v6, v7, v8, v9, rfl, s6, hc, co⟩
    rw [List.getElem?_map] at hi
    cases ez : cs[i]? with
    | none =>
      rw [ez] at hi
      cases hi
    | some z =>
    rw [ez] at hi
    cases hi
    have hl6 := hl4.same (s5.trans s6)
    have hfn6 := hfn4.same (s5.trans s6)
    refine ⟨_, rfl, _, rfl, z, l, L, rfl, hl6, lo, fun H7 st d s7 hst hfo htg hm hT so => ⟨_, rfl, _, rfl, z, l, L, rfl, hl6.same s7, lo, fun H8 s8 => ?_⟩⟩
    have hst8 := hst.same s8
    have s78 := s7.trans s8
    obtain ⟨ty, hty, hkt⟩ := hst8.isStep T
    obtain ⟨D, dx, fs, v, tv, R⟩ := hst8.read T
    refine ⟨_, rfl, _, _, _, _, true, rfl, .own _, hty, hkt, true, rfl, iteF ⟨_, rfl, st, D, dx, fs, _, rfl, R.at_, R.cl, R.n2, R.l2, _, rfl, z, rfl, fun H9 s9 => ⟨rfl, _, rfl, iteB0 (by rw [hfo, decide_eq_true rfl]; rfl) ?_⟩⟩⟩
    have hst9 := hst8.same s9
    obtain ⟨D9, dx9, fs9, hd1, hd2, hd3⟩ := hst9.disp
    have hl9 := hl6.same (s78.trans s9)
    refine ⟨_, rfl, st, D9, dx9, fs9, _, rfl, hd1, hd2, hd3, _, rfl, l, _, rfl, .inl (SqL.of hl9), fun q1 nq1 => ⟨st, q1, L, d, rfl, hst9.same (Same.new nq1), rfl, upd_same, so.tg, _, rfl, rfl, _, rfl, iteB0 (by rw [hm, decide_eq_true rfl]; rfl) ?_⟩⟩
    have sa := s9.trans (Same.new (o := .lst (L.map V.int)) nq1)
    generalize upd H9 q1 (.lst (L.map V.int)) = Ha at sa
    have hsta := hst8.same sa
    obtain ⟨Da, dxa, fsa, va, tva, Ra⟩ := hsta.read T
    refine ⟨_, rfl, st, Da, dxa, fsa, _, rfl, Ra.at_, Ra.cl, Ra.n1, Ra.l1, _, rfl, _, rfl, z, l, L, rfl, hl6.same (s78.trans sa), lo, fun Hb sb => ⟨rfl, _, rfl, iteB0 (by rw [htg, decide_eq_true rfl]; rfl) ?_⟩⟩
    have hstb := hsta.same sb
    obtain ⟨Db, dxb, fsb, vb, tvb, Rb⟩ := hstb.read T
    have ht2 := Rb.f2
    have hte : decide (V.bl (decide (tvb = .non)) = V.bl (decide (V.int (z % 3) = V.int 0))) = false := by
      refine decide_eq_false fun q => ?_
      have q := V.bl.inj q
      cases e : d.test with
      | none =>
        rw [e] at hT ht2
        obtain rfl : tvb = .non := ht2
        have h3 : ¬ z % 3 = 0 := of_decide_eq_false hT.symm
        rw [decide_eq_true rfl, decide_eq_false fun y => h3 (V.int.inj y)] at q
        cases q
      | some f =>
        rw [e] at hT ht2
        obtain ⟨p, rfl, _⟩ := ht2
        have h3 : z % 3 = 0 := of_decide_eq_true hT.symm
        rw [decide_eq_false (fun y => by cases y), decide_eq_true (congrArg V.int h3)] at q
        cases q
    refine ⟨_, rfl, st, Db, dxb, fsb, _, rfl, Rb.at_, Rb.cl, Rb.n4, Rb.l4, rfl, _, rfl, _, _, rfl, rfl, (by show (0 : Int) < 3; decide), rfl, rfl, _, rfl, iteB0 hte ?_⟩
    have sB := s78.trans (sa.trans sb)
    refine ⟨_, rfl, _, rfl, _, rfl, _, rfl, _, rfl, st, l, fn, c, d, L, C, (by rw [hm]; rfl), hstb, hl6.same sB, hfn6.same sB, hc.same sB, so, co, fun Hc du sc hdu => ?_⟩
    have sC := sB.trans sc
    refine ⟨_, rfl, c, _, rfl, .inl (SqL.of (hc.same sC)), fun hd nhd => ?_⟩
    have sd := Same.new (o := .lst (C.map V.int)) nhd
    have hhd : upd Hc hd (.lst (C.map V.int)) hd = some (.lst (C.map V.int)) := upd_same
    generalize upd Hc hd (.lst (C.map V.int)) = Hd at sd hhd
    have sD := sC.trans sd
    obtain ⟨t0, t1, b0, b1, g1, g2, g3, g4, g5⟩ := (hfn6.same sD).ex
    refine ⟨_, rfl, l, _, rfl, .inl (SqL.of (hl6.same sD)), fun p1 np1 => ⟨_, rfl, fn, _, rfl, .inl (SqL.of ((Same.new np1) _ _ g1)), fun p2 np2 => ⟨_, rfl, (by show 1 ≤ sizeLine; decide), fun p3 np3 => ?_⟩⟩⟩
    have e1 := Same.new (o := .lst (L.map V.int)) np1
    have e2 := Same.new (o := .lst [V.ref t0, .ref t1]) np2
    have e3 := Same.new (o := .lst [V.ref st]) np3
    have w1 : upd Hd p1 (.lst (L.map V.int)) p1 = some (.lst (L.map V.int)) := upd_same
    generalize upd Hd p1 (.lst (L.map V.int)) = He1 at e1 e2 e3 w1 np2 np3
    have w2 : upd He1 p2 (.lst [V.ref t0, .ref t1]) p2 = some (.lst [V.ref t0, .ref t1]) := upd_same
    generalize upd He1 p2 (.lst [V.ref t0, .ref t1]) = He2 at e2 e3 w2 np3
    have w3 : upd He2 p3 (.lst [V.ref st]) p3 = some (.lst [V.ref st]) := upd_same
    generalize upd He2 p3 (.lst [V.ref st]) = He3 at e3 w3
    intro pg dpg npg ndpg nn
    have e4 := Same.inst (C := ga K "Program") (o := .ins (ga K "Program") dpg []) npg ndpg
    refine ⟨pg, dpg, p1, p2, p3, _, _, _, rfl, upd_same, e4 _ _ ((e2.trans e3) _ _ w1), e4 _ _ (e3 _ _ w2), e4 _ _ w3, fun Hf l' m' n' sx hp hl' hm' hn' => ⟨rfl, ?_⟩⟩
    have e5 : Same He3 Hf := fun b o e => sx b o (e4 _ _ e) (ne_of_none e npg)
    have sE : Same Hd Hf := e1.trans (e2.trans (e3.trans e5))
    have sF := sD.trans sE
    have stB : Same Hb Hf := sc.trans (sd.trans sE)
    have pr : PrAt K Hf pg L st := ⟨dpg, l', m', n', hp, hl', ⟨t0, t1, b0, b1, hm', sE _ _ g2, sE _ _ g3, g4.same sE, g5.same sE⟩, hn'⟩
    refine ⟨_, rfl, pg, hd, st, d, L, C, rfl, hstb.same stB, pr, sE _ _ hhd, so, co, fun Hg fd sg hfd => ?_⟩
    have hdu' := hdu.same (sd.trans (sE.trans sg))
    refine ⟨_, rfl, _, rfl, fd, du, _, rfl, hfd, hdu', (fun q k e => goE_kind _ _ _ _ _ _ e), true, rfl, iteF ⟨_, rfl, _, rfl, dI C, dI C, IL.dp (ns := C) ((sE.trans sg) _ _ hhd), IL.dp (hc.same (sF.trans sg)), sh_ints C, sh_ints C, _, rfl, iteB0 (by rw [eq_ints]; rfl) ?_⟩⟩
    obtain ⟨nw, rf, y1, y2, y3⟩ := hdu'
    refine ⟨_, rfl, du, _, 0, _, rfl, rfl, SqT.of y1, rfl, nw, _, _, _, _, _, _, _, rfl, s6.trans (sF.trans sg), y2, goE_cok so _ _ _ _ co (fun _ e => nomatch e) (Int.le_refl 0) ?_⟩
    have := so.m0
    omega
  · rintro σ H6 _
    exact k H6
end
end RB

open PySem PySem.W PySem.Calls PyProof.Rows
theorem PySem.Challenge.cw_rowbreadth_k16_fold_and_running_holds : PySem.Challenge.rw_rowbreadth_k16_fold_and_running.Holds := by
  w_on; o_law
  refine HandSHeadRun.head_any (r := OpenLaw.row PySem.Challenge.rw_rowbreadth_k16_fold_and_running) (q := view (OpenLaw.row PySem.Challenge.rw_rowbreadth_k16_fold_and_running).prog [67]) (H := RB.hkR) (ob := RB.obR) (M := 40000) (loose := RB.loose) (d := HandSHeadRun.topDef (OpenLaw.row PySem.Challenge.rw_rowbreadth_k16_fold_and_running).prog 67) (kwd := []) RB.obR_eq
    (by kernel_rfl) (fun s => by kernel_rfl) RB.run (by kernel_rfl) (by kernel_rfl) (by kernel_rfl) (by rfl) (by first | assumption | decide +kernel) (by decide +kernel) ⟨rfl, rfl, rfl, rfl, rfl, by decide +kernel⟩ ?hw ?hc
  case hw => w_witness2
  case hc =>
    refine L2.walk_ofE (l := PySem.Challenge.rw_rowbreadth_k16_fold_and_running) (n := 63) (k := 15) (x := "_law_script") (CX := L2.CX0) rfl (by decide) (by kernel_rfl) ⟨rfl, by decide, by decide⟩ ?F (fun _ _ _ _ z => z)
    intro w mg fa h Y G hmg0
    obtain ⟨K, KX, c⟩ := Y
    have hmg : mg ("law" : PySem.Str) = some (.ref fa) := by
      have e : (HandSHeadRun.topDef (OpenLaw.row PySem.Challenge.rw_rowbreadth_k16_fold_and_running).prog 67).name = ("law" : PySem.Str) := by kernel_rfl
      rw [← e]
      exact hmg0
    have T : RB.Txt K mg := RB.txt_of KX G c
    have eq := hmg.symm.trans T.g_law
    cases eq
    have b := L2.FunD.bindsA (ps := ["_law_script"]) T.f_law fun _ _ _ _ _ _ us hl => match us, hl with | [_], _ => rfl
    exact ⟨K, RB.fd_law K, RB.spLaw K, KX, fun s v => b s [v] rfl, fun H a ns hl _ hS => ⟨a, ns, rfl, hl, hS, fun _ => rfl⟩, fun base _ _ => RB.ok_law T⟩


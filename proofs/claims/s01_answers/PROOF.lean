import PyProof.Rows.All
import Wide.All
import OpenK.AllK
import Wide.FinOn
import Open.SpecLaws
import KE.OsGo
import HandS.ForSpec
import HandS.Comp
import HandS.Iter
import HandS.Zip
import HandS.Walk
import HandS.Wide
import HandS.Style
import HandS.NoneIn
import HandS.SortInts
import HandS.SortRule
import HandS.CallLocal
import HandS.More
import HandS.TryMany
import PySem.Challenge.RW_jetblocks_s01_answers
section
set_option Elab.async false
set_option linter.all false
set_option maxRecDepth 100000
set_option maxHeartbeats 2000000
namespace Jb
open PySem PySem.Spec PyProof.Rows L2
/-! ### the text by places -/
def top (i : Nat) : Stmt := PySem.Challenge.pw_jetblocks_s01_answers.main.body.getD i (.Pass ⟨0, 0, 0, 0⟩)
abbrev s_row_of : Stmt := top 4
abbrev n_row_of : List Str := ["block"]
theorem sc_row_of : FnScope n_row_of ["block"] (defScope s_row_of) := ⟨rfl, rfl, rfl, by decide +kernel, rfl, by decide +kernel, by decide +kernel⟩
abbrev s_column_of : Stmt := top 5
abbrev n_column_of : List Str := ["block"]
theorem sc_column_of : FnScope n_column_of ["block"] (defScope s_column_of) := ⟨rfl, rfl, rfl, by decide +kernel, rfl, by decide +kernel, by decide +kernel⟩
abbrev s_block_at : Stmt := top 6
abbrev n_block_at : List Str := ["row", "column"]
theorem sc_block_at : FnScope n_block_at ["row", "column"] (defScope s_block_at) := ⟨rfl, rfl, rfl, by decide +kernel, rfl, by decide +kernel, by decide +kernel⟩
abbrev s_rows_near : Stmt := top 7
abbrev n_rows_near : List Str := ["row"]
theorem sc_rows_near : FnScope n_rows_near ["row"] (defScope s_rows_near) := ⟨rfl, rfl, rfl, by decide +kernel, rfl, by decide +kernel, by decide +kernel⟩
abbrev s_columns_near : Stmt := top 8
abbrev n_columns_near : List Str := ["column", "other"]
theorem sc_columns_near : FnScope n_columns_near ["column"] (defScope s_columns_near) := ⟨rfl, rfl, rfl, by decide +kernel, rfl, by decide +kernel, by decide +kernel⟩
abbrev s_neighbours_of : Stmt := top 9
abbrev n_neighbours_of : List Str := ["block", "found", "row", "column", "other"]
theorem sc_neighbours_of : FnScope n_neighbours_of ["block"] (defScope s_neighbours_of) := ⟨rfl, rfl, rfl, by decide +kernel, rfl, by decide +kernel, by decide +kernel⟩
abbrev s_Blocks___init__ : Stmt := inClass (top 10) 0
abbrev n_Blocks___init__ : List Str := ["self"]
theorem sc_Blocks___init__ : FnScope n_Blocks___init__ ["self"] (defScope s_Blocks___init__) := ⟨rfl, rfl, rfl, by decide +kernel, rfl, by decide +kernel, by decide +kernel⟩
abbrev s_Blocks_put : Stmt := inClass (top 10) 1
abbrev n_Blocks_put : List Str := ["self", "block", "energy", "time", "flag"]
theorem sc_Blocks_put : FnScope n_Blocks_put ["self", "block", "energy", "time", "flag"] (defScope s_Blocks_put) := ⟨rfl, rfl, rfl, by decide +kernel, rfl, by decide +kernel, by decide +kernel⟩
abbrev s_rounded : Stmt := top 12
abbrev n_rounded : List Str := ["a", "b"]
theorem sc_rounded : FnScope n_rounded ["a", "b"] (defScope s_rounded) := ⟨rfl, rfl, rfl, by decide +kernel, rfl, by decide +kernel, by decide +kernel⟩
abbrev s_is_from : Stmt := top 13
abbrev n_is_from : List Str := ["number", "least", "greatest"]
theorem sc_is_from : FnScope n_is_from ["number", "least", "greatest"] (defScope s_is_from) := ⟨rfl, rfl, rfl, by decide +kernel, rfl, by decide +kernel, by decide +kernel⟩
abbrev s_are_from : Stmt := top 14
abbrev n_are_from : List Str := ["numbers", "least", "greatest", "number"]
theorem sc_are_from : FnScope n_are_from ["numbers", "least", "greatest"] (defScope s_are_from) := ⟨rfl, rfl, rfl, by decide +kernel, rfl, by decide +kernel, by decide +kernel⟩
abbrev s_is_seed : Stmt := top 18
abbrev n_is_seed : List Str := ["energies", "least", "block", "energy", "other"]
theorem sc_is_seed : FnScope n_is_seed ["energies", "least", "block"] (defScope s_is_seed) := ⟨rfl, rfl, rfl, by decide +kernel, rfl, by decide +kernel, by decide +kernel⟩
abbrev s_marks_of : Stmt := top 19
abbrev n_marks_of : List Str := ["energies", "least", "block"]
theorem sc_marks_of : FnScope n_marks_of ["energies", "least"] (defScope s_marks_of) := ⟨rfl, rfl, rfl, by decide +kernel, rfl, by decide +kernel, by decide +kernel⟩
abbrev s_owners_of : Stmt := top 20
abbrev n_owners_of : List Str := ["energies", "marks", "low", "block", "other"]
theorem sc_owners_of : FnScope n_owners_of ["energies", "marks", "low", "block"] (defScope s_owners_of) := ⟨rfl, rfl, rfl, by decide +kernel, rfl, by decide +kernel, by decide +kernel⟩
abbrev s_greatest_place : Stmt := top 21
abbrev n_greatest_place : List Str := ["energies", "owners", "some", "owner"]
theorem sc_greatest_place : FnScope n_greatest_place ["energies", "owners"] (defScope s_greatest_place) := ⟨rfl, rfl, rfl, by decide +kernel, rfl, by decide +kernel, by decide +kernel⟩
abbrev s_shares_of : Stmt := top 22
abbrev n_shares_of : List Str := ["energies", "block", "owners", "energy", "together", "owner", "shares", "best"]
theorem sc_shares_of : FnScope n_shares_of ["energies", "block", "owners"] (defScope s_shares_of) := ⟨rfl, rfl, rfl, by decide +kernel, rfl, by decide +kernel, by decide +kernel⟩
abbrev s_row_step : Stmt := top 23
abbrev n_row_step : List Str := ["seed", "block"]
theorem sc_row_step : FnScope n_row_step ["seed", "block"] (defScope s_row_step) := ⟨rfl, rfl, rfl, by decide +kernel, rfl, by decide +kernel, by decide +kernel⟩
abbrev s_Cluster___init__ : Stmt := inClass (top 24) 0
abbrev n_Cluster___init__ : List Str := ["self", "seed", "parts", "block", "energy"]
theorem sc_Cluster___init__ : FnScope n_Cluster___init__ ["self", "seed", "parts"] (defScope s_Cluster___init__) := ⟨rfl, rfl, rfl, by decide +kernel, rfl, by decide +kernel, by decide +kernel⟩
abbrev s_Cluster_own_column : Stmt := inClass (top 24) 1
abbrev n_Cluster_own_column : List Str := ["self", "begin", "x", "block", "energy"]
theorem sc_Cluster_own_column : FnScope n_Cluster_own_column ["self"] (defScope s_Cluster_own_column) := ⟨rfl, rfl, rfl, by decide +kernel, rfl, by decide +kernel, by decide +kernel⟩
abbrev s_Cluster_own_row : Stmt := inClass (top 24) 2
abbrev n_Cluster_own_row : List Str := ["self", "y", "block", "energy"]
theorem sc_Cluster_own_row : FnScope n_Cluster_own_row ["self"] (defScope s_Cluster_own_row) := ⟨rfl, rfl, rfl, by decide +kernel, rfl, by decide +kernel, by decide +kernel⟩
abbrev s_Cluster_time_by : Stmt := inClass (top 24) 3
abbrev n_Cluster_time_by : List Str := ["self", "times", "block", "energy"]
theorem sc_Cluster_time_by : FnScope n_Cluster_time_by ["self", "times"] (defScope s_Cluster_time_by) := ⟨rfl, rfl, rfl, by decide +kernel, rfl, by decide +kernel, by decide +kernel⟩
abbrev s_Cluster_flag_by : Stmt := inClass (top 24) 4
abbrev n_Cluster_flag_by : List Str := ["self", "flags", "block", "energy"]
theorem sc_Cluster_flag_by : FnScope n_Cluster_flag_by ["self", "flags"] (defScope s_Cluster_flag_by) := ⟨rfl, rfl, rfl, by decide +kernel, rfl, by decide +kernel, by decide +kernel⟩
abbrev s_parts_by_seeds : Stmt := top 25
abbrev n_parts_by_seeds : List Str := ["energies", "marks", "low", "found", "block", "owners", "owner", "energy"]
theorem sc_parts_by_seeds : FnScope n_parts_by_seeds ["energies", "marks", "low"] (defScope s_parts_by_seeds) := ⟨rfl, rfl, rfl, by decide +kernel, rfl, by decide +kernel, by decide +kernel⟩
abbrev s_clusters_of : Stmt := top 26
abbrev n_clusters_of : List Str := ["energies", "least", "low", "marks", "parts", "block"]
theorem sc_clusters_of : FnScope n_clusters_of ["energies", "least", "low"] (defScope s_clusters_of) := ⟨rfl, rfl, rfl, by decide +kernel, rfl, by decide +kernel, by decide +kernel⟩
abbrev s_energy_inside : Stmt := top 27
abbrev n_energy_inside : List Str := ["energies", "least", "low", "marks", "some", "block"]
theorem sc_energy_inside : FnScope n_energy_inside ["energies", "least", "low"] (defScope s_energy_inside) := ⟨rfl, rfl, rfl, by decide +kernel, rfl, by decide +kernel, by decide +kernel⟩
abbrev s_Pseudojet___init__ : Stmt := inClass (top 29) 0
abbrev n_Pseudojet___init__ : List Str := ["self", "energy", "column", "row", "clusters"]
theorem sc_Pseudojet___init__ : FnScope n_Pseudojet___init__ ["self", "energy", "column", "row", "clusters"] (defScope s_Pseudojet___init__) := ⟨rfl, rfl, rfl, by decide +kernel, rfl, by decide +kernel, by decide +kernel⟩
abbrev s_far_rows : Stmt := top 30
abbrev n_far_rows : List Str := ["one", "other", "far"]
theorem sc_far_rows : FnScope n_far_rows ["one", "other"] (defScope s_far_rows) := ⟨rfl, rfl, rfl, by decide +kernel, rfl, by decide +kernel, by decide +kernel⟩
abbrev s_squared_distance : Stmt := top 31
abbrev n_squared_distance : List Str := ["one", "other", "across", "along"]
theorem sc_squared_distance : FnScope n_squared_distance ["one", "other"] (defScope s_squared_distance) := ⟨rfl, rfl, rfl, by decide +kernel, rfl, by decide +kernel, by decide +kernel⟩
abbrev s_joined : Stmt := top 32
abbrev n_joined : List Str := ["one", "other", "place"]
theorem sc_joined : FnScope n_joined ["one", "other"] (defScope s_joined) := ⟨rfl, rfl, rfl, by decide +kernel, rfl, by decide +kernel, by decide +kernel⟩
abbrev s_finished_first : Stmt := top 33
abbrev n_finished_first : List Str := ["some", "energies", "one"]
theorem sc_finished_first : FnScope n_finished_first ["some"] (defScope s_finished_first) := ⟨rfl, rfl, rfl, by decide +kernel, rfl, by decide +kernel, by decide +kernel⟩
abbrev s_pair_measure : Stmt := top 34
abbrev n_pair_measure : List Str := ["one", "other", "most"]
theorem sc_pair_measure : FnScope n_pair_measure ["one", "other"] (defScope s_pair_measure) := ⟨rfl, rfl, rfl, by decide +kernel, rfl, by decide +kernel, by decide +kernel⟩
abbrev s_is_less : Stmt := top 35
abbrev n_is_less : List Str := ["one", "other"]
theorem sc_is_less : FnScope n_is_less ["one", "other"] (defScope s_is_less) := ⟨rfl, rfl, rfl, by decide +kernel, rfl, by decide +kernel, by decide +kernel⟩
abbrev s_best_pair : Stmt := top 36
abbrev n_best_pair : List Str := ["some", "best", "i", "j", "measure"]
theorem sc_best_pair : FnScope n_best_pair ["some"] (defScope s_best_pair) := ⟨rfl, rfl, rfl, by decide +kernel, rfl, by decide +kernel, by decide +kernel⟩
abbrev s_is_joined_first : Stmt := top 37
abbrev n_is_joined_first : List Str := ["pair", "energy", "reach", "distance", "most"]
theorem sc_is_joined_first : FnScope n_is_joined_first ["pair", "energy", "reach"] (defScope s_is_joined_first) := ⟨rfl, rfl, rfl, by decide +kernel, rfl, by decide +kernel, by decide +kernel⟩
abbrev s_without : Stmt := top 38
abbrev n_without : List Str := ["some", "place"]
theorem sc_without : FnScope n_without ["some", "place"] (defScope s_without) := ⟨rfl, rfl, rfl, by decide +kernel, rfl, by decide +kernel, by decide +kernel⟩
abbrev s_beginning : Stmt := top 39
abbrev n_beginning : List Str := ["clusters", "number", "one"]
theorem sc_beginning : FnScope n_beginning ["clusters"] (defScope s_beginning) := ⟨rfl, rfl, rfl, by decide +kernel, rfl, by decide +kernel, by decide +kernel⟩
abbrev s_ordered : Stmt := top 40
abbrev n_ordered : List Str := ["jets", "keys", "place", "one", "energy"]
theorem sc_ordered : FnScope n_ordered ["jets"] (defScope s_ordered) := ⟨rfl, rfl, rfl, by decide +kernel, rfl, by decide +kernel, by decide +kernel⟩
abbrev s_jets_of : Stmt := top 41
abbrev n_jets_of : List Str := ["clusters", "reach", "some", "jets", "turn", "place", "pair", "i", "j", "measure"]
theorem sc_jets_of : FnScope n_jets_of ["clusters", "reach"] (defScope s_jets_of) := ⟨rfl, rfl, rfl, by decide +kernel, rfl, by decide +kernel, by decide +kernel⟩
abbrev s_Gain___init__ : Stmt := inClass (top 48) 0
abbrev n_Gain___init__ : List Str := ["self", "mul", "shift", "zero"]
theorem sc_Gain___init__ : FnScope n_Gain___init__ ["self", "mul", "shift", "zero"] (defScope s_Gain___init__) := ⟨rfl, rfl, rfl, by decide +kernel, rfl, by decide +kernel, by decide +kernel⟩
abbrev s_weighed_sum : Stmt := top 49
abbrev n_weighed_sum : List Str := ["weights", "samples", "zero", "weight", "sample"]
theorem sc_weighed_sum : FnScope n_weighed_sum ["weights", "samples", "zero"] (defScope s_weighed_sum) := ⟨rfl, rfl, rfl, by decide +kernel, rfl, by decide +kernel, by decide +kernel⟩
abbrev s_energy_of : Stmt := top 50
abbrev n_energy_of : List Str := ["a", "gain"]
theorem sc_energy_of : FnScope n_energy_of ["a", "gain"] (defScope s_energy_of) := ⟨rfl, rfl, rfl, by decide +kernel, rfl, by decide +kernel, by decide +kernel⟩
abbrev s_time_of : Stmt := top 51
abbrev n_time_of : List Str := ["a", "b"]
theorem sc_time_of : FnScope n_time_of ["a", "b"] (defScope s_time_of) := ⟨rfl, rfl, rfl, by decide +kernel, rfl, by decide +kernel, by decide +kernel⟩
abbrev s_flag_of : Stmt := top 52
abbrev n_flag_of : List Str := ["samples"]
theorem sc_flag_of : FnScope n_flag_of ["samples"] (defScope s_flag_of) := ⟨rfl, rfl, rfl, by decide +kernel, rfl, by decide +kernel, by decide +kernel⟩
abbrev s_weighed : Stmt := top 53
abbrev n_weighed : List Str := ["samples", "gain", "w", "v", "a", "b"]
theorem sc_weighed : FnScope n_weighed ["samples", "gain", "w", "v"] (defScope s_weighed) := ⟨rfl, rfl, rfl, by decide +kernel, rfl, by decide +kernel, by decide +kernel⟩
abbrev s_row_sums : Stmt := top 55
abbrev n_row_sums : List Str := ["energies", "row", "width", "found", "column", "begin"]
theorem sc_row_sums : FnScope n_row_sums ["energies", "row", "width"] (defScope s_row_sums) := ⟨rfl, rfl, rfl, by decide +kernel, rfl, by decide +kernel, by decide +kernel⟩
abbrev s_window_energy : Stmt := top 56
abbrev n_window_energy : List Str := ["sums", "row", "column", "height", "step"]
theorem sc_window_energy : FnScope n_window_energy ["sums", "row", "column", "height"] (defScope s_window_energy) := ⟨rfl, rfl, rfl, by decide +kernel, rfl, by decide +kernel, by decide +kernel⟩
abbrev s_best_window : Stmt := top 57
abbrev n_best_window : List Str := ["energies", "width", "height", "sums", "row", "best", "column", "energy"]
theorem sc_best_window : FnScope n_best_window ["energies", "width", "height"] (defScope s_best_window) := ⟨rfl, rfl, rfl, by decide +kernel, rfl, by decide +kernel, by decide +kernel⟩
abbrev s_Calorimeter___init__ : Stmt := inClass (top 70) 0
abbrev n_Calorimeter___init__ : List Str := ["self", "least", "low", "reach", "k"]
theorem sc_Calorimeter___init__ : FnScope n_Calorimeter___init__ ["self", "least", "low", "reach"] (defScope s_Calorimeter___init__) := ⟨rfl, rfl, rfl, by decide +kernel, rfl, by decide +kernel, by decide +kernel⟩
abbrev s_Calorimeter_forget : Stmt := inClass (top 70) 1
abbrev n_Calorimeter_forget : List Str := ["self"]
theorem sc_Calorimeter_forget : FnScope n_Calorimeter_forget ["self"] (defScope s_Calorimeter_forget) := ⟨rfl, rfl, rfl, by decide +kernel, rfl, by decide +kernel, by decide +kernel⟩
abbrev s_opened : Stmt := top 71
abbrev n_opened : List Str := ["n", "least", "low", "reach"]
theorem sc_opened : FnScope n_opened ["n"] (defScope s_opened) := ⟨rfl, rfl, rfl, by decide +kernel, rfl, by decide +kernel, by decide +kernel⟩
abbrev s_set_gain : Stmt := top 72
abbrev n_set_gain : List Str := ["one", "n", "k", "mul", "shift", "zero"]
theorem sc_set_gain : FnScope n_set_gain ["one", "n"] (defScope s_set_gain) := ⟨rfl, rfl, rfl, by decide +kernel, rfl, by decide +kernel, by decide +kernel⟩
abbrev s_set_weights : Stmt := top 73
abbrev n_set_weights : List Str := ["one", "n"]
theorem sc_set_weights : FnScope n_set_weights ["one", "n"] (defScope s_set_weights) := ⟨rfl, rfl, rfl, by decide +kernel, rfl, by decide +kernel, by decide +kernel⟩
abbrev s_weigh_pulse : Stmt := top 74
abbrev n_weigh_pulse : List Str := ["one", "n", "block", "k", "samples", "energy", "time", "flag"]
theorem sc_weigh_pulse : FnScope n_weigh_pulse ["one", "n"] (defScope s_weigh_pulse) := ⟨rfl, rfl, rfl, by decide +kernel, rfl, by decide +kernel, by decide +kernel⟩
abbrev s_tell_block : Stmt := top 75
abbrev n_tell_block : List Str := ["one", "n", "block"]
theorem sc_tell_block : FnScope n_tell_block ["one", "n"] (defScope s_tell_block) := ⟨rfl, rfl, rfl, by decide +kernel, rfl, by decide +kernel, by decide +kernel⟩
abbrev s_find_clusters : Stmt := top 76
abbrev n_find_clusters : List Str := ["one", "n"]
theorem sc_find_clusters : FnScope n_find_clusters ["one", "n"] (defScope s_find_clusters) := ⟨rfl, rfl, rfl, by decide +kernel, rfl, by decide +kernel, by decide +kernel⟩
abbrev s_tell_cluster : Stmt := top 77
abbrev n_tell_cluster : List Str := ["one", "n", "cluster", "found"]
theorem sc_tell_cluster : FnScope n_tell_cluster ["one", "n"] (defScope s_tell_cluster) := ⟨rfl, rfl, rfl, by decide +kernel, rfl, by decide +kernel, by decide +kernel⟩
abbrev s_tell_parts : Stmt := top 78
abbrev n_tell_parts : List Str := ["one", "n", "found", "block", "energy"]
theorem sc_tell_parts : FnScope n_tell_parts ["one", "n"] (defScope s_tell_parts) := ⟨rfl, rfl, rfl, by decide +kernel, rfl, by decide +kernel, by decide +kernel⟩
abbrev s_find_jets : Stmt := top 79
abbrev n_find_jets : List Str := ["one", "n"]
theorem sc_find_jets : FnScope n_find_jets ["one", "n"] (defScope s_find_jets) := ⟨rfl, rfl, rfl, by decide +kernel, rfl, by decide +kernel, by decide +kernel⟩
abbrev s_tell_jet : Stmt := top 80
abbrev n_tell_jet : List Str := ["one", "n", "jet"]
theorem sc_tell_jet : FnScope n_tell_jet ["one", "n"] (defScope s_tell_jet) := ⟨rfl, rfl, rfl, by decide +kernel, rfl, by decide +kernel, by decide +kernel⟩
abbrev s_tell_sums : Stmt := top 81
abbrev n_tell_sums : List Str := ["one", "n", "total", "inside"]
theorem sc_tell_sums : FnScope n_tell_sums ["one", "n"] (defScope s_tell_sums) := ⟨rfl, rfl, rfl, by decide +kernel, rfl, by decide +kernel, by decide +kernel⟩
abbrev s_tell_window : Stmt := top 82
abbrev n_tell_window : List Str := ["one", "n", "width", "height", "block", "energy"]
theorem sc_tell_window : FnScope n_tell_window ["one", "n"] (defScope s_tell_window) := ⟨rfl, rfl, rfl, by decide +kernel, rfl, by decide +kernel, by decide +kernel⟩
abbrev s_clear : Stmt := top 83
abbrev n_clear : List Str := ["one", "n"]
theorem sc_clear : FnScope n_clear ["one", "n"] (defScope s_clear) := ⟨rfl, rfl, rfl, by decide +kernel, rfl, by decide +kernel, by decide +kernel⟩
abbrev s_Desk___init__ : Stmt := inClass (top 85) 0
abbrev n_Desk___init__ : List Str := ["self"]
theorem sc_Desk___init__ : FnScope n_Desk___init__ ["self"] (defScope s_Desk___init__) := ⟨rfl, rfl, rfl, by decide +kernel, rfl, by decide +kernel, by decide +kernel⟩
abbrev s_Desk_begin : Stmt := inClass (top 85) 1
abbrev n_Desk_begin : List Str := ["self", "n", "found"]
theorem sc_Desk_begin : FnScope n_Desk_begin ["self", "n"] (defScope s_Desk_begin) := ⟨rfl, rfl, rfl, by decide +kernel, rfl, by decide +kernel, by decide +kernel⟩
abbrev s_Desk_answer : Stmt := inClass (top 85) 2
abbrev n_Desk_answer : List Str := ["self", "call", "n", "deed"]
theorem sc_Desk_answer : FnScope n_Desk_answer ["self", "call", "n"] (defScope s_Desk_answer) := ⟨rfl, rfl, rfl, by decide +kernel, rfl, by decide +kernel, by decide +kernel⟩
abbrev s_answers : Stmt := top 86
abbrev n_answers : List Str := ["calls", "desk", "found", "at", "call", "end", "told"]
theorem sc_answers : FnScope n_answers ["calls"] (defScope s_answers) := ⟨rfl, rfl, rfl, by decide +kernel, rfl, by decide +kernel, by decide +kernel⟩
/-! ### calls of the program's own defs: what a caller needs of a def, in one row -/
section
variable (P : Program) (w : World) (K : PySem.W.Frag) (mg : Str → Option Value) (base : Heap)
/-- a def of the module, by its name -/
def Cal (k : Nat) (x : Str) (ps : List Str) (sp : Sp) : Prop := ∃ (f : Addr) (fd : FuncData), FnOk P w K mg base CX0 k f fd ps sp ∧ mg x = some (.ref f) ∧ PySem.W.keepIn K (.ref f) = true ∧ Binds K fd ps []
/-- a method of the class at C -/
def CalM (k : Nat) (C : Addr) (m : Str) (ps : List Str) (sp : Sp) : Prop := ∃ (f : Addr) (fd : FuncData), FnOk P w K mg base CX0 k f fd ps sp ∧ Meth K C m f ∧ Cls K C ∧ Binds K fd ps []
/-- a class's making, by its name -/
def CalC (k : Nat) (x : Str) (C : Addr) (ps : List Str) (sp : Sp) : Prop := ∃ (f : Addr) (fd : FuncData), FnOk P w K mg base CX0 k f fd ps sp ∧ Mk K C f ∧ mg x = some (.ref C) ∧ Binds K fd ps []
end
def tCal (sp : Sp) (t : TA) : TE := fun σ H Q => t σ H fun vs H1 => sp vs H1 Q E0
def tMth (C : Addr) (m : Str) (sp : Sp) (ta : TE) (t : TA) : TE := fun σ H Q => ta σ H fun x H1 => ∃ a dx fs, x = .ref a ∧ H1 a = some (.ins C dx fs) ∧ fs.lookup m = none ∧ t σ H1 fun vs H2 => sp (x :: vs) H2 Q E0
def tMk (C : Addr) (sp : Sp) (t : TA) : TE := fun σ H Q => t σ H fun vs H1 => ∀ x dx, H1 x = none → H1 dx = none → dx ≠ x → sp (.ref x :: vs) (upd (upd H1 dx (.own x)) x (.ins C dx [])) (fun v H2 => v = .non ∧ Q (.ref x) H2) E0
section
variable {X : Cx} {k : Nat} {C : Addr} {ps : List Str} {sp : Sp} {x m : Str} {p pos apos : Pos} {e o : Expr} {es : List Expr} {ta : TE} {t : TA}
theorem pe_cal (F : Cal X.prog X.w X.K X.mg X.base k x ps sp) (hr : Room k X.A) (hg : Gl X x) (ha : PA X (e :: es) t) (hdb : (x == ("__debug__" : Str)) = false := by decide)
    (he : starEach (e :: es) X.env = (false, eval e X.env) :: starEach es X.env := by rfl) (hpl : (backTo pos (starEach es X.env)).any (·.1) = false := by rfl) :
    PE X (.Call (.Name x p) (e :: es) [] pos) (tCal sp t) := by
  obtain ⟨f, fd, F, hm, hk, hb⟩ := F
  refine ⟨fun pins s σ H Q I h => ?_⟩
  refine (pe_call (dvs := []) F hr hg hm hk hb .nil pass0 ha hdb he hpl).run pins s σ H Q I ?_
  have e0 : (fun (vs : List V) (H1 : Hp) => sp (vs ++ []) H1 Q E0) = fun vs H1 => sp vs H1 Q E0 := by
    funext vs H1
    rw [List.append_nil]
  show t σ H (fun vs H1 => sp (vs ++ []) H1 Q E0)
  rw [e0]
  exact h
theorem pe_mth {pl : Sem Bool} (he : PE X o ta) (F : CalM X.prog X.w X.K X.mg X.base k C m ps sp) (hr : Room k X.A) (ha : PA X (e :: es) t)
    (hst : starEach (e :: es) X.env = (false, eval e X.env) :: starEach es X.env := by rfl) (hpl : (backTo pos (starEach es X.env)).any (·.1) = false := by rfl)
    (ht : eval (.Call (.Attribute o m apos) (e :: es) [] pos) X.env = (do
      let ov ← eval o X.env
      standAt apos.atName
      let (f, first) ← holding [ov] (getMethod ov m pl)
      callWith pos f first (backTo pos (starEach (e :: es) X.env)) (backToKw pos (keywordEach [] X.env))) := by rfl) :
    PE X (.Call (.Attribute o m apos) (e :: es) [] pos) (tMth C m sp ta t) := by
  obtain ⟨f, fd, F, hm, c, hb⟩ := F
  refine ⟨fun pins s σ H Q I h => ?_⟩
  refine (pe_meth (dvs := []) he c hm F hr hb .nil pass0 ha hst hpl ht).run pins s σ H Q I ?_
  have e0 : ∀ y : V, (fun (vs : List V) (H1 : Hp) => sp (y :: (vs ++ [])) H1 Q E0) = fun vs H1 => sp (y :: vs) H1 Q E0 := by
    intro y
    funext vs H1
    rw [List.append_nil]
  show ta σ H (fun x H1 => ∃ a dx fs, x = .ref a ∧ H1 a = some (.ins C dx fs) ∧ fs.lookup m = none ∧ t σ H1 fun vs H2 => sp (x :: (vs ++ [])) H2 Q E0)
  simp only [e0]
  exact h
theorem pe_mth0 {pl : Sem Bool} (he : PE X o ta) (F : CalM X.prog X.w X.K X.mg X.base k C m ps sp) (hr : Room k X.A)
    (ht : eval (.Call (.Attribute o m apos) [] [] pos) X.env = (do
      let ov ← eval o X.env
      standAt apos.atName
      let (f, first) ← holding [ov] (getMethod ov m pl)
      callWith pos f first (backTo pos (starEach [] X.env)) (backToKw pos (keywordEach [] X.env))) := by rfl) :
    PE X (.Call (.Attribute o m apos) [] [] pos) (tMth C m sp ta tNil) := by
  obtain ⟨f, fd, F, hm, c, hb⟩ := F
  exact ⟨fun pins s σ H Q I h => (pe_meth0 (dvs := []) he c hm F hr hb .nil pass0 ht).run pins s σ H Q I h⟩
theorem pe_mk (F : CalC X.prog X.w X.K X.mg X.base k x C ps sp) (hr : Room (k + 1) X.A) (hg : Gl X x) (ha : PA X (e :: es) t) (hdb : (x == ("__debug__" : Str)) = false := by decide)
    (he : starEach (e :: es) X.env = (false, eval e X.env) :: starEach es X.env := by rfl) (hpl : (backTo pos (starEach es X.env)).any (·.1) = false := by rfl) :
    PE X (.Call (.Name x p) (e :: es) [] pos) (tMk C sp t) := by
  obtain ⟨f, fd, F, M, hm, hb⟩ := F
  refine ⟨fun pins s σ H Q I h => ?_⟩
  refine (pe_make (dvs := []) M F hr hg hm hb .nil pass0 ha hdb he hpl).run pins s σ H Q I ?_
  have e0 : ∀ (y : Addr) (Q' : VK) (H1 : Hp), (fun (vs : List V) => sp (.ref y :: (vs ++ [])) H1 Q' E0) = fun vs => sp (.ref y :: vs) H1 Q' E0 := by
    intro y Q' H1
    funext vs
    rw [List.append_nil]
  show t σ H (fun vs H1 => ∀ x dx, H1 x = none → H1 dx = none → dx ≠ x → sp (.ref x :: (vs ++ [])) (upd (upd H1 dx (.own x)) x (.ins C dx [])) (fun v H2 => v = .non ∧ Q (.ref x) H2) E0)
  simp only [List.append_nil]
  exact h
theorem pe_mk0 (F : CalC X.prog X.w X.K X.mg X.base k x C ps sp) (hr : Room (k + 1) X.A) (hg : Gl X x) (hdb : (x == ("__debug__" : Str)) = false := by decide) :
    PE X (.Call (.Name x p) [] [] pos) (tMk C sp tNil) := by
  obtain ⟨f, fd, F, M, hm, hb⟩ := F
  exact ⟨fun pins s σ H Q I h => (pe_make0 (dvs := []) M F hr hg hm hb .nil pass0 hdb).run pins s σ H Q I h⟩
/-- a constant of the module that is a whole number -/
theorem pe_cst {i : Int} (hg : Gl X x) (hm : ∃ u, X.mg x = some (.int i u)) (hd : (x == ("__debug__" : Str)) = false := by decide) : PE X (.Name x pos) (tC (.int i)) := by
  obtain ⟨u, hm⟩ := hm
  exact pe_glob hg hm ⟨u, rfl⟩ hd
/-- a constant of the module that is an object -/
theorem pe_rf {a : Addr} (hg : Gl X x) (hm : X.mg x = some (.ref a)) (hd : (x == ("__debug__" : Str)) = false := by decide) : PE X (.Name x pos) (tC (.ref a)) := pe_glob hg hm rfl hd
end
/-! ### a call of a name of the def's own that holds a def: the promise goes with the address -/
def tHeld (P : Program) (w : World) (K : PySem.W.Frag) (mg : Str → Option Value) (base : Heap) (k i : Nat) (t : TA) : TE := fun σ H Q => ∃ f sp, σ[i]? = some (some (.ref f)) ∧ Held P w K mg base k f sp ∧ t σ H fun vs H1 => sp vs H1 Q E0
section
variable {X : Cx} {k i : Nat} {x : Str} {p pos : Pos} {e : Expr} {es : List Expr} {t : TA}
theorem pe_callH (hr : Room k X.A) (hN : X.N[i]? = some x) (hv : Vis X.env.scope x) (ha : PA X (e :: es) t)
    (hdb : (x == ("__debug__" : Str)) = false := by decide) (hcd : (x == ("__classdict__" : Str)) = false := by decide)
    (he : starEach (e :: es) X.env = (false, eval e X.env) :: starEach es X.env := by rfl) (hpl : (backTo pos (starEach es X.env)).any (·.1) = false := by rfl) : PE X (.Call (.Name x p) (e :: es) [] pos) (tHeld X.prog X.w X.K X.mg X.base k i t) := by
  refine ⟨fun pins s σ H Q I h => ?_⟩
  obtain ⟨f, sp, hs, hH, ht⟩ := h
  obtain ⟨fd, ps, F, hk, hb⟩ := hH.ex
  refine (pe_callL (i := i) (f := f) (sp := sp) (dvs := []) (E := E0) F hr hN hv hk hb .nil pass0 ha hdb hcd he hpl).run pins s σ H Q I ⟨hs, ?_⟩
  have e0 : (fun (vs : List V) (H1 : Hp) => sp (vs ++ []) H1 Q E0) = fun vs H1 => sp vs H1 Q E0 := by
    funext vs H1
    rw [List.append_nil]
  show t σ H (fun vs H1 => sp (vs ++ []) H1 Q E0)
  rw [e0]
  exact ht
end
/-! ### the rules that speak of K, with K by name: in a comprehension's block it must not hang on the block -/
section
variable {X : Cx} {K : PySem.W.Frag} {a b e tg : Expr} {es : List Expr} {ta tb : TE} {f : Str} {pos : Pos} {k n : Nat} {t : TGs}
theorem pe_ixL (ha : PE X a ta) (hb : PE X b tb) (hs : PlainIx b) (hK : X.K = K := by rfl) : PE X (.Subscript a b pos) (tOp (rIxL K) ta tb) := by
  subst hK
  exact pe_ix ix_list ha hb hs
theorem pe_ixT (ha : PE X a ta) (hb : PE X b tb) (hs : PlainIx b) (hK : X.K = K := by rfl) : PE X (.Subscript a b pos) (tOp (rIxT K) ta tb) := by
  subst hK
  exact pe_ix ix_tup ha hb hs
theorem pe_fldK (ha : PE X e ta) (hb : attributeBase e f X.env (eval e X.env) = eval e X.env) (hK : X.K = K := by rfl) : PE X (.Attribute e f pos) (tFld K ta f) := by
  subst hK
  exact pe_fld ha hb
theorem pg_tupK (hc : X.calm = true) (h : PGs X es t) (hn : (assignEach es X.env).length = n := by rfl) (hst : (assignEach es X.env).findIdx? (·.1) = none := by rfl) (hK : X.K = K := by rfl) : PG X (.Tuple es k pos) (gTup K n t) := by
  subst hK
  exact pg_tup hc h hn hst
theorem op_eqI : OpR X (compareOp .Eq) (rI0 fun i j => .bl (decide (i = j))) := by
  intro pins s σ H x y v u Q I rx ry h
  obtain ⟨i, j, rfl, rfl, q⟩ := h
  refine op_eq pins s σ H _ _ v u Q I rx ry ⟨rfl, ?_⟩
  have e : decide (V.int i = V.int j) = decide (i = j) := by simp
  rw [e]
  exact q
theorem op_neI : OpR X (compareOp .NotEq) (rI0 fun i j => .bl (!decide (i = j))) := by
  intro pins s σ H x y v u Q I rx ry h
  obtain ⟨i, j, rfl, rfl, q⟩ := h
  refine op_ne pins s σ H _ _ v u Q I rx ry ⟨rfl, ?_⟩
  have e : decide (V.int i = V.int j) = decide (i = j) := by simp
  rw [e]
  exact q
theorem op_neK (hu : X.A.units + 64 < cLine) (hK : X.K = K := by rfl) : OpR X (compareOp .NotEq) (rNeD K) := by
  subst hK
  exact op_neD hu
end
/-! ### a written dict whose keys are whole numbers, read -/
def KeysNum (l : List DictEntry) : Prop := ∀ e ∈ l, ∃ (i : Int) (t : Tok), e.key = .int i t ∧ e.hash = hashInt i
def KDctI (K : PySem.W.Frag) (a : Addr) (i : Int) (v : V) : Prop :=
  ∃ es n u, K.lookup a = some ⟨.type "dict", none, .dict es n, #[]⟩ ∧ KeysNum es.toList ∧ findBy Value.isInt es i = some u ∧ RelV v u
def rIxDI (K : PySem.W.Frag) : R2 := fun x y H Q => ∃ p i v, x = .ref p ∧ y = .int i ∧ KDctI K p i v ∧ Q v H
section
variable {X : Cx} {a b : Expr} {ta tb : TE} {pos : Pos}
theorem ix_kdi : IxR X (rIxDI X.K) := by
  intro value slice pins s σ H x y v u Q I rx ry h hs
  obtain ⟨p, i, r, rfl, rfl, ⟨es, n, u0, hl, hk, e, ru⟩, q⟩ := h
  obtain rfl : v = Value.ref p := rx
  obtain ⟨t, rfl⟩ := ry
  have hm : s.heap.MapOf (intKind X.prog X.w) p (fun k => findBy Value.isInt es k) :=
    ⟨_, es, n, I.kIn _ _ hl, ⟨rfl, rfl, rfl⟩, rfl, fun e he => by
      obtain ⟨i, t, e1, e2⟩ := hk e (Array.mem_toList_iff.mpr he)
      exact ⟨i, by rw [e1]; exact intKind_is X.prog X.w i t, e2⟩, fun _ => rfl⟩
  exact tail_any hm.typeIs slot_dict_getitem.lookup (wpAny_getItem_of (intKind_is X.prog X.w i t) hm e ⟨r, H, I.tok _, ru, q⟩) hs
theorem pe_ixI (ha : PE X a ta) (hb : PE X b tb) (hs : PlainIx b) : PE X (.Subscript a b pos) (tOp (rIxDI X.K) ta tb) := pe_ix ix_kdi ha hb hs
end
def callNames : List (Int × Str) := [(2, "set_gain"), (3, "set_weights"), (4, "weigh_pulse"), (5, "tell_block"), (6, "find_clusters"), (7, "tell_cluster"), (8, "tell_parts"), (9, "find_jets"), (10, "tell_jet"), (11, "tell_sums"), (12, "tell_window"), (13, "clear")]
/-! ### what the top has written: constants, built-in names, classes -/
/-- the addresses of the classes and of the written lists -/
structure Ad where
  CBlocks : Addr
  CCluster : Addr
  CPseudojet : Addr
  CGain : Addr
  CCalorimeter : Addr
  CDesk : Addr
  aNO_CALORIMETER : Addr
  aBAD : Addr
  aNUMBERS : Addr
  aCALLS : Addr
structure ClsT (K : PySem.W.Frag) (C : Addr) (l : List Str) : Prop where
  cl : Cls K C
  na : ∀ x ∈ l, NoAttr K C x
structure Txt (K : PySem.W.Frag) (mg : Str → Option Value) (A : Ad) : Prop where
  c_MANY_ROWS : ∃ u, mg "MANY_ROWS" = some (.int (32) u)
  c_MANY_COLUMNS : ∃ u, mg "MANY_COLUMNS" = some (.int (32) u)
  c_MANY_BLOCKS : ∃ u, mg "MANY_BLOCKS" = some (.int (1024) u)
  c_STEPS : ∃ u, mg "STEPS" = some (.int (64) u)
  c_CYCLE : ∃ u, mg "CYCLE" = some (.int (2048) u)
  c_GREATEST_SAMPLE : ∃ u, mg "GREATEST_SAMPLE" = some (.int (4095) u)
  c_GREATEST_ENERGY : ∃ u, mg "GREATEST_ENERGY" = some (.int (1099511627776) u)
  c_LEAST_TIME : ∃ u, mg "LEAST_TIME" = some (.int (-32768) u)
  c_GREATEST_TIME : ∃ u, mg "GREATEST_TIME" = some (.int (32767) u)
  c_TIME_STEPS : ∃ u, mg "TIME_STEPS" = some (.int (256) u)
  c_OPEN : ∃ u, mg "OPEN" = some (.int (1) u)
  c_MANY_GAINS : ∃ u, mg "MANY_GAINS" = some (.int (4) u)
  c_MANY_WEIGHTS : ∃ u, mg "MANY_WEIGHTS" = some (.int (8) u)
  c_MOST_REACH : ∃ u, mg "MOST_REACH" = some (.int (1024) u)
  c_MOST_MUL : ∃ u, mg "MOST_MUL" = some (.int (1048576) u)
  c_MOST_SHIFT : ∃ u, mg "MOST_SHIFT" = some (.int (24) u)
  c_LEAST_WEIGHT : ∃ u, mg "LEAST_WEIGHT" = some (.int (-32768) u)
  c_GREATEST_WEIGHT : ∃ u, mg "GREATEST_WEIGHT" = some (.int (32767) u)
  g_NO_CALORIMETER : mg "NO_CALORIMETER" = some (.ref A.aNO_CALORIMETER)
  g_BAD : mg "BAD" = some (.ref A.aBAD)
  g_NUMBERS : mg "NUMBERS" = some (.ref A.aNUMBERS)
  g_CALLS : mg "CALLS" = some (.ref A.aCALLS)
  b_len : mg "len" = none
  b_sum : mg "sum" = none
  b_all : mg "all" = none
  b_abs : mg "abs" = none
  b_max : mg "max" = none
  b_min : mg "min" = none
  b_sorted : mg "sorted" = none
  b_list : mg "list" = none
  b_int : mg "int" = none
  b_range : mg "range" = none
  b_zip : mg "zip" = none
  b_enumerate : mg "enumerate" = none
  k_Blocks : ClsT K A.CBlocks ["energies", "times", "flags"]
  k_Cluster : ClsT K A.CCluster ["seed", "parts", "energy", "column", "row"]
  k_Pseudojet : ClsT K A.CPseudojet ["energy", "column", "row", "clusters"]
  k_Gain : ClsT K A.CGain ["mul", "shift", "zero"]
  k_Calorimeter : ClsT K A.CCalorimeter ["least", "low", "reach", "gains", "w", "v", "blocks", "clusters", "jets"]
  k_Desk : ClsT K A.CDesk ["calorimeter"]
  l_BAD : ∀ H, SqL K H A.aBAD [.int (-2)]
  l_NO_CALORIMETER : ∀ H, SqL K H A.aNO_CALORIMETER [.int (-7)]
  l_NUMBERS : ∀ H, SqT K H A.aNUMBERS (([0, 3, 4, 16, 10, 1, 0, 1, 1, 0, 1, 0, 2, 0] : List Int).map V.int)
  l_CALLS : ∀ p ∈ callNames, ∃ f, mg p.2 = some (.ref f) ∧ KDctI K A.aCALLS p.1 (.ref f)
end Jb
end
section
set_option Elab.async false
set_option linter.all false
set_option maxRecDepth 100000
set_option maxHeartbeats 2000000
namespace Jb
open PySem PySem.Spec PyProof.Rows L2
/-! ### helpers: heaps that only grow, and comprehensions that only make -/
theorem Same.upd_new {H : Hp} {p : Addr} {o : HO} (h : H p = none) : Same H (upd H p o) := fun b u e => by
  rw [upd_ne (ne_of_none e h)]
  exact e
theorem Same.upd_keep {H H' : Hp} {p : Addr} {o : HO} (s : Same H H') (h : H p = none) : Same H (upd H' p o) := fun b u e => by
  rw [upd_ne (ne_of_none e h)]
  exact s b u e
/-- a list comprehension behind i turns: what stood stands, the new list holds ys i -/
structure LcP (H1 : Hp) (D : Addr) (ys : Nat → List V) (i : Nat) (H : Hp) : Prop where
  same : Same H1 H
  at_ : H D = some (.lst (ys i))
theorem LcP.start {H1 : Hp} {D : Addr} {ys : Nat → List V} (hD : H1 D = none) (e : ys 0 = []) : LcP H1 D ys 0 (upd H1 D (.lst [])) := ⟨Same.upd_new hD, by rw [upd_same, e]⟩
theorem LcP.push {H1 H H4 : Hp} {D : Addr} {ys : Nat → List V} {i : Nat} {y : V} (p : LcP H1 D ys i H) (hD : H1 D = none) (s : Same H H4) (e : ys (i + 1) = ys i ++ [y]) (hl : (ys i).length < sizeLine) :
    ∃ acc, H4 D = some (.lst acc) ∧ acc.length < sizeLine ∧ LcP H1 D ys (i + 1) (upd H4 D (.lst (acc ++ [y]))) :=
  ⟨ys i, s _ _ p.at_, hl, Same.upd_keep (p.same.trans s) hD, by rw [upd_same, e]⟩
theorem LcP.skip {H1 H H3 : Hp} {D : Addr} {ys : Nat → List V} {i : Nat} (p : LcP H1 D ys i H) (s : Same H H3) (e : ys (i + 1) = ys i) : LcP H1 D ys (i + 1) H3 :=
  ⟨p.same.trans s, by rw [e]; exact s _ _ p.at_⟩
theorem take_snoc {α : Type} {l : List α} {i : Nat} {x : α} (h : l[i]? = some x) : l.take (i + 1) = l.take i ++ [x] := by
  rw [List.take_succ, h]
  rfl
theorem map_some {α β : Type} {f : α → β} {l : List α} {i : Nat} {y : β} (h : (l.map f)[i]? = some y) : ∃ x, l[i]? = some x ∧ y = f x := by
  rw [List.getElem?_map] at h
  cases e : l[i]? with
  | none => rw [e] at h; cases h
  | some x => rw [e] at h; exact ⟨x, rfl, (Option.some.inj h).symm⟩
theorem small {n : Nat} (h : n ≤ 1000000) : n ≤ sizeLine := by
  rw [sizeLine_eq]; omega
theorem small' {n : Nat} (h : n ≤ 1000000) : n < sizeLine := by
  rw [sizeLine_eq]; omega
theorem atI_int {xs : List V} {z : Int} {v : V} (h0 : 0 ≤ z) (h : xs[z.toNat]? = some v) : atI xs z = some v := at_of (j := z.toNat) (by omega) h
theorem ite_t {c : Bool} {A B : Prop} (hc : c = true) (h : A) : if c = true then A else B := by
  rw [if_pos hc]
  exact h
theorem ite_f {c : Bool} {A B : Prop} (hc : c = false) (h : B) : if c = true then A else B := by
  rw [hc, if_neg Bool.false_ne_true]
  exact h
theorem ite_b {c : Bool} {A B : Prop} (h1 : c = true → A) (h2 : c = false → B) : if c = true then A else B := by
  cases c with
  | true => exact ite_t rfl (h1 rfl)
  | false => exact ite_f rfl (h2 rfl)
/-- what of a heap is new against an elder one -/
def minus (H H0 : Hp) : Hp := fun a => match H0 a with
  | none => H a
  | some _ => none
theorem minus_at {H H0 : Hp} {a : Addr} (h0 : H0 a = none) : minus H H0 a = H a := by
  unfold minus
  rw [h0]
theorem minus_le {H H0 : Hp} : Same (minus H H0) H := fun b o e => by
  unfold minus at e
  split at e
  · exact e
  · cases e
theorem minus_off {H H0 : Hp} {a : Addr} {o : HO} (e : minus H H0 a = some o) : H0 a = none := by
  unfold minus at e
  split at e
  · assumption
  · cases e
theorem minus_mono {H H' H0 : Hp} (s : Same H H') : Same (minus H H0) (minus H' H0) := fun b o e => by
  have z := minus_off e
  rw [minus_at z] at e ⊢
  exact s _ _ e
theorem minus_anti {H H0 H1 : Hp} (s : Same H0 H1) : Same (minus H H1) (minus H H0) := fun b o e => by
  have z := minus_off e
  rw [minus_at z] at e
  rw [minus_at (s.free z)]
  exact e
theorem minus_upd {H H0 : Hp} {a : Addr} {o : HO} (h0 : H0 a = none) : minus (upd H a o) H0 = upd (minus H H0) a o := by
  funext b
  by_cases hb : b = a
  · subst hb
    rw [minus_at h0, upd_same, upd_same]
  · rw [upd_ne hb]
    unfold minus
    cases H0 b with
    | none => exact upd_ne hb
    | some _ => rfl
/-- a heap without some addresses -/
def del (M : List Addr) (H : Hp) : Hp := fun a => if a ∈ M then none else H a
theorem del_le {M : List Addr} {H : Hp} : Same (del M H) H := fun b o e => by
  unfold del at e
  split at e
  · cases e
  · exact e
theorem del_at {M : List Addr} {H : Hp} {a : Addr} (h : a ∉ M) : del M H a = H a := by
  unfold del
  rw [if_neg h]
theorem del_off {M : List Addr} {H : Hp} {a : Addr} {o : HO} (e : del M H a = some o) : a ∉ M := fun h => by
  unfold del at e
  rw [if_pos h] at e
  cases e
/-- what stands elsewhere stands behind a step, if none of the addresses left out then is one of its own -/
theorem del_mono {M M' : List Addr} {H H' : Hp} (s : ∀ b o, H b = some o → b ∉ M → H' b = some o) (h : ∀ b ∈ M', b ∉ M → H b = none) : Same (del M H) (del M' H') := fun b o e => by
  have z := del_off e
  rw [del_at z] at e
  by_cases hb : b ∈ M'
  · rw [h b hb z] at e
    cases e
  · rw [del_at hb]
    exact s b o e z
theorem del_upd {M : List Addr} {H : Hp} {a : Addr} {o : HO} (h : a ∈ M) : del M (upd H a o) = del M H := by
  funext b
  unfold del
  by_cases hb : b ∈ M
  · rw [if_pos hb, if_pos hb]
  · rw [if_neg hb, if_neg hb, upd_ne (fun z => hb (by rw [z]; exact h))]
/-- ranges from 0, the turn's number as it is -/
theorem for_range0 {n : Nat} {g : TG} {tb : TS} {D : Ends} {σ : L2.St} {H : Hp} (Pv : Nat → L2.St → Hp → Prop) (h0 : Pv 0 σ H)
    (hs : ∀ i σ H, i < n → Pv i σ H → g (.int (i : Int)) σ H fun σ2 H2 => tb { D with nx := Pv (i + 1), ct := Pv (i + 1), bk := D.nx } σ2 H2) (hd : ∀ σ H, Pv n σ H → D.nx σ H) :
    ∃ W : Nat → Nat → L2.St → Hp → Prop, (∃ m, W 0 m σ H) ∧ ∀ i m σ H, W i m σ H →
      ((Itr 0 n).stop i H ∧ D.nx σ H) ∨ ((Itr 0 n).go i H ∧ ∃ N : L2.St → Hp → Prop, (∀ σ' H', N σ' H' → ∃ m', m' < m ∧ W (i + 1) m' σ' H') ∧ ∀ x H', (Itr 0 n).yld i H x H' → g x σ H' fun σ2 H2 => tb { D with nx := N, ct := N, bk := D.nx } σ2 H2) :=
  for_range (lo := 0) (n := n) Pv h0 (fun i σ H hi p => by rw [Int.zero_add]; exact hs i σ H hi p) hd
theorem for_rangeN {lo n : Nat} {z : Int} (hz : z = (lo : Int)) {g : TG} {tb : TS} {D : Ends} {σ : L2.St} {H : Hp} (Pv : Nat → L2.St → Hp → Prop) (h0 : Pv 0 σ H)
    (hs : ∀ i σ H, i < n → Pv i σ H → g (.int ((lo + i : Nat) : Int)) σ H fun σ2 H2 => tb { D with nx := Pv (i + 1), ct := Pv (i + 1), bk := D.nx } σ2 H2) (hd : ∀ σ H, Pv n σ H → D.nx σ H) :
    ∃ W : Nat → Nat → L2.St → Hp → Prop, (∃ m, W 0 m σ H) ∧ ∀ i m σ H, W i m σ H →
      ((Itr z n).stop i H ∧ D.nx σ H) ∨ ((Itr z n).go i H ∧ ∃ N : L2.St → Hp → Prop, (∀ σ' H', N σ' H' → ∃ m', m' < m ∧ W (i + 1) m' σ' H') ∧ ∀ x H', (Itr z n).yld i H x H' → g x σ H' fun σ2 H2 => tb { D with nx := N, ct := N, bk := D.nx } σ2 H2) :=
  for_range (lo := z) (n := n) Pv h0 (fun i σ H hi p => by
    have e : z + (i : Int) = ((lo + i : Nat) : Int) := by omega
    rw [e]
    exact hs i σ H hi p) hd
theorem lc_range0 {n : Nat} {g : TG} {tt : TT} {te : TE} {vs : List Nat} {σ : L2.St} {H1 : Hp} {D : Addr} {Qd : Hp → Prop} (Pv : Nat → Hp → Prop) (h0 : Pv 0 (upd H1 D (.lst [])))
    (hs : ∀ i H, i < n → Pv i H → g (.int (i : Int)) (wipe σ vs) H fun σ2 H2 => wipe σ2 vs = wipe σ vs ∧ tt σ2 H2 fun b H3 =>
      if b = true then te σ2 H3 fun y H4 => ∃ acc, H4 D = some (.lst acc) ∧ acc.length < sizeLine ∧ Pv (i + 1) (upd H4 D (.lst (acc ++ [y]))) else Pv (i + 1) H3) (hd : ∀ H, Pv n H → Qd H) :
    ∃ W : Nat → Nat → Hp → Prop, (∃ m, W 0 m (upd H1 D (.lst []))) ∧ ∀ i m H, W i m H →
      ((Itr 0 n).stop i H ∧ Qd H) ∨ ((Itr 0 n).go i H ∧ ∃ Nx : Hp → Prop, (∀ H', Nx H' → ∃ m', m' < m ∧ W (i + 1) m' H') ∧ ∀ x H', (Itr 0 n).yld i H x H' → g x (wipe σ vs) H' fun σ2 H2 => wipe σ2 vs = wipe σ vs ∧ tt σ2 H2 fun b H3 =>
        if b = true then te σ2 H3 fun y H4 => ∃ acc, H4 D = some (.lst acc) ∧ acc.length < sizeLine ∧ Nx (upd H4 D (.lst (acc ++ [y]))) else Nx H3) :=
  lc_range (lo := 0) (n := n) Pv h0 (fun i H hi p => by rw [Int.zero_add]; exact hs i H hi p) hd
/-- fields: look up, put -/
theorem lk_here {k : Str} {v : V} {r : List (Str × V)} : List.lookup k ((k, v) :: r) = some v := by
  have e : (k == k) = true := beq_self_eq_true k
  simp only [List.lookup, e]
theorem lk_past {k g : Str} {v : V} {r : List (Str × V)} (h : (k == g) = false) : List.lookup k ((g, v) :: r) = List.lookup k r := by
  simp only [List.lookup, h]
theorem put_here {f : Str} {v x : V} {r : List (Str × V)} : putF f v ((f, x) :: r) = (f, v) :: r := if_pos rfl
theorem put_past {f g : Str} {v x : V} {r : List (Str × V)} (h : ¬ g = f) : putF f v ((g, x) :: r) = (g, x) :: putF f v r := if_neg h
theorem put_nil {f : Str} {v : V} : putF f v [] = [(f, v)] := rfl
theorem lk_Blocks_energies {v0 v1 v2 : V} : List.lookup ("energies" : Str) ([("energies", v0), ("times", v1), ("flags", v2)] : List (Str × V)) = some v0 := lk_here
theorem lk_Blocks_times {v0 v1 v2 : V} : List.lookup ("times" : Str) ([("energies", v0), ("times", v1), ("flags", v2)] : List (Str × V)) = some v1 := (lk_past (by decide +kernel)).trans (lk_here)
theorem lk_Blocks_flags {v0 v1 v2 : V} : List.lookup ("flags" : Str) ([("energies", v0), ("times", v1), ("flags", v2)] : List (Str × V)) = some v2 := (lk_past (by decide +kernel)).trans ((lk_past (by decide +kernel)).trans (lk_here))
theorem no_Blocks_put {v0 v1 v2 : V} : List.lookup ("put" : Str) ([("energies", v0), ("times", v1), ("flags", v2)] : List (Str × V)) = none := (lk_past (by decide +kernel)).trans ((lk_past (by decide +kernel)).trans ((lk_past (by decide +kernel)).trans (rfl)))
theorem put_Blocks_energies {v0 v1 v2 x : V} : putF "energies" x ([("energies", v0), ("times", v1), ("flags", v2)] : List (Str × V)) = ([("energies", x), ("times", v1), ("flags", v2)] : List (Str × V)) := put_here
theorem ini_Blocks_energies {x : V} : putF "energies" x ([] : List (Str × V)) = ([("energies", x)] : List (Str × V)) := put_nil
theorem put_Blocks_times {v0 v1 v2 x : V} : putF "times" x ([("energies", v0), ("times", v1), ("flags", v2)] : List (Str × V)) = ([("energies", v0), ("times", x), ("flags", v2)] : List (Str × V)) := (put_past (by decide +kernel)).trans (congrArg _ (put_here))
theorem ini_Blocks_times {v0 x : V} : putF "times" x ([("energies", v0)] : List (Str × V)) = ([("energies", v0), ("times", x)] : List (Str × V)) := (put_past (by decide +kernel)).trans (congrArg _ (put_nil))
theorem put_Blocks_flags {v0 v1 v2 x : V} : putF "flags" x ([("energies", v0), ("times", v1), ("flags", v2)] : List (Str × V)) = ([("energies", v0), ("times", v1), ("flags", x)] : List (Str × V)) := (put_past (by decide +kernel)).trans (congrArg _ ((put_past (by decide +kernel)).trans (congrArg _ (put_here))))
theorem ini_Blocks_flags {v0 v1 x : V} : putF "flags" x ([("energies", v0), ("times", v1)] : List (Str × V)) = ([("energies", v0), ("times", v1), ("flags", x)] : List (Str × V)) := (put_past (by decide +kernel)).trans (congrArg _ ((put_past (by decide +kernel)).trans (congrArg _ (put_nil))))
theorem lk3_Cluster_seed {v0 v1 v2 : V} : List.lookup ("seed" : Str) ([("seed", v0), ("parts", v1), ("energy", v2)] : List (Str × V)) = some v0 := lk_here
theorem lk3_Cluster_parts {v0 v1 v2 : V} : List.lookup ("parts" : Str) ([("seed", v0), ("parts", v1), ("energy", v2)] : List (Str × V)) = some v1 := (lk_past (by decide +kernel)).trans (lk_here)
theorem lk3_Cluster_energy {v0 v1 v2 : V} : List.lookup ("energy" : Str) ([("seed", v0), ("parts", v1), ("energy", v2)] : List (Str × V)) = some v2 := (lk_past (by decide +kernel)).trans ((lk_past (by decide +kernel)).trans (lk_here))
theorem no3_Cluster_own_column {v0 v1 v2 : V} : List.lookup ("own_column" : Str) ([("seed", v0), ("parts", v1), ("energy", v2)] : List (Str × V)) = none := (lk_past (by decide +kernel)).trans ((lk_past (by decide +kernel)).trans ((lk_past (by decide +kernel)).trans (rfl)))
theorem no3_Cluster_own_row {v0 v1 v2 : V} : List.lookup ("own_row" : Str) ([("seed", v0), ("parts", v1), ("energy", v2)] : List (Str × V)) = none := (lk_past (by decide +kernel)).trans ((lk_past (by decide +kernel)).trans ((lk_past (by decide +kernel)).trans (rfl)))
theorem no3_Cluster_time_by {v0 v1 v2 : V} : List.lookup ("time_by" : Str) ([("seed", v0), ("parts", v1), ("energy", v2)] : List (Str × V)) = none := (lk_past (by decide +kernel)).trans ((lk_past (by decide +kernel)).trans ((lk_past (by decide +kernel)).trans (rfl)))
theorem no3_Cluster_flag_by {v0 v1 v2 : V} : List.lookup ("flag_by" : Str) ([("seed", v0), ("parts", v1), ("energy", v2)] : List (Str × V)) = none := (lk_past (by decide +kernel)).trans ((lk_past (by decide +kernel)).trans ((lk_past (by decide +kernel)).trans (rfl)))
theorem lk4_Cluster_seed {v0 v1 v2 v3 : V} : List.lookup ("seed" : Str) ([("seed", v0), ("parts", v1), ("energy", v2), ("column", v3)] : List (Str × V)) = some v0 := lk_here
theorem lk4_Cluster_parts {v0 v1 v2 v3 : V} : List.lookup ("parts" : Str) ([("seed", v0), ("parts", v1), ("energy", v2), ("column", v3)] : List (Str × V)) = some v1 := (lk_past (by decide +kernel)).trans (lk_here)
theorem lk4_Cluster_energy {v0 v1 v2 v3 : V} : List.lookup ("energy" : Str) ([("seed", v0), ("parts", v1), ("energy", v2), ("column", v3)] : List (Str × V)) = some v2 := (lk_past (by decide +kernel)).trans ((lk_past (by decide +kernel)).trans (lk_here))
theorem lk4_Cluster_column {v0 v1 v2 v3 : V} : List.lookup ("column" : Str) ([("seed", v0), ("parts", v1), ("energy", v2), ("column", v3)] : List (Str × V)) = some v3 := (lk_past (by decide +kernel)).trans ((lk_past (by decide +kernel)).trans ((lk_past (by decide +kernel)).trans (lk_here)))
theorem no4_Cluster_own_column {v0 v1 v2 v3 : V} : List.lookup ("own_column" : Str) ([("seed", v0), ("parts", v1), ("energy", v2), ("column", v3)] : List (Str × V)) = none := (lk_past (by decide +kernel)).trans ((lk_past (by decide +kernel)).trans ((lk_past (by decide +kernel)).trans ((lk_past (by decide +kernel)).trans (rfl))))
theorem no4_Cluster_own_row {v0 v1 v2 v3 : V} : List.lookup ("own_row" : Str) ([("seed", v0), ("parts", v1), ("energy", v2), ("column", v3)] : List (Str × V)) = none := (lk_past (by decide +kernel)).trans ((lk_past (by decide +kernel)).trans ((lk_past (by decide +kernel)).trans ((lk_past (by decide +kernel)).trans (rfl))))
theorem no4_Cluster_time_by {v0 v1 v2 v3 : V} : List.lookup ("time_by" : Str) ([("seed", v0), ("parts", v1), ("energy", v2), ("column", v3)] : List (Str × V)) = none := (lk_past (by decide +kernel)).trans ((lk_past (by decide +kernel)).trans ((lk_past (by decide +kernel)).trans ((lk_past (by decide +kernel)).trans (rfl))))
theorem no4_Cluster_flag_by {v0 v1 v2 v3 : V} : List.lookup ("flag_by" : Str) ([("seed", v0), ("parts", v1), ("energy", v2), ("column", v3)] : List (Str × V)) = none := (lk_past (by decide +kernel)).trans ((lk_past (by decide +kernel)).trans ((lk_past (by decide +kernel)).trans ((lk_past (by decide +kernel)).trans (rfl))))
theorem lk_Cluster_seed {v0 v1 v2 v3 v4 : V} : List.lookup ("seed" : Str) ([("seed", v0), ("parts", v1), ("energy", v2), ("column", v3), ("row", v4)] : List (Str × V)) = some v0 := lk_here
theorem lk_Cluster_parts {v0 v1 v2 v3 v4 : V} : List.lookup ("parts" : Str) ([("seed", v0), ("parts", v1), ("energy", v2), ("column", v3), ("row", v4)] : List (Str × V)) = some v1 := (lk_past (by decide +kernel)).trans (lk_here)
theorem lk_Cluster_energy {v0 v1 v2 v3 v4 : V} : List.lookup ("energy" : Str) ([("seed", v0), ("parts", v1), ("energy", v2), ("column", v3), ("row", v4)] : List (Str × V)) = some v2 := (lk_past (by decide +kernel)).trans ((lk_past (by decide +kernel)).trans (lk_here))
theorem lk_Cluster_column {v0 v1 v2 v3 v4 : V} : List.lookup ("column" : Str) ([("seed", v0), ("parts", v1), ("energy", v2), ("column", v3), ("row", v4)] : List (Str × V)) = some v3 := (lk_past (by decide +kernel)).trans ((lk_past (by decide +kernel)).trans ((lk_past (by decide +kernel)).trans (lk_here)))
theorem lk_Cluster_row {v0 v1 v2 v3 v4 : V} : List.lookup ("row" : Str) ([("seed", v0), ("parts", v1), ("energy", v2), ("column", v3), ("row", v4)] : List (Str × V)) = some v4 := (lk_past (by decide +kernel)).trans ((lk_past (by decide +kernel)).trans ((lk_past (by decide +kernel)).trans ((lk_past (by decide +kernel)).trans (lk_here))))
theorem no_Cluster_own_column {v0 v1 v2 v3 v4 : V} : List.lookup ("own_column" : Str) ([("seed", v0), ("parts", v1), ("energy", v2), ("column", v3), ("row", v4)] : List (Str × V)) = none := (lk_past (by decide +kernel)).trans ((lk_past (by decide +kernel)).trans ((lk_past (by decide +kernel)).trans ((lk_past (by decide +kernel)).trans ((lk_past (by decide +kernel)).trans (rfl)))))
theorem no_Cluster_own_row {v0 v1 v2 v3 v4 : V} : List.lookup ("own_row" : Str) ([("seed", v0), ("parts", v1), ("energy", v2), ("column", v3), ("row", v4)] : List (Str × V)) = none := (lk_past (by decide +kernel)).trans ((lk_past (by decide +kernel)).trans ((lk_past (by decide +kernel)).trans ((lk_past (by decide +kernel)).trans ((lk_past (by decide +kernel)).trans (rfl)))))
theorem no_Cluster_time_by {v0 v1 v2 v3 v4 : V} : List.lookup ("time_by" : Str) ([("seed", v0), ("parts", v1), ("energy", v2), ("column", v3), ("row", v4)] : List (Str × V)) = none := (lk_past (by decide +kernel)).trans ((lk_past (by decide +kernel)).trans ((lk_past (by decide +kernel)).trans ((lk_past (by decide +kernel)).trans ((lk_past (by decide +kernel)).trans (rfl)))))
theorem no_Cluster_flag_by {v0 v1 v2 v3 v4 : V} : List.lookup ("flag_by" : Str) ([("seed", v0), ("parts", v1), ("energy", v2), ("column", v3), ("row", v4)] : List (Str × V)) = none := (lk_past (by decide +kernel)).trans ((lk_past (by decide +kernel)).trans ((lk_past (by decide +kernel)).trans ((lk_past (by decide +kernel)).trans ((lk_past (by decide +kernel)).trans (rfl)))))
theorem put_Cluster_seed {v0 v1 v2 v3 v4 x : V} : putF "seed" x ([("seed", v0), ("parts", v1), ("energy", v2), ("column", v3), ("row", v4)] : List (Str × V)) = ([("seed", x), ("parts", v1), ("energy", v2), ("column", v3), ("row", v4)] : List (Str × V)) := put_here
theorem ini_Cluster_seed {x : V} : putF "seed" x ([] : List (Str × V)) = ([("seed", x)] : List (Str × V)) := put_nil
theorem put_Cluster_parts {v0 v1 v2 v3 v4 x : V} : putF "parts" x ([("seed", v0), ("parts", v1), ("energy", v2), ("column", v3), ("row", v4)] : List (Str × V)) = ([("seed", v0), ("parts", x), ("energy", v2), ("column", v3), ("row", v4)] : List (Str × V)) := (put_past (by decide +kernel)).trans (congrArg _ (put_here))
theorem ini_Cluster_parts {v0 x : V} : putF "parts" x ([("seed", v0)] : List (Str × V)) = ([("seed", v0), ("parts", x)] : List (Str × V)) := (put_past (by decide +kernel)).trans (congrArg _ (put_nil))
theorem put_Cluster_energy {v0 v1 v2 v3 v4 x : V} : putF "energy" x ([("seed", v0), ("parts", v1), ("energy", v2), ("column", v3), ("row", v4)] : List (Str × V)) = ([("seed", v0), ("parts", v1), ("energy", x), ("column", v3), ("row", v4)] : List (Str × V)) := (put_past (by decide +kernel)).trans (congrArg _ ((put_past (by decide +kernel)).trans (congrArg _ (put_here))))
theorem ini_Cluster_energy {v0 v1 x : V} : putF "energy" x ([("seed", v0), ("parts", v1)] : List (Str × V)) = ([("seed", v0), ("parts", v1), ("energy", x)] : List (Str × V)) := (put_past (by decide +kernel)).trans (congrArg _ ((put_past (by decide +kernel)).trans (congrArg _ (put_nil))))
theorem put_Cluster_column {v0 v1 v2 v3 v4 x : V} : putF "column" x ([("seed", v0), ("parts", v1), ("energy", v2), ("column", v3), ("row", v4)] : List (Str × V)) = ([("seed", v0), ("parts", v1), ("energy", v2), ("column", x), ("row", v4)] : List (Str × V)) := (put_past (by decide +kernel)).trans (congrArg _ ((put_past (by decide +kernel)).trans (congrArg _ ((put_past (by decide +kernel)).trans (congrArg _ (put_here))))))
theorem ini_Cluster_column {v0 v1 v2 x : V} : putF "column" x ([("seed", v0), ("parts", v1), ("energy", v2)] : List (Str × V)) = ([("seed", v0), ("parts", v1), ("energy", v2), ("column", x)] : List (Str × V)) := (put_past (by decide +kernel)).trans (congrArg _ ((put_past (by decide +kernel)).trans (congrArg _ ((put_past (by decide +kernel)).trans (congrArg _ (put_nil))))))
theorem put_Cluster_row {v0 v1 v2 v3 v4 x : V} : putF "row" x ([("seed", v0), ("parts", v1), ("energy", v2), ("column", v3), ("row", v4)] : List (Str × V)) = ([("seed", v0), ("parts", v1), ("energy", v2), ("column", v3), ("row", x)] : List (Str × V)) := (put_past (by decide +kernel)).trans (congrArg _ ((put_past (by decide +kernel)).trans (congrArg _ ((put_past (by decide +kernel)).trans (congrArg _ ((put_past (by decide +kernel)).trans (congrArg _ (put_here))))))))
theorem ini_Cluster_row {v0 v1 v2 v3 x : V} : putF "row" x ([("seed", v0), ("parts", v1), ("energy", v2), ("column", v3)] : List (Str × V)) = ([("seed", v0), ("parts", v1), ("energy", v2), ("column", v3), ("row", x)] : List (Str × V)) := (put_past (by decide +kernel)).trans (congrArg _ ((put_past (by decide +kernel)).trans (congrArg _ ((put_past (by decide +kernel)).trans (congrArg _ ((put_past (by decide +kernel)).trans (congrArg _ (put_nil))))))))
theorem lk_Pseudojet_energy {v0 v1 v2 v3 : V} : List.lookup ("energy" : Str) ([("energy", v0), ("column", v1), ("row", v2), ("clusters", v3)] : List (Str × V)) = some v0 := lk_here
theorem lk_Pseudojet_column {v0 v1 v2 v3 : V} : List.lookup ("column" : Str) ([("energy", v0), ("column", v1), ("row", v2), ("clusters", v3)] : List (Str × V)) = some v1 := (lk_past (by decide +kernel)).trans (lk_here)
theorem lk_Pseudojet_row {v0 v1 v2 v3 : V} : List.lookup ("row" : Str) ([("energy", v0), ("column", v1), ("row", v2), ("clusters", v3)] : List (Str × V)) = some v2 := (lk_past (by decide +kernel)).trans ((lk_past (by decide +kernel)).trans (lk_here))
theorem lk_Pseudojet_clusters {v0 v1 v2 v3 : V} : List.lookup ("clusters" : Str) ([("energy", v0), ("column", v1), ("row", v2), ("clusters", v3)] : List (Str × V)) = some v3 := (lk_past (by decide +kernel)).trans ((lk_past (by decide +kernel)).trans ((lk_past (by decide +kernel)).trans (lk_here)))
theorem put_Pseudojet_energy {v0 v1 v2 v3 x : V} : putF "energy" x ([("energy", v0), ("column", v1), ("row", v2), ("clusters", v3)] : List (Str × V)) = ([("energy", x), ("column", v1), ("row", v2), ("clusters", v3)] : List (Str × V)) := put_here
theorem ini_Pseudojet_energy {x : V} : putF "energy" x ([] : List (Str × V)) = ([("energy", x)] : List (Str × V)) := put_nil
theorem put_Pseudojet_column {v0 v1 v2 v3 x : V} : putF "column" x ([("energy", v0), ("column", v1), ("row", v2), ("clusters", v3)] : List (Str × V)) = ([("energy", v0), ("column", x), ("row", v2), ("clusters", v3)] : List (Str × V)) := (put_past (by decide +kernel)).trans (congrArg _ (put_here))
theorem ini_Pseudojet_column {v0 x : V} : putF "column" x ([("energy", v0)] : List (Str × V)) = ([("energy", v0), ("column", x)] : List (Str × V)) := (put_past (by decide +kernel)).trans (congrArg _ (put_nil))
theorem put_Pseudojet_row {v0 v1 v2 v3 x : V} : putF "row" x ([("energy", v0), ("column", v1), ("row", v2), ("clusters", v3)] : List (Str × V)) = ([("energy", v0), ("column", v1), ("row", x), ("clusters", v3)] : List (Str × V)) := (put_past (by decide +kernel)).trans (congrArg _ ((put_past (by decide +kernel)).trans (congrArg _ (put_here))))
theorem ini_Pseudojet_row {v0 v1 x : V} : putF "row" x ([("energy", v0), ("column", v1)] : List (Str × V)) = ([("energy", v0), ("column", v1), ("row", x)] : List (Str × V)) := (put_past (by decide +kernel)).trans (congrArg _ ((put_past (by decide +kernel)).trans (congrArg _ (put_nil))))
theorem put_Pseudojet_clusters {v0 v1 v2 v3 x : V} : putF "clusters" x ([("energy", v0), ("column", v1), ("row", v2), ("clusters", v3)] : List (Str × V)) = ([("energy", v0), ("column", v1), ("row", v2), ("clusters", x)] : List (Str × V)) := (put_past (by decide +kernel)).trans (congrArg _ ((put_past (by decide +kernel)).trans (congrArg _ ((put_past (by decide +kernel)).trans (congrArg _ (put_here))))))
theorem ini_Pseudojet_clusters {v0 v1 v2 x : V} : putF "clusters" x ([("energy", v0), ("column", v1), ("row", v2)] : List (Str × V)) = ([("energy", v0), ("column", v1), ("row", v2), ("clusters", x)] : List (Str × V)) := (put_past (by decide +kernel)).trans (congrArg _ ((put_past (by decide +kernel)).trans (congrArg _ ((put_past (by decide +kernel)).trans (congrArg _ (put_nil))))))
theorem lk_Gain_mul {v0 v1 v2 : V} : List.lookup ("mul" : Str) ([("mul", v0), ("shift", v1), ("zero", v2)] : List (Str × V)) = some v0 := lk_here
theorem lk_Gain_shift {v0 v1 v2 : V} : List.lookup ("shift" : Str) ([("mul", v0), ("shift", v1), ("zero", v2)] : List (Str × V)) = some v1 := (lk_past (by decide +kernel)).trans (lk_here)
theorem lk_Gain_zero {v0 v1 v2 : V} : List.lookup ("zero" : Str) ([("mul", v0), ("shift", v1), ("zero", v2)] : List (Str × V)) = some v2 := (lk_past (by decide +kernel)).trans ((lk_past (by decide +kernel)).trans (lk_here))
theorem put_Gain_mul {v0 v1 v2 x : V} : putF "mul" x ([("mul", v0), ("shift", v1), ("zero", v2)] : List (Str × V)) = ([("mul", x), ("shift", v1), ("zero", v2)] : List (Str × V)) := put_here
theorem ini_Gain_mul {x : V} : putF "mul" x ([] : List (Str × V)) = ([("mul", x)] : List (Str × V)) := put_nil
theorem put_Gain_shift {v0 v1 v2 x : V} : putF "shift" x ([("mul", v0), ("shift", v1), ("zero", v2)] : List (Str × V)) = ([("mul", v0), ("shift", x), ("zero", v2)] : List (Str × V)) := (put_past (by decide +kernel)).trans (congrArg _ (put_here))
theorem ini_Gain_shift {v0 x : V} : putF "shift" x ([("mul", v0)] : List (Str × V)) = ([("mul", v0), ("shift", x)] : List (Str × V)) := (put_past (by decide +kernel)).trans (congrArg _ (put_nil))
theorem put_Gain_zero {v0 v1 v2 x : V} : putF "zero" x ([("mul", v0), ("shift", v1), ("zero", v2)] : List (Str × V)) = ([("mul", v0), ("shift", v1), ("zero", x)] : List (Str × V)) := (put_past (by decide +kernel)).trans (congrArg _ ((put_past (by decide +kernel)).trans (congrArg _ (put_here))))
theorem ini_Gain_zero {v0 v1 x : V} : putF "zero" x ([("mul", v0), ("shift", v1)] : List (Str × V)) = ([("mul", v0), ("shift", v1), ("zero", x)] : List (Str × V)) := (put_past (by decide +kernel)).trans (congrArg _ ((put_past (by decide +kernel)).trans (congrArg _ (put_nil))))
theorem lk_Calorimeter_least {v0 v1 v2 v3 v4 v5 v6 v7 v8 : V} : List.lookup ("least" : Str) ([("least", v0), ("low", v1), ("reach", v2), ("gains", v3), ("w", v4), ("v", v5), ("blocks", v6), ("clusters", v7), ("jets", v8)] : List (Str × V)) = some v0 := lk_here
theorem lk_Calorimeter_low {v0 v1 v2 v3 v4 v5 v6 v7 v8 : V} : List.lookup ("low" : Str) ([("least", v0), ("low", v1), ("reach", v2), ("gains", v3), ("w", v4), ("v", v5), ("blocks", v6), ("clusters", v7), ("jets", v8)] : List (Str × V)) = some v1 := (lk_past (by decide +kernel)).trans (lk_here)
theorem lk_Calorimeter_reach {v0 v1 v2 v3 v4 v5 v6 v7 v8 : V} : List.lookup ("reach" : Str) ([("least", v0), ("low", v1), ("reach", v2), ("gains", v3), ("w", v4), ("v", v5), ("blocks", v6), ("clusters", v7), ("jets", v8)] : List (Str × V)) = some v2 := (lk_past (by decide +kernel)).trans ((lk_past (by decide +kernel)).trans (lk_here))
theorem lk_Calorimeter_gains {v0 v1 v2 v3 v4 v5 v6 v7 v8 : V} : List.lookup ("gains" : Str) ([("least", v0), ("low", v1), ("reach", v2), ("gains", v3), ("w", v4), ("v", v5), ("blocks", v6), ("clusters", v7), ("jets", v8)] : List (Str × V)) = some v3 := (lk_past (by decide +kernel)).trans ((lk_past (by decide +kernel)).trans ((lk_past (by decide +kernel)).trans (lk_here)))
theorem lk_Calorimeter_w {v0 v1 v2 v3 v4 v5 v6 v7 v8 : V} : List.lookup ("w" : Str) ([("least", v0), ("low", v1), ("reach", v2), ("gains", v3), ("w", v4), ("v", v5), ("blocks", v6), ("clusters", v7), ("jets", v8)] : List (Str × V)) = some v4 := (lk_past (by decide +kernel)).trans ((lk_past (by decide +kernel)).trans ((lk_past (by decide +kernel)).trans ((lk_past (by decide +kernel)).trans (lk_here))))
theorem lk_Calorimeter_v {v0 v1 v2 v3 v4 v5 v6 v7 v8 : V} : List.lookup ("v" : Str) ([("least", v0), ("low", v1), ("reach", v2), ("gains", v3), ("w", v4), ("v", v5), ("blocks", v6), ("clusters", v7), ("jets", v8)] : List (Str × V)) = some v5 := (lk_past (by decide +kernel)).trans ((lk_past (by decide +kernel)).trans ((lk_past (by decide +kernel)).trans ((lk_past (by decide +kernel)).trans ((lk_past (by decide +kernel)).trans (lk_here)))))
theorem lk_Calorimeter_blocks {v0 v1 v2 v3 v4 v5 v6 v7 v8 : V} : List.lookup ("blocks" : Str) ([("least", v0), ("low", v1), ("reach", v2), ("gains", v3), ("w", v4), ("v", v5), ("blocks", v6), ("clusters", v7), ("jets", v8)] : List (Str × V)) = some v6 := (lk_past (by decide +kernel)).trans ((lk_past (by decide +kernel)).trans ((lk_past (by decide +kernel)).trans ((lk_past (by decide +kernel)).trans ((lk_past (by decide +kernel)).trans ((lk_past (by decide +kernel)).trans (lk_here))))))
theorem lk_Calorimeter_clusters {v0 v1 v2 v3 v4 v5 v6 v7 v8 : V} : List.lookup ("clusters" : Str) ([("least", v0), ("low", v1), ("reach", v2), ("gains", v3), ("w", v4), ("v", v5), ("blocks", v6), ("clusters", v7), ("jets", v8)] : List (Str × V)) = some v7 := (lk_past (by decide +kernel)).trans ((lk_past (by decide +kernel)).trans ((lk_past (by decide +kernel)).trans ((lk_past (by decide +kernel)).trans ((lk_past (by decide +kernel)).trans ((lk_past (by decide +kernel)).trans ((lk_past (by decide +kernel)).trans (lk_here)))))))
theorem lk_Calorimeter_jets {v0 v1 v2 v3 v4 v5 v6 v7 v8 : V} : List.lookup ("jets" : Str) ([("least", v0), ("low", v1), ("reach", v2), ("gains", v3), ("w", v4), ("v", v5), ("blocks", v6), ("clusters", v7), ("jets", v8)] : List (Str × V)) = some v8 := (lk_past (by decide +kernel)).trans ((lk_past (by decide +kernel)).trans ((lk_past (by decide +kernel)).trans ((lk_past (by decide +kernel)).trans ((lk_past (by decide +kernel)).trans ((lk_past (by decide +kernel)).trans ((lk_past (by decide +kernel)).trans ((lk_past (by decide +kernel)).trans (lk_here))))))))
theorem no_Calorimeter_forget {v0 v1 v2 v3 v4 v5 v6 v7 v8 : V} : List.lookup ("forget" : Str) ([("least", v0), ("low", v1), ("reach", v2), ("gains", v3), ("w", v4), ("v", v5), ("blocks", v6), ("clusters", v7), ("jets", v8)] : List (Str × V)) = none := (lk_past (by decide +kernel)).trans ((lk_past (by decide +kernel)).trans ((lk_past (by decide +kernel)).trans ((lk_past (by decide +kernel)).trans ((lk_past (by decide +kernel)).trans ((lk_past (by decide +kernel)).trans ((lk_past (by decide +kernel)).trans ((lk_past (by decide +kernel)).trans ((lk_past (by decide +kernel)).trans (rfl)))))))))
theorem put_Calorimeter_least {v0 v1 v2 v3 v4 v5 v6 v7 v8 x : V} : putF "least" x ([("least", v0), ("low", v1), ("reach", v2), ("gains", v3), ("w", v4), ("v", v5), ("blocks", v6), ("clusters", v7), ("jets", v8)] : List (Str × V)) = ([("least", x), ("low", v1), ("reach", v2), ("gains", v3), ("w", v4), ("v", v5), ("blocks", v6), ("clusters", v7), ("jets", v8)] : List (Str × V)) := put_here
theorem ini_Calorimeter_least {x : V} : putF "least" x ([] : List (Str × V)) = ([("least", x)] : List (Str × V)) := put_nil
theorem put_Calorimeter_low {v0 v1 v2 v3 v4 v5 v6 v7 v8 x : V} : putF "low" x ([("least", v0), ("low", v1), ("reach", v2), ("gains", v3), ("w", v4), ("v", v5), ("blocks", v6), ("clusters", v7), ("jets", v8)] : List (Str × V)) = ([("least", v0), ("low", x), ("reach", v2), ("gains", v3), ("w", v4), ("v", v5), ("blocks", v6), ("clusters", v7), ("jets", v8)] : List (Str × V)) := (put_past (by decide +kernel)).trans (congrArg _ (put_here))
theorem ini_Calorimeter_low {v0 x : V} : putF "low" x ([("least", v0)] : List (Str × V)) = ([("least", v0), ("low", x)] : List (Str × V)) := (put_past (by decide +kernel)).trans (congrArg _ (put_nil))
theorem put_Calorimeter_reach {v0 v1 v2 v3 v4 v5 v6 v7 v8 x : V} : putF "reach" x ([("least", v0), ("low", v1), ("reach", v2), ("gains", v3), ("w", v4), ("v", v5), ("blocks", v6), ("clusters", v7), ("jets", v8)] : List (Str × V)) = ([("least", v0), ("low", v1), ("reach", x), ("gains", v3), ("w", v4), ("v", v5), ("blocks", v6), ("clusters", v7), ("jets", v8)] : List (Str × V)) := (put_past (by decide +kernel)).trans (congrArg _ ((put_past (by decide +kernel)).trans (congrArg _ (put_here))))
theorem ini_Calorimeter_reach {v0 v1 x : V} : putF "reach" x ([("least", v0), ("low", v1)] : List (Str × V)) = ([("least", v0), ("low", v1), ("reach", x)] : List (Str × V)) := (put_past (by decide +kernel)).trans (congrArg _ ((put_past (by decide +kernel)).trans (congrArg _ (put_nil))))
theorem put_Calorimeter_gains {v0 v1 v2 v3 v4 v5 v6 v7 v8 x : V} : putF "gains" x ([("least", v0), ("low", v1), ("reach", v2), ("gains", v3), ("w", v4), ("v", v5), ("blocks", v6), ("clusters", v7), ("jets", v8)] : List (Str × V)) = ([("least", v0), ("low", v1), ("reach", v2), ("gains", x), ("w", v4), ("v", v5), ("blocks", v6), ("clusters", v7), ("jets", v8)] : List (Str × V)) := (put_past (by decide +kernel)).trans (congrArg _ ((put_past (by decide +kernel)).trans (congrArg _ ((put_past (by decide +kernel)).trans (congrArg _ (put_here))))))
theorem ini_Calorimeter_gains {v0 v1 v2 x : V} : putF "gains" x ([("least", v0), ("low", v1), ("reach", v2)] : List (Str × V)) = ([("least", v0), ("low", v1), ("reach", v2), ("gains", x)] : List (Str × V)) := (put_past (by decide +kernel)).trans (congrArg _ ((put_past (by decide +kernel)).trans (congrArg _ ((put_past (by decide +kernel)).trans (congrArg _ (put_nil))))))
theorem put_Calorimeter_w {v0 v1 v2 v3 v4 v5 v6 v7 v8 x : V} : putF "w" x ([("least", v0), ("low", v1), ("reach", v2), ("gains", v3), ("w", v4), ("v", v5), ("blocks", v6), ("clusters", v7), ("jets", v8)] : List (Str × V)) = ([("least", v0), ("low", v1), ("reach", v2), ("gains", v3), ("w", x), ("v", v5), ("blocks", v6), ("clusters", v7), ("jets", v8)] : List (Str × V)) := (put_past (by decide +kernel)).trans (congrArg _ ((put_past (by decide +kernel)).trans (congrArg _ ((put_past (by decide +kernel)).trans (congrArg _ ((put_past (by decide +kernel)).trans (congrArg _ (put_here))))))))
theorem ini_Calorimeter_w {v0 v1 v2 v3 x : V} : putF "w" x ([("least", v0), ("low", v1), ("reach", v2), ("gains", v3)] : List (Str × V)) = ([("least", v0), ("low", v1), ("reach", v2), ("gains", v3), ("w", x)] : List (Str × V)) := (put_past (by decide +kernel)).trans (congrArg _ ((put_past (by decide +kernel)).trans (congrArg _ ((put_past (by decide +kernel)).trans (congrArg _ ((put_past (by decide +kernel)).trans (congrArg _ (put_nil))))))))
theorem put_Calorimeter_v {v0 v1 v2 v3 v4 v5 v6 v7 v8 x : V} : putF "v" x ([("least", v0), ("low", v1), ("reach", v2), ("gains", v3), ("w", v4), ("v", v5), ("blocks", v6), ("clusters", v7), ("jets", v8)] : List (Str × V)) = ([("least", v0), ("low", v1), ("reach", v2), ("gains", v3), ("w", v4), ("v", x), ("blocks", v6), ("clusters", v7), ("jets", v8)] : List (Str × V)) := (put_past (by decide +kernel)).trans (congrArg _ ((put_past (by decide +kernel)).trans (congrArg _ ((put_past (by decide +kernel)).trans (congrArg _ ((put_past (by decide +kernel)).trans (congrArg _ ((put_past (by decide +kernel)).trans (congrArg _ (put_here))))))))))
theorem ini_Calorimeter_v {v0 v1 v2 v3 v4 x : V} : putF "v" x ([("least", v0), ("low", v1), ("reach", v2), ("gains", v3), ("w", v4)] : List (Str × V)) = ([("least", v0), ("low", v1), ("reach", v2), ("gains", v3), ("w", v4), ("v", x)] : List (Str × V)) := (put_past (by decide +kernel)).trans (congrArg _ ((put_past (by decide +kernel)).trans (congrArg _ ((put_past (by decide +kernel)).trans (congrArg _ ((put_past (by decide +kernel)).trans (congrArg _ ((put_past (by decide +kernel)).trans (congrArg _ (put_nil))))))))))
theorem put_Calorimeter_blocks {v0 v1 v2 v3 v4 v5 v6 v7 v8 x : V} : putF "blocks" x ([("least", v0), ("low", v1), ("reach", v2), ("gains", v3), ("w", v4), ("v", v5), ("blocks", v6), ("clusters", v7), ("jets", v8)] : List (Str × V)) = ([("least", v0), ("low", v1), ("reach", v2), ("gains", v3), ("w", v4), ("v", v5), ("blocks", x), ("clusters", v7), ("jets", v8)] : List (Str × V)) := (put_past (by decide +kernel)).trans (congrArg _ ((put_past (by decide +kernel)).trans (congrArg _ ((put_past (by decide +kernel)).trans (congrArg _ ((put_past (by decide +kernel)).trans (congrArg _ ((put_past (by decide +kernel)).trans (congrArg _ ((put_past (by decide +kernel)).trans (congrArg _ (put_here))))))))))))
theorem ini_Calorimeter_blocks {v0 v1 v2 v3 v4 v5 x : V} : putF "blocks" x ([("least", v0), ("low", v1), ("reach", v2), ("gains", v3), ("w", v4), ("v", v5)] : List (Str × V)) = ([("least", v0), ("low", v1), ("reach", v2), ("gains", v3), ("w", v4), ("v", v5), ("blocks", x)] : List (Str × V)) := (put_past (by decide +kernel)).trans (congrArg _ ((put_past (by decide +kernel)).trans (congrArg _ ((put_past (by decide +kernel)).trans (congrArg _ ((put_past (by decide +kernel)).trans (congrArg _ ((put_past (by decide +kernel)).trans (congrArg _ ((put_past (by decide +kernel)).trans (congrArg _ (put_nil))))))))))))
theorem put_Calorimeter_clusters {v0 v1 v2 v3 v4 v5 v6 v7 v8 x : V} : putF "clusters" x ([("least", v0), ("low", v1), ("reach", v2), ("gains", v3), ("w", v4), ("v", v5), ("blocks", v6), ("clusters", v7), ("jets", v8)] : List (Str × V)) = ([("least", v0), ("low", v1), ("reach", v2), ("gains", v3), ("w", v4), ("v", v5), ("blocks", v6), ("clusters", x), ("jets", v8)] : List (Str × V)) := (put_past (by decide +kernel)).trans (congrArg _ ((put_past (by decide +kernel)).trans (congrArg _ ((put_past (by decide +kernel)).trans (congrArg _ ((put_past (by decide +kernel)).trans (congrArg _ ((put_past (by decide +kernel)).trans (congrArg _ ((put_past (by decide +kernel)).trans (congrArg _ ((put_past (by decide +kernel)).trans (congrArg _ (put_here))))))))))))))
theorem ini_Calorimeter_clusters {v0 v1 v2 v3 v4 v5 v6 x : V} : putF "clusters" x ([("least", v0), ("low", v1), ("reach", v2), ("gains", v3), ("w", v4), ("v", v5), ("blocks", v6)] : List (Str × V)) = ([("least", v0), ("low", v1), ("reach", v2), ("gains", v3), ("w", v4), ("v", v5), ("blocks", v6), ("clusters", x)] : List (Str × V)) := (put_past (by decide +kernel)).trans (congrArg _ ((put_past (by decide +kernel)).trans (congrArg _ ((put_past (by decide +kernel)).trans (congrArg _ ((put_past (by decide +kernel)).trans (congrArg _ ((put_past (by decide +kernel)).trans (congrArg _ ((put_past (by decide +kernel)).trans (congrArg _ ((put_past (by decide +kernel)).trans (congrArg _ (put_nil))))))))))))))
theorem put_Calorimeter_jets {v0 v1 v2 v3 v4 v5 v6 v7 v8 x : V} : putF "jets" x ([("least", v0), ("low", v1), ("reach", v2), ("gains", v3), ("w", v4), ("v", v5), ("blocks", v6), ("clusters", v7), ("jets", v8)] : List (Str × V)) = ([("least", v0), ("low", v1), ("reach", v2), ("gains", v3), ("w", v4), ("v", v5), ("blocks", v6), ("clusters", v7), ("jets", x)] : List (Str × V)) := (put_past (by decide +kernel)).trans (congrArg _ ((put_past (by decide +kernel)).trans (congrArg _ ((put_past (by decide +kernel)).trans (congrArg _ ((put_past (by decide +kernel)).trans (congrArg _ ((put_past (by decide +kernel)).trans (congrArg _ ((put_past (by decide +kernel)).trans (congrArg _ ((put_past (by decide +kernel)).trans (congrArg _ ((put_past (by decide +kernel)).trans (congrArg _ (put_here))))))))))))))))
theorem ini_Calorimeter_jets {v0 v1 v2 v3 v4 v5 v6 v7 x : V} : putF "jets" x ([("least", v0), ("low", v1), ("reach", v2), ("gains", v3), ("w", v4), ("v", v5), ("blocks", v6), ("clusters", v7)] : List (Str × V)) = ([("least", v0), ("low", v1), ("reach", v2), ("gains", v3), ("w", v4), ("v", v5), ("blocks", v6), ("clusters", v7), ("jets", x)] : List (Str × V)) := (put_past (by decide +kernel)).trans (congrArg _ ((put_past (by decide +kernel)).trans (congrArg _ ((put_past (by decide +kernel)).trans (congrArg _ ((put_past (by decide +kernel)).trans (congrArg _ ((put_past (by decide +kernel)).trans (congrArg _ ((put_past (by decide +kernel)).trans (congrArg _ ((put_past (by decide +kernel)).trans (congrArg _ ((put_past (by decide +kernel)).trans (congrArg _ (put_nil))))))))))))))))
theorem lk_Desk_calorimeter {v0 : V} : List.lookup ("calorimeter" : Str) ([("calorimeter", v0)] : List (Str × V)) = some v0 := lk_here
theorem no_Desk_begin {v0 : V} : List.lookup ("begin" : Str) ([("calorimeter", v0)] : List (Str × V)) = none := (lk_past (by decide +kernel)).trans (rfl)
theorem no_Desk_answer {v0 : V} : List.lookup ("answer" : Str) ([("calorimeter", v0)] : List (Str × V)) = none := (lk_past (by decide +kernel)).trans (rfl)
theorem put_Desk_calorimeter {v0 x : V} : putF "calorimeter" x ([("calorimeter", v0)] : List (Str × V)) = ([("calorimeter", x)] : List (Str × V)) := put_here
theorem ini_Desk_calorimeter {x : V} : putF "calorimeter" x ([] : List (Str × V)) = ([("calorimeter", x)] : List (Str × V)) := put_nil
end Jb
end
section
set_option Elab.async false
set_option linter.all false
set_option maxHeartbeats 2000000
namespace Jb
/-! ### the neighbours of a block: what the program collects and sorts is the specification's list -/
def rowsNear (r : Int) : List Int := [(r - 1) % 32, r, (r + 1) % 32]
def okCol (o : Int) : Bool := decide (0 ≤ o) && decide (o < 32)
def colsNear (c : Int) : List Int := [c - 1, c, c + 1].filter okCol
def nbAll (b : Int) : List Int := (rowsNear (b / 32)).flatMap fun r => (colsNear (b % 32)).map fun c => 32 * r + c
def nbRaw (b : Int) : List Int := (nbAll b).filter fun o => !decide (o = b)
theorem mem_about {n k : Nat} : n ∈ Sj24.about k ↔ n < 1024 ∧ n ≠ k ∧ ((n / 32 + 32 - k / 32) % 32 = 0 ∨ (n / 32 + 32 - k / 32) % 32 = 1 ∨ (n / 32 + 32 - k / 32) % 32 = 31) ∧ n % 32 ≤ k % 32 + 1 ∧ k % 32 ≤ n % 32 + 1 := by
  simp only [Sj24.about, List.mem_filter, List.mem_range, bne_iff_ne, Bool.and_eq_true, Bool.or_eq_true, beq_iff_eq, decide_eq_true_eq, ne_eq]
  simp only [Sj24.BLOCKS, Sj24.SIDE]
  omega
theorem mem_cols {c x : Int} : x ∈ colsNear c ↔ (x = c - 1 ∨ x = c ∨ x = c + 1) ∧ 0 ≤ x ∧ x < 32 := by
  simp [colsNear, okCol]
theorem mem_rows {r x : Int} : x ∈ rowsNear r ↔ x = (r - 1) % 32 ∨ x = r ∨ x = (r + 1) % 32 := by
  simp [rowsNear]
theorem mem_nbRaw {b x : Int} : x ∈ nbRaw b ↔ x ≠ b ∧ ∃ r c, (r = (b / 32 - 1) % 32 ∨ r = b / 32 ∨ r = (b / 32 + 1) % 32) ∧ (c = b % 32 - 1 ∨ c = b % 32 ∨ c = b % 32 + 1) ∧ 0 ≤ c ∧ c < 32 ∧ x = 32 * r + c := by
  simp only [nbRaw, nbAll, List.mem_filter, List.mem_flatMap, List.mem_map, mem_rows, mem_cols, Bool.not_eq_true', decide_eq_false_iff_not]
  constructor
  · rintro ⟨⟨r, hr, c, ⟨hc, h0, h1⟩, rfl⟩, hn⟩
    exact ⟨hn, r, c, hr, hc, h0, h1, rfl⟩
  · rintro ⟨hn, r, c, hr, hc, h0, h1, rfl⟩
    exact ⟨⟨r, hr, c, ⟨hc, h0, h1⟩, rfl⟩, hn⟩
theorem about_mem {k : Nat} (hk : k < 1024) (x : Int) : x ∈ (Sj24.about k).map (fun n : Nat => (n : Int)) ↔ x ∈ nbRaw (k : Int) := by
  rw [List.mem_map, mem_nbRaw]
  constructor
  · rintro ⟨n, hn, rfl⟩
    rw [mem_about] at hn
    refine ⟨by omega, ((n / 32 : Nat) : Int), ((n % 32 : Nat) : Int), ?_, ?_, by omega, by omega, by omega⟩
    · omega
    · omega
  · rintro ⟨hn, r, c, hr, hc, h0, h1, rfl⟩
    have hr0 : 0 ≤ r ∧ r < 32 := by omega
    refine ⟨(32 * r + c).toNat, ?_, by omega⟩
    rw [mem_about]
    have e1 : (32 * r + c).toNat / 32 = r.toNat := by omega
    have e2 : (32 * r + c).toNat % 32 = c.toNat := by omega
    rw [e1, e2]
    omega
theorem about_sorted (k : Nat) : ((Sj24.about k).map (fun n : Nat => (n : Int))).Pairwise (· < ·) := by
  rw [List.pairwise_map]
  refine List.Pairwise.imp (R := fun a b : Nat => a < b) (fun {a b} h => by omega) ?_
  exact List.Pairwise.filter _ List.pairwise_lt_range
theorem nodup_of_lt {l : List Int} (h : l.Pairwise (· < ·)) : l.Nodup := h.imp fun {a b} h => by omega
theorem cols_nodup (c : Int) : (colsNear c).Nodup := by
  unfold colsNear
  refine List.Pairwise.filter _ ?_
  simp
  omega
theorem rows_nodup {r : Int} (h0 : 0 ≤ r) (h1 : r < 32) : (rowsNear r).Nodup := by
  simp [rowsNear]
  omega
theorem nbRaw_nodup {k : Nat} (hk : k < 1024) : (nbRaw (k : Int)).Nodup := by
  unfold nbRaw
  refine List.Pairwise.filter _ ?_
  show List.Pairwise (· ≠ ·) (nbAll (k : Int))
  unfold nbAll
  rw [List.pairwise_flatMap]
  constructor
  · intro r _
    rw [List.pairwise_map]
    exact (cols_nodup _).imp fun {a b} h e => h (by omega)
  · refine List.Pairwise.imp_of_mem (R := fun a b : Int => a ≠ b) ?_ (rows_nodup (by omega) (by omega))
    intro a b ha hb hab x hx y hy
    rw [List.mem_map] at hx hy
    obtain ⟨c, hc, rfl⟩ := hx
    obtain ⟨d, hd, rfl⟩ := hy
    rw [mem_cols] at hc hd
    omega
theorem about_eq {k : Nat} (hk : k < 1024) {ns : List Int} (hp : ns.Perm (nbRaw (k : Int))) (hs : ns.Pairwise (· ≤ ·)) : ns = (Sj24.about k).map fun n : Nat => (n : Int) := by
  refine List.Perm.eq_of_pairwise (le := (· ≤ ·)) (fun a b _ _ h1 h2 => by omega) hs ((about_sorted k).imp fun {a b} h => by omega) (hp.trans ?_)
  exact ((List.perm_ext_iff_of_nodup (nodup_of_lt (about_sorted k)) (nbRaw_nodup hk)).mpr (about_mem hk)).symm
theorem about_nodup (k : Nat) : (Sj24.about k).Nodup := by
  unfold Sj24.about
  exact List.Pairwise.filter _ List.nodup_range
end Jb
end
section
set_option Elab.async false
set_option linter.all false
set_option maxRecDepth 100000
set_option maxHeartbeats 2000000
namespace Jb
open PySem PySem.Spec PyProof.Rows L2
/-! ### blocks -/
def sp_row_of (K : PySem.W.Frag) (A : Ad) : Sp := fun vs H Q _ => ∃ b : Int, vs = [.int b] ∧ Q (.int (b / 32)) H
def sp_column_of (K : PySem.W.Frag) (A : Ad) : Sp := fun vs H Q _ => ∃ b : Int, vs = [.int b] ∧ Q (.int (b % 32)) H
def sp_block_at (K : PySem.W.Frag) (A : Ad) : Sp := fun vs H Q _ => ∃ r c : Int, vs = [.int r, .int c] ∧ Q (.int (32 * r + c)) H
def sp_rows_near (K : PySem.W.Frag) (A : Ad) : Sp := fun vs H Q _ => ∃ r : Int, vs = [.int r] ∧ ∀ p, H p = none → Q (.ref p) (upd H p (.lst ((rowsNear r).map V.int)))
def sp_columns_near (K : PySem.W.Frag) (A : Ad) : Sp := fun vs H Q _ => ∃ c : Int, vs = [.int c] ∧ ∀ p H', Same H H' → H p = none → H' p = some (.lst ((colsNear c).map V.int)) → Q (.ref p) H'
section
variable {P : Program} {w : World} {K : PySem.W.Frag} {mg : Str → Option Value} {base : Heap} {A : Ad}
theorem ok_row_of {f : Addr} {fd : FuncData} (F : Fun K "row_of" "row_of" s_row_of f fd) (T : Txt K mg A) : FnOk P w K mg base CX0 1 f fd ["block"] (sp_row_of K A) := by
  refine F.ok sc_row_of (fun vs H Q E h => ?_) (fun cdv _ outer s H vs Q E hr h => ?_)
  · obtain ⟨b, rfl, _⟩ := h
    rfl
  · obtain ⟨b, rfl, k⟩ := h
    refine ⟨_, (pss_one (ps_ret (pe_op op_fdivW (pv 0) (pe_cst rfl T.c_MANY_COLUMNS)))), ?_⟩
    exact ⟨_, rfl, _, _, rfl, rfl, ⟨by decide, by decide⟩, k⟩
theorem ok_column_of {f : Addr} {fd : FuncData} (F : Fun K "column_of" "column_of" s_column_of f fd) (T : Txt K mg A) : FnOk P w K mg base CX0 1 f fd ["block"] (sp_column_of K A) := by
  refine F.ok sc_column_of (fun vs H Q E h => ?_) (fun cdv _ outer s H vs Q E hr h => ?_)
  · obtain ⟨b, rfl, _⟩ := h
    rfl
  · obtain ⟨b, rfl, k⟩ := h
    refine ⟨_, (pss_one (ps_ret (pe_op op_mod (pv 0) (pe_cst rfl T.c_MANY_COLUMNS)))), ?_⟩
    exact ⟨_, rfl, _, _, rfl, rfl, (by decide : (0 : Int) < 32), k⟩
theorem ok_block_at {f : Addr} {fd : FuncData} (F : Fun K "block_at" "block_at" s_block_at f fd) (T : Txt K mg A) : FnOk P w K mg base CX0 1 f fd ["row", "column"] (sp_block_at K A) := by
  refine F.ok sc_block_at (fun vs H Q E h => ?_) (fun cdv _ outer s H vs Q E hr h => ?_)
  · obtain ⟨r, c, rfl, _⟩ := h
    rfl
  · obtain ⟨r, c, rfl, k⟩ := h
    refine ⟨_, (pss_one (ps_ret (pe_op op_add (pe_op op_mul (pe_cst rfl T.c_MANY_COLUMNS) (pv 0)) (pv 1)))), ?_⟩
    exact ⟨_, rfl, _, _, rfl, rfl, .inl ⟨by decide, by decide⟩, _, rfl, _, _, rfl, rfl, k⟩
theorem ok_rows_near {f : Addr} {fd : FuncData} (F : Fun K "rows_near" "rows_near" s_rows_near f fd) (T : Txt K mg A) : FnOk P w K mg base CX0 1 f fd ["row"] (sp_rows_near K A) := by
  refine F.ok sc_rows_near (fun vs H Q E h => ?_) (fun cdv _ outer s H vs Q E hr h => ?_)
  · obtain ⟨r, rfl, _⟩ := h
    rfl
  · obtain ⟨r, rfl, k⟩ := h
    refine ⟨_, (pss_one (ps_ret (pe_lst (pa_cons (pe_op op_mod (pe_op op_sub (pv 0) (pe_int)) (pe_cst rfl T.c_MANY_ROWS)) (pa_cons (pv 0) (pa_cons (pe_op op_mod (pe_op op_add (pv 0) (pe_int)) (pe_cst rfl T.c_MANY_ROWS)) pa_nil)))))), ?_⟩
    exact ⟨_, rfl, _, _, rfl, rfl, _, _, rfl, rfl, (by decide : (0 : Int) < 32), _, rfl, _, rfl, _, _, rfl, rfl, _, _, rfl, rfl, (by decide : (0 : Int) < 32), (by show 3 ≤ sizeLine; decide), k⟩
theorem ok_columns_near {f : Addr} {fd : FuncData} (F : Fun K "columns_near" "columns_near" s_columns_near f fd) (T : Txt K mg A) : FnOk P w K mg base CX0 1 f fd ["column"] (sp_columns_near K A) := by
  refine F.ok sc_columns_near (fun vs H Q E h => ?_) (fun cdv _ outer s H vs Q E hr h => ?_)
  · obtain ⟨r, rfl, _⟩ := h
    rfl
  · obtain ⟨c, rfl, k⟩ := h
    refine ⟨_, (pss_one (ps_ret (pe_lc (own := [("other", 1)]) (g := gName 1) rfl sc_columns_near.nd (pi_list (pe_lst (pa_cons (pe_op op_sub (pv 0) (pe_int)) (pa_cons (pv 0) (pa_cons (pe_op op_add (pv 0) (pe_int)) pa_nil))))) (blkOk_by (own := [("other", 1)]) (N := n_columns_near) (sc := defScope s_columns_near) (by decide +kernel)) (fun _ _ _ _ _ => (pg_name (i := 1) sc_columns_near.nd rfl (Or.inl rfl))) (fun _ _ _ _ _ => pts_one (PW.pt (pw_and (pt_cmpR op_le (pe_int) (pv 1) (nomark _)) (pw_and1 (pt_cmpR op_lt (pv 1) (pe_cst rfl T.c_MANY_COLUMNS) (nomark _)))))) (fun _ _ _ _ _ => pv 1)))), ?_⟩
    refine ⟨_, rfl, _, _, rfl, rfl, _, rfl, _, rfl, _, _, rfl, rfl, (by show 3 ≤ sizeLine; decide), fun L hL => ⟨L, rfl, ⟨_, .inl (.inl upd_same)⟩, fun D hD => ?_⟩⟩
    refine lc_list (K := K) (a := L) (xs := ([c - 1, c, c + 1] : List Int).map V.int) (LcP _ D fun i => ((([c - 1, c, c + 1] : List Int).take i).filter okCol).map V.int) (.start hD rfl) (fun i H _ p => p.same.seq (SqL.of upd_same)) ?_ ?_
    · intro i x H1 hx p
      obtain ⟨z, hz, rfl⟩ := map_some hx
      refine ⟨rfl, ?_⟩
      have step : ∀ b, okCol z = b → ((([c - 1, c, c + 1] : List Int).take (i + 1)).filter okCol).map V.int = ((([c - 1, c, c + 1] : List Int).take i).filter okCol).map V.int ++ (if b = true then [V.int z] else []) := by
        intro b hb
        rw [take_snoc hz, List.filter_append, List.map_append]
        congr 1
        simp only [List.filter, hb]
        cases b <;> rfl
      refine ⟨_, rfl, _, _, rfl, rfl, _, rfl, ?_⟩
      by_cases h0 : 0 ≤ z
      · refine ite_t (decide_eq_true h0) ?_
        refine ⟨_, rfl, _, _, rfl, rfl, _, rfl, ?_⟩
        by_cases h1 : z < 32
        · refine ite_t (decide_eq_true h1) ?_
          refine ⟨_, rfl, p.push hD (Same.refl _) ?_ (small' ?_)⟩
          · rw [step true (by simp [okCol, h0, h1])]; rfl
          · rw [List.length_map]
            refine Nat.le_trans (List.length_filter_le _ _) ?_
            rw [List.length_take]
            exact Nat.le_trans (Nat.min_le_right _ _) (by show 3 ≤ 1000000; decide)
        · refine ite_f (decide_eq_false h1) (p.skip (Same.refl _) ?_)
          rw [step false (by simp [okCol, h0, h1])]; simp
      · refine ite_f (decide_eq_false h0) (ite_f rfl (p.skip (Same.refl _) ?_))
        rw [step false (by simp [okCol, h0])]; simp
    · intro H1 p
      exact k D H1 ((Same.upd_new hL).trans p.same) ((Same.upd_new hL).free hD) p.at_
end
end Jb
end
section
set_option Elab.async false
set_option linter.all false
set_option maxHeartbeats 2000000
namespace Jb
open Sj24 (House)
/-! ### energies, seeds, owners -/
def es (h : House) : List Int := h.blocks.map fun b => b.e
theorem es_len {h : House} (hl : h.blocks.length = 1024) : (es h).length = 1024 := by
  unfold es
  rw [List.length_map, hl]
theorem es_get {h : House} (hl : h.blocks.length = 1024) {k : Nat} (hk : k < 1024) : (es h)[k]? = some (h.e k) := by
  unfold es House.e House.block
  rw [List.getElem?_map, List.getD_eq_getElem?_getD, List.getElem?_eq_getElem (by omega)]
  rfl
theorem seeds_contains {h : House} {k : Nat} (hk : k < 1024) : (Sj24.seeds h).contains k = Sj24.isSeed h k := by
  rw [Bool.eq_iff_iff, List.contains_iff_mem, Sj24.seeds, List.mem_filter, List.mem_range]
  exact ⟨fun x => x.2, fun x => ⟨hk, x⟩⟩
theorem seeds_mem {h : House} {k : Nat} (hk : k ∈ Sj24.seeds h) : k < 1024 ∧ Sj24.isSeed h k = true := by
  rw [Sj24.seeds, List.mem_filter, List.mem_range] at hk
  exact hk
theorem seeds_nodup (h : House) : (Sj24.seeds h).Nodup := List.Pairwise.filter _ List.nodup_range
theorem about_lt {n k : Nat} (h : n ∈ Sj24.about k) : n < 1024 := (mem_about.mp h).1
/-- what the loop of is_seed asks of a neighbour -/
def okBy (h : House) (b n : Nat) : Bool := decide (h.e n < h.e b) || (decide (h.e n = h.e b) && decide (b < n))
theorem isSeed_eq (h : House) (b : Nat) : Sj24.isSeed h b = (decide (h.seed ≤ h.e b) && (Sj24.about b).all (okBy h b)) := rfl
theorem okBy_false {h : House} {b n : Nat} (hn : n ≠ b) (x : h.e b < h.e n ∨ (h.e n = h.e b ∧ n < b)) : okBy h b n = false := by
  simp only [okBy, Bool.or_eq_false_iff, Bool.and_eq_false_iff, decide_eq_false_iff_not]
  omega
theorem okBy_true {h : House} {b n : Nat} (hn : n ≠ b) (x : ¬ h.e b < h.e n) (y : ¬ (h.e n = h.e b ∧ n < b)) : okBy h b n = true := by
  simp only [okBy, Bool.or_eq_true, Bool.and_eq_true, decide_eq_true_eq]
  omega
theorem about_len (k : Nat) : (Sj24.about k).length ≤ 1024 := by
  unfold Sj24.about
  refine Nat.le_trans (List.length_filter_le _ _) ?_
  rw [List.length_range]
  exact Nat.le_refl _
theorem owners_lt {h : House} {b n : Nat} (hb : b < 1024) (hn : n ∈ Sj24.owners h (Sj24.seeds h) b) : n < 1024 := by
  unfold Sj24.owners at hn
  split at hn
  · simp at hn; omega
  · split at hn
    · simp at hn
    · exact about_lt (List.mem_filter.mp hn).1
theorem owners_seed {h : House} {b n : Nat} (hn : n ∈ Sj24.owners h (Sj24.seeds h) b) : n ∈ Sj24.seeds h := by
  unfold Sj24.owners at hn
  split at hn
  · rename_i hs
    simp at hn
    subst hn
    exact List.contains_iff_mem.mp hs
  · split at hn
    · simp at hn
    · exact List.contains_iff_mem.mp (List.mem_filter.mp hn).2
theorem owners_nodup (h : House) (b : Nat) : (Sj24.owners h (Sj24.seeds h) b).Nodup := by
  unfold Sj24.owners
  split
  · simp
  · split
    · simp
    · exact List.Pairwise.filter _ (about_nodup b)
theorem owners_len (h : House) (b : Nat) : (Sj24.owners h (Sj24.seeds h) b).length ≤ 1024 := by
  unfold Sj24.owners
  split
  · simp
  · split
    · simp
    · exact Nat.le_trans (List.length_filter_le _ _) (about_len b)
theorem seed_pos {h : House} {n : Nat} (hs : 1 ≤ h.seed) (hn : n ∈ Sj24.seeds h) : 1 ≤ h.e n := by
  have q := (seeds_mem hn).2
  rw [isSeed_eq, Bool.and_eq_true] at q
  have := of_decide_eq_true q.1
  omega
end Jb
end
section
set_option Elab.async false
set_option linter.all false
set_option maxRecDepth 100000
set_option maxHeartbeats 2000000
namespace Jb
open PySem PySem.Spec PyProof.Rows L2
open Sj24 (House)
/-! ### neighbours, seeds, owners -/
def nV (l : List Nat) : List V := l.map fun n : Nat => V.int (n : Int)
theorem nV_len (l : List Nat) : (nV l).length = l.length := by
  unfold nV
  rw [List.length_map]
def marksV (h : House) : List V := (List.range 1024).map fun b => V.bl (Sj24.isSeed h b)
def sp_neighbours_of (K : PySem.W.Frag) (A : Ad) : Sp := fun vs H Q _ => ∃ b : Nat, vs = [.int b] ∧ b < 1024 ∧ ∀ p H', Same H H' → H p = none → H' p = some (.lst (nV (Sj24.about b))) → Q (.ref p) H'
def sp_rounded (K : PySem.W.Frag) (A : Ad) : Sp := fun vs H Q _ => ∃ a b : Int, vs = [.int a, .int b] ∧ 0 < b ∧ b < 2 ^ 64 ∧ Q (.int (Sj24.nearest a b)) H
def sp_is_from (K : PySem.W.Frag) (A : Ad) : Sp := fun vs H Q _ => ∃ z a b : Int, vs = [.int z, .int a, .int b] ∧ Q (.bl (Sj24.isIn a b z)) H
def sp_are_from (K : PySem.W.Frag) (A : Ad) : Sp := fun vs H Q _ => ∃ (p : Addr) (ns : List Int) (a b : Int), vs = [.ref p, .int a, .int b] ∧ SqL K H p (ns.map V.int) ∧ ns.length ≤ 1000 ∧ ∀ H', Same H H' → Q (.bl (ns.all (Sj24.isIn a b))) H'
def sp_is_seed (K : PySem.W.Frag) (A : Ad) : Sp := fun vs H Q _ => ∃ (h : House) (a : Addr) (b : Nat), vs = [.ref a, .int h.seed, .int b] ∧ h.blocks.length = 1024 ∧ b < 1024 ∧ SqL K H a ((es h).map V.int) ∧
  ∀ H', Same H H' → Q (.bl (Sj24.isSeed h b)) H'
def sp_marks_of (K : PySem.W.Frag) (A : Ad) : Sp := fun vs H Q _ => ∃ (h : House) (a : Addr), vs = [.ref a, .int h.seed] ∧ h.blocks.length = 1024 ∧ SqL K H a ((es h).map V.int) ∧
  ∀ p H', Same H H' → H p = none → H' p = some (.lst (marksV h)) → Q (.ref p) H'
def sp_owners_of (K : PySem.W.Frag) (A : Ad) : Sp := fun vs H Q _ => ∃ (h : House) (a m : Addr) (b : Nat), vs = [.ref a, .ref m, .int h.low, .int b] ∧ h.blocks.length = 1024 ∧ b < 1024 ∧ SqL K H a ((es h).map V.int) ∧ SqL K H m (marksV h) ∧
  ∀ p H', Same H H' → H p = none → H' p = some (.lst (nV (Sj24.owners h (Sj24.seeds h) b))) → Q (.ref p) H'
theorem es_at {h : House} (hl : h.blocks.length = 1024) {k : Nat} (hk : k < 1024) : atI ((es h).map V.int) (k : Int) = some (V.int (h.e k)) := atI_nat (by rw [List.getElem?_map, es_get hl hk]; rfl)
theorem marks_at {h : House} {k : Nat} (hk : k < 1024) : atI (marksV h) (k : Int) = some (V.bl (Sj24.isSeed h k)) := atI_nat (by
  unfold marksV
  rw [List.getElem?_map, List.getElem?_range hk]; rfl)
section
variable {P : Program} {w : World} {K : PySem.W.Frag} {mg : Str → Option Value} {base : Heap} {A : Ad}
theorem ok_neighbours_of {f : Addr} {fd : FuncData} (F : Fun K "neighbours_of" "neighbours_of" s_neighbours_of f fd) (T : Txt K mg A) (C_block_at : Cal P w K mg base 1 "block_at" ["row", "column"] (sp_block_at K A)) (C_column_of : Cal P w K mg base 1 "column_of" ["block"] (sp_column_of K A)) (C_columns_near : Cal P w K mg base 1 "columns_near" ["column"] (sp_columns_near K A)) (C_row_of : Cal P w K mg base 1 "row_of" ["block"] (sp_row_of K A)) (C_rows_near : Cal P w K mg base 1 "rows_near" ["row"] (sp_rows_near K A)) : FnOk P w K mg base CX0 2 f fd ["block"] (sp_neighbours_of K A) := by
  refine F.ok sc_neighbours_of (fun vs H Q E h => ?_) (fun cdv _ outer s H vs Q E hr h => ?_)
  · obtain ⟨b, rfl, _⟩ := h
    rfl
  · obtain ⟨b, rfl, hb, k⟩ := h
    refine ⟨_, (pss_cons (ps_set (i := 1) sc_neighbours_of.nd rfl (Or.inl rfl) (pe_lst pa_nil))
      (pss_cons (ps_for PassesOwn.never rfl (pi_list (pe_cal C_rows_near (hr.mono (by decide)) (by rfl) (pa_cons (pe_cal C_row_of (hr.mono (by decide)) (by rfl) (pa_cons (pv 0) pa_nil)) pa_nil))) (pg_name (i := 2) sc_neighbours_of.nd rfl (Or.inr rfl)) (pss_one (ps_expr (pe_bm PySem.F.plainAttrs_list PySem.F.slot_list_extend PySem.F.type_list_extend mt_extend (pv 1) (pa_cons (pe_lc (own := [("column", 3)]) (g := gName 3) (tt := tYes) rfl sc_neighbours_of.nd (pi_list (pe_cal C_columns_near (hr.mono (by decide)) (by rfl) (pa_cons (pe_cal C_column_of (hr.mono (by decide)) (by rfl) (pa_cons (pv 0) pa_nil)) pa_nil))) (blkOk_by (own := [("column", 3)]) (N := n_neighbours_of) (sc := defScope s_neighbours_of) (by decide +kernel)) (fun _ _ _ _ _ => (pg_name (i := 3) sc_neighbours_of.nd rfl (Or.inl rfl))) (fun _ _ _ _ _ => pts_nil) (fun _ _ _ _ _ => pe_cal C_block_at (hr.mono (by decide)) (by rfl) (pa_cons (pv 2) (pa_cons (pv 3) pa_nil)))) pa_nil)))))
      (pss_one (ps_ret (pe_callB cr_sortedI (by rfl) T.b_sorted (by decide +kernel) (pa_cons (pe_lc (own := [("other", 4)]) (g := gName 4) rfl sc_neighbours_of.nd (pi_list (pv 1)) (blkOk_by (own := [("other", 4)]) (N := n_neighbours_of) (sc := defScope s_neighbours_of) (by decide +kernel)) (fun _ _ _ _ _ => (pg_name (i := 4) sc_neighbours_of.nd rfl (Or.inl rfl))) (fun _ _ _ _ _ => pts_one (pt_cmpR op_neI (pv 4) (pv 0) (nomark _))) (fun _ _ _ _ _ => pv 4)) pa_nil)))))), ?_⟩
    refine ⟨Nat.zero_le _, fun L hL => ?_⟩
    refine ⟨_, rfl, _, rfl, _, rfl, fun R hR => ⟨R, rfl, ⟨_, SqL.of upd_same⟩, ?_⟩⟩
    refine for_list (K := K) (a := R) (xs := (rowsNear ((b : Int) / 32)).map V.int) (fun i σ H' => ∃ v : Option V, σ = [some (.int b), some (.ref L), v, none, none] ∧ Same H H' ∧ H' R = some (.lst ((rowsNear ((b : Int) / 32)).map V.int)) ∧
        H' L = some (.lst ((((rowsNear ((b : Int) / 32)).take i).flatMap fun r => (colsNear ((b : Int) % 32)).map fun c => 32 * r + c).map V.int)))
      ⟨none, rfl, (Same.upd_new hL).trans (Same.upd_new hR), upd_same, by rw [upd_ne (ne_of_none upd_same hR), upd_same]; rfl⟩ (fun i σ H' _ ⟨_, _, _, q, _⟩ => SqL.of q) ?_ ?_
    · rintro i y σ H1 hi ⟨v, rfl, s1, hr1, hl1⟩
      obtain ⟨r, hz, rfl⟩ := map_some hi
      refine ⟨_, rfl, .inl ⟨rfl, _, SqL.of hl1⟩, ?_⟩
      refine ⟨_, rfl, _, rfl, _, rfl, fun p H2 s2 hp e2 => ⟨p, rfl, ⟨_, SqL.of e2⟩, fun D hD => ?_⟩⟩
      refine lc_list (K := K) (a := p) (xs := (colsNear ((b : Int) % 32)).map V.int) (LcP _ D fun i => (((colsNear ((b : Int) % 32)).take i).map fun c => 32 * r + c).map V.int) (.start hD rfl) (fun i H _ q => q.same.seq (SqL.of e2)) ?_ ?_
      · intro j x H3 hx q
        obtain ⟨c, hc, rfl⟩ := map_some hx
        refine ⟨rfl, _, rfl, _, rfl, r, c, rfl, q.push hD (Same.refl _) ?_ (small' ?_)⟩
        · rw [take_snoc hc, List.map_append, List.map_append]; rfl
        · rw [List.length_map, List.length_map, List.length_take]
          refine Nat.le_trans (Nat.min_le_right _ _) ?_
          unfold colsNear
          refine Nat.le_trans (List.length_filter_le _ _) (by show 3 ≤ 1000000; decide)
      · intro H3 q
        have e3 : H3 D = some (.lst (((colsNear ((b : Int) % 32)).map fun c => 32 * r + c).map V.int)) := by
          rw [q.at_, List.length_map, List.take_length]
        have nDL : L ≠ D := fun z => by
          rw [← z] at hD
          rw [s2 _ _ hl1] at hD
          cases hD
        have sl := q.same _ _ (s2 _ _ hl1)
        refine ⟨L, D, _, _, rfl, rfl, sl, e3, ?_, ?_⟩
        · refine small ?_
          have h1 : ((rowsNear ((b : Int) / 32)).take i).length ≤ 3 := by
            rw [List.length_take]
            exact Nat.min_le_right _ _
          have h2 : ∀ (l : List Int), ((l.flatMap fun r => (colsNear ((b : Int) % 32)).map fun c => 32 * r + c)).length ≤ 3 * l.length := by
            intro l
            induction l with
            | nil => simp
            | cons x l ih =>
              rw [List.flatMap_cons, List.length_append, List.length_map, List.length_cons]
              have : (colsNear ((b : Int) % 32)).length ≤ 3 := List.length_filter_le _ _
              omega
          have h3 : (colsNear ((b : Int) % 32)).length ≤ 3 := List.length_filter_le _ _
          have := h2 ((rowsNear ((b : Int) / 32)).take i)
          simp only [List.length_map]
          omega
        · have s3 := s2.trans q.same
          refine ⟨_, rfl, fun a o e => ?_, ?_, ?_⟩
          · rw [upd_ne (ne_of_none e hL)]
            exact s3 _ _ (s1 _ _ e)
          · rw [upd_ne (ne_of_none (H := upd H L (.lst [])) upd_same hR).symm]
            exact s3 _ _ hr1
          · rw [upd_same, take_snoc hz, List.flatMap_append, List.map_append]
            simp
    · rintro σ H1 ⟨v, rfl, s1, hr1, hl1⟩
      rw [List.length_map, List.take_length] at hl1
      refine ⟨_, rfl, L, rfl, ⟨_, SqL.of hl1⟩, fun D hD => ?_⟩
      have hlen : (nbAll (b : Int)).length ≤ 1000000 := by
        unfold nbAll rowsNear
        have h3 : (colsNear ((b : Int) % 32)).length ≤ 3 := List.length_filter_le _ _
        simp only [List.flatMap_cons, List.flatMap_nil, List.length_append, List.length_map, List.length_nil]
        omega
      refine lc_list (K := K) (a := L) (xs := (nbAll (b : Int)).map V.int) (LcP _ D fun i => (((nbAll (b : Int)).take i).filter fun o => !decide (o = (b : Int))).map V.int) (.start hD rfl) (fun i H _ q => q.same.seq (SqL.of hl1)) ?_ ?_
      · intro j x H3 hx q
        obtain ⟨o, ho, rfl⟩ := map_some hx
        have step : ∀ d, (!decide (o = (b : Int))) = d → (((nbAll (b : Int)).take (j + 1)).filter fun o => !decide (o = (b : Int))).map V.int = (((nbAll (b : Int)).take j).filter fun o => !decide (o = (b : Int))).map V.int ++ (if d = true then [V.int o] else []) := by
          intro d hd
          rw [take_snoc ho, List.filter_append, List.map_append]
          congr 1
          simp only [List.filter, hd]
          cases d <;> rfl
        refine ⟨rfl, _, rfl, _, rfl, _, _, rfl, rfl, _, rfl, ite_b (fun c => ?_) (fun c => ?_)⟩
        · refine ⟨_, rfl, q.push hD (Same.refl _) (by rw [step true c]; rfl) (small' ?_)⟩
          rw [List.length_map]
          refine Nat.le_trans (List.length_filter_le _ _) ?_
          rw [List.length_take]
          exact Nat.le_trans (Nat.min_le_right _ _) hlen
        · exact q.skip (Same.refl _) (by rw [step false c]; simp)
      · intro H3 q
        have e3 : H3 D = some (.lst ((nbRaw (b : Int)).map V.int)) := by
          rw [q.at_, List.length_map, List.take_length]; rfl
        refine ⟨D, _, rfl, SqL.of e3, fun ns' p hp hs hp0 => ?_⟩
        have e4 := about_eq hb hp hs
        refine k p _ ((s1.trans q.same).trans (Same.upd_new hp0)) ((s1.trans q.same).free hp0) ?_
        rw [upd_same, e4, List.map_map]
        rfl
theorem ok_rounded {f : Addr} {fd : FuncData} (F : Fun K "rounded" "rounded" s_rounded f fd) (T : Txt K mg A) : FnOk P w K mg base CX0 1 f fd ["a", "b"] (sp_rounded K A) := by
  refine F.ok sc_rounded (fun vs H Q E h => ?_) (fun cdv _ outer s H vs Q E hr h => ?_)
  · obtain ⟨a, b, rfl, _⟩ := h
    rfl
  · obtain ⟨a, b, rfl, h0, hb, k⟩ := h
    refine ⟨_, (pss_one (ps_ret (pe_op op_fdivW (pe_op op_add (pe_op op_mul (pe_int) (pv 0)) (pv 1)) (pe_op op_mul (pe_int) (pv 1))))), ?_⟩
    exact ⟨_, rfl, _, _, rfl, rfl, .inl ⟨by decide, by decide⟩, _, rfl, _, _, rfl, rfl, _, rfl, _, _, rfl, rfl, .inl ⟨by decide, by decide⟩, _, _, rfl, rfl, wide_div (b := 66) (by omega) (by omega) (by decide) (by decide), k⟩
theorem ok_is_from {f : Addr} {fd : FuncData} (F : Fun K "is_from" "is_from" s_is_from f fd) (T : Txt K mg A) : FnOk P w K mg base CX0 1 f fd ["number", "least", "greatest"] (sp_is_from K A) := by
  refine F.ok sc_is_from (fun vs H Q E h => ?_) (fun cdv _ outer s H vs Q E hr h => ?_)
  · obtain ⟨z, a, b, rfl, _⟩ := h
    rfl
  · obtain ⟨z, a, b, rfl, k⟩ := h
    refine ⟨_, (pss_one (ps_ret (pe_and (pe_cmpR op_le (pv 1) (pv 0) (nomark _)) (pe_one (pe_cmpR op_le (pv 0) (pv 2) (nomark _)))))), ?_⟩
    refine ⟨_, rfl, _, rfl, _, _, rfl, rfl, _, rfl, ite_b (fun c => ?_) (fun c => ?_)⟩
    · refine ⟨_, rfl, _, rfl, _, _, rfl, rfl, ?_⟩
      have e : Sj24.isIn a b z = decide (z ≤ b) := by
        show (decide (a ≤ z) && decide (z ≤ b)) = _
        rw [c, Bool.true_and]
      rw [e] at k
      exact k
    · have e : Sj24.isIn a b z = false := by
        show (decide (a ≤ z) && decide (z ≤ b)) = _
        rw [c, Bool.false_and]
      rw [e] at k
      exact k
theorem ok_are_from {f : Addr} {fd : FuncData} (F : Fun K "are_from" "are_from" s_are_from f fd) (T : Txt K mg A) (C_is_from : Cal P w K mg base 1 "is_from" ["number", "least", "greatest"] (sp_is_from K A)) : FnOk P w K mg base CX0 2 f fd ["numbers", "least", "greatest"] (sp_are_from K A) := by
  refine F.ok sc_are_from (fun vs H Q E h => ?_) (fun cdv _ outer s H vs Q E hr h => ?_)
  · obtain ⟨p, ns, a, b, rfl, _⟩ := h
    rfl
  · obtain ⟨p, ns, a, b, rfl, hS, hlen, k⟩ := h
    refine ⟨_, (pss_one (ps_ret (pe_callB (cr_all rfl) (by rfl) T.b_all (by decide +kernel) (pa_cons (pe_lc (own := [("number", 3)]) (g := gName 3) (tt := tYes) rfl sc_are_from.nd (pi_list (pv 0)) (blkOk_by (own := [("number", 3)]) (N := n_are_from) (sc := defScope s_are_from) (by decide +kernel)) (fun _ _ _ _ _ => (pg_name (i := 3) sc_are_from.nd rfl (Or.inl rfl))) (fun _ _ _ _ _ => pts_nil) (fun _ _ _ _ _ => pe_cal C_is_from (hr.mono (by decide)) (by rfl) (pa_cons (pv 3) (pa_cons (pv 1) (pa_cons (pv 2) pa_nil))))) pa_nil)))), ?_⟩
    refine ⟨_, rfl, p, rfl, ⟨_, hS⟩, fun D hD => ?_⟩
    refine lc_list (K := K) (a := p) (xs := ns.map V.int) (LcP _ D fun i => ((ns.take i).map (Sj24.isIn a b)).map V.bl) (.start hD rfl) (fun i H _ q => q.same.seq hS) ?_ ?_
    · intro j x H3 hx q
      obtain ⟨z, hz, rfl⟩ := map_some hx
      refine ⟨rfl, _, rfl, _, rfl, _, rfl, z, a, b, rfl, q.push hD (Same.refl _) ?_ (small' ?_)⟩
      · rw [take_snoc hz, List.map_append, List.map_append]; rfl
      · rw [List.length_map, List.length_map, List.length_take]
        exact Nat.le_trans (Nat.min_le_right _ _) (by omega)
    · intro H3 q
      refine ⟨D, _, rfl, SqL.of q.at_, ?_⟩
      rw [List.length_map, List.take_length]
      have e : (ns.map (Sj24.isIn a b)).all id = ns.all (Sj24.isIn a b) := by
        rw [List.all_map]; rfl
      rw [e]
      exact k _ q.same
theorem ok_is_seed {f : Addr} {fd : FuncData} (F : Fun K "is_seed" "is_seed" s_is_seed f fd) (T : Txt K mg A) (C_neighbours_of : Cal P w K mg base 2 "neighbours_of" ["block"] (sp_neighbours_of K A)) : FnOk P w K mg base CX0 3 f fd ["energies", "least", "block"] (sp_is_seed K A) := by
  refine F.ok sc_is_seed (fun vs H Q E h => ?_) (fun cdv _ outer s H vs Q E hr h => ?_)
  · obtain ⟨h, a, b, rfl, _⟩ := h
    rfl
  · obtain ⟨h, a, b, rfl, hl, hb, hS, k⟩ := h
    refine ⟨_, (pss_cons (ps_set (i := 3) sc_is_seed.nd rfl (Or.inl rfl) (pe_ixL (K := K) (pv 0) (pv 2) (fun _ _ => rfl)))
      (pss_cons (ps_if (pt_cmpR op_lt (pv 3) (pv 1) (nomark _)) (pss_one (ps_ret (pe_bl))) pss_nil)
      (pss_cons (ps_for PassesOwn.never rfl (pi_list (pe_cal C_neighbours_of (hr.mono (by decide)) (by rfl) (pa_cons (pv 2) pa_nil))) (pg_name (i := 4) sc_is_seed.nd rfl (Or.inl rfl)) (pss_one (ps_if (PW.pt (pw_or (pt_cmpR op_gt (pe_ixL (K := K) (pv 0) (pv 4) (fun _ _ => rfl)) (pv 3) (nomark _)) (pw_or1 (PW.pt (pw_and (pt_cmpR op_eqI (pe_ixL (K := K) (pv 0) (pv 4) (fun _ _ => rfl)) (pv 3) (nomark _)) (pw_and1 (pt_cmpR op_lt (pv 4) (pv 2) (nomark _)))))))) (pss_one (ps_ret (pe_bl))) pss_nil)))
      (pss_one (ps_ret (pe_bl)))))), ?_⟩
    refine ⟨_, rfl, _, rfl, a, _, _, _, rfl, rfl, hS, es_at hl hb, ?_⟩
    refine ⟨_, rfl, _, rfl, _, _, rfl, rfl, _, rfl, ite_b (fun c => ?_) (fun c => ?_)⟩
    · have c := of_decide_eq_true c
      have e : Sj24.isSeed h b = false := by
        rw [isSeed_eq, decide_eq_false (by omega), Bool.false_and]
      rw [e] at k
      exact k _ (Same.refl _)
    · have c := of_decide_eq_false c
      refine ⟨_, rfl, b, rfl, hb, fun p H1 s1 hp e1 => ⟨p, rfl, ⟨_, SqL.of e1⟩, ?_⟩⟩
      refine for_list (K := K) (a := p) (xs := nV (Sj24.about b)) (fun i σ H' => ∃ v : Option V, σ = [some (.ref a), some (.int h.seed), some (.int b), some (.int (h.e b)), v] ∧ Same H1 H' ∧ ((Sj24.about b).take i).all (okBy h b) = true)
        ⟨none, rfl, Same.refl _, rfl⟩ (fun i σ H' _ ⟨_, _, q, _⟩ => q.seq (SqL.of e1)) ?_ ?_
      · rintro i y σ H2 hi ⟨v, rfl, s2, ha⟩
        obtain ⟨n, hn, rfl⟩ := map_some hi
        have mn := List.mem_of_getElem? hn
        have ln := about_lt mn
        have nb : n ≠ b := (mem_about.mp mn).2.1
        have hS2 := s2.seq (s1.seq hS)
        have bad : okBy h b n = false → Q (.bl false) H2 := fun z => by
          have e : Sj24.isSeed h b = false := by
            rw [isSeed_eq, Bool.and_eq_false_iff]
            right
            rw [List.all_eq_false]
            exact ⟨n, mn, by simp [z]⟩
          rw [e] at k
          exact k _ (s1.trans s2)
        refine ⟨_, rfl, _, rfl, a, _, _, _, rfl, rfl, hS2, es_at hl ln, _, rfl, _, _, rfl, rfl, _, rfl, ite_b (fun d => ?_) (fun d => ?_)⟩
        · exact ite_t rfl (bad (okBy_false nb (.inl (of_decide_eq_true d))))
        · refine ⟨_, rfl, _, rfl, a, _, _, _, rfl, rfl, hS2, es_at hl ln, _, rfl, _, _, rfl, rfl, _, rfl, ite_b (fun d2 => ?_) (fun d2 => ?_)⟩
          · refine ⟨_, rfl, _, rfl, _, _, rfl, rfl, _, rfl, ite_b (fun d3 => ?_) (fun d3 => ?_)⟩
            · have x2 := of_decide_eq_true d2
              have x3 := of_decide_eq_true d3
              exact bad (okBy_false nb (.inr ⟨x2, by omega⟩))
            · have x := of_decide_eq_false d
              have x3 := of_decide_eq_false d3
              refine ⟨_, rfl, s2, ?_⟩
              rw [take_snoc hn, List.all_append, ha]
              simp [okBy_true nb x (fun z => x3 (by omega))]
          · refine ite_f rfl ?_
            have x := of_decide_eq_false d
            have x2 := of_decide_eq_false d2
            refine ⟨_, rfl, s2, ?_⟩
            rw [take_snoc hn, List.all_append, ha]
            simp [okBy_true nb x (fun z => x2 z.1)]
      · rintro σ H2 ⟨v, rfl, s2, ha⟩
        have e : Sj24.isSeed h b = true := by
          have ha' : (Sj24.about b).all (okBy h b) = true := by
            rw [nV_len, List.take_length] at ha
            exact ha
          rw [isSeed_eq, decide_eq_true (by omega), ha']
          rfl
        rw [e] at k
        exact k _ (s1.trans s2)
theorem ok_marks_of {f : Addr} {fd : FuncData} (F : Fun K "marks_of" "marks_of" s_marks_of f fd) (T : Txt K mg A) (C_is_seed : Cal P w K mg base 3 "is_seed" ["energies", "least", "block"] (sp_is_seed K A)) : FnOk P w K mg base CX0 4 f fd ["energies", "least"] (sp_marks_of K A) := by
  refine F.ok sc_marks_of (fun vs H Q E h => ?_) (fun cdv _ outer s H vs Q E hr h => ?_)
  · obtain ⟨h, a, rfl, _⟩ := h
    rfl
  · obtain ⟨h, a, rfl, hl, hS, k⟩ := h
    refine ⟨_, (pss_one (ps_ret (pe_lc (own := [("block", 2)]) (g := gName 2) (tt := tYes) rfl sc_marks_of.nd (pi_range1 (by rfl) T.b_range (pa_cons (pe_cst rfl T.c_MANY_BLOCKS) pa_nil)) (blkOk_by (own := [("block", 2)]) (N := n_marks_of) (sc := defScope s_marks_of) (by decide +kernel)) (fun _ _ _ _ _ => (pg_name (i := 2) sc_marks_of.nd rfl (Or.inl rfl))) (fun _ _ _ _ _ => pts_nil) (fun _ _ _ _ _ => pe_cal C_is_seed (hr.mono (by decide)) (by rfl) (pa_cons (pv 0) (pa_cons (pv 1) (pa_cons (pv 2) pa_nil))))))), ?_⟩
    refine ⟨1024, rfl, by decide, by decide, fun D hD => ?_⟩
    refine lc_range (lo := 0) (n := 1024) (LcP _ D fun i => (List.range i).map fun b => V.bl (Sj24.isSeed h b)) (.start hD rfl) ?_ ?_
    · intro i H1 hi q
      refine ⟨rfl, _, rfl, _, rfl, _, rfl, h, a, i, by rw [Int.zero_add], hl, hi, q.same.seq hS, fun H2 s2 => ?_⟩
      refine q.push hD s2 ?_ (small' ?_)
      · rw [List.range_succ, List.map_append]; rfl
      · rw [List.length_map, List.length_range]; omega
    · intro H1 q
      exact k D H1 q.same hD q.at_
theorem ok_owners_of {f : Addr} {fd : FuncData} (F : Fun K "owners_of" "owners_of" s_owners_of f fd) (T : Txt K mg A) (C_neighbours_of : Cal P w K mg base 2 "neighbours_of" ["block"] (sp_neighbours_of K A)) : FnOk P w K mg base CX0 3 f fd ["energies", "marks", "low", "block"] (sp_owners_of K A) := by
  refine F.ok sc_owners_of (fun vs H Q E h => ?_) (fun cdv _ outer s H vs Q E hr h => ?_)
  · obtain ⟨h, a, m, b, rfl, _⟩ := h
    rfl
  · obtain ⟨h, a, m, b, rfl, hl, hb, hS, hM, k⟩ := h
    refine ⟨_, (pss_cons (ps_if (pt_val (pe_ixL (K := K) (pv 1) (pv 3) (fun _ _ => rfl))) (pss_one (ps_ret (pe_lst (pa_cons (pv 3) pa_nil)))) pss_nil)
      (pss_cons (ps_if (pt_cmpR op_lt (pe_ixL (K := K) (pv 0) (pv 3) (fun _ _ => rfl)) (pv 2) (nomark _)) (pss_one (ps_ret (pe_lst pa_nil))) pss_nil)
      (pss_one (ps_ret (pe_lc (own := [("other", 4)]) (g := gName 4) rfl sc_owners_of.nd (pi_list (pe_cal C_neighbours_of (hr.mono (by decide)) (by rfl) (pa_cons (pv 3) pa_nil))) (blkOk_by (own := [("other", 4)]) (N := n_owners_of) (sc := defScope s_owners_of) (by decide +kernel)) (fun _ _ _ _ _ => (pg_name (i := 4) sc_owners_of.nd rfl (Or.inl rfl))) (fun _ _ _ _ _ => pts_one (pt_val (pe_ixL (K := K) (pv 1) (pv 4) (fun _ _ => rfl)))) (fun _ _ _ _ _ => pv 4)))))), ?_⟩
    refine ⟨_, rfl, _, rfl, m, _, _, _, rfl, rfl, hM, marks_at hb, _, rfl, ite_b (fun c => ?_) (fun c => ?_)⟩
    · refine ⟨_, rfl, (by show 1 ≤ sizeLine; decide), fun p hp => k p _ (Same.upd_new hp) hp ?_⟩
      rw [upd_same, Sj24.owners, seeds_contains hb, if_pos c]
      rfl
    · refine ⟨_, rfl, _, rfl, a, _, _, _, rfl, rfl, hS, es_at hl hb, _, rfl, _, _, rfl, rfl, _, rfl, ite_b (fun d => ?_) (fun d => ?_)⟩
      · refine ⟨Nat.zero_le _, fun p hp => k p _ (Same.upd_new hp) hp ?_⟩
        rw [upd_same, Sj24.owners, seeds_contains hb, if_neg (by rw [c]; exact Bool.false_ne_true), if_pos (of_decide_eq_true d)]
        rfl
      · refine ⟨_, rfl, b, rfl, hb, fun p H1 s1 hp e1 => ⟨p, rfl, ⟨_, SqL.of e1⟩, fun D hD => ?_⟩⟩
        refine lc_list (K := K) (a := p) (xs := nV (Sj24.about b)) (LcP _ D fun i => nV (((Sj24.about b).take i).filter (Sj24.seeds h).contains)) (.start hD rfl) (fun i H _ q => q.same.seq (SqL.of e1)) ?_ ?_
        · intro j x H2 hx q
          obtain ⟨n, hn, rfl⟩ := map_some hx
          have ln := about_lt (List.mem_of_getElem? hn)
          have step : ∀ d, Sj24.isSeed h n = d → nV (((Sj24.about b).take (j + 1)).filter (Sj24.seeds h).contains) = nV (((Sj24.about b).take j).filter (Sj24.seeds h).contains) ++ (if d = true then [V.int n] else []) := by
            intro d hd
            rw [take_snoc hn, List.filter_append]
            unfold nV
            rw [List.map_append]
            congr 1
            simp only [List.filter, seeds_contains ln, hd]
            cases d <;> rfl
          refine ⟨rfl, _, rfl, _, rfl, m, _, _, _, rfl, rfl, (s1.trans q.same).seq hM, marks_at ln, _, rfl, ite_b (fun c => ?_) (fun c => ?_)⟩
          · refine ⟨_, rfl, q.push hD (Same.refl _) (by rw [step true c]; rfl) (small' ?_)⟩
            unfold nV
            rw [List.length_map]
            refine Nat.le_trans (List.length_filter_le _ _) ?_
            rw [List.length_take]
            have := about_len b
            omega
          · exact q.skip (Same.refl _) (by rw [step false c]; simp)
        · intro H2 q
          refine k D H2 (s1.trans q.same) (s1.free hD) ?_
          rw [q.at_]
          rw [nV_len, List.take_length, Sj24.owners, seeds_contains hb, if_neg (by rw [c]; exact Bool.false_ne_true), if_neg (of_decide_eq_false d)]
end
end Jb
end
section
set_option Elab.async false
set_option linter.all false
set_option maxHeartbeats 2000000
namespace Jb
open Sj24 (House)
/-! ### how a block's energy is divided -/
theorem sum_is (l : List Int) : Sj24.sum l = l.sum := rfl
theorem isum_append (a b : List Int) : (a ++ b).sum = a.sum + b.sum := List.sum_append
theorem isum_nonneg : ∀ {l : List Int}, (∀ x ∈ l, 0 ≤ x) → 0 ≤ l.sum
  | [], _ => by simp
  | a :: l, h => by
    have h1 := h a (by simp)
    have h2 := isum_nonneg (l := l) fun x hx => h x (by simp [hx])
    rw [List.sum_cons]; omega
theorem isum_le : ∀ {l : List Int} {B : Int}, (∀ x ∈ l, x ≤ B) → l.sum ≤ l.length * B
  | [], _, _ => by simp
  | a :: l, B, h => by
    have h1 := h a (by simp)
    have h2 := isum_le (l := l) (B := B) fun x hx => h x (by simp [hx])
    rw [List.sum_cons, List.length_cons]
    have : ((l.length + 1 : Nat) : Int) * B = (l.length : Int) * B + B := by
      rw [Int.natCast_add, Int.add_mul]; simp
    omega
theorem isum_mem : ∀ {l : List Int} {x : Int}, (∀ y ∈ l, 0 ≤ y) → x ∈ l → x ≤ l.sum
  | [], x, _, hx => by simp at hx
  | a :: l, x, h, hx => by
    have h1 := h a (by simp)
    have h2 := isum_nonneg (l := l) fun x hx => h x (by simp [hx])
    rw [List.sum_cons]
    rcases List.mem_cons.mp hx with rfl | hx
    · omega
    · have := isum_mem (l := l) (fun x hx => h x (by simp [hx])) hx
      omega
/-- the first one of the greatest: none ahead is as great, none behind is greater -/
def stepG (e : Nat → Int) (a b : Nat) : Nat := if e a < e b then b else a
theorem fold_stay (e : Nat → Int) : ∀ (l : List Nat) (g : Nat), (∀ x ∈ l, e x ≤ e g) → l.foldl (stepG e) g = g
  | [], g, _ => rfl
  | a :: l, g, h => by
    rw [List.foldl_cons]
    have h1 := h a (by simp)
    have e1 : stepG e g a = g := if_neg (by omega)
    rw [e1]
    exact fold_stay e l g fun x hx => h x (by simp [hx])
theorem fold_lt (e : Nat → Int) (M : Int) : ∀ (l : List Nat) (a : Nat), e a < M → (∀ x ∈ l, e x < M) → e (l.foldl (stepG e) a) < M
  | [], a, h, _ => h
  | b :: l, a, h, hl => by
    rw [List.foldl_cons]
    refine fold_lt e M l _ ?_ fun x hx => hl x (by simp [hx])
    unfold stepG
    split
    · exact hl b (by simp)
    · exact h
theorem greatest_split {h : House} {pre post : List Nat} {g : Nat} (h1 : ∀ x ∈ pre, h.e x < h.e g) (h2 : ∀ x ∈ post, h.e x ≤ h.e g) : Sj24.greatest h (pre ++ g :: post) = g := by
  show (pre ++ g :: post).foldl (stepG h.e) ((pre ++ g :: post).headD 0) = g
  rw [List.foldl_append, List.foldl_cons]
  have e1 : stepG h.e (pre.foldl (stepG h.e) ((pre ++ g :: post).headD 0)) g = g := by
    cases pre with
    | nil => exact if_neg (by show ¬ h.e g < h.e g; omega)
    | cons a r =>
      refine if_pos ?_
      exact fold_lt h.e (h.e g) (a :: r) a (h1 a (by simp)) h1
  rw [e1]
  exact fold_stay h.e post g h2
theorem split_at {α : Type} : ∀ {l : List α} {j : Nat} {x : α}, l[j]? = some x → l = l.take j ++ x :: l.drop (j + 1)
  | [], j, x, h => by simp at h
  | a :: l, 0, x, h => by
    have e : a = x := Option.some.inj h
    subst e
    rfl
  | a :: l, j + 1, x, h => by
    have ih := split_at (l := l) (j := j) (x := x) h
    show a :: l = a :: (l.take j ++ x :: l.drop (j + 1))
    rw [← ih]
/-- the first place of a value -/
theorem first_place {α : Type} (p : α → Bool) : ∀ {l : List α}, (∃ x ∈ l, p x = true) → ∃ (j : Nat) (x : α), l[j]? = some x ∧ p x = true ∧ ∀ (i : Nat) y, i < j → l[i]? = some y → p y = false
  | [], h => by obtain ⟨x, hx, _⟩ := h; simp at hx
  | a :: l, h => by
    by_cases ha : p a = true
    · exact ⟨0, a, rfl, ha, fun i y hi _ => by omega⟩
    · have ha : p a = false := by simpa using ha
      obtain ⟨x, hx, hp⟩ := h
      rcases List.mem_cons.mp hx with rfl | hx
      · rw [ha] at hp; cases hp
      · obtain ⟨j, y, h1, h2, h3⟩ := first_place p (l := l) ⟨x, hx, hp⟩
        refine ⟨j + 1, y, h1, h2, fun i z hi hz => ?_⟩
        match i, hz with
        | 0, hz =>
          have e : a = z := Option.some.inj hz
          rw [← e]; exact ha
        | i + 1, hz => exact h3 i z (by omega) hz
theorem greatest_at {h : House} {os : List Nat} {j : Nat} {g : Nat} {m : Int} (hg : os[j]? = some g) (hm : h.e g = m) (h1 : ∀ (i : Nat) y, i < j → os[i]? = some y → h.e y ≠ m) (h2 : ∀ y ∈ os, h.e y ≤ m) : Sj24.greatest h os = g := by
  subst hm
  rw [split_at hg]
  refine greatest_split (fun x hx => ?_) fun x hx => h2 x (List.mem_of_mem_drop hx)
  obtain ⟨i, hi⟩ := List.mem_iff_getElem?.mp hx
  rw [List.getElem?_take] at hi
  split at hi
  · rename_i hij
    have a := h1 i x hij hi
    have b := h2 x (List.mem_of_getElem? hi)
    omega
  · cases hi
def shares (h : House) (os : List Nat) (b : Nat) : List Int := os.map fun s => h.e b * h.e s / (os.map h.e).sum
theorem parted_set {h : House} {os : List Nat} {b j : Nat} {z : Int} (hn : os.Nodup) (hj : os[j]? = some (Sj24.greatest h os)) (hz : (shares h os b)[j]? = some z) :
    (shares h os b).set j (z + h.e b - (shares h os b).sum) = (Sj24.parted h os b).map fun x => x.2 := by
  have e1 : ((os.map fun s => (s, h.e b * h.e s / Sj24.sum (os.map h.e))).map fun x : Nat × Int => x.2) = shares h os b := by
    rw [List.map_map]; rfl
  refine List.ext_getElem? fun i => ?_
  unfold Sj24.parted
  simp only [e1]
  rw [List.map_map, List.map_map, List.getElem?_map, List.getElem?_set]
  have hl : (shares h os b).length = os.length := by unfold shares; rw [List.length_map]
  by_cases hij : j = i
  · subst hij
    rw [if_pos rfl, if_pos (by rw [hl]; exact (List.getElem?_eq_some_iff.mp hj).1), hj]
    have hz' : h.e b * h.e (Sj24.greatest h os) / (os.map h.e).sum = z := by
      unfold shares at hz
      rw [List.getElem?_map, hj] at hz
      exact Option.some.inj hz
    simp only [Option.map_some, Function.comp, if_pos, sum_is, hz']
    congr 1
    omega
  · rw [if_neg hij]
    unfold shares
    rw [List.getElem?_map]
    cases e : os[i]? with
    | none => rfl
    | some x =>
      have nx : x ≠ Sj24.greatest h os := by
        intro q
        subst q
        obtain ⟨l1, g1⟩ := List.getElem?_eq_some_iff.mp hj
        obtain ⟨l2, g2⟩ := List.getElem?_eq_some_iff.mp e
        exact hij ((List.getElem_inj hn).mp (g1.trans g2.symm))
      simp only [Option.map_some, Function.comp, if_neg nx, sum_is]
theorem parted_fst (h : House) (os : List Nat) (b : Nat) : (Sj24.parted h os b).map (fun x => x.1) = os := by
  unfold Sj24.parted
  rw [List.map_map, List.map_map]
  conv => rhs; rw [← List.map_id os]
  refine List.map_congr_left fun x _ => ?_
  simp only [Function.comp]
  split <;> rfl
theorem parted_len (h : House) (os : List Nat) (b : Nat) : (Sj24.parted h os b).length = os.length := by
  have e := congrArg List.length (parted_fst h os b)
  rw [List.length_map] at e
  exact e
theorem mul_sum (c : Int) : ∀ l : List Int, (l.map fun x => c * x).sum = c * l.sum
  | [] => by simp
  | a :: l => by rw [List.map_cons, List.sum_cons, List.sum_cons, mul_sum c l, Int.mul_add]
theorem div_sum {all : Int} (h0 : 0 < all) : ∀ l : List Int, (l.map fun x => x / all).sum * all ≤ l.sum
  | [] => by simp
  | a :: l => by
    rw [List.map_cons, List.sum_cons, List.sum_cons, Int.add_mul]
    have h1 := div_sum h0 l
    have h2 : a / all * all ≤ a := Int.ediv_mul_le a (by omega)
    omega
theorem all_pos {h : House} {os : List Nat} (hp : ∀ s ∈ os, 1 ≤ h.e s) (hne : os ≠ []) : 0 < (os.map h.e).sum := by
  cases os with
  | nil => exact absurd rfl hne
  | cons a l =>
    have h1 := hp a (by simp)
    have h2 : 0 ≤ (l.map h.e).sum := isum_nonneg fun x hx => by
      obtain ⟨s, hs, rfl⟩ := List.mem_map.mp hx
      have := hp s (by simp [hs])
      omega
    rw [List.map_cons, List.sum_cons]; omega
theorem shares_sum {h : House} {os : List Nat} {b : Nat} (hp : ∀ s ∈ os, 1 ≤ h.e s) (hne : os ≠ []) : (shares h os b).sum ≤ h.e b := by
  have hall := all_pos hp hne
  have e1 : shares h os b = ((os.map h.e).map fun x => h.e b * x).map fun x => x / (os.map h.e).sum := by
    unfold shares
    rw [List.map_map, List.map_map]
    rfl
  have h1 := div_sum hall ((os.map h.e).map fun x => h.e b * x)
  rw [← e1, mul_sum] at h1
  exact Int.le_of_mul_le_mul_right h1 hall
theorem shares_nonneg {h : House} {os : List Nat} {b : Nat} (hp : ∀ s ∈ os, 1 ≤ h.e s) (hne : os ≠ []) (hb : 0 ≤ h.e b) : ∀ x ∈ shares h os b, 0 ≤ x := by
  intro x hx
  unfold shares at hx
  obtain ⟨s, hs, rfl⟩ := List.mem_map.mp hx
  have h1 := hp s hs
  exact Int.ediv_nonneg (Int.mul_nonneg hb (by omega)) (by have := all_pos hp hne; omega)
/-- each part lies between 0 and the block's energy -/
theorem parted_mem {h : House} {os : List Nat} {b : Nat} (hp : ∀ s ∈ os, 1 ≤ h.e s) (hne : os ≠ []) (hb : 0 ≤ h.e b) {x : Nat × Int} (hx : x ∈ Sj24.parted h os b) : x.1 ∈ os ∧ 0 ≤ x.2 ∧ x.2 ≤ h.e b := by
  have h1 : x.1 ∈ os := by
    have : x.1 ∈ (Sj24.parted h os b).map fun x => x.1 := List.mem_map.mpr ⟨x, hx, rfl⟩
    rw [parted_fst] at this
    exact this
  have e1 : ((os.map fun s => (s, h.e b * h.e s / Sj24.sum (os.map h.e))).map fun x : Nat × Int => x.2) = shares h os b := by
    rw [List.map_map]; rfl
  unfold Sj24.parted at hx
  simp only [e1] at hx
  obtain ⟨y, hy, rfl⟩ := List.mem_map.mp hx
  obtain ⟨s, hs, rfl⟩ := List.mem_map.mp hy
  have hm : h.e b * h.e s / Sj24.sum (os.map h.e) ∈ shares h os b := by
    unfold shares
    exact List.mem_map.mpr ⟨s, hs, rfl⟩
  have n1 := shares_nonneg hp hne hb
  have s1 := shares_sum (b := b) hp hne
  have m1 := isum_mem n1 hm
  have m0 := n1 _ hm
  refine ⟨h1, ?_⟩
  split
  · simp only [sum_is] at *
    omega
  · simp only [sum_is] at *
    omega
/-! ### clusters -/
theorem about_len9 {k : Nat} (hk : k < 1024) : (Sj24.about k).length ≤ 9 := by
  have e := ((List.perm_ext_iff_of_nodup (nodup_of_lt (about_sorted k)) (nbRaw_nodup hk)).mpr (about_mem hk)).length_eq
  rw [List.length_map] at e
  rw [e]
  unfold nbRaw nbAll rowsNear
  refine Nat.le_trans (List.length_filter_le _ _) ?_
  have h3 : (colsNear ((k : Int) % 32)).length ≤ 3 := List.length_filter_le _ _
  simp only [List.flatMap_cons, List.flatMap_nil, List.length_append, List.length_map, List.length_nil]
  omega
theorem owners_len9 {h : House} {b : Nat} (hb : b < 1024) : (Sj24.owners h (Sj24.seeds h) b).length ≤ 9 := by
  unfold Sj24.owners
  split
  · simp
  · split
    · simp
    · exact Nat.le_trans (List.length_filter_le _ _) (about_len9 hb)
/-- the rows of a block and of its seed -/
def near (s b : Nat) : Prop := (b / 32 + 32 - s / 32) % 32 = 0 ∨ (b / 32 + 32 - s / 32) % 32 = 1 ∨ (b / 32 + 32 - s / 32) % 32 = 31
theorem near_step {s b : Nat} (hs : s < 1024) (hb : b < 1024) (hn : near s b) : ((b : Int) / 32 - (s : Int) / 32 + 1) % 32 - 1 = Sj24.rowStep s b := by
  unfold near at hn
  unfold Sj24.rowStep Sj24.SIDE
  split
  · omega
  · split
    · omega
    · omega
theorem owners_near {h : House} {b n : Nat} (hb : b < 1024) (hn : n ∈ Sj24.owners h (Sj24.seeds h) b) : near n b := by
  unfold Sj24.owners at hn
  unfold near
  split at hn
  · simp at hn; subst hn; omega
  · split at hn
    · simp at hn
    · have h1 := mem_about.mp (List.mem_filter.mp hn).1
      omega
structure CluOk (c : Sj24.Cluster) : Prop where
  seed : c.seed < 1024
  len : c.parts.length ≤ 9216
  ne : c.parts ≠ []
  pos : 0 < c.e
  most : c.e ≤ 9216 * 2 ^ 40
  part : ∀ p ∈ c.parts, p.block < 1024 ∧ near c.seed p.block
  nn : ∀ p ∈ c.parts, 0 ≤ p.e
def pairsOf (h : House) (b : Nat) : List (Nat × Sj24.Part) := (Sj24.parted h (Sj24.owners h (Sj24.seeds h) b) b).map fun x => (x.1, (⟨b, x.2⟩ : Sj24.Part))
def upTo (h : House) (n : Nat) : List (Nat × Sj24.Part) := (List.range n).flatMap (pairsOf h)
def partsOf (l : List (Nat × Sj24.Part)) (k : Nat) : List Sj24.Part := (l.filter fun x => x.1 == k).map fun x => x.2
def clu (h : House) (k : Nat) : Sj24.Cluster := ⟨k, partsOf (upTo h 1024) k⟩
theorem clustersOf_eq (h : House) : Sj24.clustersOf h = (Sj24.seeds h).map (clu h) := rfl
theorem partsOf_append (l m : List (Nat × Sj24.Part)) (k : Nat) : partsOf (l ++ m) k = partsOf l k ++ partsOf m k := by
  unfold partsOf
  rw [List.filter_append, List.map_append]
theorem partsOf_same {x : Nat × Sj24.Part} {k : Nat} (h : x.1 = k) : partsOf [x] k = [x.2] := by
  unfold partsOf
  rw [List.filter_cons, if_pos (by rw [h]; exact beq_self_eq_true k)]
  rfl
theorem partsOf_other {x : Nat × Sj24.Part} {k : Nat} (h : x.1 ≠ k) : partsOf [x] k = [] := by
  unfold partsOf
  rw [List.filter_cons, if_neg (by simpa using h)]
  rfl
theorem upTo_succ (h : House) (n : Nat) : upTo h (n + 1) = upTo h n ++ pairsOf h n := by
  unfold upTo
  rw [List.range_succ, List.flatMap_append]
  simp
theorem mem_pairs {h : House} {b : Nat} {x : Nat × Sj24.Part} (hs : 1 ≤ h.seed) (hb : 0 ≤ h.e b) (hx : x ∈ pairsOf h b) : x.1 ∈ Sj24.owners h (Sj24.seeds h) b ∧ x.2.block = b ∧ 0 ≤ x.2.e ∧ x.2.e ≤ h.e b := by
  unfold pairsOf at hx
  obtain ⟨y, hy, rfl⟩ := List.mem_map.mp hx
  have hne : Sj24.owners h (Sj24.seeds h) b ≠ [] := by
    intro z
    rw [z] at hy
    cases hy
  have q := parted_mem (fun s hs' => seed_pos hs (owners_seed hs')) hne hb hy
  exact ⟨q.1, rfl, q.2.1, q.2.2⟩
theorem pairs_len {h : House} {b : Nat} (hb : b < 1024) : (pairsOf h b).length ≤ 9 := by
  unfold pairsOf
  rw [List.length_map, parted_len]
  exact owners_len9 hb
theorem upTo_len (h : House) : ∀ {n : Nat}, n ≤ 1024 → (upTo h n).length ≤ 9 * n
  | 0, _ => Nat.le_refl _
  | n + 1, hn => by
    rw [upTo_succ, List.length_append]
    have h1 := upTo_len h (n := n) (by omega)
    have h2 := pairs_len (h := h) (b := n) (by omega)
    omega
theorem partsOf_len (l : List (Nat × Sj24.Part)) (k : Nat) : (partsOf l k).length ≤ l.length := by
  unfold partsOf
  rw [List.length_map]
  exact List.length_filter_le _ _
theorem mem_partsOf {l : List (Nat × Sj24.Part)} {k : Nat} {p : Sj24.Part} : p ∈ partsOf l k ↔ (k, p) ∈ l := by
  unfold partsOf
  simp only [List.mem_map, List.mem_filter, beq_iff_eq]
  constructor
  · rintro ⟨⟨a, q⟩, ⟨h1, h2⟩, h3⟩
    simp only at h2 h3
    subst h2 h3
    exact h1
  · intro h
    exact ⟨(k, p), ⟨h, rfl⟩, rfl⟩
theorem mem_upTo {h : House} {n : Nat} {x : Nat × Sj24.Part} : x ∈ upTo h n ↔ ∃ b, b < n ∧ x ∈ pairsOf h b := by
  unfold upTo
  simp only [List.mem_flatMap, List.mem_range]
/-- what is asked of the blocks -/
structure BlkInv (h : House) : Prop where
  len : h.blocks.length = 1024
  e0 : ∀ k, 0 ≤ h.e k
  e1 : ∀ k, h.e k ≤ 2 ^ 40
  seed : 1 ≤ h.seed
theorem seed_pairs {h : House} (hs : 1 ≤ h.seed) {k : Nat} (hk : k ∈ Sj24.seeds h) : pairsOf h k = [(k, ⟨k, h.e k⟩)] := by
  have ho : Sj24.owners h (Sj24.seeds h) k = [k] := by
    unfold Sj24.owners
    rw [if_pos (List.contains_iff_mem.mpr hk)]
  have hp := seed_pos hs hk
  unfold pairsOf
  rw [ho]
  unfold Sj24.parted Sj24.greatest Sj24.sum
  have e1 : h.e k * h.e k / h.e k = h.e k := Int.mul_ediv_cancel _ (by omega)
  simp [e1]
theorem clu_mk {k : Nat} {ps : List Sj24.Part} {z : Int} (hk : k < 1024) (hlen : ps.length ≤ 9216) (own : (⟨k, z⟩ : Sj24.Part) ∈ ps) (hz : 1 ≤ z)
    (mm : ∀ p ∈ ps, p.block < 1024 ∧ near k p.block ∧ 0 ≤ p.e ∧ p.e ≤ 2 ^ 40) : CluOk ⟨k, ps⟩ := by
  have n0 : ∀ x ∈ ps.map fun p => p.e, 0 ≤ x := fun x hx => by
    obtain ⟨p, hp, rfl⟩ := List.mem_map.mp hx
    exact (mm p hp).2.2.1
  have n1 : ∀ x ∈ ps.map fun p => p.e, x ≤ 2 ^ 40 := fun x hx => by
    obtain ⟨p, hp, rfl⟩ := List.mem_map.mp hx
    exact (mm p hp).2.2.2
  refine ⟨hk, hlen, List.ne_nil_of_mem own, ?_, ?_, fun p hp => ⟨(mm p hp).1, (mm p hp).2.1⟩, fun p hp => (mm p hp).2.2.1⟩
  · have h1 := isum_mem n0 (List.mem_map.mpr ⟨_, own, rfl⟩)
    show 0 < (ps.map fun p => p.e).sum
    have h3 : z ≤ (ps.map fun p => p.e).sum := h1
    omega
  · have h1 := isum_le n1
    rw [List.length_map] at h1
    show (ps.map fun p => p.e).sum ≤ 9216 * 2 ^ 40
    omega
theorem clu_ok {h : House} (I : BlkInv h) {k : Nat} (hk : k ∈ Sj24.seeds h) : CluOk (clu h k) := by
  have hk1 := (seeds_mem hk).1
  unfold clu
  have hlen : (partsOf (upTo h 1024) k).length ≤ 9216 := Nat.le_trans (partsOf_len _ _) (Nat.le_trans (upTo_len h (Nat.le_refl 1024)) (by decide))
  refine clu_mk (z := h.e k) hk1 hlen (mem_partsOf.mpr (mem_upTo.mpr ⟨k, hk1, by rw [seed_pairs I.seed hk]; simp⟩)) (seed_pos I.seed hk) ?_
  intro p hp
  obtain ⟨b, hb, hx⟩ := mem_upTo.mp (mem_partsOf.mp hp)
  have q := mem_pairs I.seed (I.e0 b) hx
  have e : p.block = b := q.2.1
  rw [e]
  exact ⟨hb, owners_near hb q.1, q.2.2.1, Int.le_trans q.2.2.2 (I.e1 b)⟩
theorem clusters_ok {h : House} (I : BlkInv h) : ∀ c ∈ Sj24.clustersOf h, CluOk c := by
  intro c hc
  rw [clustersOf_eq] at hc
  obtain ⟨k, hk, rfl⟩ := List.mem_map.mp hc
  exact clu_ok I hk
theorem clusters_len (h : House) : (Sj24.clustersOf h).length ≤ 1024 := by
  rw [clustersOf_eq, List.length_map]
  refine Nat.le_trans (List.length_filter_le _ _) ?_
  rw [List.length_range]
  exact Nat.le_refl _
end Jb
end
section
set_option Elab.async false
set_option linter.all false
set_option maxRecDepth 100000
set_option maxHeartbeats 2000000
namespace Jb
open PySem PySem.Spec PyProof.Rows L2
open Sj24 (House)
/-! ### shares; clusters and their numbers -/
/-- a list of addresses, each of which stands for an item -/
structure Rep {α : Type} (R : Addr → α → Prop) (as : List Addr) (xs : List α) : Prop where
  len : as.length = xs.length
  at_ : ∀ (i : Nat) a, as[i]? = some a → ∃ x, xs[i]? = some x ∧ R a x
theorem Rep.nil {α : Type} {R : Addr → α → Prop} : Rep R [] [] := ⟨rfl, fun i a h => by simp at h⟩
theorem Rep.mono {α : Type} {R R' : Addr → α → Prop} {as : List Addr} {xs : List α} (r : Rep R as xs) (f : ∀ a x, R a x → R' a x) : Rep R' as xs := ⟨r.len, fun i a h => by
  obtain ⟨x, h1, h2⟩ := r.at_ i a h
  exact ⟨x, h1, f _ _ h2⟩⟩
theorem Rep.item {α : Type} {R : Addr → α → Prop} {as : List Addr} {xs : List α} (r : Rep R as xs) {i : Nat} {x : α} (h : xs[i]? = some x) : ∃ a, as[i]? = some a ∧ R a x := by
  have hi : i < as.length := by rw [r.len]; exact (List.getElem?_eq_some_iff.mp h).1
  obtain ⟨y, h1, h2⟩ := r.at_ i as[i] (List.getElem?_eq_getElem hi)
  rw [h] at h1
  cases h1
  exact ⟨as[i], List.getElem?_eq_getElem hi, h2⟩
theorem Rep.push {α : Type} {R : Addr → α → Prop} {as : List Addr} {xs : List α} {a : Addr} {x : α} (r : Rep R as xs) (h : R a x) : Rep R (as ++ [a]) (xs ++ [x]) := by
  refine ⟨by simp [r.len], fun i b hb => ?_⟩
  rw [List.getElem?_append] at hb
  split at hb
  · rename_i hi
    obtain ⟨y, h1, h2⟩ := r.at_ i b hb
    exact ⟨y, by rw [List.getElem?_append_left (by rw [← r.len]; exact hi)]; exact h1, h2⟩
  · rename_i hi
    have h0 : i - as.length = 0 := by
      have := (List.getElem?_eq_some_iff.mp hb).1
      simp at this
      omega
    rw [h0] at hb
    have e : a = b := Option.some.inj hb
    subst e
    refine ⟨x, ?_, h⟩
    rw [List.getElem?_append_right (by rw [← r.len]; omega), ← r.len, h0]
    rfl
/-- a tuple for a part -/
def PartAt (H : Hp) (t : Addr) (p : Sj24.Part) : Prop := H t = some (.tup [.int (p.block : Int), .int p.e])
def PartsAt (H : Hp) (a : Addr) (ps : List Sj24.Part) : Prop := ∃ ts : List Addr, H a = some (.lst (ts.map V.ref)) ∧ Rep (PartAt H) ts ps
theorem PartsAt.mono {H H' : Hp} {a : Addr} {ps : List Sj24.Part} (h : PartsAt H a ps) (s : Same H H') : PartsAt H' a ps := by
  obtain ⟨ts, h1, h2⟩ := h
  exact ⟨ts, s _ _ h1, h2.mono fun t p q => s _ _ q⟩
/-- all stands but what is at x, an instance -/
theorem PartsAt.but {H H' : Hp} {a x C dx : Addr} {fs : List (Str × V)} {ps : List Sj24.Part} (h : PartsAt H a ps) (hx : H x = some (.ins C dx fs)) (s : ∀ b o, H b = some o → b ≠ x → H' b = some o) : PartsAt H' a ps := by
  obtain ⟨ts, h1, h2⟩ := h
  exact ⟨ts, s _ _ h1 (ne_of h1 hx (by intro z; cases z)), h2.mono fun t p q => s _ _ q (ne_of q hx (by intro z; cases z))⟩
def clF (c : Sj24.Cluster) (pa : Addr) : List (Str × V) := [("seed", .int (c.seed : Int)), ("parts", .ref pa), ("energy", .int c.e), ("column", .int c.col), ("row", .int c.row)]
def ClAt (A : Ad) (H : Hp) (a : Addr) (c : Sj24.Cluster) : Prop := ∃ dx pa, H a = some (.ins A.CCluster dx (clF c pa)) ∧ PartsAt H pa c.parts
def ClsAt (A : Ad) (H : Hp) (p : Addr) (cs : List Sj24.Cluster) : Prop := ∃ as : List Addr, H p = some (.lst (as.map V.ref)) ∧ Rep (ClAt A H) as cs
theorem ClAt.mono {A : Ad} {H H' : Hp} {a : Addr} {c : Sj24.Cluster} (h : ClAt A H a c) (s : Same H H') : ClAt A H' a c := by
  obtain ⟨dx, pa, h1, h2⟩ := h
  exact ⟨dx, pa, s _ _ h1, h2.mono s⟩
theorem ClsAt.mono {A : Ad} {H H' : Hp} {p : Addr} {cs : List Sj24.Cluster} (h : ClsAt A H p cs) (s : Same H H') : ClsAt A H' p cs := by
  obtain ⟨as, h1, h2⟩ := h
  exact ⟨as, s _ _ h1, h2.mono fun a c q => q.mono s⟩
def sp_greatest_place (K : PySem.W.Frag) (A : Ad) : Sp := fun vs H Q _ => ∃ (h : House) (a o : Addr) (os : List Nat), vs = [.ref a, .ref o] ∧ h.blocks.length = 1024 ∧ (∀ n ∈ os, n < 1024) ∧ os ≠ [] ∧ os.length ≤ 1024 ∧ SqL K H a ((es h).map V.int) ∧ SqL K H o (nV os) ∧
  ∀ (H' : Hp) (j : Nat), Same H H' → os[j]? = some (Sj24.greatest h os) → Q (.int (j : Int)) H'
def sp_shares_of (K : PySem.W.Frag) (A : Ad) : Sp := fun vs H Q _ => ∃ (h : House) (a o : Addr) (b : Nat) (os : List Nat), vs = [.ref a, .int (b : Int), .ref o] ∧ BlkInv h ∧ b < 1024 ∧ (∀ n ∈ os, n < 1024 ∧ 1 ≤ h.e n) ∧ os ≠ [] ∧ os.Nodup ∧ os.length ≤ 1024 ∧
  SqL K H a ((es h).map V.int) ∧ SqL K H o (nV os) ∧ ∀ (H' : Hp) (p : Addr), Same H H' → H p = none → H' p = some (.lst ((Sj24.parted h os b).map fun x => V.int x.2)) → Q (.ref p) H'
def sp_row_step (K : PySem.W.Frag) (A : Ad) : Sp := fun vs H Q _ => ∃ s b : Nat, vs = [.int (s : Int), .int (b : Int)] ∧ s < 1024 ∧ b < 1024 ∧ near s b ∧ Q (.int (Sj24.rowStep s b)) H
def sp_Cluster_own_column (K : PySem.W.Frag) (A : Ad) : Sp := fun vs H Q _ => ∃ (x dx pa : Addr) (fs : List (Str × V)) (c : Sj24.Cluster), vs = [.ref x] ∧ H x = some (.ins A.CCluster dx fs) ∧ fs.lookup ("seed" : Str) = some (.int (c.seed : Int)) ∧ fs.lookup ("parts" : Str) = some (.ref pa) ∧ fs.lookup ("energy" : Str) = some (.int c.e) ∧
  PartsAt H pa c.parts ∧ CluOk c ∧ ∀ H', Same H H' → Q (.int c.col) H'
def sp_Cluster_own_row (K : PySem.W.Frag) (A : Ad) : Sp := fun vs H Q _ => ∃ (x dx pa : Addr) (fs : List (Str × V)) (c : Sj24.Cluster), vs = [.ref x] ∧ H x = some (.ins A.CCluster dx fs) ∧ fs.lookup ("seed" : Str) = some (.int (c.seed : Int)) ∧ fs.lookup ("parts" : Str) = some (.ref pa) ∧ fs.lookup ("energy" : Str) = some (.int c.e) ∧
  PartsAt H pa c.parts ∧ CluOk c ∧ ∀ H', Same H H' → Q (.int c.row) H'
def sp_Cluster___init__ (K : PySem.W.Frag) (A : Ad) : Sp := fun vs H Q _ => ∃ (x dx pa : Addr) (c : Sj24.Cluster), vs = [.ref x, .int (c.seed : Int), .ref pa] ∧ H x = some (.ins A.CCluster dx []) ∧ PartsAt H pa c.parts ∧ CluOk c ∧
  ∀ H' : Hp, H' x = some (.ins A.CCluster dx (clF c pa)) → (∀ b o, H b = some o → b ≠ x → H' b = some o) → Q .non H'
def sp_Cluster_time_by (K : PySem.W.Frag) (A : Ad) : Sp := fun vs H Q _ => ∃ (x t : Addr) (c : Sj24.Cluster) (h : House), vs = [.ref x, .ref t] ∧ ClAt A H x c ∧ CluOk c ∧ h.blocks.length = 1024 ∧ (∀ k, -32768 ≤ (h.block k).time ∧ (h.block k).time ≤ 32767) ∧
  SqL K H t ((h.blocks.map fun b => b.time).map V.int) ∧ ∀ H', Same H H' → Q (.int (c.time h)) H'
def sp_Cluster_flag_by (K : PySem.W.Frag) (A : Ad) : Sp := fun vs H Q _ => ∃ (x t : Addr) (c : Sj24.Cluster) (h : House), vs = [.ref x, .ref t] ∧ ClAt A H x c ∧ CluOk c ∧ h.blocks.length = 1024 ∧
  SqL K H t ((h.blocks.map fun b => Sj24.bit b.full).map V.int) ∧ ∀ H', Same H H' → Q (.int (Sj24.bit (c.parts.any fun p => (h.block p.block).full))) H'
theorem nV_at {l : List Nat} {j n : Nat} (h : l[j]? = some n) : (nV l)[j]? = some (V.int (n : Int)) := by
  unfold nV
  rw [List.getElem?_map, h]
  rfl
section
variable {P : Program} {w : World} {K : PySem.W.Frag} {mg : Str → Option Value} {base : Heap} {A : Ad}
theorem ok_greatest_place {f : Addr} {fd : FuncData} (F : Fun K "greatest_place" "greatest_place" s_greatest_place f fd) (T : Txt K mg A) : FnOk P w K mg base CX0 1 f fd ["energies", "owners"] (sp_greatest_place K A) := by
  refine F.ok sc_greatest_place (fun vs H Q E h => ?_) (fun cdv _ outer s H vs Q E hr h => ?_)
  · obtain ⟨h, a, o, os, rfl, _⟩ := h
    rfl
  · obtain ⟨h, a, o, os, rfl, hl, hos, hne, hlen, hS, hO, k⟩ := h
    refine ⟨_, (pss_cons (ps_setLc (i := 2) (own := [("owner", 3)]) (g := gName 3) (tt := tYes) rfl sc_greatest_place.nd rfl rfl (sw_true rfl rfl rfl (by decide +kernel)) (pi_list (pv 1)) (blkOk_by (own := [("owner", 3)]) (N := n_greatest_place) (sc := defScope s_greatest_place) (by decide +kernel)) (fun _ _ _ _ _ => (pg_name (i := 3) sc_greatest_place.nd rfl (Or.inl rfl))) (fun _ _ _ _ _ => pts_nil) (fun _ _ _ _ _ => pe_ixL (K := K) (pv 0) (pv 3) (fun _ _ => rfl)))
      (pss_one (ps_ret (pe_bm PySem.F.plainAttrs_list PySem.F.slot_list_index PySem.F.type_list_index mt_index (pv 2) (pa_cons (pe_callB (cr_max rfl) (by rfl) T.b_max (by decide +kernel) (pa_cons (pv 2) pa_nil)) pa_nil))))), ?_⟩
    refine ⟨_, rfl, o, rfl, ⟨_, hO⟩, fun D hD => ?_⟩
    refine lc_list (K := K) (a := o) (xs := nV os) (LcP _ D fun i => ((os.take i).map h.e).map V.int) (.start hD rfl) (fun i H _ q => q.same.seq hO) ?_ ?_
    · intro j x H1 hx q
      obtain ⟨n, hn, rfl⟩ := map_some hx
      refine ⟨rfl, _, rfl, _, rfl, a, _, _, _, rfl, rfl, q.same.seq hS, es_at hl (hos n (List.mem_of_getElem? hn)), q.push hD (Same.refl _) ?_ (small' ?_)⟩
      · rw [take_snoc hn, List.map_append, List.map_append]; rfl
      · rw [List.length_map, List.length_map, List.length_take]; omega
    · intro H1 q
      have e1 : H1 D = some (.lst ((os.map h.e).map V.int)) := by
        rw [q.at_, nV_len, List.take_length]
      have hpos : 0 < (os.map h.e).length := by
        rw [List.length_map]
        exact List.length_pos_iff.mpr hne
      refine ⟨_, rfl, .inl ⟨rfl, _, SqL.of e1⟩, _, rfl, D, _, rfl, SqL.of e1, hpos, fun m hm hle => ?_⟩
      obtain ⟨n0, hn0, en0⟩ := List.mem_map.mp hm
      obtain ⟨j, g, hj, hg, hfirst⟩ := first_place (fun n => decide (h.e n = m)) (l := os) ⟨n0, hn0, by simp [en0]⟩
      have hg : h.e g = m := of_decide_eq_true hg
      have hgr : Sj24.greatest h os = g := greatest_at hj hg (fun i y hi hy => of_decide_eq_false (hfirst i y hi hy)) (fun y hy => hle _ (List.mem_map.mpr ⟨y, hy, rfl⟩))
      refine ⟨D, _, _, j, V.int (h.e g), rfl, rfl, SqL.of e1, rfl, ?_, ?_, ?_, ?_, ?_⟩
      · simp [List.all_map, flatV]
      · rw [List.getElem?_map, List.getElem?_map, hj]; rfl
      · simp [eqV, hg]
      · intro i z hi hz
        obtain ⟨y, hy, rfl⟩ := map_some hz
        obtain ⟨n, hn, rfl⟩ := map_some hy
        have := of_decide_eq_false (hfirst i n hi hn)
        simp [eqV, this]
      · exact k H1 j q.same (by rw [hgr]; exact hj)
theorem ok_shares_of {f : Addr} {fd : FuncData} (F : Fun K "shares_of" "shares_of" s_shares_of f fd) (T : Txt K mg A) (C_greatest_place : Cal P w K mg base 1 "greatest_place" ["energies", "owners"] (sp_greatest_place K A)) : FnOk P w K mg base CX0 2 f fd ["energies", "block", "owners"] (sp_shares_of K A) := by
  refine F.ok sc_shares_of (fun vs H Q E h => ?_) (fun cdv _ outer s H vs Q E hr h => ?_)
  · obtain ⟨h, a, o, b, os, rfl, _⟩ := h
    rfl
  · obtain ⟨h, a, o, b, os, rfl, I, hb, hos, hne, hnd, hlen, hS, hO, k⟩ := h
    refine ⟨_, (pss_cons (ps_set (i := 3) sc_shares_of.nd rfl (Or.inr rfl) (pe_ixL (K := K) (pv 0) (pv 1) (fun _ _ => rfl)))
      (pss_cons (ps_set (i := 4) sc_shares_of.nd rfl (Or.inr rfl) (pe_callB (cr_sum rfl) (by rfl) T.b_sum (by decide +kernel) (pa_cons (pe_lc (own := [("owner", 5)]) (g := gName 5) (tt := tYes) rfl sc_shares_of.nd (pi_list (pv 2)) (blkOk_by (own := [("owner", 5)]) (N := n_shares_of) (sc := defScope s_shares_of) (by decide +kernel)) (fun _ _ _ _ _ => (pg_name (i := 5) sc_shares_of.nd rfl (Or.inl rfl))) (fun _ _ _ _ _ => pts_nil) (fun _ _ _ _ _ => pe_ixL (K := K) (pv 0) (pv 5) (fun _ _ => rfl))) pa_nil)))
      (pss_cons (ps_setLc (i := 6) (own := [("owner", 5)]) (g := gName 5) (tt := tYes) rfl sc_shares_of.nd rfl rfl (sw_true rfl rfl rfl (by decide +kernel)) (pi_list (pv 2)) (blkOk_by (own := [("owner", 5)]) (N := n_shares_of) (sc := defScope s_shares_of) (by decide +kernel)) (fun _ _ _ _ _ => (pg_name (i := 5) sc_shares_of.nd rfl (Or.inl rfl))) (fun _ _ _ _ _ => pts_nil) (fun _ _ _ _ _ => pe_op op_fdivW (pe_op op_mul (pv 3) (pe_ixL (K := K) (pv 0) (pv 5) (fun _ _ => rfl))) (pv 4)))
      (pss_cons (ps_set (i := 7) sc_shares_of.nd rfl (Or.inl rfl) (pe_cal C_greatest_place (hr.mono (by decide)) (by rfl) (pa_cons (pv 0) (pa_cons (pv 2) pa_nil))))
      (pss_cons (ps_asg (pe_op op_sub (pe_op op_add (pe_ixL (K := K) (pv 6) (pv 7) (fun _ _ => rfl)) (pv 3)) (pe_callB (cr_sum rfl) (by rfl) T.b_sum (by decide +kernel) (pa_cons (pv 6) pa_nil))) (pg_sub (pv 6) (pv 7) set_list))
      (pss_one (ps_ret (pv 6)))))))), ?_⟩
    have hl := I.len
    have hall := all_pos (fun s hs => (hos s hs).2) hne
    have hall2 : (os.map h.e).sum ≤ 1024 * 2 ^ 40 := by
      have h1 := isum_le (l := os.map h.e) (B := 2 ^ 40) fun x hx => by
        obtain ⟨n, _, rfl⟩ := List.mem_map.mp hx
        exact I.e1 n
      rw [List.length_map] at h1
      omega
    refine ⟨_, rfl, _, rfl, a, _, _, _, rfl, rfl, hS, es_at hl hb, ?_⟩
    refine ⟨_, rfl, o, rfl, ⟨_, hO⟩, fun D hD => ?_⟩
    refine lc_list (K := K) (a := o) (xs := nV os) (LcP _ D fun i => ((os.take i).map h.e).map V.int) (.start hD rfl) (fun i H _ q => q.same.seq hO) ?_ ?_
    · intro j x H1 hx q
      obtain ⟨n, hn, rfl⟩ := map_some hx
      refine ⟨rfl, _, rfl, _, rfl, a, _, _, _, rfl, rfl, q.same.seq hS, es_at hl (hos n (List.mem_of_getElem? hn)).1, q.push hD (Same.refl _) ?_ (small' ?_)⟩
      · rw [take_snoc hn, List.map_append, List.map_append]; rfl
      · rw [List.length_map, List.length_map, List.length_take]; omega
    · intro H1 q
      have e1 : H1 D = some (.lst ((os.map h.e).map V.int)) := by
        rw [q.at_, nV_len, List.take_length]
      have s1 := q.same
      refine ⟨D, _, rfl, SqL.of e1, ?_⟩
      refine ⟨_, rfl, o, rfl, ⟨_, s1.seq hO⟩, fun D2 hD2 => ?_⟩
      refine lc_list (K := K) (a := o) (xs := nV os) (LcP _ D2 fun i => ((os.take i).map fun s => h.e b * h.e s / (os.map h.e).sum).map V.int) (.start hD2 rfl) (fun i H _ q => q.same.seq (s1.seq hO)) ?_ ?_
      · intro j x H2 hx q2
        obtain ⟨n, hn, rfl⟩ := map_some hx
        have hb0 := I.e0 b
        have hb1 := I.e1 b
        refine ⟨rfl, _, rfl, _, rfl, _, rfl, a, _, _, _, rfl, rfl, q2.same.seq (s1.seq hS), es_at hl (hos n (List.mem_of_getElem? hn)).1, _, _, rfl, rfl, .inl ⟨by omega, by omega⟩,
          _, rfl, _, _, rfl, rfl, wide_div hall (b := 64) (by omega) (by decide) (by decide), q2.push hD2 (Same.refl _) ?_ (small' ?_)⟩
        · rw [take_snoc hn, List.map_append, List.map_append]; rfl
        · rw [List.length_map, List.length_map, List.length_take]; omega
      · intro H2 q2
        have e2 : H2 D2 = some (.lst ((shares h os b).map V.int)) := by
          rw [q2.at_, nV_len, List.take_length]; rfl
        have s2 := s1.trans q2.same
        refine ⟨_, rfl, _, rfl, h, a, o, os, rfl, hl, fun n hn => (hos n hn).1, hne, hlen, s2.seq hS, s2.seq hO, fun H3 j s3 hj => ?_⟩
        have e3 := s3 _ _ e2
        have hjl : j < os.length := (List.getElem?_eq_some_iff.mp hj).1
        have hsl : (shares h os b).length = os.length := by unfold shares; rw [List.length_map]
        obtain ⟨z, hz⟩ : ∃ z, (shares h os b)[j]? = some z := ⟨_, List.getElem?_eq_getElem (by omega)⟩
        have hzV : atI ((shares h os b).map V.int) (j : Int) = some (V.int z) := atI_nat (by rw [List.getElem?_map, hz]; rfl)
        have hix : ixN ((shares h os b).map V.int).length (j : Int) = some j := by
          unfold ixN
          rw [List.length_map, if_pos (by omega), if_pos (by omega)]
          simp
        refine ⟨_, rfl, _, rfl, D2, _, _, _, rfl, rfl, SqL.of e3, hzV, _, rfl, _, _, rfl, rfl, _, rfl, D2, _, rfl, SqL.of e3, _, _, rfl, rfl, _, rfl, _, rfl, D2, _, _, j, rfl, rfl, e3, hix, ?_⟩
        refine ⟨_, rfl, k _ D2 ?_ ?_ ?_⟩
        · intro p o' e
          rw [upd_ne (ne_of_none e (s1.free hD2))]
          exact s3 _ _ (s2 _ _ e)
        · exact s1.free hD2
        · rw [upd_same, ← List.map_set, parted_set hnd hj hz, List.map_map]
          rfl
theorem ok_row_step {f : Addr} {fd : FuncData} (F : Fun K "row_step" "row_step" s_row_step f fd) (T : Txt K mg A) (C_row_of : Cal P w K mg base 1 "row_of" ["block"] (sp_row_of K A)) : FnOk P w K mg base CX0 2 f fd ["seed", "block"] (sp_row_step K A) := by
  refine F.ok sc_row_step (fun vs H Q E h => ?_) (fun cdv _ outer s H vs Q E hr h => ?_)
  · obtain ⟨s', b, rfl, _⟩ := h
    rfl
  · obtain ⟨s', b, rfl, hs, hb, hn, k⟩ := h
    refine ⟨_, (pss_one (ps_ret (pe_op op_sub (pe_op op_mod (pe_op op_add (pe_op op_sub (pe_cal C_row_of (hr.mono (by decide)) (by rfl) (pa_cons (pv 1) pa_nil)) (pe_cal C_row_of (hr.mono (by decide)) (by rfl) (pa_cons (pv 0) pa_nil))) (pe_int)) (pe_cst rfl T.c_MANY_ROWS)) (pe_int)))), ?_⟩
    refine ⟨_, rfl, _, rfl, _, rfl, _, rfl, _, _, rfl, rfl, _, _, rfl, rfl, _, _, rfl, rfl, (by decide : (0 : Int) < 32), _, _, rfl, rfl, ?_⟩
    show Q (.int (((b : Int) / 32 - (s' : Int) / 32 + 1) % 32 - 1)) H
    rw [near_step hs hb hn]
    exact k
theorem ok_Cluster_own_column {f : Addr} {fd : FuncData} (F : Fun K "own_column" "Cluster.own_column" s_Cluster_own_column f fd) (T : Txt K mg A) (C_column_of : Cal P w K mg base 1 "column_of" ["block"] (sp_column_of K A)) (C_rounded : Cal P w K mg base 1 "rounded" ["a", "b"] (sp_rounded K A)) : FnOk P w K mg base CX0 2 f fd ["self"] (sp_Cluster_own_column K A) := by
  refine F.ok sc_Cluster_own_column (fun vs H Q E h => ?_) (fun cdv _ outer s H vs Q E hr h => ?_)
  · obtain ⟨x, dx, pa, fs, c, rfl, _⟩ := h
    rfl
  · obtain ⟨x, dx, pa, fs, c, rfl, hx, f1, f2, f3, hP, O, k⟩ := h
    refine ⟨_, (pss_cons (ps_set (i := 1) sc_Cluster_own_column.nd rfl (Or.inr rfl) (pe_cal C_column_of (hr.mono (by decide)) (by rfl) (pa_cons (pe_fldK (K := K) (pv 0) rfl) pa_nil)))
      (pss_cons (ps_set (i := 2) sc_Cluster_own_column.nd rfl (Or.inl rfl) (pe_callB (cr_sum rfl) (by rfl) T.b_sum (by decide +kernel) (pa_cons (pe_lc (own := [("block", 3), ("energy", 4)]) (tt := tYes) rfl sc_Cluster_own_column.nd (pi_list (pe_fldK (K := K) (pv 0) rfl)) (blkOk_by (own := [("block", 3), ("energy", 4)]) (N := n_Cluster_own_column) (sc := defScope s_Cluster_own_column) (by decide +kernel)) (fun _ _ _ _ _ => (pg_tupK (K := K) (n := 2) rfl (pgs_cons (pg_name (i := 3) sc_Cluster_own_column.nd rfl (Or.inl rfl)) (pgs_cons (pg_name (i := 4) sc_Cluster_own_column.nd rfl (Or.inl rfl)) pgs_nil)))) (fun _ _ _ _ _ => pts_nil) (fun _ _ _ _ _ => pe_op op_mul (pv 4) (pe_op op_sub (pe_cal C_column_of (hr.mono (by decide)) (by rfl) (pa_cons (pv 3) pa_nil)) (pv 1)))) pa_nil)))
      (pss_one (ps_ret (pe_op op_add (pe_op op_mul (pe_cst rfl T.c_STEPS) (pv 1)) (pe_cal C_rounded (hr.mono (by decide)) (by rfl) (pa_cons (pe_op op_mul (pe_cst rfl T.c_STEPS) (pv 2)) (pa_cons (pe_fldK (K := K) (pv 0) rfl) pa_nil)))))))), ?_⟩
    have n := T.k_Cluster.na
    have cl := T.k_Cluster.cl
    obtain ⟨ts, ht, hr'⟩ := hP
    refine ⟨_, rfl, x, _, dx, _, _, rfl, hx, cl, n _ (by simp), f1, _, rfl, ?_⟩
    refine ⟨_, rfl, x, _, dx, _, _, rfl, hx, cl, n _ (by simp), f2, pa, rfl, ⟨_, SqL.of ht⟩, fun D hD => ?_⟩
    refine lc_list (K := K) (a := pa) (xs := ts.map V.ref) (LcP _ D fun i => ((c.parts.take i).map fun p => p.e * (((p.block % 32 : Nat) : Int) - ((c.seed % 32 : Nat) : Int))).map V.int) (.start hD rfl) (fun i H _ q => q.same.seq (SqL.of ht)) ?_ ?_
    · intro j y H1 hy q
      obtain ⟨t, hty, rfl⟩ := map_some hy
      obtain ⟨p, hp, ep⟩ := hr'.at_ j t hty
      have hpb := (O.part p (List.mem_of_getElem? hp)).1
      have ep1 : H1 t = some (.tup [.int (p.block : Int), .int p.e]) := q.same _ _ ep
      refine ⟨t, _, rfl, .inl (.inl ep1), rfl, _, _, rfl, _, _, rfl, rfl, rfl, ?_⟩
      have hsd := O.seed
      refine ⟨_, rfl, _, rfl, _, rfl, _, rfl, _, _, rfl, rfl, _, _, rfl, rfl, .inr ⟨by omega, by omega⟩, q.push hD (Same.refl _) ?_ (small' ?_)⟩
      · rw [take_snoc hp, List.map_append, List.map_append]
        rfl
      · rw [List.length_map, List.length_map, List.length_take]
        have := O.len
        omega
    · intro H1 q
      have e1 : H1 D = some (.lst ((c.parts.map fun p => p.e * (((p.block % 32 : Nat) : Int) - ((c.seed % 32 : Nat) : Int))).map V.int)) := by
        rw [q.at_, List.length_map, hr'.len, List.take_length]
      have o1 := O.pos
      have o2 := O.most
      refine ⟨D, _, rfl, SqL.of e1, ?_⟩
      refine ⟨_, rfl, _, _, rfl, rfl, .inl ⟨by decide, by decide⟩, ?_⟩
      refine ⟨_, rfl, _, _, rfl, rfl, .inl ⟨by decide, by decide⟩, _, rfl, x, _, dx, _, _, rfl, q.same _ _ hx, cl, n _ (by simp), f3, _, c.e, rfl, o1, by omega, ?_⟩
      refine ⟨_, _, rfl, rfl, ?_⟩
      exact k H1 q.same
theorem ok_Cluster_own_row {f : Addr} {fd : FuncData} (F : Fun K "own_row" "Cluster.own_row" s_Cluster_own_row f fd) (T : Txt K mg A) (C_rounded : Cal P w K mg base 1 "rounded" ["a", "b"] (sp_rounded K A)) (C_row_of : Cal P w K mg base 1 "row_of" ["block"] (sp_row_of K A)) (C_row_step : Cal P w K mg base 2 "row_step" ["seed", "block"] (sp_row_step K A)) : FnOk P w K mg base CX0 3 f fd ["self"] (sp_Cluster_own_row K A) := by
  refine F.ok sc_Cluster_own_row (fun vs H Q E h => ?_) (fun cdv _ outer s H vs Q E hr h => ?_)
  · obtain ⟨x, dx, pa, fs, c, rfl, _⟩ := h
    rfl
  · obtain ⟨x, dx, pa, fs, c, rfl, hx, f1, f2, f3, hP, O, k⟩ := h
    refine ⟨_, (pss_cons (ps_set (i := 1) sc_Cluster_own_row.nd rfl (Or.inl rfl) (pe_callB (cr_sum rfl) (by rfl) T.b_sum (by decide +kernel) (pa_cons (pe_lc (own := [("block", 2), ("energy", 3)]) (tt := tYes) rfl sc_Cluster_own_row.nd (pi_list (pe_fldK (K := K) (pv 0) rfl)) (blkOk_by (own := [("block", 2), ("energy", 3)]) (N := n_Cluster_own_row) (sc := defScope s_Cluster_own_row) (by decide +kernel)) (fun _ _ _ _ _ => (pg_tupK (K := K) (n := 2) rfl (pgs_cons (pg_name (i := 2) sc_Cluster_own_row.nd rfl (Or.inl rfl)) (pgs_cons (pg_name (i := 3) sc_Cluster_own_row.nd rfl (Or.inl rfl)) pgs_nil)))) (fun _ _ _ _ _ => pts_nil) (fun _ _ _ _ _ => pe_op op_mul (pv 3) (pe_cal C_row_step (hr.mono (by decide)) (by rfl) (pa_cons (pe_fldK (K := K) (pv 0) rfl) (pa_cons (pv 2) pa_nil))))) pa_nil)))
      (pss_one (ps_ret (pe_op op_mod (pe_op op_add (pe_op op_mul (pe_cst rfl T.c_STEPS) (pe_cal C_row_of (hr.mono (by decide)) (by rfl) (pa_cons (pe_fldK (K := K) (pv 0) rfl) pa_nil))) (pe_cal C_rounded (hr.mono (by decide)) (by rfl) (pa_cons (pe_op op_mul (pe_cst rfl T.c_STEPS) (pv 1)) (pa_cons (pe_fldK (K := K) (pv 0) rfl) pa_nil)))) (pe_cst rfl T.c_CYCLE))))), ?_⟩
    have n := T.k_Cluster.na
    have cl := T.k_Cluster.cl
    obtain ⟨ts, ht, hr'⟩ := hP
    refine ⟨_, rfl, x, _, dx, _, _, rfl, hx, cl, n _ (by simp), f2, pa, rfl, ⟨_, SqL.of ht⟩, fun D hD => ?_⟩
    refine lc_list (K := K) (a := pa) (xs := ts.map V.ref) (LcP _ D fun i => ((c.parts.take i).map fun p => p.e * Sj24.rowStep c.seed p.block).map V.int) (.start hD rfl) (fun i H _ q => q.same.seq (SqL.of ht)) ?_ ?_
    · intro j y H1 hy q
      obtain ⟨t, hty, rfl⟩ := map_some hy
      obtain ⟨p, hp, ep⟩ := hr'.at_ j t hty
      have hpb := O.part p (List.mem_of_getElem? hp)
      have ep1 : H1 t = some (.tup [.int (p.block : Int), .int p.e]) := q.same _ _ ep
      refine ⟨t, _, rfl, .inl (.inl ep1), rfl, _, _, rfl, _, _, rfl, rfl, rfl, ?_⟩
      have hst : Sj24.rowStep c.seed p.block = 0 ∨ Sj24.rowStep c.seed p.block = 1 ∨ Sj24.rowStep c.seed p.block = -1 := by
        unfold Sj24.rowStep
        split
        · exact .inl rfl
        · split
          · exact .inr (.inl rfl)
          · exact .inr (.inr rfl)
      refine ⟨_, rfl, _, rfl, x, _, dx, _, _, rfl, q.same _ _ hx, cl, n _ (by simp), f1, _, rfl, c.seed, p.block, rfl, O.seed, hpb.1, hpb.2, ?_⟩
      refine ⟨_, _, rfl, rfl, .inr ⟨by omega, by omega⟩, q.push hD (Same.refl _) ?_ (small' ?_)⟩
      · rw [take_snoc hp, List.map_append, List.map_append]
        rfl
      · rw [List.length_map, List.length_map, List.length_take]
        have := O.len
        omega
    · intro H1 q
      have e1 : H1 D = some (.lst ((c.parts.map fun p => p.e * Sj24.rowStep c.seed p.block).map V.int)) := by
        rw [q.at_, List.length_map, hr'.len, List.take_length]
      have o1 := O.pos
      have o2 := O.most
      refine ⟨D, _, rfl, SqL.of e1, ?_⟩
      refine ⟨_, rfl, x, _, dx, _, _, rfl, q.same _ _ hx, cl, n _ (by simp), f1, _, rfl, ?_⟩
      refine ⟨_, _, rfl, rfl, .inl ⟨by decide, by decide⟩, ?_⟩
      refine ⟨_, rfl, _, _, rfl, rfl, .inl ⟨by decide, by decide⟩, _, rfl, x, _, dx, _, _, rfl, q.same _ _ hx, cl, n _ (by simp), f3, _, c.e, rfl, o1, by omega, ?_⟩
      refine ⟨_, _, rfl, rfl, _, _, rfl, rfl, (by decide : (0 : Int) < 2048), ?_⟩
      exact k H1 q.same
end
end Jb
end
section
set_option Elab.async false
set_option linter.all false
set_option maxRecDepth 100000
set_option maxHeartbeats 2000000
namespace Jb
open PySem PySem.Spec PyProof.Rows L2
open Sj24 (House)
/-! ### a cluster made; the parts by their seeds; all clusters -/
theorem parts_upd {G : Hp} {a a' : Addr} {xs ys : List V} {ps : List Sj24.Part} (h : PartsAt G a' ps) (ha : G a = some (.lst xs)) (hn : a' ≠ a) : PartsAt (upd G a (.lst ys)) a' ps := by
  obtain ⟨ts, h1, h2⟩ := h
  exact ⟨ts, by rw [upd_ne hn]; exact h1, h2.mono fun t p q => by
    show upd G a (.lst ys) t = _
    rw [upd_ne (ne_of q ha (by intro z; cases z))]
    exact q⟩
theorem parts_push {G : Hp} {a t : Addr} {ts : List Addr} {ps : List Sj24.Part} {p : Sj24.Part} (ha : G a = some (.lst (ts.map V.ref))) (hr : Rep (PartAt G) ts ps) (ht : PartAt G t p) : PartsAt (upd G a (.lst (ts.map V.ref ++ [V.ref t]))) a (ps ++ [p]) := by
  have f : ∀ t' p', PartAt G t' p' → PartAt (upd G a (.lst (ts.map V.ref ++ [V.ref t]))) t' p' := fun t' p' q => by
    show upd G a _ t' = _
    rw [upd_ne (ne_of q ha (by intro z; cases z))]
    exact q
  exact ⟨ts ++ [t], by rw [upd_same, List.map_append]; rfl, (hr.mono f).push (f _ _ ht)⟩
/-- 1024 lists of parts -/
structure FoundAt (G : Hp) (F : Addr) (as : List Addr) (l : List (Nat × Sj24.Part)) : Prop where
  at_ : G F = some (.lst (as.map V.ref))
  nd : as.Nodup
  len : as.length = 1024
  off : F ∉ as
  parts : ∀ (k : Nat) a, as[k]? = some a → PartsAt G a (partsOf l k)
theorem FoundAt.mono {G G' : Hp} {F : Addr} {as : List Addr} {l : List (Nat × Sj24.Part)} (h : FoundAt G F as l) (s : Same G G') : FoundAt G' F as l :=
  ⟨s _ _ h.at_, h.nd, h.len, h.off, fun k a e => (h.parts k a e).mono s⟩
theorem FoundAt.add {G : Hp} {F a t : Addr} {as ts : List Addr} {l : List (Nat × Sj24.Part)} {x : Nat × Sj24.Part} (h : FoundAt G F as l) (ha : as[x.1]? = some a) (h1 : G a = some (.lst (ts.map V.ref))) (h2 : Rep (PartAt G) ts (partsOf l x.1)) (ht : PartAt G t x.2) :
    FoundAt (upd G a (.lst (ts.map V.ref ++ [V.ref t]))) F as (l ++ [x]) := by
  have nF : F ≠ a := fun z => h.off (by rw [z]; exact List.mem_of_getElem? ha)
  refine ⟨by rw [upd_ne nF]; exact h.at_, h.nd, h.len, h.off, fun k b hb => ?_⟩
  rw [partsOf_append]
  by_cases hk : x.1 = k
  · subst hk
    rw [ha] at hb
    cases hb
    rw [partsOf_same rfl]
    exact parts_push h1 h2 ht
  · rw [partsOf_other hk, List.append_nil]
    exact parts_upd (h.parts k b hb) h1 fun z => hk (nd_ix h.nd ha (by rw [← z]; exact hb))
theorem time_at {h : House} (hl : h.blocks.length = 1024) {k : Nat} (hk : k < 1024) : atI ((h.blocks.map fun b => b.time).map V.int) (k : Int) = some (V.int (h.block k).time) := atI_nat (by
  unfold House.block
  rw [List.getElem?_map, List.getElem?_map, List.getD_eq_getElem?_getD, List.getElem?_eq_getElem (by omega)]
  rfl)
theorem flag_at {h : House} (hl : h.blocks.length = 1024) {k : Nat} (hk : k < 1024) : atI ((h.blocks.map fun b => Sj24.bit b.full).map V.int) (k : Int) = some (V.int (Sj24.bit (h.block k).full)) := atI_nat (by
  unfold House.block
  rw [List.getElem?_map, List.getElem?_map, List.getD_eq_getElem?_getD, List.getElem?_eq_getElem (by omega)]
  rfl)
theorem dp_nats {K : PySem.W.Frag} {H : Hp} : ∀ l : List Nat, DpAll K H (nV l) (l.map fun n : Nat => PyData.int (n : Int))
  | [] => .nil
  | a :: l => .cons (.int _) (dp_nats l)
theorem lay_nats : ∀ l : List Nat, PyData.canLayAll0 (l.map fun n : Nat => PyData.int (n : Int)) = true
  | [] => rfl
  | a :: l => by
    show (true && PyData.canLayAll0 (l.map fun n : Nat => PyData.int (n : Int))) = true
    rw [lay_nats l]
    rfl
theorem depth_nats : ∀ l : List Nat, PyData.depthAll (l.map fun n : Nat => PyData.int (n : Int)) = 0
  | [] => rfl
  | a :: l => by
    show max 0 (PyData.depthAll (l.map fun n : Nat => PyData.int (n : Int))) = 0
    rw [depth_nats l]
    rfl
theorem shaped_nats (l : List Nat) : SeqAt.shaped (.list (l.map fun n : Nat => PyData.int (n : Int))) = true := by
  show (PyData.canLayAll0 _ && decide (PyData.depthAll _ + 1 ≤ 64)) = true
  rw [lay_nats, depth_nats]
  rfl
theorem eqv_nil (l : List Nat) : PyData.eqv (.list (l.map fun n : Nat => PyData.int (n : Int))) (.list []) = l.isEmpty := by
  cases l with
  | nil => rfl
  | cons a l => rfl
def sp_parts_by_seeds (K : PySem.W.Frag) (A : Ad) : Sp := fun vs H Q _ => ∃ (h : House) (a m : Addr), vs = [.ref a, .ref m, .int h.low] ∧ BlkInv h ∧ SqL K H a ((es h).map V.int) ∧ SqL K H m (marksV h) ∧
  ∀ (p : Addr) (H' : Hp) (as : List Addr), Same H H' → H p = none → FoundAt (minus H' H) p as (upTo h 1024) → Q (.ref p) H'
def sp_clusters_of (K : PySem.W.Frag) (A : Ad) : Sp := fun vs H Q _ => ∃ (h : House) (a : Addr), vs = [.ref a, .int h.seed, .int h.low] ∧ BlkInv h ∧ SqL K H a ((es h).map V.int) ∧
  ∀ (p : Addr) (H' : Hp), Same H H' → H p = none → ClsAt A (minus H' H) p (Sj24.clustersOf h) → Q (.ref p) H'
def sp_energy_inside (K : PySem.W.Frag) (A : Ad) : Sp := fun vs H Q _ => ∃ (h : House) (a : Addr), vs = [.ref a, .int h.seed, .int h.low] ∧ h.blocks.length = 1024 ∧ SqL K H a ((es h).map V.int) ∧
  ∀ H', Same H H' → Q (.int (((List.range 1024).filter fun b => !(Sj24.owners h (Sj24.seeds h) b).isEmpty).map h.e).sum) H'
section
variable {P : Program} {w : World} {K : PySem.W.Frag} {mg : Str → Option Value} {base : Heap} {A : Ad}
theorem ok_Cluster___init__ {f : Addr} {fd : FuncData} (F : Fun K "__init__" "Cluster.__init__" s_Cluster___init__ f fd) (T : Txt K mg A) (C_Cluster_own_column : CalM P w K mg base 2 A.CCluster "own_column" ["self"] (sp_Cluster_own_column K A)) (C_Cluster_own_row : CalM P w K mg base 3 A.CCluster "own_row" ["self"] (sp_Cluster_own_row K A)) : FnOk P w K mg base CX0 4 f fd ["self", "seed", "parts"] (sp_Cluster___init__ K A) := by
  refine F.ok sc_Cluster___init__ (fun vs H Q E h => ?_) (fun cdv _ outer s H vs Q E hr h => ?_)
  · obtain ⟨x, dx, pa, c, rfl, _⟩ := h
    rfl
  · obtain ⟨x, dx, pa, c, rfl, hx, hP, O, k⟩ := h
    refine ⟨_, (pss_cons (ps_fld (pv 0) (pv 1) rfl)
      (pss_cons (ps_fld (pv 0) (pv 2) rfl)
      (pss_cons (ps_fld (pv 0) (pe_callB (cr_sum rfl) (by rfl) T.b_sum (by decide +kernel) (pa_cons (pe_lc (own := [("block", 3), ("energy", 4)]) (tt := tYes) rfl sc_Cluster___init__.nd (pi_list (pv 2)) (blkOk_by (own := [("block", 3), ("energy", 4)]) (N := n_Cluster___init__) (sc := defScope s_Cluster___init__) (by decide +kernel)) (fun _ _ _ _ _ => (pg_tupK (K := K) (n := 2) rfl (pgs_cons (pg_name (i := 3) sc_Cluster___init__.nd rfl (Or.inl rfl)) (pgs_cons (pg_name (i := 4) sc_Cluster___init__.nd rfl (Or.inl rfl)) pgs_nil)))) (fun _ _ _ _ _ => pts_nil) (fun _ _ _ _ _ => pv 4)) pa_nil)) rfl)
      (pss_cons (ps_fld (pv 0) (pe_mth0 (pv 0) C_Cluster_own_column (hr.mono (by decide))) rfl)
      (pss_one (ps_fld (pv 0) (pe_mth0 (pv 0) C_Cluster_own_row (hr.mono (by decide))) rfl)))))), ?_⟩
    have n := T.k_Cluster.na
    have cl := T.k_Cluster.cl
    -- self.seed, self.parts
    refine ⟨_, rfl, _, rfl, x, _, dx, _, rfl, hx, cl, n _ (by simp), (by show 0 < 1000; decide), ?_⟩
    refine ⟨_, rfl, _, rfl, x, _, dx, _, rfl, upd_same, cl, n _ (by simp), (by show 1 < 1000; decide), ?_⟩
    rw [upd_upd, ini_Cluster_seed, ini_Cluster_parts]
    have hP1 : PartsAt (upd H x (.ins A.CCluster dx [("seed", .int (c.seed : Int)), ("parts", .ref pa)])) pa c.parts := hP.but hx fun b o e hb => by rw [upd_ne hb]; exact e
    obtain ⟨ts, ht, hr'⟩ := hP1
    -- self.energy
    refine ⟨_, rfl, pa, rfl, ⟨_, SqL.of ht⟩, fun D hD => ?_⟩
    refine lc_list (K := K) (a := pa) (xs := ts.map V.ref) (LcP _ D fun i => ((c.parts.take i).map fun p => p.e).map V.int) (.start hD rfl) (fun i H _ q => q.same.seq (SqL.of ht)) ?_ ?_
    · intro j y H1 hy q
      obtain ⟨t, hty, rfl⟩ := map_some hy
      obtain ⟨p, hp, ep⟩ := hr'.at_ j t hty
      have ep1 : H1 t = some (.tup [.int (p.block : Int), .int p.e]) := q.same _ _ ep
      refine ⟨t, _, rfl, .inl (.inl ep1), rfl, _, _, rfl, _, _, rfl, rfl, rfl, ?_⟩
      refine ⟨_, rfl, q.push hD (Same.refl _) ?_ (small' ?_)⟩
      · rw [take_snoc hp, List.map_append, List.map_append]
        rfl
      · rw [List.length_map, List.length_map, List.length_take]
        have := O.len
        omega
    · intro H1 q
      have e1 : H1 D = some (.lst ((c.parts.map fun p => p.e).map V.int)) := by
        rw [q.at_, List.length_map, hr'.len, List.take_length]
      have hx1 := q.same _ _ (upd_same (H := H) (a := x))
      refine ⟨D, _, rfl, SqL.of e1, ?_⟩
      refine ⟨_, rfl, x, _, dx, _, rfl, hx1, cl, n _ (by simp), (by show 2 < 1000; decide), ?_⟩
      rw [ini_Cluster_energy]
      have s1 : ∀ b o, H b = some o → b ≠ x → H1 b = some o := fun b o e hb => q.same _ _ (by rw [upd_ne hb]; exact e)
      have hP2 : PartsAt H1 pa c.parts := hP.but hx s1
      -- self.column
      refine ⟨_, rfl, x, dx, _, rfl, upd_same, no3_Cluster_own_column, x, dx, pa, _, c, rfl, upd_same, lk3_Cluster_seed, lk3_Cluster_parts, lk3_Cluster_energy, hP2.but hx1 (fun b o e hb => by rw [upd_ne hb]; exact e), O, fun H2 s2 => ?_⟩
      have hx2 := s2 _ _ (upd_same (H := H1) (a := x))
      refine ⟨_, rfl, x, _, dx, _, rfl, hx2, cl, n _ (by simp), (by show 3 < 1000; decide), ?_⟩
      rw [ini_Cluster_column]
      have s3 : ∀ b o, H b = some o → b ≠ x → H2 b = some o := fun b o e hb => s2 _ _ (by rw [upd_ne hb]; exact s1 _ _ e hb)
      have hP3 : PartsAt H2 pa c.parts := hP.but hx s3
      -- self.row
      refine ⟨_, rfl, x, dx, _, rfl, upd_same, no4_Cluster_own_row, x, dx, pa, _, c, rfl, upd_same, lk4_Cluster_seed, lk4_Cluster_parts, lk4_Cluster_energy, hP3.but hx2 (fun b o e hb => by rw [upd_ne hb]; exact e), O, fun H3 s4 => ?_⟩
      have hx3 := s4 _ _ (upd_same (H := H2) (a := x))
      refine ⟨_, rfl, x, _, dx, _, rfl, hx3, cl, n _ (by simp), (by show 4 < 1000; decide), ?_⟩
      rw [ini_Cluster_row]
      refine k _ upd_same fun b o e hb => ?_
      rw [upd_ne hb]
      exact s4 _ _ (by rw [upd_ne hb]; exact s3 _ _ e hb)
theorem ok_Cluster_time_by {f : Addr} {fd : FuncData} (F : Fun K "time_by" "Cluster.time_by" s_Cluster_time_by f fd) (T : Txt K mg A) (C_rounded : Cal P w K mg base 1 "rounded" ["a", "b"] (sp_rounded K A)) : FnOk P w K mg base CX0 2 f fd ["self", "times"] (sp_Cluster_time_by K A) := by
  refine F.ok sc_Cluster_time_by (fun vs H Q E h => ?_) (fun cdv _ outer s H vs Q E hr h => ?_)
  · obtain ⟨x, t, c, h, rfl, _⟩ := h
    rfl
  · obtain ⟨x, t, c, h, rfl, ⟨dx, pa, hx, hP⟩, O, hl, ht0, hS, k⟩ := h
    refine ⟨_, (pss_one (ps_ret (pe_cal C_rounded (hr.mono (by decide)) (by rfl) (pa_cons (pe_callB (cr_sum rfl) (by rfl) T.b_sum (by decide +kernel) (pa_cons (pe_lc (own := [("block", 2), ("energy", 3)]) (tt := tYes) rfl sc_Cluster_time_by.nd (pi_list (pe_fldK (K := K) (pv 0) rfl)) (blkOk_by (own := [("block", 2), ("energy", 3)]) (N := n_Cluster_time_by) (sc := defScope s_Cluster_time_by) (by decide +kernel)) (fun _ _ _ _ _ => (pg_tupK (K := K) (n := 2) rfl (pgs_cons (pg_name (i := 2) sc_Cluster_time_by.nd rfl (Or.inl rfl)) (pgs_cons (pg_name (i := 3) sc_Cluster_time_by.nd rfl (Or.inl rfl)) pgs_nil)))) (fun _ _ _ _ _ => pts_nil) (fun _ _ _ _ _ => pe_op op_mul (pv 3) (pe_ixL (K := K) (pv 1) (pv 2) (fun _ _ => rfl)))) pa_nil)) (pa_cons (pe_fldK (K := K) (pv 0) rfl) pa_nil))))), ?_⟩
    have n := T.k_Cluster.na
    have cl := T.k_Cluster.cl
    obtain ⟨ts, ht, hr'⟩ := hP
    refine ⟨_, rfl, x, _, dx, _, _, rfl, hx, cl, n _ (by simp), lk_Cluster_parts, pa, rfl, ⟨_, SqL.of ht⟩, fun D hD => ?_⟩
    refine lc_list (K := K) (a := pa) (xs := ts.map V.ref) (LcP _ D fun i => ((c.parts.take i).map fun p => p.e * (h.block p.block).time).map V.int) (.start hD rfl) (fun i H _ q => q.same.seq (SqL.of ht)) ?_ ?_
    · intro j y H1 hy q
      obtain ⟨t, hty, rfl⟩ := map_some hy
      obtain ⟨p, hp, ep⟩ := hr'.at_ j t hty
      have hpb := O.part p (List.mem_of_getElem? hp)
      have ep1 : H1 t = some (.tup [.int (p.block : Int), .int p.e]) := q.same _ _ ep
      have tb := ht0 p.block
      refine ⟨t, _, rfl, .inl (.inl ep1), rfl, _, _, rfl, _, _, rfl, rfl, rfl, ?_⟩
      refine ⟨_, rfl, _, rfl, _, rfl, _, _, _, _, rfl, rfl, q.same.seq hS, time_at hl hpb.1, _, _, rfl, rfl, .inr ⟨by omega, by omega⟩, q.push hD (Same.refl _) ?_ (small' ?_)⟩
      · rw [take_snoc hp, List.map_append, List.map_append]
        rfl
      · rw [List.length_map, List.length_map, List.length_take]
        have := O.len
        omega
    · intro H1 q
      have e1 : H1 D = some (.lst ((c.parts.map fun p => p.e * (h.block p.block).time).map V.int)) := by
        rw [q.at_, List.length_map, hr'.len, List.take_length]
      have o1 := O.pos
      have o2 := O.most
      refine ⟨D, _, rfl, SqL.of e1, ?_⟩
      refine ⟨_, rfl, x, _, dx, _, _, rfl, q.same _ _ hx, cl, n _ (by simp), lk_Cluster_energy, _, c.e, rfl, o1, by omega, ?_⟩
      exact k H1 q.same
theorem ok_Cluster_flag_by {f : Addr} {fd : FuncData} (F : Fun K "flag_by" "Cluster.flag_by" s_Cluster_flag_by f fd) (T : Txt K mg A) : FnOk P w K mg base CX0 1 f fd ["self", "flags"] (sp_Cluster_flag_by K A) := by
  refine F.ok sc_Cluster_flag_by (fun vs H Q E h => ?_) (fun cdv _ outer s H vs Q E hr h => ?_)
  · obtain ⟨x, t, c, h, rfl, _⟩ := h
    rfl
  · obtain ⟨x, t, c, h, rfl, ⟨dx, pa, hx, hP⟩, O, hl, hS, k⟩ := h
    refine ⟨_, (pss_one (ps_ret (pe_callB (cr_max rfl) (by rfl) T.b_max (by decide +kernel) (pa_cons (pe_lc (own := [("block", 2), ("energy", 3)]) (tt := tYes) rfl sc_Cluster_flag_by.nd (pi_list (pe_fldK (K := K) (pv 0) rfl)) (blkOk_by (own := [("block", 2), ("energy", 3)]) (N := n_Cluster_flag_by) (sc := defScope s_Cluster_flag_by) (by decide +kernel)) (fun _ _ _ _ _ => (pg_tupK (K := K) (n := 2) rfl (pgs_cons (pg_name (i := 2) sc_Cluster_flag_by.nd rfl (Or.inl rfl)) (pgs_cons (pg_name (i := 3) sc_Cluster_flag_by.nd rfl (Or.inl rfl)) pgs_nil)))) (fun _ _ _ _ _ => pts_nil) (fun _ _ _ _ _ => pe_ixL (K := K) (pv 1) (pv 2) (fun _ _ => rfl))) pa_nil)))), ?_⟩
    have n := T.k_Cluster.na
    have cl := T.k_Cluster.cl
    obtain ⟨ts, ht, hr'⟩ := hP
    refine ⟨_, rfl, x, _, dx, _, _, rfl, hx, cl, n _ (by simp), lk_Cluster_parts, pa, rfl, ⟨_, SqL.of ht⟩, fun D hD => ?_⟩
    refine lc_list (K := K) (a := pa) (xs := ts.map V.ref) (LcP _ D fun i => ((c.parts.take i).map fun p => Sj24.bit (h.block p.block).full).map V.int) (.start hD rfl) (fun i H _ q => q.same.seq (SqL.of ht)) ?_ ?_
    · intro j y H1 hy q
      obtain ⟨t, hty, rfl⟩ := map_some hy
      obtain ⟨p, hp, ep⟩ := hr'.at_ j t hty
      have hpb := O.part p (List.mem_of_getElem? hp)
      have ep1 : H1 t = some (.tup [.int (p.block : Int), .int p.e]) := q.same _ _ ep
      refine ⟨t, _, rfl, .inl (.inl ep1), rfl, _, _, rfl, _, _, rfl, rfl, rfl, ?_⟩
      refine ⟨_, rfl, _, rfl, _, _, _, _, rfl, rfl, q.same.seq hS, flag_at hl hpb.1, q.push hD (Same.refl _) ?_ (small' ?_)⟩
      · rw [take_snoc hp, List.map_append, List.map_append]
        rfl
      · rw [List.length_map, List.length_map, List.length_take]
        have := O.len
        omega
    · intro H1 q
      have e1 : H1 D = some (.lst ((c.parts.map fun p => Sj24.bit (h.block p.block).full).map V.int)) := by
        rw [q.at_, List.length_map, hr'.len, List.take_length]
      refine ⟨D, _, rfl, SqL.of e1, (by rw [List.length_map]; exact List.length_pos_iff.mpr O.ne), fun m hm hle => ?_⟩
      have em : m = Sj24.bit (c.parts.any fun p => (h.block p.block).full) := by
        obtain ⟨p, hp, rfl⟩ := List.mem_map.mp hm
        cases ea : c.parts.any fun p => (h.block p.block).full with
        | false =>
          have := List.any_eq_false.mp ea p hp
          have e2 : (h.block p.block).full = false := by simpa using this
          rw [e2]
        | true =>
          obtain ⟨p', hp', e2⟩ := List.any_eq_true.mp ea
          have l1 := hle _ (List.mem_map.mpr ⟨p', hp', rfl⟩)
          rw [e2] at l1
          cases e3 : (h.block p.block).full with
          | true => rfl
          | false =>
            rw [e3] at l1
            exact absurd l1 (by decide)
      rw [em]
      exact k H1 q.same
theorem ok_energy_inside {f : Addr} {fd : FuncData} (F : Fun K "energy_inside" "energy_inside" s_energy_inside f fd) (T : Txt K mg A) (C_marks_of : Cal P w K mg base 4 "marks_of" ["energies", "least"] (sp_marks_of K A)) (C_owners_of : Cal P w K mg base 3 "owners_of" ["energies", "marks", "low", "block"] (sp_owners_of K A)) : FnOk P w K mg base CX0 5 f fd ["energies", "least", "low"] (sp_energy_inside K A) := by
  refine F.ok sc_energy_inside (fun vs H Q E h => ?_) (fun cdv _ outer s H vs Q E hr h => ?_)
  · obtain ⟨h, a, rfl, _⟩ := h
    rfl
  · obtain ⟨h, a, rfl, hl, hS, k⟩ := h
    refine ⟨_, (pss_cons (ps_set (i := 3) sc_energy_inside.nd rfl (Or.inr rfl) (pe_cal C_marks_of (hr.mono (by decide)) (by rfl) (pa_cons (pv 0) (pa_cons (pv 1) pa_nil))))
      (pss_cons (ps_setLc (i := 4) (own := [("block", 5)]) (g := gName 5) rfl sc_energy_inside.nd rfl rfl (sw_true rfl rfl rfl (by decide +kernel)) (pi_range1 (by rfl) T.b_range (pa_cons (pe_cst rfl T.c_MANY_BLOCKS) pa_nil)) (blkOk_by (own := [("block", 5)]) (N := n_energy_inside) (sc := defScope s_energy_inside) (by decide +kernel)) (fun _ _ _ _ _ => (pg_name (i := 5) sc_energy_inside.nd rfl (Or.inl rfl))) (fun _ _ _ _ _ => pts_one (pt_cmpR (op_neK (K := K) hr.units) (pe_cal C_owners_of (hr.mono (by decide)) (by rfl) (pa_cons (pv 0) (pa_cons (pv 3) (pa_cons (pv 2) (pa_cons (pv 5) pa_nil))))) (pe_lst pa_nil) (nomark _))) (fun _ _ _ _ _ => pv 5))
      (pss_one (ps_ret (pe_callB (cr_sum rfl) (by rfl) T.b_sum (by decide +kernel) (pa_cons (pe_lc (own := [("block", 5)]) (g := gName 5) (tt := tYes) rfl sc_energy_inside.nd (pi_list (pv 4)) (blkOk_by (own := [("block", 5)]) (N := n_energy_inside) (sc := defScope s_energy_inside) (by decide +kernel)) (fun _ _ _ _ _ => (pg_name (i := 5) sc_energy_inside.nd rfl (Or.inl rfl))) (fun _ _ _ _ _ => pts_nil) (fun _ _ _ _ _ => pe_ixL (K := K) (pv 0) (pv 5) (fun _ _ => rfl))) pa_nil)))))), ?_⟩
    refine ⟨_, rfl, _, rfl, h, a, rfl, hl, hS, fun m H1 s1 hm e1 => ?_⟩
    refine ⟨1024, rfl, by decide, by decide, fun D hD => ?_⟩
    refine lc_range (lo := 0) (n := 1024) (LcP _ D fun i => nV ((List.range i).filter fun b => !(Sj24.owners h (Sj24.seeds h) b).isEmpty)) (.start hD rfl) ?_ ?_
    · intro i H2 hi q
      refine ⟨rfl, _, rfl, _, rfl, _, rfl, _, rfl, h, a, m, i, by rw [Int.zero_add], hl, hi, (s1.trans q.same).seq hS, q.same.seq (SqL.of e1), fun o H3 s3 ho e3 => ?_⟩
      refine ⟨Nat.zero_le _, fun z hz => ?_⟩
      have s4 : Same H3 (upd H3 z (.lst [])) := Same.upd_new hz
      refine ⟨_, _, .lst (SqL.of (s4 _ _ e3)) (dp_nats _), .lst (SqL.of upd_same) .nil, shaped_nats _, by decide, ?_⟩
      rw [eqv_nil]
      have step : ∀ d, (!(Sj24.owners h (Sj24.seeds h) i).isEmpty) = d → nV ((List.range (i + 1)).filter fun b => !(Sj24.owners h (Sj24.seeds h) b).isEmpty) = nV ((List.range i).filter fun b => !(Sj24.owners h (Sj24.seeds h) b).isEmpty) ++ (if d = true then [V.int (i : Int)] else []) := by
        intro d hd
        rw [List.range_succ, List.filter_append]
        unfold nV
        rw [List.map_append]
        congr 1
        simp only [List.filter, hd]
        cases d <;> rfl
      have s5 : Same H2 (upd H3 z (.lst [])) := s3.trans s4
      refine ⟨_, rfl, ite_b (fun c => ?_) (fun c => ?_)⟩
      · refine ⟨_, rfl, ?_⟩
        rw [Int.zero_add]
        refine q.push hD s5 (by rw [step true c]; rfl) (small' ?_)
        rw [nV_len]
        refine Nat.le_trans (List.length_filter_le _ _) ?_
        rw [List.length_range]
        omega
      · exact q.skip s5 (by rw [step false c]; simp)
    · intro H2 q
      have e2 := q.at_
      refine ⟨_, rfl, D, rfl, ⟨_, SqL.of e2⟩, fun D2 hD2 => ?_⟩
      refine lc_list (K := K) (a := D) (xs := nV ((List.range 1024).filter fun b => !(Sj24.owners h (Sj24.seeds h) b).isEmpty)) (LcP _ D2 fun i => ((((List.range 1024).filter fun b => !(Sj24.owners h (Sj24.seeds h) b).isEmpty).take i).map h.e).map V.int)
        (.start hD2 rfl) (fun i H _ q2 => q2.same.seq (SqL.of e2)) ?_ ?_
      · intro j y H3 hy q2
        obtain ⟨b, hb, rfl⟩ := map_some hy
        have lb : b < 1024 := List.mem_range.mp (List.mem_filter.mp (List.mem_of_getElem? hb)).1
        refine ⟨rfl, _, rfl, _, rfl, a, _, _, _, rfl, rfl, q2.same.seq (q.same.seq (s1.seq hS)), es_at hl lb, q2.push hD2 (Same.refl _) ?_ (small' ?_)⟩
        · rw [take_snoc hb, List.map_append, List.map_append]
          rfl
        · rw [List.length_map, List.length_map, List.length_take]
          refine Nat.le_trans (Nat.min_le_right _ _) (Nat.le_trans (List.length_filter_le _ _) ?_)
          rw [List.length_range]
          decide
      · intro H3 q2
        refine ⟨D2, _, rfl, SqL.of q2.at_, ?_⟩
        rw [nV_len, List.take_length]
        exact k H3 ((s1.trans q.same).trans q2.same)
theorem ok_parts_by_seeds {f : Addr} {fd : FuncData} (F : Fun K "parts_by_seeds" "parts_by_seeds" s_parts_by_seeds f fd) (T : Txt K mg A) (C_owners_of : Cal P w K mg base 3 "owners_of" ["energies", "marks", "low", "block"] (sp_owners_of K A)) (C_shares_of : Cal P w K mg base 2 "shares_of" ["energies", "block", "owners"] (sp_shares_of K A)) : FnOk P w K mg base CX0 4 f fd ["energies", "marks", "low"] (sp_parts_by_seeds K A) := by
  refine F.ok sc_parts_by_seeds (fun vs H Q E h => ?_) (fun cdv _ outer s H vs Q E hr h => ?_)
  · obtain ⟨h, a, m, rfl, _⟩ := h
    rfl
  · obtain ⟨h, a, m, rfl, I, hS, hM, k⟩ := h
    refine ⟨_, (pss_cons (ps_setLc (i := 3) (own := [("block", 4)]) (g := gName 4) (tt := tYes) rfl sc_parts_by_seeds.nd rfl rfl (sw_true rfl rfl rfl (by decide +kernel)) (pi_range1 (by rfl) T.b_range (pa_cons (pe_cst rfl T.c_MANY_BLOCKS) pa_nil)) (blkOk_by (own := [("block", 4)]) (N := n_parts_by_seeds) (sc := defScope s_parts_by_seeds) (by decide +kernel)) (fun _ _ _ _ _ => (pg_name (i := 4) sc_parts_by_seeds.nd rfl (Or.inl rfl))) (fun _ _ _ _ _ => pts_nil) (fun _ _ _ _ _ => pe_lst pa_nil))
      (pss_cons (ps_for PassesOwn.never rfl (pi_range1 (by rfl) T.b_range (pa_cons (pe_cst rfl T.c_MANY_BLOCKS) pa_nil)) (pg_name (i := 4) sc_parts_by_seeds.nd rfl (Or.inl rfl)) (pss_cons (ps_set (i := 5) sc_parts_by_seeds.nd rfl (Or.inl rfl) (pe_cal C_owners_of (hr.mono (by decide)) (by rfl) (pa_cons (pv 0) (pa_cons (pv 1) (pa_cons (pv 2) (pa_cons (pv 4) pa_nil))))))
      (pss_one (ps_if (pt_cmpR (op_neK (K := K) hr.units) (pv 5) (pe_lst pa_nil) (nomark _)) (pss_one (ps_for PassesOwn.never rfl (pi_zip (by rfl) T.b_zip (pa_cons (pv 5) (pa_cons (pe_cal C_shares_of (hr.mono (by decide)) (by rfl) (pa_cons (pv 0) (pa_cons (pv 4) (pa_cons (pv 5) pa_nil)))) pa_nil))) (pg_tupK (K := K) (n := 2) rfl (pgs_cons (pg_name (i := 6) sc_parts_by_seeds.nd rfl (Or.inl rfl)) (pgs_cons (pg_name (i := 7) sc_parts_by_seeds.nd rfl (Or.inl rfl)) pgs_nil))) (pss_one (ps_expr (pe_bm PySem.F.plainAttrs_list PySem.F.slot_list_append PySem.F.type_list_append mt_append (pe_ixL (K := K) (pv 3) (pv 6) (fun _ _ => rfl)) (pa_cons (pe_tup (pa_cons (pv 4) (pa_cons (pv 7) pa_nil))) pa_nil)))))) pss_nil))))
      (pss_one (ps_ret (pv 3))))), ?_⟩
    refine ⟨1024, rfl, by decide, by decide, fun F hF => ?_⟩
    refine lc_range (lo := 0) (n := 1024) (fun i H' => ∃ as : List Addr, as.length = i ∧ as.Nodup ∧ F ∉ as ∧ Same H H' ∧ H' F = some (.lst (as.map V.ref)) ∧ ∀ b ∈ as, H b = none ∧ H' b = some (.lst []))
      ⟨[], rfl, .nil, by simp, Same.upd_new hF, upd_same, by simp⟩ ?_ ?_
    · rintro i H1 hi ⟨as, hlen, hnd, hoff, s1, hF1, hall⟩
      refine ⟨rfl, Nat.zero_le _, fun l hl => ⟨as.map V.ref, ?_, small' (by rw [List.length_map]; omega), as ++ [l], by simp [hlen], ?_, ?_, ?_, ?_, ?_⟩⟩
      · rw [upd_ne (ne_of_none hF1 hl)]
        exact hF1
      · rw [List.nodup_append]
        refine ⟨hnd, by simp, ?_⟩
        intro x hx y hy
        have e : y = l := by simpa using hy
        subst e
        exact ne_of_none (hall x hx).2 hl
      · intro z
        rcases List.mem_append.mp z with z | z
        · exact hoff z
        · have e : F = l := by simpa using z
          exact ne_of_none hF1 hl e
      · exact Same.upd_keep (s1.trans (Same.upd_new hl)) hF
      · rw [upd_same, List.map_append]
        rfl
      · intro b hb
        rcases List.mem_append.mp hb with hb | hb
        · have q := hall b hb
          refine ⟨q.1, ?_⟩
          rw [upd_ne (fun z => hoff (by rw [← z]; exact hb)), upd_ne (ne_of_none q.2 hl)]
          exact q.2
        · have e : b = l := by simpa using hb
          subst e
          refine ⟨s1.free hl, ?_⟩
          rw [upd_ne (ne_of_none hF1 hl).symm, upd_same]
    · rintro H1 ⟨as, hlen, hnd, hoff, s1, hF1, hall⟩
      have F0 : FoundAt (minus H1 H) F as (upTo h 0) := by
        refine ⟨by rw [minus_at hF]; exact hF1, hnd, hlen, hoff, fun j b hb => ?_⟩
        have q := hall b (List.mem_of_getElem? hb)
        exact ⟨[], by rw [minus_at q.1]; exact q.2, Rep.nil⟩
      refine ⟨1024, rfl, by decide, by decide, ?_⟩
      refine for_range (lo := 0) (n := 1024) (fun n σ H' => ∃ v4 v5 v6 v7 : Option V, σ = [some (.ref a), some (.ref m), some (.int h.low), some (.ref F), v4, v5, v6, v7] ∧ Same H H' ∧ FoundAt (minus H' H) F as (upTo h n))
        ⟨none, none, none, none, rfl, s1, F0⟩ ?_ ?_
      · rintro b σ H2 hb ⟨v4, v5, v6, v7, rfl, s2, F2⟩
        refine ⟨_, rfl, _, rfl, _, rfl, _, rfl, h, a, m, b, by rw [Int.zero_add], I.len, hb, s2.seq hS, s2.seq hM, fun o H3 s3 ho e3 => ?_⟩
        refine ⟨_, rfl, Nat.zero_le _, fun z hz => ?_⟩
        have s4 : Same H3 (upd H3 z (.lst [])) := Same.upd_new hz
        refine ⟨_, _, .lst (SqL.of (s4 _ _ e3)) (dp_nats _), .lst (SqL.of upd_same) .nil, shaped_nats _, by decide, ?_⟩
        rw [eqv_nil]
        have s5 : Same H2 (upd H3 z (.lst [])) := s3.trans s4
        refine ⟨_, rfl, ite_b (fun c => ?_) (fun c => ?_)⟩
        · have hne : Sj24.owners h (Sj24.seeds h) b ≠ [] := by
            intro q
            rw [q] at c
            cases c
          have e4 := s4 _ _ e3
          refine ⟨_, rfl, _, rfl, _, rfl, _, rfl, h, a, o, b, _, by rw [Int.zero_add], I, hb, fun n hn => ⟨owners_lt hb hn, seed_pos I.seed (owners_seed hn)⟩, hne, owners_nodup h b, owners_len h b, s5.seq (s2.seq hS), SqL.of e4, fun H5 p s6 hp e5 => ?_⟩
          have e6 := s6 _ _ e4
          refine ⟨o, p, _, _, rfl, SqL.of e6, SqL.of e5, ?_⟩
          refine RZ.for_zipL (K := K) (a := o) (b := p) (xs := nV (Sj24.owners h (Sj24.seeds h) b)) (ys := (Sj24.parted h (Sj24.owners h (Sj24.seeds h) b) b).map fun x => V.int x.2) (by rw [nV_len, List.length_map, parted_len])
            (fun i σ H' => ∃ v6 v7 : Option V, σ = [some (.ref a), some (.ref m), some (.int h.low), some (.ref F), some (.int (0 + (b : Int))), some (.ref o), v6, v7] ∧ Same H H' ∧ H o = none ∧ H p = none ∧ H' o = some (.lst (nV (Sj24.owners h (Sj24.seeds h) b))) ∧
              H' p = some (.lst ((Sj24.parted h (Sj24.owners h (Sj24.seeds h) b) b).map fun x => V.int x.2)) ∧ o ∉ as ∧ p ∉ as ∧ FoundAt (minus H' H) F as (upTo h b ++ (pairsOf h b).take i))
            ⟨v6, v7, rfl, (s2.trans s5).trans s6, s2.free ho, s2.free (s5.free hp), e6, e5, ?_, ?_, ?_⟩ (fun i σ H' ⟨_, _, _, _, _, _, q1, q2, _⟩ => ⟨SqL.of q1, SqL.of q2⟩) ?_ ?_
          · intro q
            obtain ⟨j, hj⟩ := List.mem_iff_getElem?.mp q
            obtain ⟨ts, t1, _⟩ := F2.parts j o hj
            rw [minus_le _ _ t1] at ho
            cases ho
          · intro q
            obtain ⟨j, hj⟩ := List.mem_iff_getElem?.mp q
            obtain ⟨ts, t1, _⟩ := F2.parts j p hj
            rw [s5 _ _ (minus_le _ _ t1)] at hp
            cases hp
          · rw [List.take_zero, List.append_nil]
            exact F2.mono (minus_mono (s5.trans s6))
          · rintro i x y T' σ H6 hx hy ⟨v6, v7, rfl, s7, ho0, hp0, g1, g2, no, np, F6⟩ hT
            obtain ⟨n, hn, rfl⟩ := map_some hx
            rw [List.getElem?_map] at hy
            obtain ⟨⟨n', z'⟩, hz', rfl⟩ : ∃ x, (Sj24.parted h (Sj24.owners h (Sj24.seeds h) b) b)[i]? = some x ∧ y = V.int x.2 := by
              cases e : (Sj24.parted h (Sj24.owners h (Sj24.seeds h) b) b)[i]? with
              | none => rw [e] at hy; cases hy
              | some x => rw [e] at hy; exact ⟨x, rfl, (Option.some.inj hy).symm⟩
            have en : n' = n := by
              have e : ((Sj24.parted h (Sj24.owners h (Sj24.seeds h) b) b).map fun x => x.1)[i]? = some n' := by rw [List.getElem?_map, hz']; rfl
              rw [parted_fst, hn] at e
              exact (Option.some.inj e).symm
            subst en
            have ln := owners_lt hb (List.mem_of_getElem? hn)
            obtain ⟨c', hc'⟩ : ∃ c', as[n']? = some c' := ⟨_, List.getElem?_eq_getElem (by rw [hlen]; exact ln)⟩
            obtain ⟨ts, t1, t2⟩ := F6.parts n' c' hc'
            have s8 : Same H6 (upd H6 T' (.tup [V.int (n' : Int), V.int z'])) := Same.upd_new hT
            have hF6 := s8 _ _ (minus_le _ _ F6.at_)
            have hc6 := s8 _ _ (minus_le _ _ t1)
            have hat : atI (as.map V.ref) (n' : Int) = some (V.ref c') := atI_nat (by rw [List.getElem?_map, hc']; rfl)
            refine ⟨T', _, rfl, .inl (.inl upd_same), rfl, _, _, rfl, _, _, rfl, rfl, ?_⟩
            refine ⟨_, rfl, _, rfl, F, _, _, _, rfl, rfl, SqL.of hF6, hat, .inl ⟨rfl, _, SqL.of hc6⟩, _, rfl, _, rfl, (by show 2 ≤ sizeLine; decide), fun t ht => ?_⟩
            have s9 : Same (upd H6 T' (.tup [V.int (n' : Int), V.int z'])) (upd (upd H6 T' (.tup [V.int (n' : Int), V.int z'])) t (.tup [V.int (0 + (b : Int)), V.int z'])) := Same.upd_new ht
            have hc7 := s9 _ _ hc6
            have hTs : H T' = none := s7.free hT
            have hts : H t = none := (s7.trans s8).free ht
            have hcs : H c' = none := minus_off t1
            have hlenp : ts.length ≤ 9216 + 9 := by
              rw [t2.len]
              refine Nat.le_trans (partsOf_len _ _) ?_
              rw [List.length_append, List.length_take]
              have := upTo_len h (n := b) (by omega)
              have := pairs_len (h := h) hb
              omega
            refine ⟨c', _, _, rfl, rfl, hc7, small' (by rw [List.length_map]; omega), ?_⟩
            refine ⟨_, _, rfl, ?_, ho0, hp0, ?_, ?_, no, np, ?_⟩
            · exact Same.upd_keep ((s7.trans s8).trans s9) hcs
            · rw [upd_ne (fun q => no (by rw [q]; exact List.mem_of_getElem? hc'))]
              exact s9 _ _ (s8 _ _ g1)
            · rw [upd_ne (fun q => np (by rw [q]; exact List.mem_of_getElem? hc'))]
              exact s9 _ _ (s8 _ _ g2)
            · have hpair : (pairsOf h b)[i]? = some (n', (⟨b, z'⟩ : Sj24.Part)) := by
                unfold pairsOf
                rw [List.getElem?_map, hz']
                rfl
              rw [take_snoc hpair, ← List.append_assoc, minus_upd hcs]
              have F7 := F6.mono (minus_mono (H0 := H) (s8.trans s9))
              refine F7.add (x := (n', (⟨b, z'⟩ : Sj24.Part))) hc' (by rw [minus_at hcs]; exact hc7) (t2.mono fun t' p' q' => minus_mono (H0 := H) (s8.trans s9) _ _ q') ?_
              show minus _ H t = _
              rw [minus_at hts, upd_same, Int.zero_add]
          · rintro σ H6 ⟨v6, v7, rfl, s7, ho0, hp0, g1, g2, no, np, F6⟩
            refine ⟨_, _, _, _, rfl, s7, ?_⟩
            rw [upTo_succ]
            rw [nV_len, List.take_of_length_le (by unfold pairsOf; rw [List.length_map, parted_len]; exact Nat.le_refl _)] at F6
            exact F6
        · have hemp : Sj24.owners h (Sj24.seeds h) b = [] := by
            cases e : Sj24.owners h (Sj24.seeds h) b with
            | nil => rfl
            | cons x r => rw [e] at c; cases c
          refine ⟨_, _, _, _, rfl, s2.trans s5, ?_⟩
          have e0 : pairsOf h b = [] := by
            unfold pairsOf
            rw [hemp]
            rfl
          rw [upTo_succ, e0, List.append_nil]
          exact F2.mono (minus_mono s5)
      · rintro σ H2 ⟨v4, v5, v6, v7, rfl, s2, F2⟩
        exact ⟨_, rfl, k F H2 as s2 hF F2⟩
theorem ok_clusters_of {f : Addr} {fd : FuncData} (F : Fun K "clusters_of" "clusters_of" s_clusters_of f fd) (T : Txt K mg A) (C_Cluster___init__ : CalC P w K mg base 4 "Cluster" A.CCluster ["self", "seed", "parts"] (sp_Cluster___init__ K A)) (C_marks_of : Cal P w K mg base 4 "marks_of" ["energies", "least"] (sp_marks_of K A)) (C_parts_by_seeds : Cal P w K mg base 4 "parts_by_seeds" ["energies", "marks", "low"] (sp_parts_by_seeds K A)) : FnOk P w K mg base CX0 6 f fd ["energies", "least", "low"] (sp_clusters_of K A) := by
  refine F.ok sc_clusters_of (fun vs H Q E h => ?_) (fun cdv _ outer s H vs Q E hr h => ?_)
  · obtain ⟨h, a, rfl, _⟩ := h
    rfl
  · obtain ⟨h, a, rfl, I, hS, k⟩ := h
    refine ⟨_, (pss_cons (ps_set (i := 3) sc_clusters_of.nd rfl (Or.inr rfl) (pe_cal C_marks_of (hr.mono (by decide)) (by rfl) (pa_cons (pv 0) (pa_cons (pv 1) pa_nil))))
      (pss_cons (ps_set (i := 4) sc_clusters_of.nd rfl (Or.inr rfl) (pe_cal C_parts_by_seeds (hr.mono (by decide)) (by rfl) (pa_cons (pv 0) (pa_cons (pv 3) (pa_cons (pv 2) pa_nil)))))
      (pss_one (ps_ret (pe_lc (own := [("block", 5)]) (g := gName 5) rfl sc_clusters_of.nd (pi_range1 (by rfl) T.b_range (pa_cons (pe_cst rfl T.c_MANY_BLOCKS) pa_nil)) (blkOk_by (own := [("block", 5)]) (N := n_clusters_of) (sc := defScope s_clusters_of) (by decide +kernel)) (fun _ _ _ _ _ => (pg_name (i := 5) sc_clusters_of.nd rfl (Or.inl rfl))) (fun _ _ _ _ _ => pts_one (pt_val (pe_ixL (K := K) (pv 3) (pv 5) (fun _ _ => rfl)))) (fun _ _ _ _ _ => pe_mk C_Cluster___init__ (hr.mono (by decide)) (by rfl) (pa_cons (pv 5) (pa_cons (pe_ixL (K := K) (pv 4) (pv 5) (fun _ _ => rfl)) pa_nil)))))))), ?_⟩
    refine ⟨_, rfl, _, rfl, h, a, rfl, I.len, hS, fun m H1 s1 hm e1 => ?_⟩
    refine ⟨_, rfl, _, rfl, _, rfl, h, a, m, rfl, I, s1.seq hS, SqL.of e1, fun F H2 as s2 hF F2 => ?_⟩
    have F3 : FoundAt (minus H2 H) F as (upTo h 1024) := F2.mono (minus_anti s1)
    have hm2 := s2 _ _ e1
    refine ⟨1024, rfl, by decide, by decide, fun D hD => ?_⟩
    have hDs : H D = none := s1.free (s2.free hD)
    refine lc_range (lo := 0) (n := 1024) (fun i H' => ∃ bs : List Addr, Same H2 H' ∧ H' D = some (.lst (bs.map V.ref)) ∧ bs.length ≤ i ∧ Rep (fun x c => ∃ dx pa, minus H' H x = some (.ins A.CCluster dx (clF c pa)) ∧ PartsAt (minus H2 H) pa c.parts) bs (((List.range i).filter (Sj24.isSeed h)).map (clu h)))
      ⟨[], Same.upd_new hD, upd_same, Nat.le_refl _, Rep.nil⟩ ?_ ?_
    · rintro i H3 hi ⟨bs, s3, hD3, hbl, R3⟩
      refine ⟨rfl, _, rfl, _, rfl, m, _, _, _, rfl, rfl, SqL.of (s3 _ _ hm2), (by rw [Int.zero_add]; exact marks_at hi), _, rfl, ite_b (fun c => ?_) (fun c => ?_)⟩
      · obtain ⟨pa, hpa⟩ : ∃ pa, as[i]? = some pa := ⟨_, List.getElem?_eq_getElem (by rw [F3.len]; exact hi)⟩
        have hP := F3.parts i pa hpa
        have hFH := s3 _ _ (minus_le _ _ F3.at_)
        refine ⟨_, rfl, _, rfl, _, rfl, F, _, _, _, rfl, rfl, SqL.of hFH, (by rw [Int.zero_add]; exact atI_nat (by rw [List.getElem?_map, hpa]; rfl)), ?_⟩
        intro x dx nx nd ne
        have s4 : Same H3 (upd (upd H3 dx (.own x)) x (.ins A.CCluster dx [])) := fun b o e => by
          rw [upd_ne (ne_of_none e nx), upd_ne (ne_of_none e nd)]
          exact e
        have hk : i ∈ Sj24.seeds h := List.mem_filter.mpr ⟨List.mem_range.mpr hi, c⟩
        refine ⟨x, dx, pa, clu h i, by rw [Int.zero_add]; rfl, upd_same, (hP.mono minus_le).mono (s3.trans s4), clu_ok I hk, fun H5 e5 k5 => ⟨rfl, ?_⟩⟩
        have s5 : Same H3 H5 := Same.made nx nd k5
        have sx : H x = none := s1.free (s2.free (s3.free nx))
        refine ⟨_, s5 _ _ hD3, small' (by rw [List.length_map]; omega), bs ++ [x], ?_, ?_, by simp; omega, ?_⟩
        · exact Same.upd_keep (s3.trans s5) hD
        · rw [upd_same, List.map_append]
          rfl
        · have e6 : ((List.range (i + 1)).filter (Sj24.isSeed h)).map (clu h) = ((List.range i).filter (Sj24.isSeed h)).map (clu h) ++ [clu h i] := by
            rw [List.range_succ, List.filter_append, List.map_append]
            congr 1
            simp only [List.filter, c]
            rfl
          rw [e6, minus_upd hDs]
          have hD5 : minus H5 H D = some (.lst (bs.map V.ref)) := by
            rw [minus_at hDs]
            exact s5 _ _ hD3
          have ne5 : ∀ b dx' fs, minus H5 H b = some (.ins A.CCluster dx' fs) → upd (minus H5 H) D (.lst (bs.map V.ref ++ [V.ref x])) b = some (.ins A.CCluster dx' fs) := fun b dx' fs q => by
            rw [upd_ne (ne_of q hD5 (by intro z; cases z))]
            exact q
          refine Rep.push (R3.mono fun b cc ⟨dx', pa', q1, q2⟩ => ⟨dx', pa', ne5 _ _ _ (minus_mono s5 _ _ q1), q2⟩) ⟨dx, pa, ne5 _ _ _ ?_, hP⟩
          rw [minus_at sx]
          exact e5
      · refine ⟨bs, s3, hD3, by omega, ?_⟩
        have e6 : ((List.range (i + 1)).filter (Sj24.isSeed h)).map (clu h) = ((List.range i).filter (Sj24.isSeed h)).map (clu h) := by
          rw [List.range_succ, List.filter_append]
          simp only [List.filter, c]
          simp
        rw [e6]
        exact R3
    · rintro H3 ⟨bs, s3, hD3, hbl, R3⟩
      exact k D H3 ((s1.trans s2).trans s3) hDs ⟨bs, by rw [minus_at hDs]; exact hD3, R3.mono fun b cc ⟨dx', pa', q1, q2⟩ => ⟨dx', pa', q1, q2.mono (minus_mono s3)⟩⟩
end
end Jb
end
section
set_option Elab.async false
set_option linter.all false
set_option maxHeartbeats 2000000
namespace Jb
open Sj24 (Jet)
/-! ### jets: the program's choice is the specification's -/
def j0 : Jet := ⟨0, 0, 0, []⟩
def meas (js : List Jet) (p : Nat × Nat) : Int × Int := (Sj24.apart (js.getD p.1 j0) (js.getD p.2 j0), Sj24.most (js.getD p.1 j0) (js.getD p.2 j0) * Sj24.most (js.getD p.1 j0) (js.getD p.2 j0))
def lessM (x y : Int × Int) : Bool := decide (x.1 * y.2 < y.1 * x.2)
def stepP (js : List Jet) (best : Option (Nat × Nat)) (p : Nat × Nat) : Option (Nat × Nat) := match best with
  | none => some p
  | some b => if lessM (meas js p) (meas js b) then some p else some b
def pairsL (n : Nat) : List (Nat × Nat) := (List.range n).flatMap fun i => (List.range (n - (i + 1))).map fun k => (i, i + 1 + k)
def bestP (js : List Jet) : Option (Nat × Nat) := (pairsL js.length).foldl (stepP js) none
theorem less_trans {x y z : Int × Int} (hx : 0 < x.2) (hy : 0 < y.2) (hz : 0 < z.2) (h1 : lessM x y = true) (h2 : lessM z y = false) : lessM x z = true := by
  have a := of_decide_eq_true h1
  have b := of_decide_eq_false h2
  refine decide_eq_true ?_
  have b' : y.1 * z.2 ≤ z.1 * y.2 := by omega
  have c1 : x.1 * y.2 * z.2 < y.1 * x.2 * z.2 := Int.mul_lt_mul_of_pos_right a hz
  have c2 : y.1 * z.2 * x.2 ≤ z.1 * y.2 * x.2 := Int.mul_le_mul_of_nonneg_right b' (by omega)
  have e1 : y.1 * x.2 * z.2 = y.1 * z.2 * x.2 := by rw [Int.mul_assoc, Int.mul_comm x.2, ← Int.mul_assoc]
  have c3 : x.1 * z.2 * y.2 < z.1 * x.2 * y.2 := by
    rw [show x.1 * z.2 * y.2 = x.1 * y.2 * z.2 by rw [Int.mul_assoc, Int.mul_comm z.2, ← Int.mul_assoc], show z.1 * x.2 * y.2 = z.1 * y.2 * x.2 by rw [Int.mul_assoc, Int.mul_comm x.2, ← Int.mul_assoc]]
    omega
  exact Int.lt_of_mul_lt_mul_right c3 (by omega)
theorem less_asym {x y : Int × Int} (h : lessM x y = true) : lessM y x = false := by
  have a := of_decide_eq_true h
  exact decide_eq_false (by omega)
theorem less_irrefl (x : Int × Int) : lessM x x = false := decide_eq_false (by omega)
/-- b is the first least one of l -/
def FirstP (js : List Jet) (l : List (Nat × Nat)) (b : Nat × Nat) : Prop :=
  ∃ pre post, l = pre ++ b :: post ∧ (∀ y ∈ pre, lessM (meas js b) (meas js y) = true) ∧ ∀ y ∈ post, lessM (meas js y) (meas js b) = false
theorem FirstP.step {js : List Jet} {l : List (Nat × Nat)} {b p : Nat × Nat} (h : FirstP js l b) (hl : ∀ y ∈ l, 0 < (meas js y).2) (hp : 0 < (meas js p).2) : FirstP js (l ++ [p]) (if lessM (meas js p) (meas js b) then p else b) := by
  obtain ⟨pre, post, e, h1, h2⟩ := h
  by_cases c : lessM (meas js p) (meas js b) = true
  · rw [if_pos c]
    refine ⟨l, [], rfl, fun y hy => ?_, by simp⟩
    have hy0 := hl y hy
    have hb0 := hl b (by rw [e]; simp)
    rw [e] at hy
    rcases List.mem_append.mp hy with hy | hy
    · exact less_trans hp hb0 hy0 c (less_asym (h1 y hy))
    · rcases List.mem_cons.mp hy with rfl | hy
      · exact c
      · exact less_trans hp hb0 hy0 c (h2 y hy)
  · rw [if_neg c]
    refine ⟨pre, post ++ [p], by rw [e]; simp, h1, fun y hy => ?_⟩
    rcases List.mem_append.mp hy with hy | hy
    · exact h2 y hy
    · have e' : y = p := by simpa using hy
      rw [e']
      simpa using c
theorem fold_some {js : List Jet} : ∀ (l d : List (Nat × Nat)) (b : Nat × Nat), FirstP js d b → (∀ y ∈ d, 0 < (meas js y).2) → (∀ y ∈ l, 0 < (meas js y).2) → ∃ b', l.foldl (stepP js) (some b) = some b' ∧ FirstP js (d ++ l) b'
  | [], d, b, h, _, _ => ⟨b, rfl, by rw [List.append_nil]; exact h⟩
  | p :: l, d, b, h, hd, hl => by
    have hp := hl p (by simp)
    have h' := h.step hd hp
    have e : stepP js (some b) p = some (if lessM (meas js p) (meas js b) then p else b) := by
      show (if lessM (meas js p) (meas js b) then some p else some b) = _
      split <;> rfl
    obtain ⟨b', e1, e2⟩ := fold_some l (d ++ [p]) _ h' (fun y hy => by
      rcases List.mem_append.mp hy with hy | hy
      · exact hd y hy
      · have e' : y = p := by simpa using hy
        rw [e']; exact hp) fun y hy => hl y (by simp [hy])
    exact ⟨b', by rw [List.foldl_cons, e]; exact e1, by rw [show d ++ p :: l = (d ++ [p]) ++ l by simp]; exact e2⟩
theorem fold_none {js : List Jet} : ∀ (l : List (Nat × Nat)), (∀ y ∈ l, 0 < (meas js y).2) → (l = [] ∧ l.foldl (stepP js) none = none) ∨ ∃ b, l.foldl (stepP js) none = some b ∧ FirstP js l b
  | [], _ => .inl ⟨rfl, rfl⟩
  | p :: l, h => .inr (by
    obtain ⟨b, e1, e2⟩ := fold_some (js := js) l [p] p ⟨[], [], rfl, by simp, by simp⟩ (fun y hy => by
      have e' : y = p := by simpa using hy
      rw [e']; exact h p (by simp)) fun y hy => h y (by simp [hy])
    exact ⟨b, e1, e2⟩)
/-! the list of pairs as the specification has it -/
theorem zip_range : ∀ (js : List Jet), js.zipIdx = (List.range js.length).map fun i => (js.getD i j0, i) := by
  intro js
  refine List.ext_getElem? fun i => ?_
  rw [List.getElem?_zipIdx, List.getElem?_map]
  by_cases h : i < js.length
  · rw [List.getElem?_eq_getElem h, List.getElem?_range h]
    simp [List.getElem?_eq_getElem h]
  · rw [List.getElem?_eq_none (by omega), List.getElem?_eq_none (by rw [List.length_range]; omega)]
    rfl
theorem later_range {n i : Nat} : (List.range n).filter (fun j => decide (i < j)) = (List.range (n - (i + 1))).map fun k => i + 1 + k := by
  refine List.Perm.eq_of_pairwise (le := (· < ·)) (fun a b _ _ h1 h2 => by omega) (List.Pairwise.filter _ List.pairwise_lt_range) ?_ ?_
  · rw [List.pairwise_map]
    exact List.pairwise_lt_range.imp fun {a b} h => by omega
  · refine (List.perm_ext_iff_of_nodup (List.Pairwise.filter _ List.nodup_range) ?_).mpr fun a => ?_
    · show List.Pairwise (· ≠ ·) _
      rw [List.pairwise_map]
      exact List.nodup_range.imp fun {a b} h => by omega
    · simp only [List.mem_filter, List.mem_range, List.mem_map, decide_eq_true_eq]
      constructor
      · rintro ⟨h1, h2⟩
        exact ⟨a - (i + 1), by omega, by omega⟩
      · rintro ⟨k, h1, rfl⟩
        omega
def dones (js : List Jet) : List (Sj24.Next × Sj24.Frac) := js.zipIdx.map fun x => (Sj24.Next.done x.2, ⟨1, x.1.e * x.1.e⟩)
def joins (reach : Int) (js : List Jet) : List (Sj24.Next × Sj24.Frac) := (pairsL js.length).map fun p => (Sj24.Next.join p.1 p.2, ⟨(meas js p).1, reach * reach * (meas js p).2⟩)
theorem choices_eq (reach : Int) (js : List Jet) : Sj24.choices reach js = dones js ++ joins reach js := by
  unfold Sj24.choices dones joins pairsL
  dsimp only
  congr 1
  rw [zip_range, List.flatMap_map, List.map_flatMap]
  congr 1
  funext i
  rw [List.filter_map, List.map_map, List.map_map]
  have e : ((fun y : Jet × Nat => decide (i < y.2)) ∘ fun i => (js.getD i j0, i)) = fun j => decide (i < j) := rfl
  show List.map _ (List.filter ((fun y : Jet × Nat => decide (i < y.2)) ∘ fun i => (js.getD i j0, i)) _) = _
  rw [e, later_range, List.map_map]
  rfl
/-! the first least of a list of choices -/
theorem least_mem : ∀ {l : List (Sj24.Next × Sj24.Frac)} {x}, Sj24.least l = some x → x ∈ l
  | [], x, h => by cases h
  | z :: r, x, h => by
    unfold Sj24.least at h
    split at h
    · cases h; simp
    · rename_i y hy
      split at h
      · cases h
        exact List.mem_cons_of_mem _ (least_mem hy)
      · cases h; simp
theorem least_first : ∀ {pre post : List (Sj24.Next × Sj24.Frac)} {x : Sj24.Next × Sj24.Frac}, (∀ y ∈ pre, x.2.less y.2 = true) → (∀ y ∈ post, y.2.less x.2 = false) → Sj24.least (pre ++ x :: post) = some x
  | [], post, x, _, h2 => by
    show (match Sj24.least post with
      | none => some x
      | some y => if y.2.less x.2 then some y else some x) = some x
    cases e : Sj24.least post with
    | none => rfl
    | some y =>
      show (if y.2.less x.2 then some y else some x) = some x
      rw [h2 y (least_mem e)]
      rfl
  | z :: pre, post, x, h1, h2 => by
    have ih := least_first (pre := pre) (post := post) (x := x) (fun y hy => h1 y (by simp [hy])) h2
    show (match Sj24.least (pre ++ x :: post) with
      | none => some z
      | some y => if y.2.less z.2 then some y else some z) = some x
    rw [ih]
    show (if x.2.less z.2 then some x else some z) = some x
    rw [h1 z (by simp)]
    rfl
/-! what is asked of pseudojets -/
structure JOk (j : Jet) : Prop where
  pos : 0 < j.e
  r0 : 0 ≤ j.row
  r1 : j.row < 2048
  c0 : -(2 ^ 20) ≤ j.col
  c1 : j.col ≤ 2 ^ 20
structure JsOk (js : List Jet) : Prop where
  ok : ∀ j ∈ js, JOk j
  sum : (js.map fun j => j.e).sum ≤ 1024 * (9216 * 2 ^ 40)
  mem : (js.map fun j => j.members.length).sum ≤ 1024
theorem JsOk.most {js : List Jet} (h : JsOk js) {j : Jet} (hj : j ∈ js) : j.e ≤ 1024 * (9216 * 2 ^ 40) := by
  have q := isum_mem (l := js.map fun j => j.e) (fun y hy => by
    obtain ⟨x, hx, rfl⟩ := List.mem_map.mp hy
    have := (h.ok x hx).pos
    omega) (List.mem_map.mpr ⟨j, hj, rfl⟩)
  have := h.sum
  omega
theorem nsum_mem : ∀ {l : List Nat} {x : Nat}, x ∈ l → x ≤ l.sum
  | [], x, hx => by simp at hx
  | a :: l, x, hx => by
    rw [List.sum_cons]
    rcases List.mem_cons.mp hx with rfl | hx
    · omega
    · have := nsum_mem hx
      omega
theorem JsOk.mems {js : List Jet} (h : JsOk js) {j : Jet} (hj : j ∈ js) : j.members.length ≤ 1024 :=
  Nat.le_trans (nsum_mem (List.mem_map.mpr ⟨j, hj, rfl⟩)) h.mem
theorem sum_erase {α : Type} (f : α → Int) : ∀ {l : List α} {i : Nat} {x : α}, l[i]? = some x → ((l.eraseIdx i).map f).sum = (l.map f).sum - f x
  | [], i, x, h => by simp at h
  | a :: l, 0, x, h => by
    have e : a = x := Option.some.inj h
    subst e
    simp
    omega
  | a :: l, i + 1, x, h => by
    have ih := sum_erase f (l := l) (i := i) (x := x) h
    simp [ih]
    omega
theorem nsum_erase {α : Type} (f : α → Nat) : ∀ {l : List α} {i : Nat} {x : α}, l[i]? = some x → ((l.eraseIdx i).map f).sum + f x = (l.map f).sum
  | [], i, x, h => by simp at h
  | a :: l, 0, x, h => by
    have e : a = x := Option.some.inj h
    subst e
    simp
    omega
  | a :: l, i + 1, x, h => by
    have ih := nsum_erase f (l := l) (i := i) (x := x) h
    simp
    omega
theorem sum_set' {α : Type} (f : α → Int) : ∀ {l : List α} {i : Nat} {x y : α}, l[i]? = some x → ((l.set i y).map f).sum = (l.map f).sum - f x + f y
  | [], i, x, y, h => by simp at h
  | a :: l, 0, x, y, h => by
    have e : a = x := Option.some.inj h
    subst e
    simp
    omega
  | a :: l, i + 1, x, y, h => by
    have ih := sum_set' f (l := l) (i := i) (x := x) (y := y) h
    show ((a :: l.set i y).map f).sum = _
    rw [List.map_cons, List.sum_cons, List.map_cons, List.sum_cons, ih]
    omega
theorem nsum_set' {α : Type} (f : α → Nat) : ∀ {l : List α} {i : Nat} {x y : α}, l[i]? = some x → ((l.set i y).map f).sum + f x = (l.map f).sum + f y
  | [], i, x, y, h => by simp at h
  | a :: l, 0, x, y, h => by
    have e : a = x := Option.some.inj h
    subst e
    simp
    omega
  | a :: l, i + 1, x, y, h => by
    have ih := nsum_set' f (l := l) (i := i) (x := x) (y := y) h
    show ((a :: l.set i y).map f).sum + f x = _
    rw [List.map_cons, List.sum_cons, List.map_cons, List.sum_cons]
    omega
theorem JsOk.erase {js : List Jet} (h : JsOk js) {i : Nat} {x : Jet} (hi : js[i]? = some x) : JsOk (js.eraseIdx i) := by
  refine ⟨fun j hj => h.ok j (List.mem_of_mem_eraseIdx hj), ?_, ?_⟩
  · rw [sum_erase _ hi]
    have := (h.ok x (List.mem_of_getElem? hi)).pos
    have := h.sum
    omega
  · have := nsum_erase (fun j : Jet => j.members.length) hi
    have := h.mem
    omega
theorem joined_e (a b : Jet) : (Sj24.joined a b).e = a.e + b.e := by
  unfold Sj24.joined
  split <;> rfl
theorem joined_m (a b : Jet) : (Sj24.joined a b).members = a.members ++ b.members := by
  unfold Sj24.joined
  split <;> rfl
theorem joined_ok {a b : Jet} (ha : JOk a) (hb : JOk b) : JOk (Sj24.joined a b) := by
  have h1 := ha.pos
  have h2 := hb.pos
  refine ⟨by rw [joined_e]; omega, ?_, ?_, ?_, ?_⟩
  · unfold Sj24.joined; split; exact hb.r0; exact ha.r0
  · unfold Sj24.joined; split; exact hb.r1; exact ha.r1
  · unfold Sj24.joined; split; exact hb.c0; exact ha.c0
  · unfold Sj24.joined; split; exact hb.c1; exact ha.c1
theorem JsOk.join {js : List Jet} (h : JsOk js) {i j : Nat} {a b : Jet} (hij : i < j) (hi : js[i]? = some a) (hj : js[j]? = some b) : JsOk ((js.set i (Sj24.joined a b)).eraseIdx j) := by
  have hj' : (js.set i (Sj24.joined a b))[j]? = some b := by rw [List.getElem?_set_ne (by omega)]; exact hj
  refine ⟨fun x hx => ?_, ?_, ?_⟩
  · rcases List.mem_or_eq_of_mem_set (List.mem_of_mem_eraseIdx hx) with q | q
    · exact h.ok x q
    · rw [q]
      exact joined_ok (h.ok a (List.mem_of_getElem? hi)) (h.ok b (List.mem_of_getElem? hj))
  · rw [sum_erase _ hj', sum_set' _ hi, joined_e]
    have := h.sum
    omega
  · have e1 := nsum_erase (fun j : Jet => j.members.length) hj'
    have e2 := nsum_set' (fun j : Jet => j.members.length) (y := Sj24.joined a b) hi
    have e3 : (Sj24.joined a b).members.length = a.members.length + b.members.length := by rw [joined_m, List.length_append]
    have := h.mem
    omega
/-- f is the first place of the greatest energy -/
def IsFin (js : List Jet) (f : Nat) (x : Jet) : Prop := js[f]? = some x ∧ (∀ (i : Nat) y, i < f → js[i]? = some y → y.e < x.e) ∧ ∀ y ∈ js, y.e ≤ x.e
theorem getD_at {js : List Jet} {i : Nat} {a : Jet} (h : js[i]? = some a) : js.getD i j0 = a := by
  rw [List.getD_eq_getElem?_getD, h]
  rfl
theorem mem_pairsL {n : Nat} {p : Nat × Nat} : p ∈ pairsL n ↔ p.1 < p.2 ∧ p.2 < n := by
  unfold pairsL
  simp only [List.mem_flatMap, List.mem_range, List.mem_map]
  constructor
  · rintro ⟨i, hi, k, hk, rfl⟩
    simp only
    omega
  · rintro ⟨h1, h2⟩
    refine ⟨p.1, by omega, p.2 - (p.1 + 1), by omega, ?_⟩
    have : p.1 + 1 + (p.2 - (p.1 + 1)) = p.2 := by omega
    rw [this]
theorem most_pos {a b : Jet} (ha : JOk a) : 0 < Sj24.most a b := by
  have := ha.pos
  unfold Sj24.most
  omega
theorem meas_pos {js : List Jet} (h : JsOk js) {p : Nat × Nat} (hp : p ∈ pairsL js.length) : 0 < (meas js p).2 := by
  obtain ⟨h1, h2⟩ := mem_pairsL.mp hp
  have hi : js[p.1]? = some js[p.1] := List.getElem?_eq_getElem (by omega)
  unfold meas
  rw [getD_at hi]
  have := most_pos (b := js.getD p.2 j0) (h.ok _ (List.mem_of_getElem? hi))
  exact Int.mul_pos this this
theorem bestP_cases {js : List Jet} (h : JsOk js) : (pairsL js.length = [] ∧ bestP js = none) ∨ ∃ b, bestP js = some b ∧ FirstP js (pairsL js.length) b := by
  unfold bestP
  exact fold_none _ fun y hy => meas_pos h hy
theorem bestP_mem {js : List Jet} (h : JsOk js) {b : Nat × Nat} (hb : bestP js = some b) : b.1 < b.2 ∧ b.2 < js.length := by
  rcases bestP_cases h with ⟨_, q⟩ | ⟨b', q, pre, post, e, _⟩
  · rw [hb] at q; cases q
  · rw [hb] at q
    cases q
    exact mem_pairsL.mp (by rw [e]; simp)
theorem sq_lt {a b : Int} (h0 : 0 < a) (h : a < b) : a * a < b * b := by
  have h1 : a * a < a * b := Int.mul_lt_mul_of_pos_left h h0
  have h2 : a * b < b * b := Int.mul_lt_mul_of_pos_right h (by omega)
  omega
theorem sq_le {a b : Int} (h0 : 0 < a) (h : a ≤ b) : a * a ≤ b * b := by
  have h1 : a * a ≤ a * b := Int.mul_le_mul_of_nonneg_left h (by omega)
  have h2 : a * b ≤ b * b := Int.mul_le_mul_of_nonneg_right h (by omega)
  omega
theorem dones_split {js : List Jet} {f : Nat} {x : Jet} (hf : js[f]? = some x) : dones js = (js.zipIdx.take f).map (fun x => (Sj24.Next.done x.2, (⟨1, x.1.e * x.1.e⟩ : Sj24.Frac))) ++ (Sj24.Next.done f, ⟨1, x.e * x.e⟩) :: (js.zipIdx.drop (f + 1)).map fun x => (Sj24.Next.done x.2, ⟨1, x.1.e * x.1.e⟩) := by
  have hz : js.zipIdx[f]? = some (x, f) := by
    rw [List.getElem?_zipIdx, hf]
    simp
  unfold dones
  conv => lhs; rw [split_at hz]
  rw [List.map_append, List.map_cons]
/-- the measure of joining p against finishing at energy E: not less -/
def NoJoin (reach E : Int) (m : Int × Int) : Prop := ¬ m.1 * E * E < reach * reach * m.2
theorem gather_fin {reach : Int} {js : List Jet} {f : Nat} {x : Jet} (n : Nat) (hr : 0 < reach) (h : JsOk js) (hf : IsFin js f x) (hb : ∀ b, bestP js = some b → NoJoin reach x.e (meas js b)) :
    Sj24.gather reach (n + 1) js = x :: Sj24.gather reach n (js.eraseIdx f) := by
  obtain ⟨h1, h2, h3⟩ := hf
  have hx := (h.ok x (List.mem_of_getElem? h1)).pos
  have hR : 0 < reach * reach := Int.mul_pos hr hr
  have hl : Sj24.least (Sj24.choices reach js) = some (Sj24.Next.done f, ⟨1, x.e * x.e⟩) := by
    rw [choices_eq, dones_split h1, List.append_assoc, List.cons_append]
    refine least_first (fun y hy => ?_) fun y hy => ?_
    · obtain ⟨⟨z, i⟩, hz, rfl⟩ := List.mem_map.mp hy
      obtain ⟨k, hk⟩ := List.mem_iff_getElem?.mp hz
      rw [List.getElem?_take] at hk
      split at hk
      · rename_i hkf
        rw [List.getElem?_zipIdx] at hk
        cases e : js[k]? with
        | none => rw [e] at hk; cases hk
        | some y =>
          rw [e] at hk
          cases hk
          have l1 := h2 k _ hkf e
          have p1 := (h.ok _ (List.mem_of_getElem? e)).pos
          have := sq_lt p1 l1
          refine decide_eq_true ?_
          show 1 * (z.e * z.e) < 1 * (x.e * x.e)
          omega
      · cases hk
    · rcases List.mem_append.mp hy with hy | hy
      · obtain ⟨⟨z, i⟩, hz, rfl⟩ := List.mem_map.mp hy
        have hm := List.mem_of_mem_drop hz
        rw [zip_range] at hm
        obtain ⟨k, hk, e⟩ := List.mem_map.mp hm
        cases e
        have hk0 := List.mem_range.mp hk
        have hk' : js[i]? = some js[i] := List.getElem?_eq_getElem hk0
        have l1 := h3 _ (List.mem_of_getElem? hk')
        have p1 := (h.ok _ (List.mem_of_getElem? hk')).pos
        have := sq_le p1 l1
        refine decide_eq_false ?_
        show ¬ 1 * (x.e * x.e) < 1 * ((js.getD i j0).e * (js.getD i j0).e)
        rw [getD_at hk']
        omega
      · obtain ⟨p, hp, rfl⟩ := List.mem_map.mp hy
        refine decide_eq_false ?_
        show ¬ (meas js p).1 * (x.e * x.e) < 1 * (reach * reach * (meas js p).2)
        rw [Int.one_mul]
        rcases bestP_cases h with ⟨q, _⟩ | ⟨b, eb, pre, post, e, q1, q2⟩
        · rw [q] at hp; cases hp
        · have nb := hb b eb
          have mb : b ∈ pairsL js.length := by rw [e]; simp
          have pb := meas_pos h mb
          have pp := meas_pos h hp
          -- the measure of b is not greater than that of p
          have le : (meas js b).1 * (meas js p).2 ≤ (meas js p).1 * (meas js b).2 := by
            rw [e] at hp
            rcases List.mem_append.mp hp with hp | hp
            · have := of_decide_eq_true (q1 p hp)
              omega
            · rcases List.mem_cons.mp hp with rfl | hp
              · exact Int.le_refl _
              · have := of_decide_eq_false (q2 p hp)
                omega
          intro lt
          unfold NoJoin at nb
          have hE : 0 < x.e * x.e := Int.mul_pos hx hx
          have a1 : (meas js p).1 * (x.e * x.e) * (meas js b).2 < reach * reach * (meas js p).2 * (meas js b).2 := Int.mul_lt_mul_of_pos_right lt pb
          have a2 : (meas js b).1 * (meas js p).2 * (x.e * x.e) ≤ (meas js p).1 * (meas js b).2 * (x.e * x.e) := Int.mul_le_mul_of_nonneg_right le (by omega)
          have a3 : reach * reach * (meas js b).2 * (meas js p).2 ≤ (meas js b).1 * x.e * x.e * (meas js p).2 := Int.mul_le_mul_of_nonneg_right (by omega) (by omega)
          have e1 : reach * reach * (meas js p).2 * (meas js b).2 = reach * reach * (meas js b).2 * (meas js p).2 := by
            rw [Int.mul_assoc (reach * reach), Int.mul_comm (meas js p).2, ← Int.mul_assoc]
          have e2 : (meas js b).1 * x.e * x.e * (meas js p).2 = (meas js b).1 * (meas js p).2 * (x.e * x.e) := by
            rw [Int.mul_assoc (meas js b).1, Int.mul_assoc, Int.mul_comm (x.e * x.e), ← Int.mul_assoc]
          have e3 : (meas js p).1 * (meas js b).2 * (x.e * x.e) = (meas js p).1 * (x.e * x.e) * (meas js b).2 := by
            rw [Int.mul_assoc, Int.mul_comm (meas js b).2, ← Int.mul_assoc]
          omega
  show (match Sj24.least (Sj24.choices reach js) with
    | none => []
    | some x => match x.1 with
      | .done i => (match js[i]? with
        | none => []
        | some a => a :: Sj24.gather reach n (js.eraseIdx i))
      | .join i j => match js[i]?, js[j]? with
        | some a, some b => Sj24.gather reach n ((js.set i (Sj24.joined a b)).eraseIdx j)
        | _, _ => []) = _
  rw [hl]
  show (match js[f]? with
        | none => []
        | some a => a :: Sj24.gather reach n (js.eraseIdx f)) = _
  rw [h1]
theorem gather_join {reach : Int} {js : List Jet} {f : Nat} {x : Jet} {i j : Nat} {a b : Jet} (n : Nat) (hr : 0 < reach) (h : JsOk js) (hf : IsFin js f x) (hb : bestP js = some (i, j)) (hj : ¬ NoJoin reach x.e (meas js (i, j)))
    (hi : js[i]? = some a) (hjj : js[j]? = some b) : Sj24.gather reach (n + 1) js = Sj24.gather reach n ((js.set i (Sj24.joined a b)).eraseIdx j) := by
  obtain ⟨h1, h2, h3⟩ := hf
  have hx := (h.ok x (List.mem_of_getElem? h1)).pos
  have hR : 0 < reach * reach := Int.mul_pos hr hr
  rcases bestP_cases h with ⟨_, q⟩ | ⟨b', eb, pre, post, e, q1, q2⟩
  · rw [hb] at q; cases q
  rw [hb] at eb
  cases eb
  have hl : Sj24.least (Sj24.choices reach js) = some (Sj24.Next.join i j, ⟨(meas js (i, j)).1, reach * reach * (meas js (i, j)).2⟩) := by
    rw [choices_eq]
    unfold joins
    rw [e, List.map_append, List.map_cons, ← List.append_assoc]
    refine least_first (fun y hy => ?_) fun y hy => ?_
    · rcases List.mem_append.mp hy with hy | hy
      · unfold dones at hy
        obtain ⟨⟨z, k⟩, hz, rfl⟩ := List.mem_map.mp hy
        rw [zip_range] at hz
        obtain ⟨k', hk, e'⟩ := List.mem_map.mp hz
        cases e'
        have hk0 := List.mem_range.mp hk
        have hk' : js[k]? = some js[k] := List.getElem?_eq_getElem hk0
        have l1 := h3 _ (List.mem_of_getElem? hk')
        have p1 := (h.ok _ (List.mem_of_getElem? hk')).pos
        have s1 := sq_le p1 l1
        refine decide_eq_true ?_
        show (meas js (i, j)).1 * ((js.getD k j0).e * (js.getD k j0).e) < 1 * (reach * reach * (meas js (i, j)).2)
        rw [getD_at hk', Int.one_mul]
        have nn : 0 ≤ (meas js (i, j)).1 := by
          show 0 ≤ Sj24.apart _ _
          unfold Sj24.apart
          have t1 : ∀ z : Int, 0 ≤ z * z := fun z => by
            rcases Int.le_total 0 z with q | q
            · exact Int.mul_nonneg q q
            · exact Int.mul_nonneg_of_nonpos_of_nonpos q q
          exact Int.add_nonneg (t1 _) (t1 _)
        have lt : (meas js (i, j)).1 * x.e * x.e < reach * reach * (meas js (i, j)).2 := Classical.not_not.mp hj
        rw [Int.mul_assoc] at lt
        have := Int.mul_le_mul_of_nonneg_left s1 nn
        omega
      · obtain ⟨p, hp, rfl⟩ := List.mem_map.mp hy
        have lt := of_decide_eq_true (q1 p hp)
        refine decide_eq_true ?_
        show (meas js (i, j)).1 * (reach * reach * (meas js p).2) < (meas js p).1 * (reach * reach * (meas js (i, j)).2)
        have c := Int.mul_lt_mul_of_pos_left lt hR
        have t : ∀ a b c : Int, a * (b * c) = b * (a * c) := fun a b c => by rw [← Int.mul_assoc, Int.mul_comm a, Int.mul_assoc]
        rw [t, t (meas js p).1]
        exact c
    · obtain ⟨p, hp, rfl⟩ := List.mem_map.mp hy
      have lt := of_decide_eq_false (q2 p hp)
      refine decide_eq_false ?_
      show ¬ (meas js p).1 * (reach * reach * (meas js (i, j)).2) < (meas js (i, j)).1 * (reach * reach * (meas js p).2)
      have t : ∀ a b c : Int, a * (b * c) = b * (a * c) := fun a b c => by rw [← Int.mul_assoc, Int.mul_comm a, Int.mul_assoc]
      rw [t, t (meas js (i, j)).1]
      have le : (meas js (i, j)).1 * (meas js p).2 ≤ (meas js p).1 * (meas js (i, j)).2 := by omega
      have := Int.mul_le_mul_of_nonneg_left le (show 0 ≤ reach * reach by omega)
      omega
  show (match Sj24.least (Sj24.choices reach js) with
    | none => []
    | some x => match x.1 with
      | .done i => (match js[i]? with
        | none => []
        | some a => a :: Sj24.gather reach n (js.eraseIdx i))
      | .join i j => match js[i]?, js[j]? with
        | some a, some b => Sj24.gather reach n ((js.set i (Sj24.joined a b)).eraseIdx j)
        | _, _ => []) = _
  rw [hl]
  show (match js[i]?, js[j]? with
        | some a, some b => Sj24.gather reach n ((js.set i (Sj24.joined a b)).eraseIdx j)
        | _, _ => []) = _
  rw [hi, hjj]
theorem gather_nil (reach : Int) : ∀ n, Sj24.gather reach n [] = []
  | 0 => rfl
  | n + 1 => rfl
end Jb
end
section
set_option Elab.async false
set_option linter.all false
set_option maxHeartbeats 2000000
namespace Jb
open Sj24 (Jet)
/-! ### the order of jets -/
def insI (x : Jet × Nat) : List (Jet × Nat) → List (Jet × Nat)
  | [] => [x]
  | y :: r => if y.1.e ≤ x.1.e then x :: y :: r else y :: insI x r
def ordI (l : List (Jet × Nat)) : List (Jet × Nat) := l.foldr insI []
theorem insI_fst (x : Jet × Nat) : ∀ l : List (Jet × Nat), (insI x l).map (fun y => y.1) = Sj24.insert x.1 (l.map fun y => y.1)
  | [] => rfl
  | y :: r => by
    show (if y.1.e ≤ x.1.e then x :: y :: r else y :: insI x r).map (fun y => y.1) = (if y.1.e ≤ x.1.e then x.1 :: y.1 :: r.map (fun y => y.1) else y.1 :: Sj24.insert x.1 (r.map fun y => y.1))
    split
    · rfl
    · rw [List.map_cons, insI_fst x r]
theorem ordI_fst : ∀ l : List (Jet × Nat), (ordI l).map (fun y => y.1) = Sj24.ordered (l.map fun y => y.1)
  | [] => rfl
  | x :: l => by
    show (insI x (ordI l)).map (fun y => y.1) = Sj24.insert x.1 (Sj24.ordered (l.map fun y => y.1))
    rw [insI_fst, ordI_fst l]
theorem insI_perm (x : Jet × Nat) : ∀ l : List (Jet × Nat), (insI x l).Perm (x :: l)
  | [] => List.Perm.refl _
  | y :: r => by
    unfold insI
    split
    · exact List.Perm.refl _
    · exact ((insI_perm x r).cons y).trans (List.Perm.swap x y r)
theorem ordI_perm : ∀ l : List (Jet × Nat), (ordI l).Perm l
  | [] => List.Perm.refl _
  | x :: l => (insI_perm x (ordI l)).trans ((ordI_perm l).cons x)
def before (a b : Jet × Nat) : Prop := b.1.e < a.1.e ∨ (a.1.e = b.1.e ∧ a.2 < b.2)
theorem insI_sorted {x : Jet × Nat} : ∀ {l : List (Jet × Nat)}, l.Pairwise before → (∀ y ∈ l, x.2 < y.2) → (insI x l).Pairwise before
  | [], _, _ => List.pairwise_singleton _ _
  | y :: r, h, hx => by
    have h' := List.pairwise_cons.mp h
    have hy := hx y (by simp)
    unfold insI
    split
    · rename_i c
      refine List.pairwise_cons.mpr ⟨fun z hz => ?_, h⟩
      have hz2 := hx z hz
      have hle : z.1.e ≤ y.1.e := by
        rcases List.mem_cons.mp hz with rfl | hz
        · exact Int.le_refl _
        · have := h'.1 z hz
          unfold before at this
          omega
      unfold before
      omega
    · rename_i c
      refine List.pairwise_cons.mpr ⟨fun z hz => ?_, insI_sorted h'.2 fun z hz => hx z (by simp [hz])⟩
      rcases List.mem_cons.mp ((insI_perm x r).mem_iff.mp hz) with rfl | hz
      · unfold before
        omega
      · exact h'.1 z hz
theorem ordI_sorted : ∀ {l : List (Jet × Nat)}, l.Pairwise (fun a b => a.2 < b.2) → (ordI l).Pairwise before
  | [], _ => List.Pairwise.nil
  | x :: l, h => by
    have h' := List.pairwise_cons.mp h
    exact insI_sorted (ordI_sorted h'.2) fun y hy => h'.1 y ((ordI_perm l).mem_iff.mp hy)
def keyJ (x : Jet × Nat) : Int × Int := (0 - x.1.e, (x.2 : Int))
theorem zip_sorted (js : List Jet) : js.zipIdx.Pairwise (fun a b => a.2 < b.2) := by
  rw [zip_range, List.pairwise_map]
  exact List.pairwise_lt_range
/-- the one sorted list of keys -/
theorem keys_uniq {js : List Jet} {ps : List (Int × Int)} (hp : ps.Perm (js.zipIdx.map keyJ)) (hs : ps.Pairwise fun x y => x.1 < y.1 ∨ (x.1 = y.1 ∧ x.2 ≤ y.2)) : ps = (ordI js.zipIdx).map keyJ := by
  refine List.Perm.eq_of_pairwise (le := fun x y : Int × Int => x.1 < y.1 ∨ (x.1 = y.1 ∧ x.2 ≤ y.2)) (fun a b _ _ h1 h2 => ?_) hs ?_ (hp.trans ((ordI_perm _).map keyJ).symm)
  · have e1 : a.1 = b.1 := by omega
    have e2 : a.2 = b.2 := by omega
    exact Prod.ext e1 e2
  · rw [List.pairwise_map]
    refine (ordI_sorted (zip_sorted js)).imp fun {a b} h => ?_
    unfold before at h
    show 0 - a.1.e < 0 - b.1.e ∨ (0 - a.1.e = 0 - b.1.e ∧ (a.2 : Int) ≤ (b.2 : Int))
    omega
theorem ordered_at {js : List Jet} {i : Nat} {x : Jet × Nat} (h : (ordI js.zipIdx)[i]? = some x) : (Sj24.ordered js)[i]? = some x.1 ∧ js[x.2]? = some x.1 := by
  have e : js.zipIdx.map (fun y => y.1) = js := by
    rw [zip_range, List.map_map]
    refine List.ext_getElem? fun k => ?_
    rw [List.getElem?_map]
    by_cases hk : k < js.length
    · rw [List.getElem?_range hk]
      simp [List.getElem?_eq_getElem hk]
    · rw [List.getElem?_eq_none (by rw [List.length_range]; omega), List.getElem?_eq_none (by omega)]
      rfl
  constructor
  · have q := ordI_fst js.zipIdx
    rw [e] at q
    rw [← q, List.getElem?_map, h]
    rfl
  · have m := (ordI_perm js.zipIdx).mem_iff.mp (List.mem_of_getElem? h)
    rw [zip_range] at m
    obtain ⟨k, hk, rfl⟩ := List.mem_map.mp m
    have hk' := List.mem_range.mp hk
    simp [List.getElem?_eq_getElem hk']
theorem ordered_len (js : List Jet) : (Sj24.ordered js).length = js.length := by
  have e : ∀ l : List Jet, (Sj24.ordered l).length = l.length := by
    intro l
    induction l with
    | nil => rfl
    | cons x l ih =>
      show (Sj24.insert x (Sj24.ordered l)).length = l.length + 1
      have q : ∀ m : List Jet, (Sj24.insert x m).length = m.length + 1 := by
        intro m
        induction m with
        | nil => rfl
        | cons y r ih =>
          unfold Sj24.insert
          split
          · rfl
          · rw [List.length_cons, ih, List.length_cons]
      rw [q, ih]
  exact e js
theorem ordI_len (l : List (Jet × Nat)) : (ordI l).length = l.length := (ordI_perm l).length_eq
theorem ordered_mem {js : List Jet} {x : Jet} (h : x ∈ Sj24.ordered js) : x ∈ js := by
  obtain ⟨i, hi⟩ := List.mem_iff_getElem?.mp h
  have hl : i < (ordI js.zipIdx).length := by
    rw [ordI_len, List.length_zipIdx, ← ordered_len]
    exact (List.getElem?_eq_some_iff.mp hi).1
  have q := ordered_at (List.getElem?_eq_getElem hl)
  rw [hi] at q
  have e : x = ((ordI js.zipIdx)[i]).1 := Option.some.inj q.1
  rw [e]
  exact List.mem_of_getElem? q.2
/-! ### the first pseudojets -/
def begJ (cs : List Sj24.Cluster) : List Jet := cs.zipIdx.map fun x => ⟨x.1.e, x.1.col, x.1.row, [x.2]⟩
theorem jetsOf_eq (reach : Int) (cs : List Sj24.Cluster) : Sj24.jetsOf reach cs = Sj24.gather reach (2 * cs.length) (begJ cs) := rfl
theorem begJ_at {cs : List Sj24.Cluster} {i : Nat} {c : Sj24.Cluster} (h : cs[i]? = some c) : (begJ cs)[i]? = some ⟨c.e, c.col, c.row, [i]⟩ := by
  unfold begJ
  rw [List.getElem?_map, List.getElem?_zipIdx, h]
  simp
theorem begJ_len (cs : List Sj24.Cluster) : (begJ cs).length = cs.length := by
  unfold begJ
  rw [List.length_map, List.length_zipIdx]
theorem mem_begJ {cs : List Sj24.Cluster} {j : Jet} (h : j ∈ begJ cs) : ∃ c ∈ cs, ∃ i, j = ⟨c.e, c.col, c.row, [i]⟩ := by
  obtain ⟨i, hi⟩ := List.mem_iff_getElem?.mp h
  have hl : i < cs.length := by rw [← begJ_len]; exact (List.getElem?_eq_some_iff.mp hi).1
  have q := begJ_at (List.getElem?_eq_getElem hl)
  rw [hi] at q
  exact ⟨cs[i], List.getElem_mem hl, i, Option.some.inj q⟩
theorem col_bound : ∀ (l : List Sj24.Part) (s : Nat), (∀ p ∈ l, 0 ≤ p.e) →
    -31 * (l.map fun p => p.e).sum ≤ (l.map fun p => p.e * (((p.block % 32 : Nat) : Int) - ((s % 32 : Nat) : Int))).sum ∧ (l.map fun p => p.e * (((p.block % 32 : Nat) : Int) - ((s % 32 : Nat) : Int))).sum ≤ 31 * (l.map fun p => p.e).sum
  | [], _, _ => by simp
  | p :: l, s, h => by
    have ih := col_bound l s fun q hq => h q (by simp [hq])
    have hp := h p (by simp)
    have d0 : -31 ≤ ((p.block % 32 : Nat) : Int) - ((s % 32 : Nat) : Int) := by omega
    have d1 : ((p.block % 32 : Nat) : Int) - ((s % 32 : Nat) : Int) ≤ 31 := by omega
    have a0 := Int.mul_le_mul_of_nonneg_left d0 hp
    have a1 := Int.mul_le_mul_of_nonneg_left d1 hp
    simp only [List.map_cons, List.sum_cons]
    generalize p.e * (((p.block % 32 : Nat) : Int) - ((s % 32 : Nat) : Int)) = z at *
    omega
theorem nearest_bound {a b : Int} {k : Int} (hb : 0 < b) (h0 : -(k * b) ≤ a) (h1 : a ≤ k * b) : -k ≤ Sj24.nearest a b ∧ Sj24.nearest a b ≤ k + 1 := by
  unfold Sj24.nearest
  constructor
  · refine Int.le_ediv_of_mul_le (by omega) ?_
    have : -k * (2 * b) = 2 * -(k * b) := by
      rw [Int.neg_mul, Int.mul_left_comm]
      omega
    omega
  · refine Int.le_of_lt_add_one (Int.ediv_lt_of_lt_mul (by omega) ?_)
    have : (k + 1 + 1) * (2 * b) = 2 * (k * b) + 4 * b := by
      rw [Int.add_mul, Int.add_mul, Int.mul_left_comm]
      omega
    omega
theorem clu_col {c : Sj24.Cluster} (O : CluOk c) : -(2 ^ 20) ≤ c.col ∧ c.col ≤ 2 ^ 20 := by
  have hb := O.pos
  have q := col_bound c.parts c.seed O.nn
  have n := nearest_bound (a := 64 * (c.parts.map fun p => p.e * (((p.block % 32 : Nat) : Int) - ((c.seed % 32 : Nat) : Int))).sum) (b := c.e) (k := 64 * 31) hb
    (by have e : c.e = (c.parts.map fun p => p.e).sum := rfl
        omega) (by have e : c.e = (c.parts.map fun p => p.e).sum := rfl
                   omega)
  have e : c.col = 64 * ((c.seed % 32 : Nat) : Int) + Sj24.nearest (64 * (c.parts.map fun p => p.e * (((p.block % 32 : Nat) : Int) - ((c.seed % 32 : Nat) : Int))).sum) c.e := rfl
  omega
theorem begJ_ok {cs : List Sj24.Cluster} (h : ∀ c ∈ cs, CluOk c) (hl : cs.length ≤ 1024) : JsOk (begJ cs) := by
  refine ⟨fun j hj => ?_, ?_, ?_⟩
  · obtain ⟨c, hc, i, rfl⟩ := mem_begJ hj
    have O := h c hc
    have cc := clu_col O
    have er : c.row = (64 * ((c.seed / 32 : Nat) : Int) + Sj24.nearest (64 * Sj24.sum (c.parts.map fun p => p.e * Sj24.rowStep c.seed p.block)) c.e) % 2048 := rfl
    refine ⟨O.pos, ?_, ?_, cc.1, cc.2⟩
    · show 0 ≤ c.row
      rw [er]
      exact Int.emod_nonneg _ (by decide)
    · show c.row < 2048
      rw [er]
      exact Int.emod_lt_of_pos _ (by decide)
  · have q := isum_le (l := (begJ cs).map fun j => j.e) (B := 9216 * 2 ^ 40) fun x hx => by
      obtain ⟨j, hj, rfl⟩ := List.mem_map.mp hx
      obtain ⟨c, hc, i, rfl⟩ := mem_begJ hj
      exact (h c hc).most
    rw [List.length_map, begJ_len] at q
    omega
  · have e : ∀ l : List Nat, (∀ x ∈ l, x = 1) → l.sum = l.length := by
      intro l
      induction l with
      | nil => intro _; rfl
      | cons a l ih =>
        intro h
        rw [List.sum_cons, List.length_cons, ih fun x hx => h x (by simp [hx]), h a (by simp)]
        omega
    rw [e _ fun x hx => by
      obtain ⟨j, hj, rfl⟩ := List.mem_map.mp hx
      obtain ⟨c, hc, i, rfl⟩ := mem_begJ hj
      rfl, List.length_map, begJ_len]
    exact hl
end Jb
end
section
set_option Elab.async false
set_option linter.all false
set_option maxRecDepth 100000
set_option maxHeartbeats 2000000
namespace Jb
open PySem PySem.Spec PyProof.Rows L2
open Sj24 (House Jet)
/-! ### pseudojets and jets -/
def pjF (j : Jet) (ma : Addr) : List (Str × V) := [("energy", .int j.e), ("column", .int j.col), ("row", .int j.row), ("clusters", .ref ma)]
def JetAt (A : Ad) (H : Hp) (a : Addr) (j : Jet) : Prop := ∃ dx ma, H a = some (.ins A.CPseudojet dx (pjF j ma)) ∧ H ma = some (.lst (nV j.members))
theorem JetAt.mono {A : Ad} {H H' : Hp} {a : Addr} {j : Jet} (h : JetAt A H a j) (s : Same H H') : JetAt A H' a j := by
  obtain ⟨dx, ma, h1, h2⟩ := h
  exact ⟨dx, ma, s _ _ h1, s _ _ h2⟩
def JetsAt (A : Ad) (H : Hp) (p : Addr) (js : List Jet) : Prop := ∃ as : List Addr, H p = some (.lst (as.map V.ref)) ∧ Rep (JetAt A H) as js
theorem JetsAt.mono {A : Ad} {H H' : Hp} {p : Addr} {js : List Jet} (h : JetsAt A H p js) (s : Same H H') : JetsAt A H' p js := by
  obtain ⟨as, h1, h2⟩ := h
  exact ⟨as, s _ _ h1, h2.mono fun a c q => q.mono s⟩
theorem Rep.set {α : Type} {R : Addr → α → Prop} {as : List Addr} {xs : List α} {a : Addr} {x : α} {i : Nat} (r : Rep R as xs) (h : R a x) : Rep R (as.set i a) (xs.set i x) := by
  refine ⟨by simp [r.len], fun k b hb => ?_⟩
  rw [List.getElem?_set] at hb ⊢
  by_cases hik : i = k
  · subst hik
    rw [if_pos rfl] at hb ⊢
    split at hb
    · cases hb
      rename_i hl
      exact ⟨x, by rw [if_pos (by rw [← r.len]; exact hl)], h⟩
    · cases hb
  · rw [if_neg hik] at hb ⊢
    exact r.at_ k b hb
theorem Rep.erase {α : Type} {R : Addr → α → Prop} {as : List Addr} {xs : List α} {i : Nat} (r : Rep R as xs) : Rep R (as.eraseIdx i) (xs.eraseIdx i) := by
  refine ⟨by simp only [List.length_eraseIdx, r.len], fun k b hb => ?_⟩
  rw [List.getElem?_eraseIdx] at hb ⊢
  split at hb
  · rename_i hk
    rw [if_pos hk]
    exact r.at_ k b hb
  · rename_i hk
    rw [if_neg hk]
    exact r.at_ (k + 1) b hb
theorem ref_at {as : List Addr} {i : Nat} {a : Addr} (h : as[i]? = some a) : atI (as.map V.ref) (i : Int) = some (V.ref a) := atI_nat (by rw [List.getElem?_map, h]; rfl)
def sp_Pseudojet___init__ (K : PySem.W.Frag) (A : Ad) : Sp := fun vs H Q _ => ∃ (x dx : Addr) (e c r m : V), vs = [.ref x, e, c, r, m] ∧ H x = some (.ins A.CPseudojet dx []) ∧
  ∀ H' : Hp, H' x = some (.ins A.CPseudojet dx [("energy", e), ("column", c), ("row", r), ("clusters", m)]) → (∀ b o, H b = some o → b ≠ x → H' b = some o) → Q .non H'
def sp_far_rows (K : PySem.W.Frag) (A : Ad) : Sp := fun vs H Q _ => ∃ a b : Int, vs = [.int a, .int b] ∧ (0 ≤ a ∧ a < 2048) ∧ (0 ≤ b ∧ b < 2048) ∧ Q (.int (min ((a - b) % 2048) (2048 - (a - b) % 2048))) H
def sp_squared_distance (K : PySem.W.Frag) (A : Ad) : Sp := fun vs H Q _ => ∃ (x y : Addr) (a b : Jet), vs = [.ref x, .ref y] ∧ JetAt A H x a ∧ JetAt A H y b ∧ JOk a ∧ JOk b ∧ Q (.int (Sj24.apart a b)) H
def sp_joined (K : PySem.W.Frag) (A : Ad) : Sp := fun vs H Q _ => ∃ (x y : Addr) (a b : Jet), vs = [.ref x, .ref y] ∧ JetAt A H x a ∧ JetAt A H y b ∧ a.members.length ≤ 1024 ∧ b.members.length ≤ 1024 ∧
  ∀ (p : Addr) (H' : Hp), Same H H' → H p = none → JetAt A (minus H' H) p (Sj24.joined a b) → Q (.ref p) H'
def sp_finished_first (K : PySem.W.Frag) (A : Ad) : Sp := fun vs H Q _ => ∃ (p : Addr) (as : List Addr) (js : List Jet), vs = [.ref p] ∧ H p = some (.lst (as.map V.ref)) ∧ Rep (JetAt A H) as js ∧ js ≠ [] ∧ js.length ≤ 1024 ∧
  ∀ (H' : Hp) (f : Nat) (x : Jet), Same H H' → IsFin js f x → Q (.int (f : Int)) H'
def sp_pair_measure (K : PySem.W.Frag) (A : Ad) : Sp := fun vs H Q _ => ∃ (x y : Addr) (a b : Jet), vs = [.ref x, .ref y] ∧ JetAt A H x a ∧ JetAt A H y b ∧ JOk a ∧ JOk b ∧ a.e ≤ 1024 * (9216 * 2 ^ 40) ∧ b.e ≤ 1024 * (9216 * 2 ^ 40) ∧
  ∀ (p : Addr) (H' : Hp), Same H H' → H p = none → H' p = some (.tup [.int (Sj24.apart a b), .int (Sj24.most a b * Sj24.most a b)]) → Q (.ref p) H'
def sp_is_less (K : PySem.W.Frag) (A : Ad) : Sp := fun vs H Q _ => ∃ (p q : Addr) (x y : Int × Int), vs = [.ref p, .ref q] ∧ H p = some (.tup [.int x.1, .int x.2]) ∧ H q = some (.tup [.int y.1, .int y.2]) ∧ (0 ≤ x.1 ∧ x.1 < 2 ^ 60) ∧ (0 ≤ y.1 ∧ y.1 < 2 ^ 60) ∧ Q (.bl (lessM x y)) H
/-- what stands for the best pair: None, or a tuple of two places and a measure -/
def BestAt (js : List Jet) (H : Hp) (v : V) : Option (Nat × Nat) → Prop
  | none => v = .non
  | some b => ∃ p m : Addr, v = .ref p ∧ H p = some (.tup [.int (b.1 : Int), .int (b.2 : Int), .ref m]) ∧ H m = some (.tup [.int (meas js b).1, .int (meas js b).2])
theorem BestAt.mono {js : List Jet} {H H' : Hp} {v : V} {o : Option (Nat × Nat)} (h : BestAt js H v o) (s : Same H H') : BestAt js H' v o := by
  cases o with
  | none => exact h
  | some b =>
    obtain ⟨p, m, e, h1, h2⟩ := h
    exact ⟨p, m, e, s _ _ h1, s _ _ h2⟩
def sp_best_pair (K : PySem.W.Frag) (A : Ad) : Sp := fun vs H Q _ => ∃ (p : Addr) (as : List Addr) (js : List Jet), vs = [.ref p] ∧ H p = some (.lst (as.map V.ref)) ∧ Rep (JetAt A H) as js ∧ JsOk js ∧ js.length ≤ 1024 ∧
  ∀ (H' : Hp) (v : V), Same H H' → BestAt js H' v (bestP js) → Q v H'
def sp_is_joined_first (K : PySem.W.Frag) (A : Ad) : Sp := fun vs H Q _ => ∃ (p m : Addr) (i j e R : Int) (x : Int × Int), vs = [.ref p, .int e, .int R] ∧ H p = some (.tup [.int i, .int j, .ref m]) ∧ H m = some (.tup [.int x.1, .int x.2]) ∧
  (0 < e ∧ e < 2 ^ 64) ∧ (1 ≤ R ∧ R ≤ 1024) ∧ Q (.bl (decide (x.1 * e * e < R * R * x.2))) H
def sp_without (K : PySem.W.Frag) (A : Ad) : Sp := fun vs H Q _ => ∃ (p : Addr) (xs : List V) (i : Nat), vs = [.ref p, .int (i : Int)] ∧ H p = some (.lst xs) ∧ i < xs.length ∧ xs.length ≤ 1024 ∧
  ∀ (q : Addr) (H' : Hp), Same H H' → H q = none → H' q = some (.lst (xs.eraseIdx i)) → Q (.ref q) H'
def sp_beginning (K : PySem.W.Frag) (A : Ad) : Sp := fun vs H Q _ => ∃ (p : Addr) (cs : List Sj24.Cluster), vs = [.ref p] ∧ ClsAt A H p cs ∧ cs.length ≤ 1024 ∧
  ∀ (q : Addr) (H' : Hp) (as : List Addr), Same H H' → H q = none → H' q = some (.lst (as.map V.ref)) → Rep (JetAt A (del [q] (minus H' H))) as (begJ cs) → Q (.ref q) H'
def sp_ordered (K : PySem.W.Frag) (A : Ad) : Sp := fun vs H Q _ => ∃ (p : Addr) (as : List Addr) (js : List Jet), vs = [.ref p] ∧ H p = some (.lst (as.map V.ref)) ∧ Rep (JetAt A H) as js ∧ js.length ≤ 1024 ∧
  ∀ (q : Addr) (H' : Hp) (bs : List Addr), Same H H' → H q = none → H' q = some (.lst (bs.map V.ref)) → (∀ R : Addr → Jet → Prop, Rep R as js → Rep R bs (Sj24.ordered js)) → Q (.ref q) H'
def sp_jets_of (K : PySem.W.Frag) (A : Ad) : Sp := fun vs H Q _ => ∃ (p : Addr) (cs : List Sj24.Cluster) (R : Int), vs = [.ref p, .int R] ∧ ClsAt A H p cs ∧ cs.length ≤ 1024 ∧ (∀ c ∈ cs, CluOk c) ∧ (1 ≤ R ∧ R ≤ 1024) ∧
  ∀ (q : Addr) (H' : Hp), Same H H' → H q = none → JetsAt A (minus H' H) q (Sj24.ordered (Sj24.jetsOf R cs)) → (∀ j ∈ Sj24.ordered (Sj24.jetsOf R cs), j.members.length ≤ 1024) → Q (.ref q) H'
theorem apart_bound {a b : Jet} (ha : JOk a) (hb : JOk b) : 0 ≤ Sj24.apart a b ∧ Sj24.apart a b < 2 ^ 60 := by
  have a0 := ha.c0
  have a1 := ha.c1
  have b0 := hb.c0
  have b1 := hb.c1
  have sq : ∀ z k : Int, -k ≤ z → z ≤ k → 0 ≤ z * z ∧ z * z ≤ k * k := fun z k h0 h1 => by
    rcases Int.le_total 0 z with q | q
    · refine ⟨Int.mul_nonneg q q, ?_⟩
      have := Int.mul_le_mul_of_nonneg_left h1 q
      have := Int.mul_le_mul_of_nonneg_right h1 (show 0 ≤ k by omega)
      omega
    · have e : z * z = -z * -z := by rw [Int.neg_mul_neg]
      have q' : 0 ≤ -z := by omega
      have h1' : -z ≤ k := by omega
      rw [e]
      refine ⟨Int.mul_nonneg q' q', ?_⟩
      have := Int.mul_le_mul_of_nonneg_left h1' q'
      have := Int.mul_le_mul_of_nonneg_right h1' (show 0 ≤ k by omega)
      omega
  have s1 := sq (a.col - b.col) (2 ^ 21) (by omega) (by omega)
  have s2 := sq (min ((a.row - b.row) % 2048) (2048 - (a.row - b.row) % 2048)) 2048 (by omega) (by omega)
  have e : Sj24.apart a b = (a.col - b.col) * (a.col - b.col) + min ((a.row - b.row) % 2048) (2048 - (a.row - b.row) % 2048) * min ((a.row - b.row) % 2048) (2048 - (a.row - b.row) % 2048) := rfl
  rw [e]
  omega
theorem cut_to (xs : List V) {i : Nat} (hi : i ≤ xs.length) : cutV xs none (some (i : Int)) = xs.take i := by
  have e : HT.sIx xs.length xs.length (some (i : Int)) = i := by
    rw [HT.sIx_nat, Nat.min_eq_left hi]
  unfold cutV
  rw [e]
  show (xs.drop 0).take (i - 0) = _
  rw [List.drop_zero, Nat.sub_zero]
theorem cut_from (xs : List V) {i : Nat} (hi : i ≤ xs.length) : cutV xs (some (i : Int)) none = xs.drop i := by
  have e : HT.sIx xs.length 0 (some (i : Int)) = i := by
    rw [HT.sIx_nat, Nat.min_eq_left hi]
  unfold cutV
  rw [e]
  show (xs.drop i).take (xs.length - i) = _
  rw [List.take_of_length_le (by rw [List.length_drop]; exact Nat.le_refl _)]
section
variable {P : Program} {w : World} {K : PySem.W.Frag} {mg : Str → Option Value} {base : Heap} {A : Ad}
theorem ok_Pseudojet___init__ {f : Addr} {fd : FuncData} (F : Fun K "__init__" "Pseudojet.__init__" s_Pseudojet___init__ f fd) (T : Txt K mg A) : FnOk P w K mg base CX0 1 f fd ["self", "energy", "column", "row", "clusters"] (sp_Pseudojet___init__ K A) := by
  refine F.ok sc_Pseudojet___init__ (fun vs H Q E h => ?_) (fun cdv _ outer s H vs Q E hr h => ?_)
  · obtain ⟨x, dx, e, c, r, m, rfl, _⟩ := h
    rfl
  · obtain ⟨x, dx, e, c, r, m, rfl, hx, k⟩ := h
    refine ⟨_, (pss_cons (ps_fld (pv 0) (pv 1) rfl)
      (pss_cons (ps_fld (pv 0) (pv 2) rfl)
      (pss_cons (ps_fld (pv 0) (pv 3) rfl)
      (pss_one (ps_fld (pv 0) (pv 4) rfl))))), ?_⟩
    have n := T.k_Pseudojet.na
    have cl := T.k_Pseudojet.cl
    refine ⟨_, rfl, _, rfl, x, _, dx, _, rfl, hx, cl, n _ (by simp), (by show 0 < 1000; decide), ?_⟩
    refine ⟨_, rfl, _, rfl, x, _, dx, _, rfl, upd_same, cl, n _ (by simp), (by show 1 < 1000; decide), ?_⟩
    rw [upd_upd, ini_Pseudojet_energy, ini_Pseudojet_column]
    refine ⟨_, rfl, _, rfl, x, _, dx, _, rfl, upd_same, cl, n _ (by simp), (by show 2 < 1000; decide), ?_⟩
    rw [upd_upd, ini_Pseudojet_row]
    refine ⟨_, rfl, _, rfl, x, _, dx, _, rfl, upd_same, cl, n _ (by simp), (by show 3 < 1000; decide), ?_⟩
    rw [upd_upd, ini_Pseudojet_clusters]
    exact k _ upd_same fun b o e hb => by rw [upd_ne hb]; exact e
theorem ok_far_rows {f : Addr} {fd : FuncData} (F : Fun K "far_rows" "far_rows" s_far_rows f fd) (T : Txt K mg A) : FnOk P w K mg base CX0 1 f fd ["one", "other"] (sp_far_rows K A) := by
  refine F.ok sc_far_rows (fun vs H Q E h => ?_) (fun cdv _ outer s H vs Q E hr h => ?_)
  · obtain ⟨a, b, rfl, _⟩ := h
    rfl
  · obtain ⟨a, b, rfl, ha, hb, k⟩ := h
    refine ⟨_, (pss_cons (ps_set (i := 2) sc_far_rows.nd rfl (Or.inl rfl) (pe_callB call_abs (by rfl) T.b_abs (by decide +kernel) (pa_cons (pe_op op_sub (pv 0) (pv 1)) pa_nil)))
      (pss_one (ps_ret (pe_callB (call_min2 rfl) (by rfl) T.b_min (by decide +kernel) (pa_cons (pv 2) (pa_cons (pe_op op_sub (pe_cst rfl T.c_CYCLE) (pv 2)) pa_nil)))))), ?_⟩
    refine ⟨_, rfl, _, rfl, _, _, rfl, rfl, _, rfl, _, rfl, _, rfl, _, _, rfl, rfl, _, _, rfl, ?_⟩
    have e : (if (2048 - (if a - b < 0 then -(a - b) else a - b)) < (if a - b < 0 then -(a - b) else a - b) then (2048 - (if a - b < 0 then -(a - b) else a - b)) else (if a - b < 0 then -(a - b) else a - b)) = min ((a - b) % 2048) (2048 - (a - b) % 2048) := by
      split <;> split <;> omega
    show Q (.int (if (2048 - (if a - b < 0 then -(a - b) else a - b)) < (if a - b < 0 then -(a - b) else a - b) then (2048 - (if a - b < 0 then -(a - b) else a - b)) else (if a - b < 0 then -(a - b) else a - b))) H
    rw [e]
    exact k
theorem ok_squared_distance {f : Addr} {fd : FuncData} (F : Fun K "squared_distance" "squared_distance" s_squared_distance f fd) (T : Txt K mg A) (C_far_rows : Cal P w K mg base 1 "far_rows" ["one", "other"] (sp_far_rows K A)) : FnOk P w K mg base CX0 2 f fd ["one", "other"] (sp_squared_distance K A) := by
  refine F.ok sc_squared_distance (fun vs H Q E h => ?_) (fun cdv _ outer s H vs Q E hr h => ?_)
  · obtain ⟨x, y, a, b, rfl, _⟩ := h
    rfl
  · obtain ⟨x, y, a, b, rfl, ⟨dx, ma, hx, hxm⟩, ⟨dy, mb, hy, hym⟩, ha, hb, k⟩ := h
    refine ⟨_, (pss_cons (ps_set (i := 2) sc_squared_distance.nd rfl (Or.inl rfl) (pe_op op_sub (pe_fldK (K := K) (pv 0) rfl) (pe_fldK (K := K) (pv 1) rfl)))
      (pss_cons (ps_set (i := 3) sc_squared_distance.nd rfl (Or.inl rfl) (pe_cal C_far_rows (hr.mono (by decide)) (by rfl) (pa_cons (pe_fldK (K := K) (pv 0) rfl) (pa_cons (pe_fldK (K := K) (pv 1) rfl) pa_nil))))
      (pss_one (ps_ret (pe_op op_add (pe_op op_mul (pv 2) (pv 2)) (pe_op op_mul (pv 3) (pv 3))))))), ?_⟩
    have n := T.k_Pseudojet.na
    have cl := T.k_Pseudojet.cl
    have a0 := ha.c0
    have a1 := ha.c1
    have b0 := hb.c0
    have b1 := hb.c1
    refine ⟨_, rfl, x, _, dx, _, _, rfl, hx, cl, n _ (by simp), lk_Pseudojet_column, _, rfl, y, _, dy, _, _, rfl, hy, cl, n _ (by simp), lk_Pseudojet_column, _, _, rfl, rfl, ?_⟩
    refine ⟨_, rfl, x, _, dx, _, _, rfl, hx, cl, n _ (by simp), lk_Pseudojet_row, _, rfl, y, _, dy, _, _, rfl, hy, cl, n _ (by simp), lk_Pseudojet_row, _, _, rfl, ⟨ha.r0, ha.r1⟩, ⟨hb.r0, hb.r1⟩, ?_⟩
    refine ⟨_, rfl, _, rfl, _, _, rfl, rfl, .inl ⟨by omega, by omega⟩, _, rfl, _, rfl, _, _, rfl, rfl, .inl ⟨by omega, by omega⟩, _, _, rfl, rfl, k⟩
theorem ok_joined {f : Addr} {fd : FuncData} (F : Fun K "joined" "joined" s_joined f fd) (T : Txt K mg A) (C_Pseudojet___init__ : CalC P w K mg base 1 "Pseudojet" A.CPseudojet ["self", "energy", "column", "row", "clusters"] (sp_Pseudojet___init__ K A)) : FnOk P w K mg base CX0 3 f fd ["one", "other"] (sp_joined K A) := by
  refine F.ok sc_joined (fun vs H Q E h => ?_) (fun cdv _ outer s H vs Q E hr h => ?_)
  · obtain ⟨x, y, a, b, rfl, _⟩ := h
    rfl
  · obtain ⟨x, y, a, b, rfl, ⟨dx, ma, hx, hxm⟩, ⟨dy, mb, hy, hym⟩, la, lb, k⟩ := h
    refine ⟨_, (pss_cons (ps_set (i := 2) sc_joined.nd rfl (Or.inl rfl) (pe_ifExp (pt_cmpR op_gt (pe_fldK (K := K) (pv 1) rfl) (pe_fldK (K := K) (pv 0) rfl) (nomark _)) (pv 1) (pv 0)))
      (pss_one (ps_ret (pe_mk C_Pseudojet___init__ (hr.mono (by decide)) (by rfl) (pa_cons (pe_op op_add (pe_fldK (K := K) (pv 0) rfl) (pe_fldK (K := K) (pv 1) rfl)) (pa_cons (pe_fldK (K := K) (pv 2) rfl) (pa_cons (pe_fldK (K := K) (pv 2) rfl) (pa_cons (pe_op op_cat (pe_fldK (K := K) (pv 0) rfl) (pe_fldK (K := K) (pv 1) rfl)) pa_nil)))))))), ?_⟩
    have n := T.k_Pseudojet.na
    have cl := T.k_Pseudojet.cl
    refine ⟨_, rfl, y, _, dy, _, _, rfl, hy, cl, n _ (by simp), lk_Pseudojet_energy, _, rfl, x, _, dx, _, _, rfl, hx, cl, n _ (by simp), lk_Pseudojet_energy, _, _, rfl, rfl, _, rfl, ite_b (fun c => ?_) (fun c => ?_)⟩
    · have c := of_decide_eq_true c
      refine ⟨_, rfl, _, rfl, x, _, dx, _, _, rfl, hx, cl, n _ (by simp), lk_Pseudojet_energy, _, rfl, y, _, dy, _, _, rfl, hy, cl, n _ (by simp), lk_Pseudojet_energy, _, _, rfl, rfl, ?_⟩
      refine ⟨_, rfl, y, _, dy, _, _, rfl, hy, cl, n _ (by simp), lk_Pseudojet_column, _, rfl, y, _, dy, _, _, rfl, hy, cl, n _ (by simp), lk_Pseudojet_row, ?_⟩
      refine ⟨_, rfl, x, _, dx, _, _, rfl, hx, cl, n _ (by simp), lk_Pseudojet_clusters, _, rfl, y, _, dy, _, _, rfl, hy, cl, n _ (by simp), lk_Pseudojet_clusters, ma, mb, _, _, rfl, rfl, hxm, hym, small (by rw [nV_len, nV_len]; omega), fun m hm => ?_⟩
      intro z dz nz nd ne
      refine ⟨z, dz, _, _, _, _, rfl, upd_same, fun H3 e3 k3 => ⟨rfl, ?_⟩⟩
      have s3 : Same (upd H m (.lst (nV a.members ++ nV b.members))) H3 := Same.made nz nd k3
      have s4 : Same H H3 := (Same.upd_new hm).trans s3
      have hz : H z = none := (Same.upd_new hm).free nz
      refine k z H3 s4 hz ⟨dz, m, ?_, ?_⟩
      · rw [minus_at hz, e3]
        unfold Sj24.joined pjF
        rw [if_pos c]
      · rw [minus_at hm, s3 _ _ upd_same, joined_m]
        unfold nV
        simp
    · have c := of_decide_eq_false c
      refine ⟨_, rfl, _, rfl, x, _, dx, _, _, rfl, hx, cl, n _ (by simp), lk_Pseudojet_energy, _, rfl, y, _, dy, _, _, rfl, hy, cl, n _ (by simp), lk_Pseudojet_energy, _, _, rfl, rfl, ?_⟩
      refine ⟨_, rfl, x, _, dx, _, _, rfl, hx, cl, n _ (by simp), lk_Pseudojet_column, _, rfl, x, _, dx, _, _, rfl, hx, cl, n _ (by simp), lk_Pseudojet_row, ?_⟩
      refine ⟨_, rfl, x, _, dx, _, _, rfl, hx, cl, n _ (by simp), lk_Pseudojet_clusters, _, rfl, y, _, dy, _, _, rfl, hy, cl, n _ (by simp), lk_Pseudojet_clusters, ma, mb, _, _, rfl, rfl, hxm, hym, small (by rw [nV_len, nV_len]; omega), fun m hm => ?_⟩
      intro z dz nz nd ne
      refine ⟨z, dz, _, _, _, _, rfl, upd_same, fun H3 e3 k3 => ⟨rfl, ?_⟩⟩
      have s3 : Same (upd H m (.lst (nV a.members ++ nV b.members))) H3 := Same.made nz nd k3
      have s4 : Same H H3 := (Same.upd_new hm).trans s3
      have hz : H z = none := (Same.upd_new hm).free nz
      refine k z H3 s4 hz ⟨dz, m, ?_, ?_⟩
      · rw [minus_at hz, e3]
        unfold Sj24.joined pjF
        rw [if_neg c]
      · rw [minus_at hm, s3 _ _ upd_same, joined_m]
        unfold nV
        simp
theorem ok_finished_first {f : Addr} {fd : FuncData} (F : Fun K "finished_first" "finished_first" s_finished_first f fd) (T : Txt K mg A) : FnOk P w K mg base CX0 1 f fd ["some"] (sp_finished_first K A) := by
  refine F.ok sc_finished_first (fun vs H Q E h => ?_) (fun cdv _ outer s H vs Q E hr h => ?_)
  · obtain ⟨p, as, js, rfl, _⟩ := h
    rfl
  · obtain ⟨p, as, js, rfl, hp, hR, hne, hlen, k⟩ := h
    refine ⟨_, (pss_cons (ps_setLc (i := 1) (own := [("one", 2)]) (g := gName 2) (tt := tYes) rfl sc_finished_first.nd rfl rfl (sw_true rfl rfl rfl (by decide +kernel)) (pi_list (pv 0)) (blkOk_by (own := [("one", 2)]) (N := n_finished_first) (sc := defScope s_finished_first) (by decide +kernel)) (fun _ _ _ _ _ => (pg_name (i := 2) sc_finished_first.nd rfl (Or.inl rfl))) (fun _ _ _ _ _ => pts_nil) (fun _ _ _ _ _ => pe_fldK (K := K) (pv 2) rfl))
      (pss_one (ps_ret (pe_bm PySem.F.plainAttrs_list PySem.F.slot_list_index PySem.F.type_list_index mt_index (pv 1) (pa_cons (pe_callB (cr_max rfl) (by rfl) T.b_max (by decide +kernel) (pa_cons (pv 1) pa_nil)) pa_nil))))), ?_⟩
    have n := T.k_Pseudojet.na
    have cl := T.k_Pseudojet.cl
    refine ⟨_, rfl, p, rfl, ⟨_, SqL.of hp⟩, fun D hD => ?_⟩
    refine lc_list (K := K) (a := p) (xs := as.map V.ref) (LcP _ D fun i => ((js.take i).map fun j => j.e).map V.int) (.start hD rfl) (fun i H _ q => q.same.seq (SqL.of hp)) ?_ ?_
    · intro i y H1 hy q
      obtain ⟨a, ha, rfl⟩ := map_some hy
      obtain ⟨j, hj, dx, ma, e1, e2⟩ := hR.at_ i a ha
      refine ⟨rfl, _, rfl, a, _, dx, _, _, rfl, q.same _ _ e1, cl, n _ (by simp), lk_Pseudojet_energy, q.push hD (Same.refl _) ?_ (small' ?_)⟩
      · rw [take_snoc hj, List.map_append, List.map_append]; rfl
      · rw [List.length_map, List.length_map, List.length_take]; omega
    · intro H1 q
      have e1 : H1 D = some (.lst ((js.map fun j => j.e).map V.int)) := by
        rw [q.at_, List.length_map, hR.len, List.take_length]
      have hpos : 0 < (js.map fun j => j.e).length := by
        rw [List.length_map]
        exact List.length_pos_iff.mpr hne
      refine ⟨_, rfl, .inl ⟨rfl, _, SqL.of e1⟩, _, rfl, D, _, rfl, SqL.of e1, hpos, fun m hm hle => ?_⟩
      obtain ⟨n0, hn0, en0⟩ := List.mem_map.mp hm
      obtain ⟨f', x, hj, hg, hfirst⟩ := first_place (fun j : Jet => decide (j.e = m)) (l := js) ⟨n0, hn0, by simp [en0]⟩
      have hg : x.e = m := of_decide_eq_true hg
      refine ⟨D, _, _, f', V.int x.e, rfl, rfl, SqL.of e1, rfl, ?_, ?_, ?_, ?_, ?_⟩
      · simp [List.all_map, flatV]
      · rw [List.getElem?_map, List.getElem?_map, hj]; rfl
      · simp [eqV, hg]
      · intro i z hi hz
        obtain ⟨y, hy, rfl⟩ := map_some hz
        obtain ⟨j, hj', rfl⟩ := map_some hy
        have := of_decide_eq_false (hfirst i j hi hj')
        simp [eqV, this]
      · refine k H1 f' x q.same ⟨hj, fun i y hi hy => ?_, fun y hy => ?_⟩
        · have a := of_decide_eq_false (hfirst i y hi hy)
          have b := hle _ (List.mem_map.mpr ⟨y, List.mem_of_getElem? hy, rfl⟩)
          omega
        · have b := hle _ (List.mem_map.mpr ⟨y, hy, rfl⟩)
          omega
theorem ok_pair_measure {f : Addr} {fd : FuncData} (F : Fun K "pair_measure" "pair_measure" s_pair_measure f fd) (T : Txt K mg A) (C_squared_distance : Cal P w K mg base 2 "squared_distance" ["one", "other"] (sp_squared_distance K A)) : FnOk P w K mg base CX0 3 f fd ["one", "other"] (sp_pair_measure K A) := by
  refine F.ok sc_pair_measure (fun vs H Q E h => ?_) (fun cdv _ outer s H vs Q E hr h => ?_)
  · obtain ⟨x, y, a, b, rfl, _⟩ := h
    rfl
  · obtain ⟨x, y, a, b, rfl, hx, hy, ha, hb, la, lb, k⟩ := h
    refine ⟨_, (pss_cons (ps_set (i := 2) sc_pair_measure.nd rfl (Or.inl rfl) (pe_callB (call_max2 rfl) (by rfl) T.b_max (by decide +kernel) (pa_cons (pe_fldK (K := K) (pv 0) rfl) (pa_cons (pe_fldK (K := K) (pv 1) rfl) pa_nil))))
      (pss_one (ps_ret (pe_tup (pa_cons (pe_cal C_squared_distance (hr.mono (by decide)) (by rfl) (pa_cons (pv 0) (pa_cons (pv 1) pa_nil))) (pa_cons (pe_op op_mul (pv 2) (pv 2)) pa_nil)))))), ?_⟩
    have n := T.k_Pseudojet.na
    have cl := T.k_Pseudojet.cl
    have a0 := ha.pos
    have b0 := hb.pos
    obtain ⟨dx, ma, ex, exm⟩ := hx
    obtain ⟨dy, mb, ey, eym⟩ := hy
    refine ⟨_, rfl, x, _, dx, _, _, rfl, ex, cl, n _ (by simp), lk_Pseudojet_energy, _, rfl, y, _, dy, _, _, rfl, ey, cl, n _ (by simp), lk_Pseudojet_energy, _, _, rfl, ?_⟩
    have em : (if b.e > a.e then b.e else a.e) = Sj24.most a b := by
      unfold Sj24.most
      split <;> omega
    refine ⟨_, rfl, _, rfl, x, y, a, b, rfl, ⟨dx, ma, ex, exm⟩, ⟨dy, mb, ey, eym⟩, ha, hb, ?_⟩
    refine ⟨_, rfl, _, rfl, _, _, rfl, rfl, .inl ⟨by rw [em]; unfold Sj24.most; omega, by rw [em]; unfold Sj24.most; omega⟩, (by show 2 ≤ sizeLine; decide), fun p hp => k p _ (Same.upd_new hp) hp ?_⟩
    rw [upd_same, em]
theorem ok_is_less {f : Addr} {fd : FuncData} (F : Fun K "is_less" "is_less" s_is_less f fd) (T : Txt K mg A) : FnOk P w K mg base CX0 1 f fd ["one", "other"] (sp_is_less K A) := by
  refine F.ok sc_is_less (fun vs H Q E h => ?_) (fun cdv _ outer s H vs Q E hr h => ?_)
  · obtain ⟨p, q, x, y, rfl, _⟩ := h
    rfl
  · obtain ⟨p, q, x, y, rfl, hp, hq, hx, hy, k⟩ := h
    refine ⟨_, (pss_one (ps_ret (pe_cmpR op_lt (pe_op op_mul (pe_ixT (K := K) (pv 0) (pe_int) (fun _ _ => rfl)) (pe_ixT (K := K) (pv 1) (pe_int) (fun _ _ => rfl))) (pe_op op_mul (pe_ixT (K := K) (pv 1) (pe_int) (fun _ _ => rfl)) (pe_ixT (K := K) (pv 0) (pe_int) (fun _ _ => rfl))) (nomark _)))), ?_⟩
    have p0 : atI ([.int x.1, .int x.2] : List V) ((0 : Nat) : Int) = some (.int x.1) := atI_nat rfl
    have p1 : atI ([.int x.1, .int x.2] : List V) ((1 : Nat) : Int) = some (.int x.2) := atI_nat rfl
    have q0 : atI ([.int y.1, .int y.2] : List V) ((0 : Nat) : Int) = some (.int y.1) := atI_nat rfl
    have q1 : atI ([.int y.1, .int y.2] : List V) ((1 : Nat) : Int) = some (.int y.2) := atI_nat rfl
    refine ⟨_, rfl, p, _, _, _, rfl, rfl, .inl (.inl hp), p0, _, rfl, q, _, _, _, rfl, rfl, .inl (.inl hq), q1, _, _, rfl, rfl, .inl ⟨by omega, by omega⟩, ?_⟩
    refine ⟨_, rfl, q, _, _, _, rfl, rfl, .inl (.inl hq), q0, _, rfl, p, _, _, _, rfl, rfl, .inl (.inl hp), p1, _, _, rfl, rfl, .inl ⟨by omega, by omega⟩, ?_⟩
    exact ⟨_, _, rfl, rfl, k⟩
theorem ok_is_joined_first {f : Addr} {fd : FuncData} (F : Fun K "is_joined_first" "is_joined_first" s_is_joined_first f fd) (T : Txt K mg A) : FnOk P w K mg base CX0 1 f fd ["pair", "energy", "reach"] (sp_is_joined_first K A) := by
  refine F.ok sc_is_joined_first (fun vs H Q E h => ?_) (fun cdv _ outer s H vs Q E hr h => ?_)
  · obtain ⟨p, m, i, j, e, R, x, rfl, _⟩ := h
    rfl
  · obtain ⟨p, m, i, j, e, R, x, rfl, hp, hm, he, hR, k⟩ := h
    refine ⟨_, (pss_cons (ps_asg (pe_ixT (K := K) (pv 0) (pe_int) (fun _ _ => rfl)) (pg_tupK (K := K) (n := 2) rfl (pgs_cons (pg_name (i := 3) sc_is_joined_first.nd rfl (Or.inl rfl)) (pgs_cons (pg_name (i := 4) sc_is_joined_first.nd rfl (Or.inl rfl)) pgs_nil))))
      (pss_one (ps_ret (pe_cmpR op_lt (pe_op op_mul (pe_op op_mul (pv 3) (pv 1)) (pv 1)) (pe_op op_mul (pe_op op_mul (pv 2) (pv 2)) (pv 4)) (nomark _))))), ?_⟩
    have p2 : atI ([.int i, .int j, .ref m] : List V) ((2 : Nat) : Int) = some (.ref m) := atI_nat rfl
    have hRR : R * R ≤ 1024 * 1024 ∧ 0 ≤ R * R := by
      have h1 := Int.mul_le_mul_of_nonneg_left hR.2 (show 0 ≤ R by omega)
      have h2 := Int.mul_le_mul_of_nonneg_right hR.2 (show (0 : Int) ≤ 1024 by omega)
      have h3 := Int.mul_nonneg (show 0 ≤ R by omega) (show 0 ≤ R by omega)
      omega
    refine ⟨_, rfl, p, _, _, _, rfl, rfl, .inl (.inl hp), p2, m, _, rfl, .inl (.inl hm), rfl, _, _, rfl, _, _, rfl, rfl, ?_⟩
    refine ⟨_, rfl, _, rfl, _, _, rfl, rfl, .inr ⟨by omega, by omega⟩, _, rfl, _, _, rfl, rfl, .inr ⟨by omega, by omega⟩, ?_⟩
    refine ⟨_, rfl, _, rfl, _, _, rfl, rfl, .inl ⟨by omega, by omega⟩, _, rfl, _, _, rfl, rfl, .inl ⟨by omega, by omega⟩, ?_⟩
    exact ⟨_, _, rfl, rfl, k⟩
theorem ok_without {f : Addr} {fd : FuncData} (F : Fun K "without" "without" s_without f fd) (T : Txt K mg A) : FnOk P w K mg base CX0 1 f fd ["some", "place"] (sp_without K A) := by
  refine F.ok sc_without (fun vs H Q E h => ?_) (fun cdv _ outer s H vs Q E hr h => ?_)
  · obtain ⟨p, xs, i, rfl, _⟩ := h
    rfl
  · obtain ⟨p, xs, i, rfl, hp, hi, hlen, k⟩ := h
    refine ⟨_, (pss_one (ps_ret (pe_op op_cat (pe_slice sl_list (pv 0) po_none (po_some (pv 1))) (pe_slice sl_list (pv 0) (po_some (pe_op op_add (pv 1) (pe_int))) po_none)))), ?_⟩
    refine ⟨_, rfl, _, rfl, _, rfl, p, _, rfl, SqL.of hp, fun a ha => ?_⟩
    have s1 : Same H (upd H a (.lst (cutV xs none (some (i : Int))))) := Same.upd_new ha
    refine ⟨_, rfl, _, rfl, _, _, rfl, rfl, _, rfl, p, _, rfl, SqL.of (s1 _ _ hp), fun b hb => ?_⟩
    have s2 := Same.upd_new (o := HO.lst (cutV xs (some ((i : Int) + 1)) none)) hb
    refine ⟨a, b, _, _, rfl, rfl, s2 _ _ upd_same, upd_same, ?_, fun c hc => ?_⟩
    · rw [cut_to xs (by omega), show (i : Int) + 1 = ((i + 1 : Nat) : Int) by omega, cut_from xs (by omega), List.length_take, List.length_drop]
      exact small (by omega)
    · refine k c _ ((s1.trans s2).trans (Same.upd_new hc)) ((s1.trans s2).free hc) ?_
      rw [upd_same, cut_to xs (by omega), show (i : Int) + 1 = ((i + 1 : Nat) : Int) by omega, cut_from xs (by omega), List.eraseIdx_eq_take_drop_succ]
end
end Jb
end
section
set_option Elab.async false
set_option linter.all false
set_option maxRecDepth 100000
set_option maxHeartbeats 2000000
namespace Jb
open PySem PySem.Spec PyProof.Rows L2
open Sj24 (House Jet)
/-! ### best pairs, beginnings, orders, all jets -/
def pairsI (n i : Nat) : List (Nat × Nat) := (List.range i).flatMap fun i => (List.range (n - (i + 1))).map fun k => (i, i + 1 + k)
theorem pairsI_all (n : Nat) : pairsI n n = pairsL n := rfl
theorem pairsI_succ (n i : Nat) : pairsI n (i + 1) = pairsI n i ++ (List.range (n - (i + 1))).map fun k => (i, i + 1 + k) := by
  unfold pairsI
  rw [List.range_succ, List.flatMap_append]
  simp
theorem fold_snoc (js : List Jet) (l : List (Nat × Nat)) (p : Nat × Nat) (o : Option (Nat × Nat)) : (l ++ [p]).foldl (stepP js) o = stepP js (l.foldl (stepP js) o) p := by
  rw [List.foldl_append]
  rfl
/-- the key of a tuple of two whole numbers at an address -/
def keyAt (H : Hp) (v : V) : Int × Int := match v with
  | .ref t => match H t with
    | some (.tup [.int a, .int b]) => (a, b)
    | _ => (0, 0)
  | _ => (0, 0)
theorem keyAt_of {H : Hp} {t : Addr} {a b : Int} (h : H t = some (.tup [.int a, .int b])) : keyAt H (.ref t) = (a, b) := by
  unfold keyAt
  simp only [h]
section
variable {P : Program} {w : World} {K : PySem.W.Frag} {mg : Str → Option Value} {base : Heap} {A : Ad}
theorem ok_best_pair {f : Addr} {fd : FuncData} (F : Fun K "best_pair" "best_pair" s_best_pair f fd) (T : Txt K mg A) (C_is_less : Cal P w K mg base 1 "is_less" ["one", "other"] (sp_is_less K A)) (C_pair_measure : Cal P w K mg base 3 "pair_measure" ["one", "other"] (sp_pair_measure K A)) : FnOk P w K mg base CX0 4 f fd ["some"] (sp_best_pair K A) := by
  refine F.ok sc_best_pair (fun vs H Q E h => ?_) (fun cdv _ outer s H vs Q E hr h => ?_)
  · obtain ⟨p, as, js, rfl, _⟩ := h
    rfl
  · obtain ⟨p, as, js, rfl, hp, hR, hJ, hlen, k⟩ := h
    refine ⟨_, (pss_cons (ps_set (i := 1) sc_best_pair.nd rfl (Or.inl rfl) (pe_non))
      (pss_cons (ps_for PassesOwn.never rfl (pi_range1 (by rfl) T.b_range (pa_cons (pe_callB call_len_seq (by rfl) T.b_len PySem.boot_len (pa_cons (pv 0) pa_nil)) pa_nil)) (pg_name (i := 2) sc_best_pair.nd rfl (Or.inl rfl)) (pss_one (ps_for PassesOwn.never rfl (pi_range2 (by rfl) T.b_range (pa_cons (pe_op op_add (pv 2) (pe_int)) (pa_cons (pe_callB call_len_seq (by rfl) T.b_len PySem.boot_len (pa_cons (pv 0) pa_nil)) pa_nil))) (pg_name (i := 3) sc_best_pair.nd rfl (Or.inl rfl)) (pss_cons (ps_set (i := 4) sc_best_pair.nd rfl (Or.inl rfl) (pe_cal C_pair_measure (hr.mono (by decide)) (by rfl) (pa_cons (pe_ixL (K := K) (pv 0) (pv 2) (fun _ _ => rfl)) (pa_cons (pe_ixL (K := K) (pv 0) (pv 3) (fun _ _ => rfl)) pa_nil))))
      (pss_one (ps_if (PW.pt (pw_or (pt_cmpR op_isN (pv 1) pe_non (nomark _)) (pw_or1 (pt_val (pe_cal C_is_less (hr.mono (by decide)) (by rfl) (pa_cons (pv 4) (pa_cons (pe_ixT (K := K) (pv 1) (pe_int) (fun _ _ => rfl)) pa_nil))))))) (pss_one (ps_set (i := 1) sc_best_pair.nd rfl (Or.inl rfl) (pe_tup (pa_cons (pv 2) (pa_cons (pv 3) (pa_cons (pv 4) pa_nil)))))) pss_nil))))))
      (pss_one (ps_ret (pv 1))))), ?_⟩
    have hl : (as.map V.ref).length = js.length := by rw [List.length_map, hR.len]
    refine ⟨_, rfl, p, _, rfl, .inl (SqL.of hp), ((as.map V.ref).length : Int), rfl, by omega, by omega, ?_⟩
    refine for_range0 (n := (((as.map V.ref).length : Nat) : Int).toNat) (fun i σ H' => ∃ (v v2 v3 v4 : Option V) (b : V), σ = [some (.ref p), some b, v2, v3, v4] ∧ Same H H' ∧ BestAt js H' b ((pairsI js.length i).foldl (stepP js) none))
      ⟨none, none, none, none, .non, rfl, Same.refl _, rfl⟩ ?_ ?_
    · rintro i σ H1 hi ⟨v, v2, v3, v4, b, rfl, s1, hb⟩
      have hi' : i < js.length := by omega
      have hz : ((as.map V.ref).length : Int) = (js.length : Int) := by omega
      refine ⟨_, rfl, _, _, rfl, rfl, _, rfl, p, _, rfl, .inl (SqL.of (s1 _ _ hp)), _, _, rfl, ⟨by omega, by omega, by omega, by omega⟩, ?_⟩
      refine for_rangeN (lo := i + 1) (n := (((as.map V.ref).length : Int) - ((i : Int) + 1)).toNat) (by omega) (fun m σ H' => ∃ (v3 v4 : Option V) (b : V), σ = [some (.ref p), some b, some (.int (i : Int)), v3, v4] ∧ Same H H' ∧
          BestAt js H' b ((pairsI js.length i ++ (List.range m).map fun k => (i, i + 1 + k)).foldl (stepP js) none))
        ⟨v3, v4, b, rfl, s1, by rw [List.range_zero, List.map_nil, List.append_nil]; exact hb⟩ ?_ ?_
      · rintro m σ H2 hm ⟨v3, v4, b, rfl, s2, hb⟩
        have hj' : i + 1 + m < js.length := by omega
        obtain ⟨a, ea⟩ : ∃ a, js[i]? = some a := ⟨_, List.getElem?_eq_getElem hi'⟩
        obtain ⟨c, ec⟩ : ∃ c, js[i + 1 + m]? = some c := ⟨_, List.getElem?_eq_getElem hj'⟩
        obtain ⟨x, hx, hxa⟩ := hR.item ea
        obtain ⟨y, hy, hyc⟩ := hR.item ec
        have ma := List.mem_of_getElem? ea
        have mc := List.mem_of_getElem? ec
        refine ⟨_, rfl, _, rfl, p, _, _, _, rfl, rfl, SqL.of (s2 _ _ hp), ref_at hx, _, rfl, _, rfl, p, _, _, _, rfl, rfl, SqL.of (s2 _ _ hp), ref_at hy, ?_⟩
        refine ⟨x, y, a, c, rfl, hxa.mono s2, hyc.mono s2, hJ.ok a ma, hJ.ok c mc, hJ.most ma, hJ.most mc, fun t H3 s3 ht e3 => ?_⟩
        have em : meas js (i, i + 1 + m) = (Sj24.apart a c, Sj24.most a c * Sj24.most a c) := by
          unfold meas
          rw [getD_at ea, getD_at ec]
        have e3' : H3 t = some (.tup [.int (meas js (i, i + 1 + m)).1, .int (meas js (i, i + 1 + m)).2]) := by rw [em]; exact e3
        have bnd : ∀ q : Nat × Nat, q.1 < js.length → q.2 < js.length → 0 ≤ (meas js q).1 ∧ (meas js q).1 < 2 ^ 60 := fun q h1 h2 => by
          unfold meas
          rw [getD_at (List.getElem?_eq_getElem h1), getD_at (List.getElem?_eq_getElem h2)]
          exact apart_bound (hJ.ok _ (List.getElem_mem h1)) (hJ.ok _ (List.getElem_mem h2))
        have grow : ∀ (H' : Hp) (b' : V) (o : Option (Nat × Nat)), Same H3 H' → stepP js ((pairsI js.length i ++ (List.range m).map fun k => (i, i + 1 + k)).foldl (stepP js) none) (i, i + 1 + m) = o → BestAt js H' b' o →
            BestAt js H' b' ((pairsI js.length i ++ (List.range (m + 1)).map fun k => (i, i + 1 + k)).foldl (stepP js) none) := fun H' b' o _ e q => by
          rw [List.range_succ, List.map_append, ← List.append_assoc]
          show BestAt js H' b' (((pairsI js.length i ++ (List.range m).map fun k => (i, i + 1 + k)) ++ [(i, i + 1 + m)]).foldl (stepP js) none)
          rw [fold_snoc, e]
          exact q
        have put : ∀ t', H3 t' = none → BestAt js (upd H3 t' (.tup [.int (i : Int), .int ((i + 1 + m : Nat) : Int), .ref t])) (.ref t') (some (i, i + 1 + m)) := fun t' ht' =>
          ⟨t', t, rfl, upd_same, by rw [upd_ne (ne_of_none e3' ht')]; exact e3'⟩
        refine ⟨_, rfl, rfl, _, rfl, ?_⟩
        cases eo : (pairsI js.length i ++ (List.range m).map fun k => (i, i + 1 + k)).foldl (stepP js) none with
        | none =>
          rw [eo] at hb
          have eb : b = .non := hb
          subst eb
          refine ite_t rfl (ite_t rfl ?_)
          refine ⟨_, rfl, _, rfl, _, rfl, (by show 3 ≤ sizeLine; decide), fun t' ht' => ?_⟩
          exact ⟨_, _, _, rfl, (s2.trans s3).trans (Same.upd_new ht'), grow _ _ (some (i, i + 1 + m)) (Same.upd_new ht') (by rw [eo]; rfl) (put t' ht')⟩
        | some q =>
          rw [eo] at hb
          obtain ⟨p', m', eb, h1, h2⟩ := hb
          subst eb
          have hq : q.1 < js.length ∧ q.2 < js.length := by
            have hall : ∀ y ∈ (pairsI js.length i ++ (List.range m).map fun k => (i, i + 1 + k)), 0 < (meas js y).2 ∧ y.1 < js.length ∧ y.2 < js.length := fun y hy => by
              have my : y ∈ pairsL js.length := by
                rcases List.mem_append.mp hy with hy | hy
                · unfold pairsI at hy
                  obtain ⟨i', hi', hy⟩ := List.mem_flatMap.mp hy
                  have := List.mem_range.mp hi'
                  obtain ⟨k', hk', rfl⟩ := List.mem_map.mp hy
                  have := List.mem_range.mp hk'
                  exact mem_pairsL.mpr ⟨by simp only; omega, by simp only; omega⟩
                · obtain ⟨k', hk', rfl⟩ := List.mem_map.mp hy
                  have := List.mem_range.mp hk'
                  exact mem_pairsL.mpr ⟨by simp only; omega, by simp only; omega⟩
              have := mem_pairsL.mp my
              exact ⟨meas_pos hJ my, by omega, this.2⟩
            rcases fold_none (js := js) _ (fun y hy => (hall y hy).1) with ⟨_, z⟩ | ⟨b', z, pre, post, e, _⟩
            · rw [eo] at z; cases z
            · rw [eo] at z
              cases z
              exact (hall q (by rw [e]; simp)).2
          refine ite_f rfl ?_
          have q2 : atI ([.int (q.1 : Int), .int (q.2 : Int), .ref m'] : List V) ((2 : Nat) : Int) = some (.ref m') := atI_nat rfl
          refine ⟨_, rfl, _, rfl, p', _, _, _, rfl, rfl, .inl (.inl (s3 _ _ h1)), q2, t, m', meas js (i, i + 1 + m), meas js q, rfl, e3', s3 _ _ h2, bnd _ hi' hj', bnd _ hq.1 hq.2, _, rfl, ite_b (fun cc => ?_) (fun cc => ?_)⟩
          · refine ⟨_, rfl, _, rfl, _, rfl, (by show 3 ≤ sizeLine; decide), fun t' ht' => ?_⟩
            refine ⟨_, _, _, rfl, (s2.trans s3).trans (Same.upd_new ht'), grow _ _ (some (i, i + 1 + m)) (Same.upd_new ht') ?_ (put t' ht')⟩
            rw [eo]
            exact if_pos cc
          · refine ⟨_, _, _, rfl, s2.trans s3, grow _ _ (some q) (Same.refl _) ?_ ⟨p', m', rfl, s3 _ _ h1, s3 _ _ h2⟩⟩
            rw [eo]
            exact if_neg (by rw [cc]; exact Bool.false_ne_true)
      · rintro σ H2 ⟨v3, v4, b, rfl, s2, hb⟩
        refine ⟨none, _, _, _, b, rfl, s2, ?_⟩
        rw [pairsI_succ]
        have e : (((as.map V.ref).length : Int) - ((i : Int) + 1)).toNat = js.length - (i + 1) := by omega
        rw [e] at hb
        exact hb
    · rintro σ H1 ⟨v, v2, v3, v4, b, rfl, s1, hb⟩
      have e : (((as.map V.ref).length : Nat) : Int).toNat = js.length := by omega
      rw [e] at hb
      exact ⟨_, rfl, k H1 b s1 hb⟩
theorem ok_beginning {f : Addr} {fd : FuncData} (F : Fun K "beginning" "beginning" s_beginning f fd) (T : Txt K mg A) (C_Pseudojet___init__ : CalC P w K mg base 1 "Pseudojet" A.CPseudojet ["self", "energy", "column", "row", "clusters"] (sp_Pseudojet___init__ K A)) : FnOk P w K mg base CX0 3 f fd ["clusters"] (sp_beginning K A) := by
  refine F.ok sc_beginning (fun vs H Q E h => ?_) (fun cdv _ outer s H vs Q E hr h => ?_)
  · obtain ⟨p, cs, rfl, _⟩ := h
    rfl
  · obtain ⟨p, cs, rfl, ⟨as, hp, hR⟩, hlen, k⟩ := h
    refine ⟨_, (pss_one (ps_ret (pe_lc (own := [("number", 1), ("one", 2)]) (tt := tYes) rfl sc_beginning.nd (pi_enum (by rfl) T.b_enumerate (pa_cons (pv 0) pa_nil)) (blkOk_by (own := [("number", 1), ("one", 2)]) (N := n_beginning) (sc := defScope s_beginning) (by decide +kernel)) (fun _ _ _ _ _ => (pg_tupK (K := K) (n := 2) rfl (pgs_cons (pg_name (i := 1) sc_beginning.nd rfl (Or.inl rfl)) (pgs_cons (pg_name (i := 2) sc_beginning.nd rfl (Or.inl rfl)) pgs_nil)))) (fun _ _ _ _ _ => pts_nil) (fun _ _ _ _ _ => pe_mk C_Pseudojet___init__ (hr.mono (by decide)) (by rfl) (pa_cons (pe_fldK (K := K) (pv 2) rfl) (pa_cons (pe_fldK (K := K) (pv 2) rfl) (pa_cons (pe_fldK (K := K) (pv 2) rfl) (pa_cons (pe_lst (pa_cons (pv 1) pa_nil)) pa_nil)))))))), ?_⟩
    have n := T.k_Cluster.na
    have cl := T.k_Cluster.cl
    refine ⟨_, rfl, p, _, rfl, SqL.of hp, fun D hD => ?_⟩
    refine lc_it (walk_enum (K := K) (a := p) (xs := as.map V.ref)) (fun i H' => ∃ bs : List Addr, Same H H' ∧ H' D = some (.lst (bs.map V.ref)) ∧ Rep (JetAt A (del [D] (minus H' H))) bs ((begJ cs).take i))
      ⟨[], Same.upd_new hD, upd_same, Rep.nil⟩ (fun i H' _ ⟨_, s, _⟩ => SqL.of (s _ _ hp)) ?_ ?_
    · rintro i x H1 H1' hi ⟨bs, s1, hD1, R1⟩ ⟨T', v1, v2, rfl, hT, rfl, e1, e2⟩
      have e1 : V.int (i : Int) = v1 := Option.some.inj e1
      subst e1
      obtain ⟨a, ha, rfl⟩ := map_some e2
      obtain ⟨c, hc, dx, pa, e3, e4⟩ := hR.at_ i a ha
      have s2 : Same H1 (upd H1 T' (.tup [V.int (i : Int), V.ref a])) := Same.upd_new hT
      have ea := s2 _ _ (s1 _ _ e3)
      refine ⟨T', _, rfl, .inl (.inl upd_same), rfl, _, _, rfl, _, _, rfl, rfl, rfl, ?_⟩
      refine ⟨_, rfl, a, _, dx, _, _, rfl, ea, cl, n _ (by simp), lk_Cluster_energy, _, rfl, a, _, dx, _, _, rfl, ea, cl, n _ (by simp), lk_Cluster_column, _, rfl, a, _, dx, _, _, rfl, ea, cl, n _ (by simp), lk_Cluster_row, ?_⟩
      refine ⟨_, rfl, (by show 1 ≤ sizeLine; decide), fun m hm => ?_⟩
      intro z dz nz nd ne
      refine ⟨z, dz, _, _, _, _, rfl, upd_same, fun H3 k3a k3 => ⟨rfl, ?_⟩⟩
      have s3 := Same.upd_new (o := HO.lst [V.int (i : Int)]) hm
      have s4 : Same _ H3 := Same.made nz nd k3
      have s5 : Same H1 H3 := (s2.trans s3).trans s4
      have hDs : H D = none := hD
      have hD3 := s5 _ _ hD1
      have zD : z ≠ D := fun q => by
        rw [q] at nz
        rw [s3 _ _ (s2 _ _ hD1)] at nz
        cases nz
      have mD : m ≠ D := fun q => by
        rw [q] at hm
        rw [s2 _ _ hD1] at hm
        cases hm
      have hz : H z = none := s1.free ((s2.trans s3).free nz)
      have hm0 : H m = none := s1.free (s2.free hm)
      have hbl : bs.length ≤ 1024 := by
        rw [R1.len, List.length_take, begJ_len]
        omega
      refine ⟨_, hD3, small' (by rw [List.length_map]; omega), bs ++ [z], Same.upd_keep (s1.trans s5) hD, by rw [upd_same, List.map_append]; rfl, ?_⟩
      rw [take_snoc (begJ_at hc), minus_upd hDs, del_upd (by simp)]
      refine Rep.push (R1.mono fun b j q => q.mono ?_) ⟨dz, m, ?_, ?_⟩
      · exact del_mono (fun b o e _ => minus_mono s5 _ _ e) fun b hb hb' => absurd hb hb'
      · rw [del_at (by simpa using zD), minus_at hz, k3a]
        rfl
      · rw [del_at (by simpa using mD), minus_at hm0, s4 _ _ upd_same]
        rfl
    · rintro H1 ⟨bs, s1, hD1, R1⟩
      have hl : (as.map V.ref).length = (begJ cs).length := by rw [List.length_map, hR.len, begJ_len]
      rw [hl, List.take_length] at R1
      exact k D H1 bs s1 hD hD1 R1
theorem ok_ordered {f : Addr} {fd : FuncData} (F : Fun K "ordered" "ordered" s_ordered f fd) (T : Txt K mg A) : FnOk P w K mg base CX0 1 f fd ["jets"] (sp_ordered K A) := by
  refine F.ok sc_ordered (fun vs H Q E h => ?_) (fun cdv _ outer s H vs Q E hr h => ?_)
  · obtain ⟨p, as, js, rfl, _⟩ := h
    rfl
  · obtain ⟨p, as, js, rfl, hp, hR, hlen, k⟩ := h
    refine ⟨_, (pss_cons (ps_set (i := 1) sc_ordered.nd rfl (Or.inl rfl) (pe_callB cr_sortedPO (by rfl) T.b_sorted (by decide +kernel) (pa_cons (pe_lc (own := [("place", 2), ("one", 3)]) (tt := tYes) rfl sc_ordered.nd (pi_enum (by rfl) T.b_enumerate (pa_cons (pv 0) pa_nil)) (blkOk_by (own := [("place", 2), ("one", 3)]) (N := n_ordered) (sc := defScope s_ordered) (by decide +kernel)) (fun _ _ _ _ _ => (pg_tupK (K := K) (n := 2) rfl (pgs_cons (pg_name (i := 2) sc_ordered.nd rfl (Or.inl rfl)) (pgs_cons (pg_name (i := 3) sc_ordered.nd rfl (Or.inl rfl)) pgs_nil)))) (fun _ _ _ _ _ => pts_nil) (fun _ _ _ _ _ => pe_tup (pa_cons (pe_op op_sub (pe_int) (pe_fldK (K := K) (pv 3) rfl)) (pa_cons (pv 2) pa_nil)))) pa_nil)))
      (pss_one (ps_ret (pe_lc (own := [("energy", 4), ("place", 2)]) (tt := tYes) rfl sc_ordered.nd (pi_list (pv 1)) (blkOk_by (own := [("energy", 4), ("place", 2)]) (N := n_ordered) (sc := defScope s_ordered) (by decide +kernel)) (fun _ _ _ _ _ => (pg_tupK (K := K) (n := 2) rfl (pgs_cons (pg_name (i := 4) sc_ordered.nd rfl (Or.inl rfl)) (pgs_cons (pg_name (i := 2) sc_ordered.nd rfl (Or.inl rfl)) pgs_nil)))) (fun _ _ _ _ _ => pts_nil) (fun _ _ _ _ _ => pe_ixL (K := K) (pv 0) (pv 2) (fun _ _ => rfl)))))), ?_⟩
    have n := T.k_Pseudojet.na
    have cl := T.k_Pseudojet.cl
    refine ⟨_, rfl, p, _, rfl, SqL.of hp, fun D hD => ?_⟩
    refine lc_it (walk_enum (K := K) (a := p) (xs := as.map V.ref)) (fun i H' => ∃ ts : List Addr, Same H H' ∧ H' D = some (.lst (ts.map V.ref)) ∧ Rep (fun t (x : Jet × Nat) => H' t = some (.tup [.int (keyJ x).1, .int (keyJ x).2])) ts (js.zipIdx.take i))
      ⟨[], Same.upd_new hD, upd_same, Rep.nil⟩ (fun i H' _ ⟨_, s, _⟩ => SqL.of (s _ _ hp)) ?_ ?_
    · rintro i x H1 H1' hi ⟨ts, s1, hD1, R1⟩ ⟨T', v1, v2, rfl, hT, rfl, e1, e2⟩
      have e1 : V.int (i : Int) = v1 := Option.some.inj e1
      subst e1
      obtain ⟨a, ha, rfl⟩ := map_some e2
      obtain ⟨j, hj, dx, ma, e3, e4⟩ := hR.at_ i a ha
      have s2 : Same H1 (upd H1 T' (.tup [V.int (i : Int), V.ref a])) := Same.upd_new hT
      have ea := s2 _ _ (s1 _ _ e3)
      refine ⟨T', _, rfl, .inl (.inl upd_same), rfl, _, _, rfl, _, _, rfl, rfl, rfl, ?_⟩
      refine ⟨_, rfl, a, _, dx, _, _, rfl, ea, cl, n _ (by simp), lk_Pseudojet_energy, _, _, rfl, rfl, _, rfl, (by show 2 ≤ sizeLine; decide), fun t ht => ?_⟩
      have s3 := Same.upd_new (o := HO.tup [V.int (0 - j.e), V.int (i : Int)]) ht
      have s4 := s2.trans s3
      have hD2 := s4 _ _ hD1
      have htl : ts.length ≤ 1024 := by
        rw [R1.len, List.length_take, List.length_zipIdx]
        omega
      have hz : js.zipIdx[i]? = some (j, i) := by
        rw [List.getElem?_zipIdx, hj]
        simp
      refine ⟨_, hD2, small' (by rw [List.length_map]; omega), ts ++ [t], Same.upd_keep (s1.trans s4) hD, by rw [upd_same, List.map_append]; rfl, ?_⟩
      rw [take_snoc hz]
      refine Rep.push (R1.mono fun t' x' q => ?_) ?_
      · rw [upd_ne (ne_of q hD1 (by intro z; cases z))]
        exact s4 _ _ q
      · rw [upd_ne (ne_of_none hD1 (s2.free ht)).symm, upd_same]
        rfl
    · rintro H1 ⟨ts, s1, hD1, R1⟩
      have hl : (as.map V.ref).length = js.zipIdx.length := by rw [List.length_map, hR.len, List.length_zipIdx]
      rw [hl, List.take_length] at R1
      refine ⟨D, _, keyAt H1, rfl, SqL.of hD1, fun x hx => ?_, fun ys q hs hst hq => ?_⟩
      · obtain ⟨t, ht, rfl⟩ := List.mem_map.mp hx
        obtain ⟨i, hi⟩ := List.mem_iff_getElem?.mp ht
        obtain ⟨x, _, e⟩ := R1.at_ i t hi
        exact ⟨t, rfl, by rw [keyAt_of e]; exact e⟩
      · have hmap : (ts.map V.ref).map (keyAt H1) = js.zipIdx.map keyJ := by
          refine List.ext_getElem? fun i => ?_
          rw [List.getElem?_map, List.getElem?_map, List.getElem?_map]
          cases e : ts[i]? with
          | none =>
            have : js.zipIdx[i]? = none := List.getElem?_eq_none (by rw [← R1.len]; exact List.getElem?_eq_none_iff.mp e)
            rw [this]
            rfl
          | some t =>
            obtain ⟨x, hx, e2⟩ := R1.at_ i t e
            rw [hx]
            show some (keyAt H1 (V.ref t)) = some (keyJ x)
            rw [keyAt_of e2]
        have hkeys : ys.map (keyAt H1) = (ordI js.zipIdx).map keyJ := by
          refine keys_uniq (by rw [← hmap]; exact hst.perm.map _) ?_
          rw [List.pairwise_map]
          refine hs.imp fun {a b} hab => ?_
          have := SrtO.lexB_no.mp hab
          omega
        have s2 : Same H1 (upd H1 q (.lst ys)) := Same.upd_new hq
        have hyl : ys.length = (ordI js.zipIdx).length := by
          have := congrArg List.length hkeys
          rw [List.length_map, List.length_map] at this
          exact this
        refine ⟨_, rfl, q, rfl, ⟨_, SqL.of upd_same⟩, fun E' hE => ?_⟩
        refine lc_list (K := K) (a := q) (xs := ys) (fun i H' => ∃ bs : List Addr, Same H H' ∧ H' q = some (.lst ys) ∧ Same H1 H' ∧ H' E' = some (.lst (bs.map V.ref)) ∧ bs.length = i ∧ ∀ (m : Nat) b, bs[m]? = some b → ∃ x, (ordI js.zipIdx)[m]? = some x ∧ as[x.2]? = some b)
          ⟨[], (s1.trans s2).trans (Same.upd_new hE), (Same.upd_new hE) _ _ upd_same, s2.trans (Same.upd_new hE), upd_same, rfl, fun m b hm => by simp at hm⟩ (fun i H' _ ⟨_, _, h1, _⟩ => SqL.of h1) ?_ ?_
        · rintro i y H3 hy ⟨bs, s3, hq3, s13, hE3, hbl, hbs⟩
          have hil : i < ys.length := (List.getElem?_eq_some_iff.mp hy).1
          obtain ⟨x, hx⟩ : ∃ x, (ordI js.zipIdx)[i]? = some x := ⟨_, List.getElem?_eq_getElem (by omega)⟩
          have hyx : keyAt H1 y = keyJ x := by
            have e := congrArg (fun l => l[i]?) hkeys
            simp only [List.getElem?_map, hy, hx, Option.map_some] at e
            exact Option.some.inj e
          have my := hst.perm.mem_iff.mp (List.mem_of_getElem? hy)
          obtain ⟨t, ht, rfl⟩ := List.mem_map.mp my
          obtain ⟨i', hi'⟩ := List.mem_iff_getElem?.mp ht
          obtain ⟨x', _, e⟩ := R1.at_ i' t hi'
          rw [keyAt_of e] at hyx
          have e' : H1 t = some (.tup [.int (keyJ x).1, .int (keyJ x).2]) := by
            rw [e]
            have h1 := congrArg Prod.fst hyx
            have h2 := congrArg Prod.snd hyx
            simp only at h1 h2
            rw [h1, h2]
          have hjx := (ordered_at hx).2
          obtain ⟨b, hb, _⟩ := hR.item hjx
          refine ⟨t, _, rfl, .inl (.inl (s13 _ _ e')), rfl, _, _, rfl, _, _, rfl, rfl, rfl, ?_⟩
          refine ⟨_, rfl, _, rfl, p, _, _, _, rfl, rfl, SqL.of (s3 _ _ hp), ref_at hb, ?_⟩
          have hEs : H E' = none := (s1.trans s2).free hE
          have hE1 : H1 E' = none := s2.free hE
          refine ⟨_, hE3, small' (by rw [List.length_map, hbl]; rw [ordI_len, List.length_zipIdx] at hyl; omega), bs ++ [b], Same.upd_keep s3 hEs, ?_, Same.upd_keep s13 hE1, by rw [upd_same, List.map_append]; rfl, by simp [hbl], fun m c hc => ?_⟩
          · rw [upd_ne (ne_of_none (H := upd H1 q (.lst ys)) upd_same hE)]
            exact hq3
          · rw [List.getElem?_append] at hc
            split at hc
            · exact hbs m c hc
            · rename_i hmb
              have h0 : m - bs.length = 0 := by
                have := (List.getElem?_eq_some_iff.mp hc).1
                simp at this
                omega
              have hm : m = i := by omega
              rw [h0] at hc
              have e : b = c := Option.some.inj hc
              subst e
              rw [hm]
              exact ⟨x, hx, hb⟩
        · rintro H3 ⟨bs, s3, hq3, s13, hE3, hbl, hbs⟩
          refine k E' H3 bs s3 ((s1.trans s2).free hE) hE3 fun R hRR => ⟨?_, fun m b hb => ?_⟩
          · rw [hbl, hyl, ordI_len, List.length_zipIdx, ordered_len]
          · obtain ⟨x, hx, hxb⟩ := hbs m b hb
            have ho := ordered_at hx
            refine ⟨x.1, ho.1, ?_⟩
            obtain ⟨j, hj, hr2⟩ := hRR.at_ x.2 b hxb
            rw [ho.2] at hj
            cases hj
            exact hr2
end
end Jb
end
section
set_option Elab.async false
set_option linter.all false
set_option maxRecDepth 100000
set_option maxHeartbeats 2000000
namespace Jb
open PySem PySem.Spec PyProof.Rows L2
open Sj24 (House Jet)
/-! ### all jets -/
theorem map_erase {α β : Type} (f : α → β) (l : List α) (i : Nat) : (l.map f).eraseIdx i = (l.eraseIdx i).map f := by
  rw [List.eraseIdx_eq_take_drop_succ, List.eraseIdx_eq_take_drop_succ, List.map_append, List.map_take, List.map_drop]
structure JState (A : Ad) (H0 H : Hp) (cs : List Sj24.Cluster) (R : Int) (S J : Addr) (as bs : List Addr) (js dn : List Jet) (t : Nat) : Prop where
  same : Same H0 H
  s0 : H0 S = none
  j0 : H0 J = none
  ne : S ≠ J
  sl : H S = some (.lst (as.map V.ref))
  jl : H J = some (.lst (bs.map V.ref))
  rs : Rep (JetAt A (del [S, J] (minus H H0))) as js
  rj : Rep (JetAt A (del [S, J] (minus H H0))) bs dn
  ok : JsOk js
  len : js.length + t = cs.length
  dlen : dn.length ≤ t
  mem : ∀ j ∈ dn, j.members.length ≤ 1024
  eq : dn ++ Sj24.gather R (2 * cs.length - t) js = Sj24.jetsOf R cs
section
variable {P : Program} {w : World} {K : PySem.W.Frag} {mg : Str → Option Value} {base : Heap} {A : Ad}
theorem ok_jets_of {f : Addr} {fd : FuncData} (F : Fun K "jets_of" "jets_of" s_jets_of f fd) (T : Txt K mg A) (C_beginning : Cal P w K mg base 3 "beginning" ["clusters"] (sp_beginning K A)) (C_best_pair : Cal P w K mg base 4 "best_pair" ["some"] (sp_best_pair K A)) (C_finished_first : Cal P w K mg base 1 "finished_first" ["some"] (sp_finished_first K A)) (C_is_joined_first : Cal P w K mg base 1 "is_joined_first" ["pair", "energy", "reach"] (sp_is_joined_first K A)) (C_joined : Cal P w K mg base 3 "joined" ["one", "other"] (sp_joined K A)) (C_ordered : Cal P w K mg base 1 "ordered" ["jets"] (sp_ordered K A)) (C_without : Cal P w K mg base 1 "without" ["some", "place"] (sp_without K A)) : FnOk P w K mg base CX0 5 f fd ["clusters", "reach"] (sp_jets_of K A) := by
  refine F.ok sc_jets_of (fun vs H Q E h => ?_) (fun cdv _ outer s H vs Q E hr h => ?_)
  · obtain ⟨p, cs, R, rfl, _⟩ := h
    rfl
  · obtain ⟨p, cs, R, rfl, hC, hlen, hok, hR, k⟩ := h
    refine ⟨_, (pss_cons (ps_par (i := 2) (j := 3) (by rfl) sc_jets_of.nd rfl rfl (by decide) rfl rfl (pa_cons (pe_cal C_beginning (hr.mono (by decide)) (by rfl) (pa_cons (pv 0) pa_nil)) (pa_cons (pe_lst pa_nil) pa_nil)) (by rfl))
      (pss_cons (ps_for PassesOwn.never rfl (pi_range1 (by rfl) T.b_range (pa_cons (pe_callB call_len_seq (by rfl) T.b_len PySem.boot_len (pa_cons (pv 0) pa_nil)) pa_nil)) (pg_name (i := 4) sc_jets_of.nd rfl (Or.inl rfl)) (pss_cons (ps_par (i := 5) (j := 6) (by rfl) sc_jets_of.nd rfl rfl (by decide) rfl rfl (pa_cons (pe_cal C_finished_first (hr.mono (by decide)) (by rfl) (pa_cons (pv 2) pa_nil)) (pa_cons (pe_cal C_best_pair (hr.mono (by decide)) (by rfl) (pa_cons (pv 2) pa_nil)) pa_nil)) (by rfl))
      (pss_one (ps_if (PW.pt (pw_and (pt_cmpR op_notN (pv 6) pe_non (nomark _)) (pw_and1 (pt_val (pe_cal C_is_joined_first (hr.mono (by decide)) (by rfl) (pa_cons (pv 6) (pa_cons (pe_fldK (K := K) (pe_ixL (K := K) (pv 2) (pv 5) (fun _ _ => rfl)) rfl) (pa_cons (pv 1) pa_nil)))))))) (pss_cons (ps_asg (pv 6) (pg_tupK (K := K) (n := 3) rfl (pgs_cons (pg_name (i := 7) sc_jets_of.nd rfl (Or.inl rfl)) (pgs_cons (pg_name (i := 8) sc_jets_of.nd rfl (Or.inl rfl)) (pgs_cons (pg_name (i := 9) sc_jets_of.nd rfl (Or.inl rfl)) pgs_nil)))))
      (pss_cons (ps_asg (pe_cal C_joined (hr.mono (by decide)) (by rfl) (pa_cons (pe_ixL (K := K) (pv 2) (pv 7) (fun _ _ => rfl)) (pa_cons (pe_ixL (K := K) (pv 2) (pv 8) (fun _ _ => rfl)) pa_nil))) (pg_sub (pv 2) (pv 7) set_list))
      (pss_one (ps_set (i := 2) sc_jets_of.nd rfl (Or.inl rfl) (pe_cal C_without (hr.mono (by decide)) (by rfl) (pa_cons (pv 2) (pa_cons (pv 8) pa_nil))))))) (pss_cons (ps_expr (pe_bm PySem.F.plainAttrs_list PySem.F.slot_list_append PySem.F.type_list_append mt_append (pv 3) (pa_cons (pe_ixL (K := K) (pv 2) (pv 5) (fun _ _ => rfl)) pa_nil)))
      (pss_one (ps_set (i := 2) sc_jets_of.nd rfl (Or.inl rfl) (pe_cal C_without (hr.mono (by decide)) (by rfl) (pa_cons (pv 2) (pa_cons (pv 5) pa_nil))))))))))
      (pss_one (ps_ret (pe_cal C_ordered (hr.mono (by decide)) (by rfl) (pa_cons (pv 3) pa_nil)))))), ?_⟩
    have n := T.k_Pseudojet.na
    have cl := T.k_Pseudojet.cl
    have hC0 := hC
    obtain ⟨cas, hcp, hcr⟩ := hC0
    refine ⟨_, rfl, p, cs, rfl, hC, hlen, fun S H1 as s1 hS e1 R1 => ?_⟩
    refine ⟨Nat.zero_le _, fun J hJ => ⟨_, _, rfl, ?_⟩⟩
    have sJ : Same H1 (upd H1 J (.lst [])) := Same.upd_new hJ
    have nSJ : S ≠ J := ne_of_none e1 hJ
    have st0 : JState A H (upd H1 J (.lst [])) cs R S J as [] (begJ cs) [] 0 := by
      refine ⟨s1.trans sJ, hS, s1.free hJ, nSJ, sJ _ _ e1, upd_same, R1.mono fun b j q => q.mono ?_, Rep.nil, begJ_ok hok hlen, by rw [begJ_len]; rfl, Nat.le_refl _, by simp, ?_⟩
      · refine del_mono (fun b o e _ => minus_mono sJ _ _ e) fun b hb hb' => ?_
        have e : b = J := by
          simp only [List.mem_cons, List.not_mem_nil, or_false] at hb hb'
          exact hb.resolve_left hb'
        subst e
        rw [minus_at (s1.free hJ)]
        exact hJ
      · rw [List.nil_append, jetsOf_eq]
        rfl
    refine ⟨_, rfl, p, _, rfl, .inl (SqL.of ((s1.trans sJ) _ _ hcp)), ((cas.map V.ref).length : Int), rfl, by rw [List.length_map, hcr.len]; omega, by rw [List.length_map, hcr.len]; omega, ?_⟩
    have hcl : (((cas.map V.ref).length : Nat) : Int).toNat = cs.length := by rw [List.length_map, hcr.len]; omega
    refine for_range0 (n := (((cas.map V.ref).length : Nat) : Int).toNat) (fun t σ H' => ∃ (S J : Addr) (as bs : List Addr) (js dn : List Jet) (v4 v5 v6 v7 v8 v9 : Option V),
        σ = [some (.ref p), some (.int R), some (.ref S), some (.ref J), v4, v5, v6, v7, v8, v9] ∧ JState A H H' cs R S J as bs js dn t)
      ⟨S, J, as, [], _, [], none, none, none, none, none, none, rfl, st0⟩ ?_ ?_
    · rintro t σ H2 ht ⟨S, J, as, bs, js, dn, v4, v5, v6, v7, v8, v9, rfl, st⟩
      have ht' : t < cs.length := by omega
      have hjl : js.length ≤ 1024 := by have := st.len; omega
      have hne : js ≠ [] := by
        intro z
        have := st.len
        rw [z] at this
        simp at this
        omega
      have up : Same (del [S, J] (minus H2 H)) H2 := del_le.trans minus_le
      have f2 : 2 * cs.length - t = (2 * cs.length - (t + 1)) + 1 := by omega
      refine ⟨_, rfl, S, as, js, rfl, st.sl, st.rs.mono (fun b j q => q.mono up), hne, hjl, fun H3 f' x s3 hf => ?_⟩
      refine ⟨_, rfl, S, as, js, rfl, s3 _ _ st.sl, st.rs.mono (fun b j q => q.mono (up.trans s3)), st.ok, hjl, fun H4 v s4 hv => ⟨_, _, rfl, ?_⟩⟩
      have s24 : Same H2 H4 := s3.trans s4
      have fx := hf.1
      have mx := List.mem_of_getElem? fx
      have fl : f' < js.length := (List.getElem?_eq_some_iff.mp fx).1
      obtain ⟨xa, hxa, dxx, mxa, ex1, ex2⟩ := st.rs.item fx
      have sl4 := s24 _ _ st.sl
      have jl4 := s24 _ _ st.jl
      have ex14 := (up.trans s24) _ _ ex1
      have s04 : Same H H4 := st.same.trans s24
      -- what stays in the frozen part, behind a step that writes S or J alone and makes S'
      have keep : ∀ (S' : Addr) (H5 : Hp), (∀ b o, H4 b = some o → b ≠ S → b ≠ J → H5 b = some o) → H4 S' = none → Same (del [S, J] (minus H2 H)) (del [S', J] (minus H5 H)) := by
        intro S' H5 g hS'
        refine del_mono (fun b o e hb => ?_) fun b hb hb' => ?_
        · have hb0 := minus_off e
          rw [minus_at hb0] at e ⊢
          simp only [List.mem_cons, List.not_mem_nil, or_false, not_or] at hb
          exact g _ _ (s24 _ _ e) hb.1 hb.2
        · simp only [List.mem_cons, List.not_mem_nil, or_false, not_or] at hb hb'
          rcases hb with rfl | rfl
          · rw [minus_at (s04.free hS')]
            exact s24.free hS'
          · exact absurd rfl hb'.2
      have fin : (∀ b, bestP js = some b → NoJoin R x.e (meas js b)) → (tSeq (tDrop (tBM K "list" rAppend (tVar 3) (tCons (tOp (rIxL K) (tVar 2) (tVar 5)) tNil))) (tAsg (tCal (sp_without K A) (tCons (tVar 2) (tCons (tVar 5) tNil))) (gName 2)))
          { nx := fun σ H' => ∃ (S J : Addr) (as bs : List Addr) (js dn : List Jet) (v4 v5 v6 v7 v8 v9 : Option V), σ = [some (.ref p), some (.int R), some (.ref S), some (.ref J), v4, v5, v6, v7, v8, v9] ∧ JState A H H' cs R S J as bs js dn (t + 1), rt := Q }
          [some (.ref p), some (.int R), some (.ref S), some (.ref J), some (.int (t : Int)), some (.int (f' : Int)), some v, v7, v8, v9] H4 := by
        intro hno
        have hg := gather_fin (2 * cs.length - (t + 1)) (show 0 < R by omega) st.ok hf hno
        refine ⟨_, rfl, .inl ⟨rfl, _, SqL.of jl4⟩, _, rfl, _, rfl, S, _, _, _, rfl, rfl, SqL.of sl4, ref_at hxa, J, _, _, rfl, rfl, jl4, small' ?_, ?_⟩
        · rw [List.length_map, st.rj.len]
          have := st.dlen
          omega
        · have slJ : upd H4 J (.lst (bs.map V.ref ++ [V.ref xa])) S = some (.lst (as.map V.ref)) := by rw [upd_ne st.ne]; exact sl4
          refine ⟨_, rfl, _, rfl, S, _, f', rfl, slJ, by rw [List.length_map, st.rs.len]; exact fl, by rw [List.length_map, st.rs.len]; exact hjl, fun S' H5 s5 hS' e5 => ?_⟩
          have nSJ' : S' ≠ J := fun z => by
            rw [z, upd_same] at hS'
            cases hS'
          have hS4 : H4 S' = none := by
            rw [upd_ne nSJ'] at hS'
            exact hS'
          have g5 : ∀ b o, H4 b = some o → b ≠ S → b ≠ J → H5 b = some o := fun b o e _ hb => s5 _ _ (by rw [upd_ne hb]; exact e)
          have kp := keep S' H5 g5 hS4
          refine ⟨S', J, as.eraseIdx f', bs ++ [xa], js.eraseIdx f', dn ++ [x], _, _, _, _, _, _, rfl, ?_⟩
          refine ⟨fun b o e => ?_, s04.free hS4, st.j0, nSJ', by rw [e5, map_erase], ?_, (st.rs.mono fun b j q => q.mono kp).erase, Rep.push (st.rj.mono fun b j q => q.mono kp) ((JetAt.mono ⟨dxx, mxa, ex1, ex2⟩ kp)), st.ok.erase fx, ?_, ?_, ?_, ?_⟩
          · refine s5 _ _ ?_
            rw [upd_ne (fun z => by rw [z, st.j0] at e; cases e)]
            exact s04 _ _ e
          · rw [s5 _ _ upd_same, List.map_append]
            rfl
          · rw [List.length_eraseIdx, if_pos fl]
            have := st.len
            omega
          · rw [List.length_append]
            have := st.dlen
            simp
            omega
          · intro j hj
            rcases List.mem_append.mp hj with hj | hj
            · exact st.mem j hj
            · have e : j = x := by simpa using hj
              rw [e]
              exact st.ok.mems mx
          · rw [← st.eq, f2, hg]
            simp
      refine ⟨_, rfl, rfl, _, rfl, ?_⟩
      cases eb : bestP js with
      | none =>
        rw [eb] at hv
        have ev : v = .non := hv
        subst ev
        exact ite_f rfl (ite_f rfl (fin fun b z => by rw [eb] at z; cases z))
      | some b =>
        obtain ⟨bi, bj⟩ := b
        rw [eb] at hv
        obtain ⟨p', m', ev, h1, h2⟩ := hv
        subst ev
        have hbm := bestP_mem st.ok eb
        have hpos := (st.ok.ok x mx).pos
        have hmost := st.ok.most mx
        refine ite_t rfl ?_
        refine ⟨_, rfl, _, rfl, _, rfl, S, _, _, _, rfl, rfl, SqL.of sl4, ref_at hxa, xa, _, dxx, _, _, rfl, ex14, cl, n _ (by simp), lk_Pseudojet_energy, _, rfl, p', m', (bi : Int), (bj : Int), x.e, R, meas js (bi, bj), rfl, h1, h2, ⟨hpos, by omega⟩, hR, _, rfl, ite_b (fun c => ?_) (fun c => ?_)⟩
        · have c := of_decide_eq_true c
          -- joined
          simp only at hbm
          obtain ⟨a, ea⟩ : ∃ a, js[bi]? = some a := ⟨_, List.getElem?_eq_getElem (by omega)⟩
          obtain ⟨b, eb'⟩ : ∃ b, js[bj]? = some b := ⟨_, List.getElem?_eq_getElem hbm.2⟩
          obtain ⟨aa, haa, ja⟩ := st.rs.item ea
          obtain ⟨ba, hba, jb⟩ := st.rs.item eb'
          have hg := gather_join (2 * cs.length - (t + 1)) (show 0 < R by omega) st.ok hf eb (Classical.not_not.mpr c) ea eb'
          refine ⟨_, rfl, p', _, rfl, .inl (.inl h1), rfl, _, _, rfl, _, _, rfl, _, _, rfl, rfl, ?_⟩
          refine ⟨_, rfl, _, rfl, S, _, _, _, rfl, rfl, SqL.of sl4, ref_at haa, _, rfl, _, rfl, S, _, _, _, rfl, rfl, SqL.of sl4, ref_at hba, ?_⟩
          refine ⟨aa, ba, a, b, rfl, ja.mono (up.trans s24), jb.mono (up.trans s24), st.ok.mems (List.mem_of_getElem? ea), st.ok.mems (List.mem_of_getElem? eb'), fun z H5 s5 hz jz => ?_⟩
          have sl5 := s5 _ _ sl4
          have hix : ixN (as.map V.ref).length (bi : Int) = some bi := by
            unfold ixN
            rw [List.length_map, st.rs.len, if_pos (by omega), if_pos (by omega)]
            simp
          refine ⟨_, rfl, _, rfl, S, _, _, bi, rfl, rfl, sl5, hix, ?_⟩
          have eset : (as.map V.ref).set bi (V.ref z) = (as.set bi z).map V.ref := List.map_set.symm
          refine ⟨_, rfl, _, rfl, S, _, bj, rfl, upd_same, by rw [List.length_set, List.length_map, st.rs.len]; exact hbm.2, by rw [List.length_set, List.length_map, st.rs.len]; exact hjl, fun S' H6 s6 hS' e6 => ?_⟩
          have nS'S : S' ≠ S := fun q => by
            rw [q, upd_same] at hS'
            cases hS'
          have hS5 : H5 S' = none := by
            rw [upd_ne nS'S] at hS'
            exact hS'
          have hS4 : H4 S' = none := s5.free hS5
          have nS'J : S' ≠ J := fun q => by
            rw [q, jl4] at hS4
            cases hS4
          have g6 : ∀ b o, H4 b = some o → b ≠ S → b ≠ J → H6 b = some o := fun b o e hb _ => s6 _ _ (by rw [upd_ne hb]; exact s5 _ _ e)
          have kp := keep S' H6 g6 hS4
          have kz : Same (minus H5 H4) (del [S', J] (minus H6 H)) := fun b o e => by
            have hb4 := minus_off e
            rw [minus_at hb4] at e
            have nbS : b ≠ S := fun q => by rw [q, sl4] at hb4; cases hb4
            have nbJ : b ≠ J := fun q => by rw [q, jl4] at hb4; cases hb4
            have nbS' : b ≠ S' := fun q => by rw [q, hS5] at e; cases e
            rw [del_at (by simp [nbS', nbJ]), minus_at (s04.free hb4)]
            exact s6 _ _ (by rw [upd_ne nbS]; exact e)
          refine ⟨S', J, (as.set bi z).eraseIdx bj, bs, (js.set bi (Sj24.joined a b)).eraseIdx bj, dn, _, _, _, _, _, _, rfl, ?_⟩
          refine ⟨fun b o e => ?_, s04.free hS4, st.j0, nS'J, by rw [e6, eset, map_erase], ?_, (Rep.set (st.rs.mono fun b j q => q.mono kp) (jz.mono kz)).erase, st.rj.mono fun b j q => q.mono kp, st.ok.join hbm.1 ea eb', ?_, ?_, st.mem, ?_⟩
          · refine s6 _ _ ?_
            rw [upd_ne (fun q => by rw [q, st.s0] at e; cases e)]
            exact s5 _ _ (s04 _ _ e)
          · refine s6 _ _ ?_
            rw [upd_ne st.ne.symm]
            exact s5 _ _ jl4
          · rw [List.length_eraseIdx, List.length_set, if_pos hbm.2]
            have := st.len
            omega
          · have := st.dlen
            omega
          · rw [← st.eq, f2, hg]
        · have c := of_decide_eq_false c
          exact fin fun b z => by
            rw [eb] at z
            cases z
            exact c
    · rintro σ H2 ⟨S, J, as, bs, js, dn, v4, v5, v6, v7, v8, v9, rfl, st⟩
      have up : Same (del [S, J] (minus H2 H)) H2 := del_le.trans minus_le
      have hj0 : js = [] := by
        have := st.len
        rw [hcl] at this
        exact List.length_eq_zero_iff.mp (by omega)
      have hdn : dn = Sj24.jetsOf R cs := by
        have := st.eq
        rw [hj0, gather_nil, List.append_nil] at this
        exact this
      have hdl : dn.length ≤ 1024 := by
        have := st.dlen
        omega
      refine ⟨_, rfl, J, bs, dn, rfl, st.jl, st.rj.mono (fun b j q => q.mono up), hdl, fun q H3 cs' s3 hq e3 hrep => ?_⟩
      refine k q H3 (st.same.trans s3) (st.same.free hq) ⟨cs', ?_, ?_⟩ fun j hj => ?_
      · rw [minus_at (st.same.free hq)]
        exact e3
      · rw [← hdn]
        refine (hrep _ st.rj).mono fun b j q => q.mono ?_
        exact del_le.trans (minus_mono s3)
      · rw [← hdn] at hj
        exact st.mem j (ordered_mem hj)
end
end Jb
end
section
set_option Elab.async false
set_option linter.all false
set_option maxHeartbeats 2000000
namespace Jb
open Sj24 (House)
/-! ### pulses and windows -/
def wsum (ws ss : List Int) (z : Int) : Int := Sj24.sum ((ws.zip (ss.map fun x => x - z)).map fun p => p.1 * p.2)
theorem zip_at {ws ss : List Int} {z x y : Int} {i : Nat} (hx : ws[i]? = some x) (hy : ss[i]? = some y) : (ws.zip (ss.map fun x => x - z))[i]? = some (x, y - z) := by
  rw [List.getElem?_zip_eq_some]
  exact ⟨hx, by rw [List.getElem?_map, hy]; rfl⟩
theorem abs_mul_le {x y a b : Int} (ha : 0 ≤ a) (hx0 : -a ≤ x) (hx1 : x ≤ a) (hy0 : -b ≤ y) (hy1 : y ≤ b) : x * y ≤ a * b := by
  rcases Int.le_total 0 x with q | q
  · have h1 := Int.mul_le_mul_of_nonneg_left hy1 q
    have h2 := Int.mul_le_mul_of_nonneg_right hx1 (show 0 ≤ b by omega)
    omega
  · have q' : 0 ≤ -x := by omega
    have e : x * y = -x * -y := by rw [Int.neg_mul_neg]
    have h1 := Int.mul_le_mul_of_nonneg_left (show -y ≤ b by omega) q'
    have h2 := Int.mul_le_mul_of_nonneg_right (show -x ≤ a by omega) (show 0 ≤ b by omega)
    omega
theorem wsum_bound {ws ss : List Int} {z : Int} (hw : ws.length = 8) (hws : ∀ x ∈ ws, -32768 ≤ x ∧ x ≤ 32767) (hss : ∀ x ∈ ss, 0 ≤ x ∧ x ≤ 4095) (hz : 0 ≤ z ∧ z ≤ 4095) : wsum ws ss z ≤ 2 ^ 31 := by
  have q := isum_le (l := (ws.zip (ss.map fun x => x - z)).map fun p => p.1 * p.2) (B := 32768 * 4096) fun v hv => by
    obtain ⟨⟨x, y⟩, hp, rfl⟩ := List.mem_map.mp hv
    have hx := hws x (List.of_mem_zip hp).1
    obtain ⟨s, hs, rfl⟩ := List.mem_map.mp (List.of_mem_zip hp).2
    have := hss s hs
    exact abs_mul_le (by omega) (by omega) (by omega) (by omega) (by omega)
  have hl : ((ws.zip (ss.map fun x => x - z)).map fun p => p.1 * p.2).length ≤ 8 := by
    rw [List.length_map, List.length_zip, hw]
    exact Nat.min_le_left _ _
  unfold wsum
  rw [sum_is]
  omega
def blockOf (a b : Int) (g : Sj24.Gain) (s : List Int) : Sj24.Block :=
  if a ≤ 0 then ⟨0, 0, s.any fun x => x == 4095⟩ else ⟨min Sj24.MOST (a * g.mul / 2 ^ g.shift), max (-32768) (min 32767 (Sj24.nearest (256 * b) a)), s.any fun x => x == 4095⟩
theorem weighed_eq (h : House) (g : Sj24.Gain) (s : List Int) : Sj24.weighed h g s = blockOf (wsum h.w s g.zero) (wsum h.v s g.zero) g s := rfl
theorem blockOf_ok {a b : Int} {g : Sj24.Gain} {s : List Int} (hm : 1 ≤ g.mul) : 0 ≤ (blockOf a b g s).e ∧ (blockOf a b g s).e ≤ 2 ^ 40 ∧ -32768 ≤ (blockOf a b g s).time ∧ (blockOf a b g s).time ≤ 32767 := by
  unfold blockOf
  split
  · simp only
    omega
  · rename_i c
    have h1 : 0 ≤ a * g.mul / 2 ^ g.shift := Int.ediv_nonneg (Int.mul_nonneg (by omega) (by omega)) (Int.pow_nonneg (by decide))
    have e : Sj24.MOST = 2 ^ 40 := rfl
    simp only [e]
    omega
/-! windows -/
def rowSum (h : House) (r c w : Nat) : Int := ((List.range w).map fun i => h.e (32 * r + c + i)).sum
theorem row_cut {h : House} (hl : h.blocks.length = 1024) {lo w : Nat} (hw : lo + w ≤ 1024) : ((es h).drop lo).take w = (List.range w).map fun i => h.e (lo + i) := by
  refine List.ext_getElem? fun i => ?_
  rw [List.getElem?_take, List.getElem?_map]
  by_cases hi : i < w
  · rw [if_pos hi, List.getElem?_drop, List.getElem?_range hi, es_get hl (by omega)]
    rfl
  · rw [if_neg hi, List.getElem?_eq_none (by rw [List.length_range]; omega)]
    rfl
theorem sum_flat (f : Nat → List Int) : ∀ l : List Nat, (l.flatMap f).sum = (l.map fun r => (f r).sum).sum
  | [] => rfl
  | a :: l => by rw [List.flatMap_cons, isum_append, sum_flat f l, List.map_cons, List.sum_cons]
theorem inWindow_eq {h : House} {w n r c : Nat} (hc : c < 32) : Sj24.inWindow h w n (32 * r + c) = ((List.range n).map fun s => rowSum h ((r + s) % 32) c w).sum := by
  unfold Sj24.inWindow
  rw [sum_is, sum_flat]
  congr 1
  refine List.map_congr_left fun s _ => ?_
  unfold rowSum Sj24.SIDE
  congr 1
  refine List.map_congr_left fun i _ => ?_
  congr 1
  have e1 : (32 * r + c) / 32 = r := by omega
  have e2 : (32 * r + c) % 32 = c := by omega
  rw [e1, e2]
  omega
theorem starts_eq {w : Nat} (h1 : 1 ≤ w) (h2 : w ≤ 32) : Sj24.starts w = (List.range 32).flatMap fun r => (List.range (33 - w)).map fun c => 32 * r + c := by
  unfold Sj24.starts Sj24.BLOCKS Sj24.SIDE
  have hnd : ((List.range 32).flatMap fun r => (List.range (33 - w)).map fun c => 32 * r + c).Pairwise (· < ·) := by
    rw [List.pairwise_flatMap]
    refine ⟨fun r _ => ?_, ?_⟩
    · rw [List.pairwise_map]
      exact List.pairwise_lt_range.imp fun {a b} h => by omega
    · refine List.pairwise_lt_range.imp fun {a b} h x hx y hy => ?_
      obtain ⟨c, hc, rfl⟩ := List.mem_map.mp hx
      obtain ⟨d, hd, rfl⟩ := List.mem_map.mp hy
      have := List.mem_range.mp hc
      have := List.mem_range.mp hd
      omega
  refine List.Perm.eq_of_pairwise (le := (· < ·)) (fun a b _ _ h1 h2 => by omega) (List.Pairwise.filter _ List.pairwise_lt_range) hnd ?_
  refine (List.perm_ext_iff_of_nodup (List.Pairwise.filter _ List.nodup_range) (hnd.imp fun {a b} h => by omega)).mpr fun a => ?_
  simp only [List.mem_filter, List.mem_range, decide_eq_true_eq, List.mem_flatMap, List.mem_map]
  constructor
  · rintro ⟨l1, l2⟩
    exact ⟨a / 32, by omega, a % 32, by omega, by omega⟩
  · rintro ⟨r, hr, c, hc, rfl⟩
    omega
def stepW (h : House) (w n : Nat) (b : Nat × Int) (k : Nat) : Nat × Int := if b.2 < Sj24.inWindow h w n k then (k, Sj24.inWindow h w n k) else b
theorem best_eq (h : House) (w n : Nat) : Sj24.best h w n = (Sj24.starts w).foldl (stepW h w n) (0, Sj24.inWindow h w n 0) := rfl
/-! sums -/
theorem sum_split {α : Type} (f : α → Int) (p : α → Bool) : ∀ l : List α, ((l.filter p).map f).sum + ((l.filter fun x => !p x).map f).sum = (l.map f).sum
  | [] => rfl
  | a :: l => by
    have ih := sum_split f p l
    rw [List.filter_cons, List.filter_cons, List.map_cons, List.sum_cons]
    cases e : p a with
    | true => simp; omega
    | false => simp; omega
theorem total_eq {h : House} (hl : h.blocks.length = 1024) : Sj24.total h = (es h).sum := by
  unfold Sj24.total Sj24.BLOCKS
  rw [sum_is]
  refine congrArg List.sum (List.ext_getElem? fun i => ?_)
  rw [List.getElem?_map]
  by_cases hi : i < 1024
  · rw [List.getElem?_range hi, es_get hl hi]
    rfl
  · rw [List.getElem?_eq_none (by rw [List.length_range]; omega), List.getElem?_eq_none (by rw [es_len hl]; omega)]
    rfl
theorem inside_eq {h : House} (hl : h.blocks.length = 1024) : (((List.range 1024).filter fun b => !(Sj24.owners h (Sj24.seeds h) b).isEmpty).map h.e).sum = Sj24.total h - Sj24.outside h := by
  have q := sum_split h.e (fun b => (Sj24.owners h (Sj24.seeds h) b).isEmpty) (List.range 1024)
  unfold Sj24.outside Sj24.total Sj24.BLOCKS
  rw [sum_is, sum_is]
  generalize (((List.range 1024).filter fun b => !(Sj24.owners h (Sj24.seeds h) b).isEmpty).map h.e).sum = x at q ⊢
  generalize (((List.range 1024).filter fun b => (Sj24.owners h (Sj24.seeds h) b).isEmpty).map h.e).sum = y at q ⊢
  generalize ((List.range 1024).map h.e).sum = z at q ⊢
  omega
end Jb
end
section
set_option Elab.async false
set_option linter.all false
set_option maxRecDepth 100000
set_option maxHeartbeats 2000000
namespace Jb
open PySem PySem.Spec PyProof.Rows L2
open Sj24 (House)
/-! ### pulses, windows -/
def GainAt (A : Ad) (H : Hp) (a : Addr) (g : Sj24.Gain) : Prop := ∃ dx, H a = some (.ins A.CGain dx [("mul", .int g.mul), ("shift", .int (g.shift : Int)), ("zero", .int g.zero)])
structure GainOk (g : Sj24.Gain) : Prop where
  m0 : 1 ≤ g.mul
  m1 : g.mul ≤ 2 ^ 20
  s1 : g.shift ≤ 24
  z0 : 0 ≤ g.zero
  z1 : g.zero ≤ 4095
def sp_Gain___init__ (K : PySem.W.Frag) (A : Ad) : Sp := fun vs H Q _ => ∃ (x dx : Addr) (m s z : V), vs = [.ref x, m, s, z] ∧ H x = some (.ins A.CGain dx []) ∧
  ∀ H' : Hp, H' x = some (.ins A.CGain dx [("mul", m), ("shift", s), ("zero", z)]) → (∀ b o, H b = some o → b ≠ x → H' b = some o) → Q .non H'
def sp_weighed_sum (K : PySem.W.Frag) (A : Ad) : Sp := fun vs H Q _ => ∃ (p q : Addr) (ws ss : List Int) (z : Int), vs = [.ref p, .ref q, .int z] ∧ SqL K H p (ws.map V.int) ∧ SqL K H q (ss.map V.int) ∧ ws.length = 8 ∧ ss.length = 8 ∧ (∀ x ∈ ws, -32768 ≤ x ∧ x ≤ 32767) ∧
  ∀ H', Same H H' → Q (.int (wsum ws ss z)) H'
def sp_energy_of (K : PySem.W.Frag) (A : Ad) : Sp := fun vs H Q _ => ∃ (a : Int) (p : Addr) (g : Sj24.Gain), vs = [.int a, .ref p] ∧ GainAt A H p g ∧ GainOk g ∧ Q (.int (min Sj24.MOST (a * g.mul / 2 ^ g.shift))) H
def sp_time_of (K : PySem.W.Frag) (A : Ad) : Sp := fun vs H Q _ => ∃ (a b : Int), vs = [.int a, .int b] ∧ 0 < a ∧ a < 2 ^ 64 ∧ Q (.int (max (-32768) (min 32767 (Sj24.nearest (256 * b) a)))) H
def sp_flag_of (K : PySem.W.Frag) (A : Ad) : Sp := fun vs H Q _ => ∃ (p : Addr) (ss : List Int), vs = [.ref p] ∧ SqL K H p (ss.map V.int) ∧ Q (.int (Sj24.bit (ss.any fun x => x == 4095))) H
def sp_weighed (K : PySem.W.Frag) (A : Ad) : Sp := fun vs H Q _ => ∃ (p ga wl vl : Addr) (h : House) (g : Sj24.Gain) (ss : List Int), vs = [.ref p, .ref ga, .ref wl, .ref vl] ∧ SqL K H p (ss.map V.int) ∧ GainAt A H ga g ∧ GainOk g ∧ SqL K H wl (h.w.map V.int) ∧ SqL K H vl (h.v.map V.int) ∧
  ss.length = 8 ∧ (∀ x ∈ ss, 0 ≤ x ∧ x ≤ 4095) ∧ h.w.length = 8 ∧ h.v.length = 8 ∧ (∀ x ∈ h.w, -32768 ≤ x ∧ x ≤ 32767) ∧ (∀ x ∈ h.v, -32768 ≤ x ∧ x ≤ 32767) ∧
  ∀ (t : Addr) (H' : Hp), Same H H' → H t = none → H' t = some (.tup [.int (Sj24.weighed h g ss).e, .int (Sj24.weighed h g ss).time, .int (Sj24.bit (Sj24.weighed h g ss).full)]) → Q (.ref t) H'
def rowL (h : House) (w r : Nat) : List V := (List.range (33 - w)).map fun c => V.int (rowSum h r c w)
def sp_row_sums (K : PySem.W.Frag) (A : Ad) : Sp := fun vs H Q _ => ∃ (a : Addr) (h : House) (r w : Nat), vs = [.ref a, .int (r : Int), .int (w : Int)] ∧ h.blocks.length = 1024 ∧ SqL K H a ((es h).map V.int) ∧ r < 32 ∧ 1 ≤ w ∧ w ≤ 32 ∧
  ∀ (p : Addr) (H' : Hp), Same H H' → H p = none → H' p = some (.lst (rowL h w r)) → Q (.ref p) H'
def SumsAt (H : Hp) (p : Addr) (h : House) (w : Nat) : Prop := ∃ as : List Addr, H p = some (.lst (as.map V.ref)) ∧ Rep (fun a r => H a = some (.lst (rowL h w r))) as (List.range 32)
def sp_window_energy (K : PySem.W.Frag) (A : Ad) : Sp := fun vs H Q _ => ∃ (p : Addr) (h : House) (w n r c : Nat), vs = [.ref p, .int (r : Int), .int (c : Int), .int (n : Int)] ∧ SumsAt H p h w ∧ r < 32 ∧ c < 33 - w ∧ 1 ≤ w ∧ n ≤ 32 ∧
  ∀ H', Same H H' → Q (.int (Sj24.inWindow h w n (32 * r + c))) H'
def sp_best_window (K : PySem.W.Frag) (A : Ad) : Sp := fun vs H Q _ => ∃ (a : Addr) (h : House) (w n : Nat), vs = [.ref a, .int (w : Int), .int (n : Int)] ∧ h.blocks.length = 1024 ∧ SqL K H a ((es h).map V.int) ∧ 1 ≤ w ∧ w ≤ 32 ∧ 1 ≤ n ∧ n ≤ 32 ∧
  ∀ (t : Addr) (H' : Hp), Same H H' → H t = none → H' t = some (.tup [.int ((Sj24.best h w n).1 : Int), .int (Sj24.best h w n).2]) → Q (.ref t) H'
theorem SumsAt.mono {H H' : Hp} {p : Addr} {h : House} {w : Nat} (q : SumsAt H p h w) (s : Same H H') : SumsAt H' p h w := by
  obtain ⟨as, h1, h2⟩ := q
  exact ⟨as, s _ _ h1, h2.mono fun a r e => s _ _ e⟩
theorem rowL_at {h : House} {w r c : Nat} (hc : c < 33 - w) : atI (rowL h w r) (c : Int) = some (V.int (rowSum h r c w)) := atI_nat (by
  unfold rowL
  rw [List.getElem?_map, List.getElem?_range hc]
  rfl)
section
variable {P : Program} {w : World} {K : PySem.W.Frag} {mg : Str → Option Value} {base : Heap} {A : Ad}
theorem ok_Gain___init__ {f : Addr} {fd : FuncData} (F : Fun K "__init__" "Gain.__init__" s_Gain___init__ f fd) (T : Txt K mg A) : FnOk P w K mg base CX0 1 f fd ["self", "mul", "shift", "zero"] (sp_Gain___init__ K A) := by
  refine F.ok sc_Gain___init__ (fun vs H Q E h => ?_) (fun cdv _ outer s H vs Q E hr h => ?_)
  · obtain ⟨x, dx, m, s', z, rfl, _⟩ := h
    rfl
  · obtain ⟨x, dx, m, s', z, rfl, hx, k⟩ := h
    refine ⟨_, (pss_cons (ps_fld (pv 0) (pv 1) rfl)
      (pss_cons (ps_fld (pv 0) (pv 2) rfl)
      (pss_one (ps_fld (pv 0) (pv 3) rfl)))), ?_⟩
    have n := T.k_Gain.na
    have cl := T.k_Gain.cl
    refine ⟨_, rfl, _, rfl, x, _, dx, _, rfl, hx, cl, n _ (by simp), (by show 0 < 1000; decide), ?_⟩
    refine ⟨_, rfl, _, rfl, x, _, dx, _, rfl, upd_same, cl, n _ (by simp), (by show 1 < 1000; decide), ?_⟩
    rw [upd_upd, ini_Gain_mul, ini_Gain_shift]
    refine ⟨_, rfl, _, rfl, x, _, dx, _, rfl, upd_same, cl, n _ (by simp), (by show 2 < 1000; decide), ?_⟩
    rw [upd_upd, ini_Gain_zero]
    exact k _ upd_same fun b o e hb => by rw [upd_ne hb]; exact e
theorem ok_weighed_sum {f : Addr} {fd : FuncData} (F : Fun K "weighed_sum" "weighed_sum" s_weighed_sum f fd) (T : Txt K mg A) : FnOk P w K mg base CX0 1 f fd ["weights", "samples", "zero"] (sp_weighed_sum K A) := by
  refine F.ok sc_weighed_sum (fun vs H Q E h => ?_) (fun cdv _ outer s H vs Q E hr h => ?_)
  · obtain ⟨p, q, ws, ss, z, rfl, _⟩ := h
    rfl
  · obtain ⟨p, q, ws, ss, z, rfl, hW, hS, lw, ls, hb, k⟩ := h
    refine ⟨_, (pss_one (ps_ret (pe_callB (cr_sum rfl) (by rfl) T.b_sum (by decide +kernel) (pa_cons (pe_lc (own := [("weight", 3), ("sample", 4)]) (tt := tYes) rfl sc_weighed_sum.nd (pi_zip (by rfl) T.b_zip (pa_cons (pv 0) (pa_cons (pv 1) pa_nil))) (blkOk_by (own := [("weight", 3), ("sample", 4)]) (N := n_weighed_sum) (sc := defScope s_weighed_sum) (by decide +kernel)) (fun _ _ _ _ _ => (pg_tupK (K := K) (n := 2) rfl (pgs_cons (pg_name (i := 3) sc_weighed_sum.nd rfl (Or.inl rfl)) (pgs_cons (pg_name (i := 4) sc_weighed_sum.nd rfl (Or.inl rfl)) pgs_nil)))) (fun _ _ _ _ _ => pts_nil) (fun _ _ _ _ _ => pe_op op_mul (pv 3) (pe_op op_sub (pv 4) (pv 2)))) pa_nil)))), ?_⟩
    refine ⟨_, rfl, _, rfl, p, q, _, _, rfl, hW, hS, fun D hD => ?_⟩
    refine lc_it (walk_zip (K := K) (a := p) (b := q) (xs := ws.map V.int) (ys := ss.map V.int) (n := 8) (by rw [List.length_map, List.length_map, lw, ls]; rfl)) (LcP _ D fun i => (((ws.zip (ss.map fun x => x - z)).take i).map fun p => p.1 * p.2).map V.int)
      (.start hD rfl) (fun i H' _ r => ⟨r.same.seq hW, r.same.seq hS⟩) ?_ ?_
    · rintro i x H1 H1' hi r ⟨T', v1, v2, rfl, hT, rfl, e1, e2⟩
      obtain ⟨x, hx, rfl⟩ := map_some e1
      obtain ⟨y, hy, rfl⟩ := map_some e2
      have bx := hb x (List.mem_of_getElem? hx)
      refine ⟨T', _, rfl, .inl (.inl upd_same), rfl, _, _, rfl, _, _, rfl, rfl, rfl, ?_⟩
      refine ⟨_, rfl, _, rfl, _, rfl, _, _, rfl, rfl, _, _, rfl, rfl, .inl ⟨by omega, by omega⟩, r.push hD (Same.upd_new hT) ?_ (small' ?_)⟩
      · rw [take_snoc (zip_at hx hy), List.map_append, List.map_append]
        rfl
      · rw [List.length_map, List.length_map, List.length_take]
        omega
    · intro H1 r
      refine ⟨D, _, rfl, SqL.of r.at_, ?_⟩
      rw [List.take_of_length_le (by rw [List.length_zip, List.length_map, lw, ls]; decide)]
      exact k H1 r.same
theorem ok_energy_of {f : Addr} {fd : FuncData} (F : Fun K "energy_of" "energy_of" s_energy_of f fd) (T : Txt K mg A) : FnOk P w K mg base CX0 1 f fd ["a", "gain"] (sp_energy_of K A) := by
  refine F.ok sc_energy_of (fun vs H Q E h => ?_) (fun cdv _ outer s H vs Q E hr h => ?_)
  · obtain ⟨a, p, g, rfl, _⟩ := h
    rfl
  · obtain ⟨a, p, g, rfl, ⟨dx, hp⟩, O, k⟩ := h
    refine ⟨_, (pss_one (ps_ret (pe_callB (call_min2 rfl) (by rfl) T.b_min (by decide +kernel) (pa_cons (pe_cst rfl T.c_GREATEST_ENERGY) (pa_cons (pe_op op_shr (pe_op op_mul (pv 0) (pe_fldK (K := K) (pv 1) rfl)) (pe_fldK (K := K) (pv 1) rfl)) pa_nil))))), ?_⟩
    have n := T.k_Gain.na
    have cl := T.k_Gain.cl
    have m0 := O.m0
    have m1 := O.m1
    refine ⟨_, rfl, _, rfl, p, _, dx, _, _, rfl, hp, cl, n _ (by simp), lk_Gain_mul, _, _, rfl, rfl, .inr ⟨by omega, by omega⟩, _, rfl, p, _, dx, _, _, rfl, hp, cl, n _ (by simp), lk_Gain_shift, _, _, rfl, rfl, Int.natCast_nonneg _, _, _, rfl, ?_⟩
    have e : (if a * g.mul / 2 ^ ((g.shift : Int).toNat) < 1099511627776 then a * g.mul / 2 ^ ((g.shift : Int).toNat) else 1099511627776) = min Sj24.MOST (a * g.mul / 2 ^ g.shift) := by
      rw [Int.toNat_natCast]
      have e0 : Sj24.MOST = 1099511627776 := by decide
      rw [e0]
      split <;> omega
    rw [e]
    exact k
theorem ok_time_of {f : Addr} {fd : FuncData} (F : Fun K "time_of" "time_of" s_time_of f fd) (T : Txt K mg A) (C_rounded : Cal P w K mg base 1 "rounded" ["a", "b"] (sp_rounded K A)) : FnOk P w K mg base CX0 2 f fd ["a", "b"] (sp_time_of K A) := by
  refine F.ok sc_time_of (fun vs H Q E h => ?_) (fun cdv _ outer s H vs Q E hr h => ?_)
  · obtain ⟨a, b, rfl, _⟩ := h
    rfl
  · obtain ⟨a, b, rfl, h0, h1, k⟩ := h
    refine ⟨_, (pss_one (ps_ret (pe_callB (call_max2 rfl) (by rfl) T.b_max (by decide +kernel) (pa_cons (pe_cst rfl T.c_LEAST_TIME) (pa_cons (pe_callB (call_min2 rfl) (by rfl) T.b_min (by decide +kernel) (pa_cons (pe_cst rfl T.c_GREATEST_TIME) (pa_cons (pe_cal C_rounded (hr.mono (by decide)) (by rfl) (pa_cons (pe_op op_mul (pe_cst rfl T.c_TIME_STEPS) (pv 1)) (pa_cons (pv 0) pa_nil))) pa_nil))) pa_nil))))), ?_⟩
    refine ⟨_, rfl, _, _, rfl, rfl, .inl ⟨by decide, by decide⟩, _, rfl, _, a, rfl, h0, h1, _, _, rfl, _, _, rfl, ?_⟩
    have e : (if (if Sj24.nearest (256 * b) a < 32767 then Sj24.nearest (256 * b) a else 32767) > -32768 then (if Sj24.nearest (256 * b) a < 32767 then Sj24.nearest (256 * b) a else 32767) else -32768) = max (-32768) (min 32767 (Sj24.nearest (256 * b) a)) := by
      split <;> split <;> omega
    rw [← e] at k
    exact k
theorem ok_flag_of {f : Addr} {fd : FuncData} (F : Fun K "flag_of" "flag_of" s_flag_of f fd) (T : Txt K mg A) : FnOk P w K mg base CX0 1 f fd ["samples"] (sp_flag_of K A) := by
  refine F.ok sc_flag_of (fun vs H Q E h => ?_) (fun cdv _ outer s H vs Q E hr h => ?_)
  · obtain ⟨p, ss, rfl, _⟩ := h
    rfl
  · obtain ⟨p, ss, rfl, hS, k⟩ := h
    refine ⟨_, (pss_one (ps_ret (pe_callTy call_int1 (by rfl) T.b_int (by decide +kernel) (pa_cons (pe_cmpR op_in_seq (pe_cst rfl T.c_GREATEST_SAMPLE) (pv 0) rfl) pa_nil)))), ?_⟩
    refine ⟨_, rfl, p, _, rfl, .inl hS, rfl, by simp [List.all_map, flatV], .inr ⟨_, rfl, ?_⟩⟩
    have e : inV (V.int 4095) (ss.map V.int) = ss.any fun x => x == 4095 := by
      unfold inV
      rw [List.any_map]
      rfl
    show Q (.int (if inV (V.int 4095) (ss.map V.int) = true then 1 else 0)) H
    rw [e]
    exact k
theorem ok_weighed {f : Addr} {fd : FuncData} (F : Fun K "weighed" "weighed" s_weighed f fd) (T : Txt K mg A) (C_energy_of : Cal P w K mg base 1 "energy_of" ["a", "gain"] (sp_energy_of K A)) (C_flag_of : Cal P w K mg base 1 "flag_of" ["samples"] (sp_flag_of K A)) (C_time_of : Cal P w K mg base 2 "time_of" ["a", "b"] (sp_time_of K A)) (C_weighed_sum : Cal P w K mg base 1 "weighed_sum" ["weights", "samples", "zero"] (sp_weighed_sum K A)) : FnOk P w K mg base CX0 3 f fd ["samples", "gain", "w", "v"] (sp_weighed K A) := by
  refine F.ok sc_weighed (fun vs H Q E h => ?_) (fun cdv _ outer s H vs Q E hr h => ?_)
  · obtain ⟨p, ga, wl, vl, h, g, ss, rfl, _⟩ := h
    rfl
  · obtain ⟨p, ga, wl, vl, h, g, ss, rfl, hS, ⟨dx, hg⟩, O, hW, hV, ls, bs, lw, lv, bw, bv, k⟩ := h
    refine ⟨_, (pss_cons (ps_set (i := 4) sc_weighed.nd rfl (Or.inl rfl) (pe_cal C_weighed_sum (hr.mono (by decide)) (by rfl) (pa_cons (pv 2) (pa_cons (pv 0) (pa_cons (pe_fldK (K := K) (pv 1) rfl) pa_nil)))))
      (pss_cons (ps_set (i := 5) sc_weighed.nd rfl (Or.inl rfl) (pe_cal C_weighed_sum (hr.mono (by decide)) (by rfl) (pa_cons (pv 3) (pa_cons (pv 0) (pa_cons (pe_fldK (K := K) (pv 1) rfl) pa_nil)))))
      (pss_cons (ps_if (pt_cmpR op_le (pv 4) (pe_int) (nomark _)) (pss_one (ps_ret (pe_tup (pa_cons (pe_int) (pa_cons (pe_int) (pa_cons (pe_cal C_flag_of (hr.mono (by decide)) (by rfl) (pa_cons (pv 0) pa_nil)) pa_nil)))))) pss_nil)
      (pss_one (ps_ret (pe_tup (pa_cons (pe_cal C_energy_of (hr.mono (by decide)) (by rfl) (pa_cons (pv 4) (pa_cons (pv 1) pa_nil))) (pa_cons (pe_cal C_time_of (hr.mono (by decide)) (by rfl) (pa_cons (pv 4) (pa_cons (pv 5) pa_nil))) (pa_cons (pe_cal C_flag_of (hr.mono (by decide)) (by rfl) (pa_cons (pv 0) pa_nil)) pa_nil))))))))), ?_⟩
    have n := T.k_Gain.na
    have cl := T.k_Gain.cl
    refine ⟨_, rfl, _, rfl, _, rfl, ga, _, dx, _, _, rfl, hg, cl, n _ (by simp), lk_Gain_zero, wl, p, h.w, ss, g.zero, rfl, hW, hS, lw, ls, bw, fun H1 s1 => ?_⟩
    refine ⟨_, rfl, _, rfl, _, rfl, ga, _, dx, _, _, rfl, s1 _ _ hg, cl, n _ (by simp), lk_Gain_zero, vl, p, h.v, ss, g.zero, rfl, s1.seq hV, s1.seq hS, lv, ls, bv, fun H2 s2 => ?_⟩
    have s12 := s1.trans s2
    have hbd := wsum_bound lw bw bs ⟨O.z0, O.z1⟩
    refine ⟨_, rfl, _, _, rfl, rfl, _, rfl, ite_b (fun c => ?_) (fun c => ?_)⟩
    · have c := of_decide_eq_true c
      refine ⟨_, rfl, p, ss, rfl, s12.seq hS, (by show 3 ≤ sizeLine; decide), fun t ht => k t _ (s12.trans (Same.upd_new ht)) (s12.free ht) ?_⟩
      rw [upd_same, weighed_eq]
      unfold blockOf
      rw [if_pos c]
    · have c := of_decide_eq_false c
      refine ⟨_, rfl, _, rfl, _, ga, g, rfl, ⟨dx, s12 _ _ hg⟩, O, _, rfl, _, rfl, _, _, rfl, by omega, by omega, _, rfl, p, ss, rfl, s12.seq hS, (by show 3 ≤ sizeLine; decide), fun t ht => k t _ (s12.trans (Same.upd_new ht)) (s12.free ht) ?_⟩
      rw [upd_same, weighed_eq]
      unfold blockOf
      rw [if_neg c]
theorem ok_row_sums {f : Addr} {fd : FuncData} (F : Fun K "row_sums" "row_sums" s_row_sums f fd) (T : Txt K mg A) (C_block_at : Cal P w K mg base 1 "block_at" ["row", "column"] (sp_block_at K A)) : FnOk P w K mg base CX0 2 f fd ["energies", "row", "width"] (sp_row_sums K A) := by
  refine F.ok sc_row_sums (fun vs H Q E h => ?_) (fun cdv _ outer s H vs Q E hr h => ?_)
  · obtain ⟨a, h, r, w', rfl, _⟩ := h
    rfl
  · obtain ⟨a, h, r, w', rfl, hl, hS, hr1, hw1, hw2, k⟩ := h
    refine ⟨_, (pss_cons (ps_set (i := 3) sc_row_sums.nd rfl (Or.inl rfl) (pe_lst pa_nil))
      (pss_cons (ps_for PassesOwn.never rfl (pi_range1 (by rfl) T.b_range (pa_cons (pe_op op_add (pe_op op_sub (pe_cst rfl T.c_MANY_COLUMNS) (pv 2)) (pe_int)) pa_nil)) (pg_name (i := 4) sc_row_sums.nd rfl (Or.inl rfl)) (pss_cons (ps_set (i := 5) sc_row_sums.nd rfl (Or.inl rfl) (pe_cal C_block_at (hr.mono (by decide)) (by rfl) (pa_cons (pv 1) (pa_cons (pv 4) pa_nil))))
      (pss_one (ps_expr (pe_bm PySem.F.plainAttrs_list PySem.F.slot_list_append PySem.F.type_list_append mt_append (pv 3) (pa_cons (pe_callB (cr_sum rfl) (by rfl) T.b_sum (by decide +kernel) (pa_cons (pe_slice sl_list (pv 0) (po_some (pv 5)) (po_some (pe_op op_add (pv 5) (pv 2)))) pa_nil)) pa_nil))))))
      (pss_one (ps_ret (pv 3))))), ?_⟩
    refine ⟨Nat.zero_le _, fun L hL => ?_⟩
    have sL : Same H (upd H L (.lst [])) := Same.upd_new hL
    refine ⟨_, rfl, _, _, rfl, rfl, _, _, rfl, rfl, _, rfl, by omega, by omega, ?_⟩
    refine for_range0 (n := ((32 : Int) - (w' : Int) + 1).toNat) (fun i σ H' => ∃ v4 v5 : Option V, σ = [some (.ref a), some (.int (r : Int)), some (.int (w' : Int)), some (.ref L), v4, v5] ∧ Same H H' ∧ H' L = some (.lst ((List.range i).map fun c => V.int (rowSum h r c w'))))
      ⟨none, none, rfl, sL, upd_same⟩ ?_ ?_
    · rintro c σ H1 hc ⟨v4, v5, rfl, s1, hL1⟩
      refine ⟨_, rfl, _, rfl, _, _, rfl, ?_⟩
      refine ⟨_, rfl, .inl ⟨rfl, _, SqL.of hL1⟩, _, rfl, _, rfl, _, rfl, _, rfl, _, rfl, _, _, rfl, rfl, _, rfl, a, _, rfl, s1.seq hS, fun p hp => ?_⟩
      have s2 : Same H1 (upd H1 p (.lst (cutV ((es h).map V.int) (some (32 * (r : Int) + (c : Int))) (some (32 * (r : Int) + (c : Int) + (w' : Int)))))) := Same.upd_new hp
      have e1 : cutV ((es h).map V.int) (some (32 * (r : Int) + (c : Int))) (some (32 * (r : Int) + (c : Int) + (w' : Int))) = ((List.range w').map fun i => h.e (32 * r + c + i)).map V.int := by
        have a1 : 32 * (r : Int) + (c : Int) = ((32 * r + c : Nat) : Int) := by omega
        have a2 : 32 * (r : Int) + (c : Int) + (w' : Int) = ((32 * r + c + w' : Nat) : Int) := by omega
        unfold cutV
        rw [a2, a1, HT.sIx_nat, HT.sIx_nat, List.length_map, es_len hl, Nat.min_eq_left (by omega), Nat.min_eq_left (by omega), ← List.map_drop, ← List.map_take]
        have a3 : 32 * r + c + w' - (32 * r + c) = w' := by omega
        rw [a3, row_cut hl (by omega)]
      rw [e1] at s2 ⊢
      refine ⟨p, _, rfl, SqL.of upd_same, L, _, _, rfl, rfl, s2 _ _ hL1, small' (by rw [List.length_map, List.length_range]; omega), _, _, rfl, ?_, ?_⟩
      · exact Same.upd_keep (s1.trans s2) hL
      · rw [upd_same, List.range_succ, List.map_append]
        rfl
    · rintro σ H1 ⟨v4, v5, rfl, s1, hL1⟩
      refine ⟨_, rfl, k L H1 s1 hL ?_⟩
      rw [hL1]
      have e : ((32 : Int) - (w' : Int) + 1).toNat = 33 - w' := by omega
      rw [e]
      rfl
theorem ok_window_energy {f : Addr} {fd : FuncData} (F : Fun K "window_energy" "window_energy" s_window_energy f fd) (T : Txt K mg A) : FnOk P w K mg base CX0 1 f fd ["sums", "row", "column", "height"] (sp_window_energy K A) := by
  refine F.ok sc_window_energy (fun vs H Q E h => ?_) (fun cdv _ outer s H vs Q E hr h => ?_)
  · obtain ⟨p, h, w', n', r, c, rfl, _⟩ := h
    rfl
  · obtain ⟨p, h, w', n', r, c, rfl, ⟨as, hp, hR⟩, hr1, hc1, hw1, hn1, k⟩ := h
    refine ⟨_, (pss_one (ps_ret (pe_callB (cr_sum rfl) (by rfl) T.b_sum (by decide +kernel) (pa_cons (pe_lc (own := [("step", 4)]) (g := gName 4) (tt := tYes) rfl sc_window_energy.nd (pi_range1 (by rfl) T.b_range (pa_cons (pv 3) pa_nil)) (blkOk_by (own := [("step", 4)]) (N := n_window_energy) (sc := defScope s_window_energy) (by decide +kernel)) (fun _ _ _ _ _ => (pg_name (i := 4) sc_window_energy.nd rfl (Or.inl rfl))) (fun _ _ _ _ _ => pts_nil) (fun _ _ _ _ _ => pe_ixL (K := K) (pe_ixL (K := K) (pv 0) (pe_op op_mod (pe_op op_add (pv 1) (pv 4)) (pe_cst rfl T.c_MANY_ROWS)) (fun _ _ => rfl)) (pv 2) (fun _ _ => rfl))) pa_nil)))), ?_⟩
    refine ⟨_, rfl, _, rfl, by omega, by omega, fun D hD => ?_⟩
    refine lc_range0 (n := ((n' : Nat) : Int).toNat) (LcP _ D fun i => ((List.range i).map fun s => rowSum h ((r + s) % 32) c w').map V.int) (.start hD rfl) ?_ ?_
    · intro i H1 hi q
      have hrow : (List.range 32)[(r + i) % 32]? = some ((r + i) % 32) := List.getElem?_range (Nat.mod_lt _ (by decide))
      obtain ⟨a, ha, ea⟩ := hR.item hrow
      have hat : atI (as.map V.ref) (((r : Int) + (i : Int)) % 32) = some (V.ref a) := by
        have e : ((r : Int) + (i : Int)) % 32 = (((r + i) % 32 : Nat) : Int) := by omega
        rw [e]
        exact ref_at ha
      refine ⟨rfl, _, rfl, _, rfl, _, rfl, _, _, rfl, rfl, _, _, rfl, rfl, (by decide : (0 : Int) < 32), p, _, _, _, rfl, rfl, SqL.of (q.same _ _ hp), hat, _, rfl, a, _, _, _, rfl, rfl, SqL.of (q.same _ _ ea), rowL_at hc1, q.push hD (Same.refl _) ?_ (small' ?_)⟩
      · rw [List.range_succ, List.map_append, List.map_append]
        rfl
      · rw [List.length_map, List.length_map, List.length_range]
        omega
    · intro H1 q
      refine ⟨D, _, rfl, SqL.of q.at_, ?_⟩
      rw [Int.toNat_natCast]
      have e := inWindow_eq (h := h) (w := w') (n := n') (r := r) (c := c) (by omega)
      rw [← e]
      exact k H1 q.same
theorem ok_best_window {f : Addr} {fd : FuncData} (F : Fun K "best_window" "best_window" s_best_window f fd) (T : Txt K mg A) (C_block_at : Cal P w K mg base 1 "block_at" ["row", "column"] (sp_block_at K A)) (C_row_sums : Cal P w K mg base 2 "row_sums" ["energies", "row", "width"] (sp_row_sums K A)) (C_window_energy : Cal P w K mg base 1 "window_energy" ["sums", "row", "column", "height"] (sp_window_energy K A)) : FnOk P w K mg base CX0 3 f fd ["energies", "width", "height"] (sp_best_window K A) := by
  refine F.ok sc_best_window (fun vs H Q E h => ?_) (fun cdv _ outer s H vs Q E hr h => ?_)
  · obtain ⟨a, h, w', n', rfl, _⟩ := h
    rfl
  · obtain ⟨a, h, w', n', rfl, hl, hS, hw1, hw2, hn1, hn2, k⟩ := h
    refine ⟨_, (pss_cons (ps_setLc (i := 3) (own := [("row", 4)]) (g := gName 4) (tt := tYes) rfl sc_best_window.nd rfl rfl (sw_true rfl rfl rfl (by decide +kernel)) (pi_range1 (by rfl) T.b_range (pa_cons (pe_cst rfl T.c_MANY_ROWS) pa_nil)) (blkOk_by (own := [("row", 4)]) (N := n_best_window) (sc := defScope s_best_window) (by decide +kernel)) (fun _ _ _ _ _ => (pg_name (i := 4) sc_best_window.nd rfl (Or.inl rfl))) (fun _ _ _ _ _ => pts_nil) (fun _ _ _ _ _ => pe_cal C_row_sums (hr.mono (by decide)) (by rfl) (pa_cons (pv 0) (pa_cons (pv 4) (pa_cons (pv 1) pa_nil)))))
      (pss_cons (ps_set (i := 5) sc_best_window.nd rfl (Or.inl rfl) (pe_tup (pa_cons (pe_int) (pa_cons (pe_cal C_window_energy (hr.mono (by decide)) (by rfl) (pa_cons (pv 3) (pa_cons (pe_int) (pa_cons (pe_int) (pa_cons (pv 2) pa_nil))))) pa_nil))))
      (pss_cons (ps_for PassesOwn.never rfl (pi_range1 (by rfl) T.b_range (pa_cons (pe_cst rfl T.c_MANY_ROWS) pa_nil)) (pg_name (i := 4) sc_best_window.nd rfl (Or.inl rfl)) (pss_one (ps_for PassesOwn.never rfl (pi_range1 (by rfl) T.b_range (pa_cons (pe_op op_add (pe_op op_sub (pe_cst rfl T.c_MANY_COLUMNS) (pv 1)) (pe_int)) pa_nil)) (pg_name (i := 6) sc_best_window.nd rfl (Or.inl rfl)) (pss_cons (ps_set (i := 7) sc_best_window.nd rfl (Or.inl rfl) (pe_cal C_window_energy (hr.mono (by decide)) (by rfl) (pa_cons (pv 3) (pa_cons (pv 4) (pa_cons (pv 6) (pa_cons (pv 2) pa_nil))))))
      (pss_one (ps_if (pt_cmpR op_gt (pv 7) (pe_ixT (K := K) (pv 5) (pe_int) (fun _ _ => rfl)) (nomark _)) (pss_one (ps_set (i := 5) sc_best_window.nd rfl (Or.inl rfl) (pe_tup (pa_cons (pe_cal C_block_at (hr.mono (by decide)) (by rfl) (pa_cons (pv 4) (pa_cons (pv 6) pa_nil))) (pa_cons (pv 7) pa_nil))))) pss_nil))))))
      (pss_one (ps_ret (pv 5)))))), ?_⟩
    refine ⟨32, rfl, by decide, by decide, fun D hD => ?_⟩
    refine lc_range0 (n := 32) (fun i H' => ∃ as : List Addr, Same H H' ∧ H' D = some (.lst (as.map V.ref)) ∧ Rep (fun b r => H' b = some (.lst (rowL h w' r)) ∧ b ≠ D) as (List.range i))
      ⟨[], Same.upd_new hD, upd_same, Rep.nil⟩ ?_ ?_
    · rintro i H1 hi ⟨as, s1, hD1, R1⟩
      refine ⟨rfl, _, rfl, _, rfl, _, rfl, a, h, i, w', rfl, hl, s1.seq hS, hi, hw1, hw2, fun p H2 s2 hp e2 => ?_⟩
      have nD : p ≠ D := (ne_of_none hD1 hp).symm
      refine ⟨_, s2 _ _ hD1, small' (by rw [List.length_map, R1.len, List.length_range]; omega), as ++ [p], Same.upd_keep (s1.trans s2) hD, by rw [upd_same, List.map_append]; rfl, ?_⟩
      rw [List.range_succ]
      refine Rep.push (R1.mono fun b r q => ⟨by rw [upd_ne q.2]; exact s2 _ _ q.1, q.2⟩) ⟨by rw [upd_ne nD]; exact e2, nD⟩
    · rintro H1 ⟨as, s1, hD1, R1⟩
      have hSm : SumsAt H1 D h w' := ⟨as, hD1, R1.mono fun b r q => q.1⟩
      refine ⟨_, rfl, _, rfl, D, h, w', n', 0, 0, rfl, hSm, by decide, by omega, hw1, hn2, fun H2 s2 => ?_⟩
      refine ⟨(by show 2 ≤ sizeLine; decide), fun t ht => ?_⟩
      have s3 : Same H2 (upd H2 t (.tup [.int 0, .int (Sj24.inWindow h w' n' (32 * 0 + 0))])) := Same.upd_new ht
      have s03 := (s1.trans s2).trans s3
      refine ⟨32, rfl, by decide, by decide, ?_⟩
      refine for_range0 (n := 32) (fun r σ H' => ∃ (b : Addr) (v5 v6 v7 : Option V), σ = [some (.ref a), some (.int (w' : Int)), some (.int (n' : Int)), some (.ref D), v5, some (.ref b), v6, v7] ∧ Same H1 H' ∧ H b = none ∧
          ∃ o, o = (((List.range r).flatMap fun r => (List.range (33 - w')).map fun c => 32 * r + c).foldl (stepW h w' n') (0, Sj24.inWindow h w' n' 0)) ∧ H' b = some (.tup [.int (o.1 : Int), .int o.2]))
        ⟨t, none, none, none, rfl, s2.trans s3, (s1.trans s2).free ht, _, rfl, upd_same⟩ ?_ ?_
      · rintro r σ H3 hr3 ⟨b, v5, v6, v7, rfl, s4, hb0, o, eo, hb3⟩
        refine ⟨_, rfl, _, _, rfl, rfl, _, _, rfl, rfl, _, rfl, by omega, by omega, ?_⟩
        have e33 : ((32 : Int) - (w' : Int) + 1).toNat = 33 - w' := by omega
        refine for_range0 (n := ((32 : Int) - (w' : Int) + 1).toNat) (fun c σ H' => ∃ (b : Addr) (v6 v7 : Option V), σ = [some (.ref a), some (.int (w' : Int)), some (.int (n' : Int)), some (.ref D), some (.int (r : Int)), some (.ref b), v6, v7] ∧ Same H1 H' ∧ H b = none ∧
            ∃ o, o = ((((List.range r).flatMap fun r => (List.range (33 - w')).map fun c => 32 * r + c) ++ (List.range c).map fun c => 32 * r + c).foldl (stepW h w' n') (0, Sj24.inWindow h w' n' 0)) ∧ H' b = some (.tup [.int (o.1 : Int), .int o.2]))
          ⟨b, v6, v7, rfl, s4, hb0, o, by rw [List.range_zero, List.map_nil, List.append_nil]; exact eo, hb3⟩ ?_ ?_
        · rintro c σ H4 hc ⟨b, v6, v7, rfl, s5, hb0, o, eo, hb4⟩
          refine ⟨_, rfl, _, rfl, _, rfl, _, rfl, D, h, w', n', r, c, rfl, hSm.mono s5, hr3, by omega, hw1, hn2, fun H5 s6 => ?_⟩
          have hb5 := s6 _ _ hb4
          have b1 : atI ([.int (o.1 : Int), .int o.2] : List V) ((1 : Nat) : Int) = some (.int o.2) := atI_nat rfl
          have step : ((((List.range r).flatMap fun r => (List.range (33 - w')).map fun c => 32 * r + c) ++ (List.range (c + 1)).map fun c => 32 * r + c).foldl (stepW h w' n') (0, Sj24.inWindow h w' n' 0)) = stepW h w' n' o (32 * r + c) := by
            rw [List.range_succ, List.map_append, ← List.append_assoc, List.foldl_append, ← eo]
            rfl
          refine ⟨_, rfl, _, rfl, b, _, _, _, rfl, rfl, .inl (.inl hb5), b1, _, _, rfl, rfl, _, rfl, ite_b (fun d => ?_) (fun d => ?_)⟩
          · have d := of_decide_eq_true d
            refine ⟨_, rfl, _, rfl, _, _, rfl, _, rfl, (by show 2 ≤ sizeLine; decide), fun t' ht' => ?_⟩
            refine ⟨t', _, _, rfl, (s5.trans s6).trans (Same.upd_new ht'), s1.free ((s5.trans s6).free ht'), _, rfl, ?_⟩
            rw [step, upd_same]
            unfold stepW
            rw [if_pos d]
            show some (HO.tup [V.int (32 * (r : Int) + (c : Int)), _]) = some (HO.tup [V.int ((32 * r + c : Nat) : Int), _])
            rw [show ((32 * r + c : Nat) : Int) = 32 * (r : Int) + (c : Int) by omega]
          · have d := of_decide_eq_false d
            refine ⟨b, _, _, rfl, s5.trans s6, hb0, o, ?_, hb5⟩
            rw [step]
            unfold stepW
            rw [if_neg d]
        · rintro σ H4 ⟨b, v6, v7, rfl, s5, hb0, o, eo, hb4⟩
          refine ⟨b, _, _, _, rfl, s5, hb0, o, ?_, hb4⟩
          rw [eo, e33, List.range_succ, List.flatMap_append]
          simp
      · rintro σ H3 ⟨b, v5, v6, v7, rfl, s4, hb0, o, eo, hb3⟩
        refine ⟨_, rfl, k b H3 (s1.trans s4) hb0 ?_⟩
        rw [hb3, best_eq, starts_eq hw1 hw2, eo]
end
end Jb
end
section
set_option Elab.async false
set_option linter.all false
set_option maxRecDepth 100000
set_option maxHeartbeats 2000000
namespace Jb
open PySem PySem.Spec PyProof.Rows L2
open Sj24 (House)
/-! ### the calorimeter in the heap -/
def SameBut (x : Addr) (H H' : Hp) : Prop := ∀ b o, H b = some o → b ≠ x → H' b = some o
theorem SameBut.trans {x : Addr} {H H1 H2 : Hp} (a : SameBut x H H1) (b : SameBut x H1 H2) : SameBut x H H2 := fun c o e h => b c o (a c o e h) h
theorem SameBut.of {x : Addr} {H H' : Hp} (s : Same H H') : SameBut x H H' := fun b o e _ => s b o e
theorem SameBut.put {x : Addr} {H : Hp} {o : HO} : SameBut x H (upd H x o) := fun b u e h => by
  rw [upd_ne h]
  exact e
theorem SameBut.free {x : Addr} {H H' : Hp} (s : SameBut x H H') {l : Addr} (h : H' l = none) (hx : l ≠ x) : H l = none := by
  cases q : H l with
  | none => rfl
  | some o =>
    rw [s l o q hx] at h
    cases h
structure Cd where
  c : Addr
  dx : Addr
  gl : Addr
  wl : Addr
  vl : Addr
  bl : Addr
  dxb : Addr
  el : Addr
  tl : Addr
  fl : Addr
  cl : Addr
  jl : Addr
  gas : List Addr
def mutA (d : Cd) : List Addr := [d.c, d.gl, d.el, d.tl, d.fl]
def calF (h : House) (d : Cd) : List (Str × V) := [("least", .int h.seed), ("low", .int h.low), ("reach", .int h.reach), ("gains", .ref d.gl), ("w", .ref d.wl), ("v", .ref d.vl), ("blocks", .ref d.bl), ("clusters", .ref d.cl), ("jets", .ref d.jl)]
def blkF (el tl fl : Addr) : List (Str × V) := [("energies", .ref el), ("times", .ref tl), ("flags", .ref fl)]
def esV (h : House) : List V := (es h).map V.int
def tsV (h : House) : List V := (h.blocks.map fun b => b.time).map V.int
def fsV (h : House) : List V := (h.blocks.map fun b => Sj24.bit b.full).map V.int
structure HInv (h : House) : Prop where
  len : h.blocks.length = 1024
  blk : ∀ b ∈ h.blocks, 0 ≤ b.e ∧ b.e ≤ 2 ^ 40 ∧ -32768 ≤ b.time ∧ b.time ≤ 32767
  low : 1 ≤ h.low
  seed : h.low ≤ h.seed
  reach : 1 ≤ h.reach ∧ h.reach ≤ 1024
  glen : h.gains.length = 4
  gok : ∀ g ∈ h.gains, GainOk g
  wlen : h.w.length = 8
  wok : ∀ x ∈ h.w, -32768 ≤ x ∧ x ≤ 32767
  vlen : h.v.length = 8
  vok : ∀ x ∈ h.v, -32768 ≤ x ∧ x ≤ 32767
  cok : ∀ c ∈ h.clusters, CluOk c
  clen : h.clusters.length ≤ 1024
  jok : ∀ j ∈ h.jets, j.members.length ≤ 1024
theorem block_mem {h : House} (k : Nat) : h.block k = Sj24.none_ ∨ h.block k ∈ h.blocks := by
  unfold House.block
  rw [List.getD_eq_getElem?_getD]
  cases e : h.blocks[k]? with
  | none => exact .inl rfl
  | some b => exact .inr (List.mem_of_getElem? e)
theorem HInv.blkInv {h : House} (I : HInv h) : BlkInv h := by
  refine ⟨I.len, fun k => ?_, fun k => ?_, by have := I.low; have := I.seed; omega⟩
  · rcases block_mem (h := h) k with e | e
    · show 0 ≤ (h.block k).e
      rw [e]
      decide
    · exact (I.blk _ e).1
  · rcases block_mem (h := h) k with e | e
    · show (h.block k).e ≤ _
      rw [e]
      decide
    · exact (I.blk _ e).2.1
theorem HInv.times {h : House} (I : HInv h) (k : Nat) : -32768 ≤ (h.block k).time ∧ (h.block k).time ≤ 32767 := by
  rcases block_mem (h := h) k with e | e
  · rw [e]
    decide
  · exact (I.blk _ e).2.2
structure CalS (A : Ad) (H : Hp) (d : Cd) (h : House) (X : List Addr) : Prop where
  cal : H d.c = some (.ins A.CCalorimeter d.dx (calF h d))
  gl : H d.gl = some (.lst (d.gas.map V.ref))
  el : H d.el = some (.lst (esV h))
  tl : H d.tl = some (.lst (tsV h))
  fl : H d.fl = some (.lst (fsV h))
  nd : (mutA d).Nodup
  xm : ∀ b ∈ X, b ∉ mutA d
  xn : ∀ b ∈ X, H b ≠ none
  bl : del (X ++ mutA d) H d.bl = some (.ins A.CBlocks d.dxb (blkF d.el d.tl d.fl))
  gs : Rep (GainAt A (del (X ++ mutA d) H)) d.gas h.gains
  wl : del (X ++ mutA d) H d.wl = some (.lst (h.w.map V.int))
  vl : del (X ++ mutA d) H d.vl = some (.lst (h.v.map V.int))
  cs : ClsAt A (del (X ++ mutA d) H) d.cl h.clusters
  js : JetsAt A (del (X ++ mutA d) H) d.jl h.jets
  inv : HInv h
theorem GainAt.mono {A : Ad} {H H' : Hp} {a : Addr} {g : Sj24.Gain} (h : GainAt A H a g) (s : Same H H') : GainAt A H' a g := by
  obtain ⟨dx, e⟩ := h
  exact ⟨dx, s _ _ e⟩
theorem mem_mutA {d : Cd} {b : Addr} : b ∈ mutA d ↔ b = d.c ∨ b = d.gl ∨ b = d.el ∨ b = d.tl ∨ b = d.fl := by
  simp [mutA]
section
variable {A : Ad} {H H' : Hp} {d : Cd} {h : House} {X : List Addr}
/-- each changing object is tracked -/
theorem CalS.mut_some (s : CalS A H d h X) {b : Addr} (hb : b ∈ mutA d) : H b ≠ none := by
  rcases mem_mutA.mp hb with rfl | rfl | rfl | rfl | rfl
  · rw [s.cal]; simp
  · rw [s.gl]; simp
  · rw [s.el]; simp
  · rw [s.tl]; simp
  · rw [s.fl]; simp
/-- what is new is none of these -/
theorem CalS.new_off (s : CalS A H d h X) {b : Addr} (hb : H b = none) : b ∉ X ++ mutA d := fun q => by
  rcases List.mem_append.mp q with q | q
  · exact s.xn b q hb
  · exact s.mut_some q hb
/-- all stands where something else changes: the X, or new objects -/
theorem CalS.keep (s : CalS A H d h X) (k : ∀ b o, H b = some o → b ∉ X → H' b = some o) (kx : ∀ b ∈ X, H' b ≠ none) : CalS A H' d h X := by
  have km : ∀ b ∈ mutA d, ∀ o, H b = some o → H' b = some o := fun b hb o e => k b o e fun hx => s.xm b hx hb
  have f : Same (del (X ++ mutA d) H) (del (X ++ mutA d) H') := del_mono (fun b o e hb => k b o e fun hx => hb (List.mem_append_left _ hx)) fun b hb hb' => absurd hb hb'
  exact ⟨km _ (by simp [mutA]) _ s.cal, km _ (by simp [mutA]) _ s.gl, km _ (by simp [mutA]) _ s.el, km _ (by simp [mutA]) _ s.tl, km _ (by simp [mutA]) _ s.fl, s.nd, s.xm, kx,
    f _ _ s.bl, s.gs.mono fun a g q => q.mono f, f _ _ s.wl, f _ _ s.vl, s.cs.mono f, s.js.mono f, s.inv⟩
theorem CalS.grow (s : CalS A H d h X) (k : Same H H') : CalS A H' d h X := s.keep (fun b o e _ => k b o e) fun b hb z => by
  have := s.xn b hb
  exact this (k.free z)
theorem CalS.updX (s : CalS A H d h X) {b : Addr} {o : HO} (hb : b ∈ X) : CalS A (upd H b o) d h X := s.keep (fun c u e hc => by
  rw [upd_ne (fun z => hc (by rw [z]; exact hb))]
  exact e) fun c hc z => by
    by_cases e : c = b
    · rw [e, upd_same] at z
      cases z
    · rw [upd_ne e] at z
      exact s.xn c hc z
theorem CalS.up (s : CalS A H d h X) : Same (del (X ++ mutA d) H) H := del_le
end
def zeros : HO := .lst ((List.replicate 1024 (0 : Int)).map V.int)
theorem rep_one (n : Nat) (z : Int) : (List.replicate n [V.int z]).flatten = (List.replicate n z).map V.int := by
  induction n with
  | zero => rfl
  | succ n ih =>
    rw [List.replicate_succ, List.flatten_cons, ih, List.replicate_succ, List.map_cons]
    rfl
def house0 (x y r : Int) : House := ⟨x, y, r, List.replicate 4 Sj24.gain1, List.replicate 8 1, List.replicate 8 0, List.replicate 1024 Sj24.none_, [], []⟩
theorem house0_es (x y r : Int) : esV (house0 x y r) = (List.replicate 1024 (0 : Int)).map V.int := by
  unfold esV es house0
  rw [List.map_replicate]
  rfl
theorem house0_ts (x y r : Int) : tsV (house0 x y r) = (List.replicate 1024 (0 : Int)).map V.int := by
  unfold tsV house0
  rw [List.map_replicate]
  rfl
theorem house0_fs (x y r : Int) : fsV (house0 x y r) = (List.replicate 1024 (0 : Int)).map V.int := by
  unfold fsV house0
  rw [List.map_replicate]
  rfl
theorem gain1_ok : GainOk Sj24.gain1 := ⟨by decide, by decide, by decide, by decide, by decide⟩
def sp_Blocks___init__ (K : PySem.W.Frag) (A : Ad) : Sp := fun vs H Q _ => ∃ (x dx : Addr), vs = [.ref x] ∧ H x = some (.ins A.CBlocks dx []) ∧
  ∀ (H' : Hp) (el tl fl : Addr), H' x = some (.ins A.CBlocks dx (blkF el tl fl)) → SameBut x H H' → H el = none → H tl = none → H fl = none → el ≠ tl → el ≠ fl → tl ≠ fl → H' el = some zeros → H' tl = some zeros → H' fl = some zeros → Q .non H'
def sp_Blocks_put (K : PySem.W.Frag) (A : Ad) : Sp := fun vs H Q _ => ∃ (x dx el tl fl : Addr) (b : Nat) (e t f : V) (es ts fs : List V), vs = [.ref x, .int (b : Int), e, t, f] ∧ H x = some (.ins A.CBlocks dx (blkF el tl fl)) ∧
  H el = some (.lst es) ∧ H tl = some (.lst ts) ∧ H fl = some (.lst fs) ∧ es.length = 1024 ∧ ts.length = 1024 ∧ fs.length = 1024 ∧ b < 1024 ∧ el ≠ tl ∧ el ≠ fl ∧ tl ≠ fl ∧
  Q .non (upd (upd (upd H el (.lst (es.set b e))) tl (.lst (ts.set b t))) fl (.lst (fs.set b f)))
def sp_Calorimeter___init__ (K : PySem.W.Frag) (A : Ad) : Sp := fun vs H Q _ => ∃ (x dx : Addr) (l lo r : Int) (X : List Addr), vs = [.ref x, .int l, .int lo, .int r] ∧ H x = some (.ins A.CCalorimeter dx []) ∧ (∀ b ∈ X, H b ≠ none ∧ b ≠ x) ∧ 1 ≤ lo ∧ lo ≤ l ∧ (1 ≤ r ∧ r ≤ 1024) ∧
  ∀ (H' : Hp) (d : Cd), d.c = x → CalS A H' d (house0 l lo r) X → SameBut x H H' → Q .non H'
def sp_Calorimeter_forget (K : PySem.W.Frag) (A : Ad) : Sp := fun vs H Q _ => ∃ (d : Cd) (h : House) (X : List Addr), vs = [.ref d.c] ∧ CalS A H d h X ∧
  ∀ (H' : Hp) (d' : Cd), d'.c = d.c → CalS A H' d' { h with blocks := List.replicate Sj24.BLOCKS Sj24.none_, clusters := [], jets := [] } X → SameBut d.c H H' → Q .non H'
theorem ix_of {xs : List V} {b : Nat} (h : b < xs.length) : ixN xs.length (b : Int) = some b := by
  unfold ixN
  rw [if_pos (by omega), if_pos (by omega)]
  simp
section
variable {P : Program} {w : World} {K : PySem.W.Frag} {mg : Str → Option Value} {base : Heap} {A : Ad}
theorem ok_Blocks___init__ {f : Addr} {fd : FuncData} (F : Fun K "__init__" "Blocks.__init__" s_Blocks___init__ f fd) (T : Txt K mg A) : FnOk P w K mg base CX0 1 f fd ["self"] (sp_Blocks___init__ K A) := by
  refine F.ok sc_Blocks___init__ (fun vs H Q E h => ?_) (fun cdv _ outer s H vs Q E hr h => ?_)
  · obtain ⟨x, dx, rfl, _⟩ := h
    rfl
  · obtain ⟨x, dx, rfl, hx, k⟩ := h
    refine ⟨_, (pss_cons (ps_fld (pv 0) (pe_op op_rep (pe_lst (pa_cons (pe_int) pa_nil)) (pe_cst rfl T.c_MANY_BLOCKS)) rfl)
      (pss_cons (ps_fld (pv 0) (pe_op op_rep (pe_lst (pa_cons (pe_int) pa_nil)) (pe_cst rfl T.c_MANY_BLOCKS)) rfl)
      (pss_one (ps_fld (pv 0) (pe_op op_rep (pe_lst (pa_cons (pe_int) pa_nil)) (pe_cst rfl T.c_MANY_BLOCKS)) rfl)))), ?_⟩
    have n := T.k_Blocks.na
    have cl := T.k_Blocks.cl
    refine ⟨(by show 1 ≤ sizeLine; decide), fun l1 h1 => ⟨l1, 1024, _, rfl, rfl, upd_same, by decide, by decide, (by show 1 * 1024 ≤ sizeLine; decide), fun el he => ?_⟩⟩
    have s1 : Same H (upd H l1 (.lst [V.int 0])) := Same.upd_new h1
    have s2 : Same _ (upd (upd H l1 (.lst [V.int 0])) el (.lst (List.replicate (1024 : Int).toNat [V.int 0]).flatten)) := Same.upd_new he
    have hx2 := s2 _ _ (s1 _ _ hx)
    refine ⟨_, rfl, x, _, dx, _, rfl, hx2, cl, n _ (by simp), (by show 0 < 1000; decide), ?_⟩
    rw [ini_Blocks_energies]
    have nex : el ≠ x := (ne_of_none (s1 _ _ hx) he).symm
    refine ⟨(by show 1 ≤ sizeLine; decide), fun l2 h2 => ⟨l2, 1024, _, rfl, rfl, upd_same, by decide, by decide, (by show 1 * 1024 ≤ sizeLine; decide), fun tl ht => ?_⟩⟩
    generalize hH3 : upd (upd (upd H l1 (.lst [V.int 0])) el (.lst (List.replicate (1024 : Int).toNat [V.int 0]).flatten)) x (.ins A.CBlocks dx [("energies", V.ref el)]) = H3 at h2 ht ⊢
    have b3 : SameBut x H H3 := by
      rw [← hH3]
      exact (SameBut.of (s1.trans s2)).trans SameBut.put
    have hx3 : H3 x = some (.ins A.CBlocks dx [("energies", V.ref el)]) := by rw [← hH3]; exact upd_same
    have he3 : H3 el = some zeros := by
      rw [← hH3, upd_ne nex, upd_same, rep_one]
      rfl
    have s4 : Same H3 (upd H3 l2 (.lst [V.int 0])) := Same.upd_new h2
    have s5 : Same _ (upd (upd H3 l2 (.lst [V.int 0])) tl (.lst (List.replicate (1024 : Int).toNat [V.int 0]).flatten)) := Same.upd_new ht
    have hx5 := s5 _ _ (s4 _ _ hx3)
    refine ⟨_, rfl, x, _, dx, _, rfl, hx5, cl, n _ (by simp), (by show 1 < 1000; decide), ?_⟩
    rw [ini_Blocks_times]
    have ntx : tl ≠ x := (ne_of_none (s4 _ _ hx3) ht).symm
    have net : el ≠ tl := ne_of_none (s4 _ _ he3) ht
    have ht3 : H3 tl = none := s4.free ht
    refine ⟨(by show 1 ≤ sizeLine; decide), fun l3 h3 => ⟨l3, 1024, _, rfl, rfl, upd_same, by decide, by decide, (by show 1 * 1024 ≤ sizeLine; decide), fun fl hf => ?_⟩⟩
    generalize hH6 : upd (upd (upd H3 l2 (.lst [V.int 0])) tl (.lst (List.replicate (1024 : Int).toNat [V.int 0]).flatten)) x (.ins A.CBlocks dx [("energies", V.ref el), ("times", V.ref tl)]) = H6 at h3 hf ⊢
    have b6 : SameBut x H3 H6 := by
      rw [← hH6]
      exact (SameBut.of (s4.trans s5)).trans SameBut.put
    have hx6 : H6 x = some (.ins A.CBlocks dx [("energies", V.ref el), ("times", V.ref tl)]) := by rw [← hH6]; exact upd_same
    have ht6 : H6 tl = some zeros := by
      rw [← hH6, upd_ne ntx, upd_same, rep_one]
      rfl
    have he6 : H6 el = some zeros := b6 _ _ he3 nex
    have s7 : Same H6 (upd H6 l3 (.lst [V.int 0])) := Same.upd_new h3
    have s8 : Same _ (upd (upd H6 l3 (.lst [V.int 0])) fl (.lst (List.replicate (1024 : Int).toNat [V.int 0]).flatten)) := Same.upd_new hf
    have hx8 := s8 _ _ (s7 _ _ hx6)
    refine ⟨_, rfl, x, _, dx, _, rfl, hx8, cl, n _ (by simp), (by show 2 < 1000; decide), ?_⟩
    rw [ini_Blocks_flags]
    have nfx : fl ≠ x := (ne_of_none (s7 _ _ hx6) hf).symm
    have nef : el ≠ fl := ne_of_none (s7 _ _ he6) hf
    have ntf : tl ≠ fl := ne_of_none (s7 _ _ ht6) hf
    have hf6 : H6 fl = none := s7.free hf
    refine k _ el tl fl upd_same ((b3.trans b6).trans ((SameBut.of (s7.trans s8)).trans SameBut.put)) (s1.free he) (b3.free ht3 ntx) ((b3.trans b6).free hf6 nfx) net nef ntf ?_ ?_ ?_
    · rw [upd_ne nex]
      exact s8 _ _ (s7 _ _ he6)
    · rw [upd_ne ntx]
      exact s8 _ _ (s7 _ _ ht6)
    · rw [upd_ne nfx, upd_same, rep_one]
      rfl
theorem ok_Blocks_put {f : Addr} {fd : FuncData} (F : Fun K "put" "Blocks.put" s_Blocks_put f fd) (T : Txt K mg A) : FnOk P w K mg base CX0 1 f fd ["self", "block", "energy", "time", "flag"] (sp_Blocks_put K A) := by
  refine F.ok sc_Blocks_put (fun vs H Q E h => ?_) (fun cdv _ outer s H vs Q E hr h => ?_)
  · obtain ⟨x, dx, el, tl, fl, b, e, t, f, es, ts, fs, rfl, _⟩ := h
    rfl
  · obtain ⟨x, dx, el, tl, fl, b, e, t, f', es, ts, fs, rfl, hx, he, ht, hf, le, lt, lf, hb, n1, n2, n3, k⟩ := h
    refine ⟨_, (pss_cons (ps_asg (pv 2) (pg_sub (pe_fldK (K := K) (pv 0) rfl) (pv 1) set_list))
      (pss_cons (ps_asg (pv 3) (pg_sub (pe_fldK (K := K) (pv 0) rfl) (pv 1) set_list))
      (pss_one (ps_asg (pv 4) (pg_sub (pe_fldK (K := K) (pv 0) rfl) (pv 1) set_list))))), ?_⟩
    have n := T.k_Blocks.na
    have cl := T.k_Blocks.cl
    have nx : ∀ {a : Addr} {xs : List V}, H a = some (.lst xs) → x ≠ a := fun q => ne_of hx q (by intro z; cases z)
    refine ⟨_, rfl, _, rfl, x, _, dx, _, _, rfl, hx, cl, n _ (by simp), lk_Blocks_energies, _, rfl, el, _, _, b, rfl, rfl, he, ix_of (by omega), ?_⟩
    have hx1 : upd H el (.lst (es.set b e)) x = some (.ins A.CBlocks dx (blkF el tl fl)) := by rw [upd_ne (nx he)]; exact hx
    have ht1 : upd H el (.lst (es.set b e)) tl = some (.lst ts) := by rw [upd_ne n1.symm]; exact ht
    refine ⟨_, rfl, _, rfl, x, _, dx, _, _, rfl, hx1, cl, n _ (by simp), lk_Blocks_times, _, rfl, tl, _, _, b, rfl, rfl, ht1, ix_of (by omega), ?_⟩
    have hx2 : upd (upd H el (.lst (es.set b e))) tl (.lst (ts.set b t)) x = some (.ins A.CBlocks dx (blkF el tl fl)) := by rw [upd_ne (nx ht)]; exact hx1
    have hf2 : upd (upd H el (.lst (es.set b e))) tl (.lst (ts.set b t)) fl = some (.lst fs) := by rw [upd_ne n3.symm, upd_ne n2.symm]; exact hf
    exact ⟨_, rfl, _, rfl, x, _, dx, _, _, rfl, hx2, cl, n _ (by simp), lk_Blocks_flags, _, rfl, fl, _, _, b, rfl, rfl, hf2, ix_of (by omega), k⟩
theorem ok_Calorimeter___init__ {f : Addr} {fd : FuncData} (F : Fun K "__init__" "Calorimeter.__init__" s_Calorimeter___init__ f fd) (T : Txt K mg A) (C_Blocks___init__ : CalC P w K mg base 1 "Blocks" A.CBlocks ["self"] (sp_Blocks___init__ K A)) (C_Gain___init__ : CalC P w K mg base 1 "Gain" A.CGain ["self", "mul", "shift", "zero"] (sp_Gain___init__ K A)) : FnOk P w K mg base CX0 3 f fd ["self", "least", "low", "reach"] (sp_Calorimeter___init__ K A) := by
  refine F.ok sc_Calorimeter___init__ (fun vs H Q E h => ?_) (fun cdv _ outer s H vs Q E hr h => ?_)
  · obtain ⟨x, dx, l, lo, r, X, rfl, _⟩ := h
    rfl
  · obtain ⟨x, dx, l, lo, r, X, rfl, hx, hX, h1, h2, hrr, k⟩ := h
    refine ⟨_, (pss_cons (ps_fld (pv 0) (pv 1) rfl)
      (pss_cons (ps_fld (pv 0) (pv 2) rfl)
      (pss_cons (ps_fld (pv 0) (pv 3) rfl)
      (pss_cons (ps_fld (pv 0) (pe_lc (own := [("k", 4)]) (g := gName 4) (tt := tYes) rfl sc_Calorimeter___init__.nd (pi_range1 (by rfl) T.b_range (pa_cons (pe_cst rfl T.c_MANY_GAINS) pa_nil)) (blkOk_by (own := [("k", 4)]) (N := n_Calorimeter___init__) (sc := defScope s_Calorimeter___init__) (by decide +kernel)) (fun _ _ _ _ _ => (pg_name (i := 4) sc_Calorimeter___init__.nd rfl (Or.inl rfl))) (fun _ _ _ _ _ => pts_nil) (fun _ _ _ _ _ => pe_mk C_Gain___init__ (hr.mono (by decide)) (by rfl) (pa_cons (pe_int) (pa_cons (pe_int) (pa_cons (pe_int) pa_nil))))) rfl)
      (pss_cons (ps_fld (pv 0) (pe_op op_rep (pe_lst (pa_cons (pe_int) pa_nil)) (pe_cst rfl T.c_MANY_WEIGHTS)) rfl)
      (pss_cons (ps_fld (pv 0) (pe_op op_rep (pe_lst (pa_cons (pe_int) pa_nil)) (pe_cst rfl T.c_MANY_WEIGHTS)) rfl)
      (pss_cons (ps_fld (pv 0) (pe_mk0 C_Blocks___init__ (hr.mono (by decide)) (by rfl)) rfl)
      (pss_cons (ps_fld (pv 0) (pe_lst pa_nil) rfl)
      (pss_one (ps_fld (pv 0) (pe_lst pa_nil) rfl)))))))))), ?_⟩
    have n := T.k_Calorimeter.na
    have cl := T.k_Calorimeter.cl
    refine ⟨_, rfl, _, rfl, x, _, dx, _, rfl, hx, cl, n _ (by simp), (by show 0 < 1000; decide), ?_⟩
    refine ⟨_, rfl, _, rfl, x, _, dx, _, rfl, upd_same, cl, n _ (by simp), (by show 1 < 1000; decide), ?_⟩
    rw [upd_upd, ini_Calorimeter_least, ini_Calorimeter_low]
    refine ⟨_, rfl, _, rfl, x, _, dx, _, rfl, upd_same, cl, n _ (by simp), (by show 2 < 1000; decide), ?_⟩
    rw [upd_upd, ini_Calorimeter_reach]
    generalize hH3 : upd H x (.ins A.CCalorimeter dx [("least", V.int l), ("low", V.int lo), ("reach", V.int r)]) = H3
    have b3 : SameBut x H H3 := by
      rw [← hH3]
      exact SameBut.put
    have hx3 : H3 x = some (.ins A.CCalorimeter dx [("least", V.int l), ("low", V.int lo), ("reach", V.int r)]) := by rw [← hH3]; exact upd_same
    -- gains
    refine ⟨4, rfl, by decide, by decide, fun gl hgl => ?_⟩
    refine lc_range0 (n := 4) (fun i H' => ∃ gas : List Addr, Same H3 H' ∧ H' gl = some (.lst (gas.map V.ref)) ∧ Rep (fun a g => GainAt A H' a g ∧ a ≠ gl ∧ H3 a = none) gas (List.replicate i Sj24.gain1))
      ⟨[], Same.upd_new hgl, upd_same, Rep.nil⟩ ?_ ?_
    · rintro i H4 hi ⟨gas, s4, hg4, R4⟩
      refine ⟨rfl, fun z dz nz nd ne => ⟨z, dz, _, _, _, rfl, upd_same, fun H5 e5 k5 => ⟨rfl, ?_⟩⟩⟩
      have s5 : Same H4 H5 := Same.made nz nd k5
      have zg : z ≠ gl := (ne_of_none hg4 nz).symm
      have hlen : gas.length = i := by rw [R4.len, List.length_replicate]
      refine ⟨_, s5 _ _ hg4, small' (by rw [List.length_map, hlen]; omega), gas ++ [z], Same.upd_keep (s4.trans s5) hgl, by rw [upd_same, List.map_append]; rfl, ?_⟩
      have er : List.replicate (i + 1) Sj24.gain1 = List.replicate i Sj24.gain1 ++ [Sj24.gain1] := List.replicate_succ'
      rw [er]
      refine Rep.push (R4.mono fun a g q => ?_) ⟨⟨dz, by rw [upd_ne zg]; exact e5⟩, zg, s4.free nz⟩
      obtain ⟨⟨dg, eg⟩, ng, n3⟩ := q
      exact ⟨⟨dg, by rw [upd_ne ng]; exact s5 _ _ eg⟩, ng, n3⟩
    · rintro H4 ⟨gas, s4, hg4, R4⟩
      have hx4 := s4 _ _ hx3
      refine ⟨_, rfl, x, _, dx, _, rfl, hx4, cl, n _ (by simp), (by show 3 < 1000; decide), ?_⟩
      rw [ini_Calorimeter_gains]
      have ngx : gl ≠ x := (ne_of_none hx3 hgl).symm
      generalize hH5 : upd H4 x (.ins A.CCalorimeter dx [("least", V.int l), ("low", V.int lo), ("reach", V.int r), ("gains", V.ref gl)]) = H5
      have b5 : SameBut x H4 H5 := by
        rw [← hH5]
        exact SameBut.put
      have hx5 : H5 x = some (.ins A.CCalorimeter dx [("least", V.int l), ("low", V.int lo), ("reach", V.int r), ("gains", V.ref gl)]) := by rw [← hH5]; exact upd_same
      have hg5 := b5 _ _ hg4 ngx
      -- w
      refine ⟨(by show 1 ≤ sizeLine; decide), fun l1 h1' => ⟨l1, 8, _, rfl, rfl, upd_same, by decide, by decide, (by show 1 * 8 ≤ sizeLine; decide), fun wl hwl => ?_⟩⟩
      have s6 : Same H5 (upd (upd H5 l1 (.lst [V.int 1])) wl (.lst (List.replicate (8 : Int).toNat [V.int 1]).flatten)) := (Same.upd_new h1').trans (Same.upd_new hwl)
      have hx6 := s6 _ _ hx5
      refine ⟨_, rfl, x, _, dx, _, rfl, hx6, cl, n _ (by simp), (by show 4 < 1000; decide), ?_⟩
      rw [ini_Calorimeter_w]
      have hwl5 : H5 wl = none := (Same.upd_new h1').free hwl
      have nwx : wl ≠ x := (ne_of_none hx5 hwl5).symm
      generalize hH7 : upd (upd (upd H5 l1 (.lst [V.int 1])) wl (.lst (List.replicate (8 : Int).toNat [V.int 1]).flatten)) x (.ins A.CCalorimeter dx [("least", V.int l), ("low", V.int lo), ("reach", V.int r), ("gains", V.ref gl), ("w", V.ref wl)]) = H7
      have b7 : SameBut x H5 H7 := by
        rw [← hH7]
        exact (SameBut.of s6).trans SameBut.put
      have hx7 : H7 x = some (.ins A.CCalorimeter dx [("least", V.int l), ("low", V.int lo), ("reach", V.int r), ("gains", V.ref gl), ("w", V.ref wl)]) := by rw [← hH7]; exact upd_same
      have hw7 : H7 wl = some (.lst ((List.replicate 8 (1 : Int)).map V.int)) := by
        rw [← hH7, upd_ne nwx, upd_same, rep_one]
        rfl
      have hg7 := b7 _ _ hg5 ngx
      -- v
      refine ⟨(by show 1 ≤ sizeLine; decide), fun l2 h2' => ⟨l2, 8, _, rfl, rfl, upd_same, by decide, by decide, (by show 1 * 8 ≤ sizeLine; decide), fun vl hvl => ?_⟩⟩
      have s8 : Same H7 (upd (upd H7 l2 (.lst [V.int 0])) vl (.lst (List.replicate (8 : Int).toNat [V.int 0]).flatten)) := (Same.upd_new h2').trans (Same.upd_new hvl)
      have hx8 := s8 _ _ hx7
      refine ⟨_, rfl, x, _, dx, _, rfl, hx8, cl, n _ (by simp), (by show 5 < 1000; decide), ?_⟩
      rw [ini_Calorimeter_v]
      have hvl7 : H7 vl = none := (Same.upd_new h2').free hvl
      have nvx : vl ≠ x := (ne_of_none hx7 hvl7).symm
      generalize hH9 : upd (upd (upd H7 l2 (.lst [V.int 0])) vl (.lst (List.replicate (8 : Int).toNat [V.int 0]).flatten)) x (.ins A.CCalorimeter dx [("least", V.int l), ("low", V.int lo), ("reach", V.int r), ("gains", V.ref gl), ("w", V.ref wl), ("v", V.ref vl)]) = H9
      have b9 : SameBut x H7 H9 := by
        rw [← hH9]
        exact (SameBut.of s8).trans SameBut.put
      have hx9 : H9 x = some (.ins A.CCalorimeter dx [("least", V.int l), ("low", V.int lo), ("reach", V.int r), ("gains", V.ref gl), ("w", V.ref wl), ("v", V.ref vl)]) := by rw [← hH9]; exact upd_same
      have hv9 : H9 vl = some (.lst ((List.replicate 8 (0 : Int)).map V.int)) := by
        rw [← hH9, upd_ne nvx, upd_same, rep_one]
        rfl
      have hw9 := b9 _ _ hw7 nwx
      have hg9 := b9 _ _ hg7 ngx
      -- blocks
      intro bl dxb nbl ndb neb
      refine ⟨bl, dxb, rfl, upd_same, fun H10 el tl fl e10 k10 zel ztl zfl n1 n2 n3 g1 g2 g3 => ⟨rfl, ?_⟩⟩
      have s10 : Same H9 H10 := Same.made nbl ndb k10
      have p9 : Same H9 (upd (upd H9 dxb (.own bl)) bl (.ins A.CBlocks dxb [])) := fun b o e => by
        rw [upd_ne (ne_of_none e nbl), upd_ne (ne_of_none e ndb)]
        exact e
      have zel9 : H9 el = none := p9.free zel
      have ztl9 : H9 tl = none := p9.free ztl
      have zfl9 : H9 fl = none := p9.free zfl
      have nbe : bl ≠ el := ne_of e10 g1 (by intro z; cases z)
      have nbt : bl ≠ tl := ne_of e10 g2 (by intro z; cases z)
      have nbf : bl ≠ fl := ne_of e10 g3 (by intro z; cases z)
      have hx10 := s10 _ _ hx9
      refine ⟨_, rfl, x, _, dx, _, rfl, hx10, cl, n _ (by simp), (by show 6 < 1000; decide), ?_⟩
      rw [ini_Calorimeter_blocks]
      have nbx : bl ≠ x := (ne_of_none hx9 nbl).symm
      have nex : el ≠ x := (ne_of_none hx9 zel9).symm
      have ntx : tl ≠ x := (ne_of_none hx9 ztl9).symm
      have nfx : fl ≠ x := (ne_of_none hx9 zfl9).symm
      -- clusters
      refine ⟨Nat.zero_le _, fun cl' hcl => ?_⟩
      generalize hH11 : upd H10 x (.ins A.CCalorimeter dx [("least", V.int l), ("low", V.int lo), ("reach", V.int r), ("gains", V.ref gl), ("w", V.ref wl), ("v", V.ref vl), ("blocks", V.ref bl)]) = H11 at hcl ⊢
      have b11 : SameBut x H10 H11 := by
        rw [← hH11]
        exact SameBut.put
      have hx11 : H11 x = some (.ins A.CCalorimeter dx [("least", V.int l), ("low", V.int lo), ("reach", V.int r), ("gains", V.ref gl), ("w", V.ref wl), ("v", V.ref vl), ("blocks", V.ref bl)]) := by rw [← hH11]; exact upd_same
      have s12 : Same H11 (upd H11 cl' (.lst [])) := Same.upd_new hcl
      have ncx : cl' ≠ x := (ne_of_none hx11 hcl).symm
      refine ⟨_, rfl, x, _, dx, _, rfl, s12 _ _ hx11, cl, n _ (by simp), (by show 7 < 1000; decide), ?_⟩
      rw [ini_Calorimeter_clusters]
      -- jets
      refine ⟨Nat.zero_le _, fun jl hjl => ?_⟩
      generalize hH13 : upd (upd H11 cl' (.lst [])) x (.ins A.CCalorimeter dx [("least", V.int l), ("low", V.int lo), ("reach", V.int r), ("gains", V.ref gl), ("w", V.ref wl), ("v", V.ref vl), ("blocks", V.ref bl), ("clusters", V.ref cl')]) = H13 at hjl ⊢
      have b13 : SameBut x H11 H13 := by
        rw [← hH13]
        exact (SameBut.of s12).trans SameBut.put
      have hx13 : H13 x = some (.ins A.CCalorimeter dx [("least", V.int l), ("low", V.int lo), ("reach", V.int r), ("gains", V.ref gl), ("w", V.ref wl), ("v", V.ref vl), ("blocks", V.ref bl), ("clusters", V.ref cl')]) := by rw [← hH13]; exact upd_same
      have hc13 : H13 cl' = some (.lst []) := by
        rw [← hH13, upd_ne ncx]
        exact upd_same
      have s14 : Same H13 (upd H13 jl (.lst [])) := Same.upd_new hjl
      have njx : jl ≠ x := (ne_of_none hx13 hjl).symm
      refine ⟨_, rfl, x, _, dx, _, rfl, s14 _ _ hx13, cl, n _ (by simp), (by show 8 < 1000; decide), ?_⟩
      rw [ini_Calorimeter_jets]
      generalize hH15 : upd (upd H13 jl (.lst [])) x (.ins A.CCalorimeter dx [("least", V.int l), ("low", V.int lo), ("reach", V.int r), ("gains", V.ref gl), ("w", V.ref wl), ("v", V.ref vl), ("blocks", V.ref bl), ("clusters", V.ref cl'), ("jets", V.ref jl)]) = H15
      have b15 : SameBut x H13 H15 := by
        rw [← hH15]
        exact (SameBut.of s14).trans SameBut.put
      have hx15 : H15 x = some (.ins A.CCalorimeter dx [("least", V.int l), ("low", V.int lo), ("reach", V.int r), ("gains", V.ref gl), ("w", V.ref wl), ("v", V.ref vl), ("blocks", V.ref bl), ("clusters", V.ref cl'), ("jets", V.ref jl)]) := by rw [← hH15]; exact upd_same
      have hj15 : H15 jl = some (.lst []) := by
        rw [← hH15, upd_ne njx]
        exact upd_same
      have b1015 : SameBut x H10 H15 := (b11.trans b13).trans b15
      have b915 : SameBut x H9 H15 := (SameBut.of s10).trans b1015
      have b09 : SameBut x H H9 := (((b3.trans (SameBut.of s4)).trans b5).trans b7).trans b9
      have b415 : SameBut x H4 H15 := ((b5.trans b7).trans b9).trans b915
      -- who is who
      have nge : gl ≠ el := ne_of_none hg9 zel9
      have ngt : gl ≠ tl := ne_of_none hg9 ztl9
      have ngf : gl ≠ fl := ne_of_none hg9 zfl9
      have off : ∀ b : Addr, b ∉ X → b ≠ x → b ≠ gl → b ≠ el → b ≠ tl → b ≠ fl → b ∉ X ++ mutA ⟨x, dx, gl, wl, vl, bl, dxb, el, tl, fl, cl', jl, gas⟩ := fun b q0 q1 q2 q3 q4 q5 q => by
        rcases List.mem_append.mp q with q | q
        · exact q0 q
        · rcases mem_mutA.mp q with q | q | q | q | q
          · exact q1 q
          · exact q2 q
          · exact q3 q
          · exact q4 q
          · exact q5 q
      have fx : ∀ b : Addr, H b = none → b ∉ X := fun b hb q => (hX b q).1 hb
      have hw0 : H wl = none := ((b3.trans (SameBut.of s4)).trans b5).free hwl5 nwx
      have hv0 : H vl = none := (((b3.trans (SameBut.of s4)).trans b5).trans b7).free hvl7 nvx
      have hb0 : H bl = none := b09.free nbl nbx
      have hc0 : H cl' = none := ((b09.trans (SameBut.of s10)).trans b11).free hcl ncx
      have hj0 : H jl = none := (((b09.trans (SameBut.of s10)).trans b11).trans b13).free hjl njx
      have he10 := b11 _ _ g1 nex
      have ht10 := b11 _ _ g2 ntx
      have hf10 := b11 _ _ g3 nfx
      have hg11 := b11 _ _ (s10 _ _ hg9) ngx
      refine k H15 ⟨x, dx, gl, wl, vl, bl, dxb, el, tl, fl, cl', jl, gas⟩ rfl ⟨hx15, b915 _ _ hg9 ngx, ?_, ?_, ?_, ?_, ?_, ?_, ?_, ?_, ?_, ?_, ?_, ?_, ?_⟩ (b09.trans b915)
      · rw [house0_es]
        exact b1015 _ _ g1 nex
      · rw [house0_ts]
        exact b1015 _ _ g2 ntx
      · rw [house0_fs]
        exact b1015 _ _ g3 nfx
      · show List.Nodup [x, gl, el, tl, fl]
        simp only [List.nodup_cons, List.mem_cons, List.not_mem_nil, or_false, not_or, List.nodup_nil, and_true, not_false_eq_true]
        exact ⟨⟨ngx.symm, nex.symm, ntx.symm, nfx.symm⟩, ⟨nge, ngt, ngf⟩, ⟨n1, n2⟩, n3⟩
      · intro b hb q
        have hbs := hX b hb
        rcases mem_mutA.mp q with q | q | q | q | q
        · exact hbs.2 q
        · exact hbs.1 (by rw [q]; exact b3.free hgl ngx)
        · exact hbs.1 (by rw [q]; exact b09.free zel9 nex)
        · exact hbs.1 (by rw [q]; exact b09.free ztl9 ntx)
        · exact hbs.1 (by rw [q]; exact b09.free zfl9 nfx)
      · intro b hb z
        have hbs := hX b hb
        exact hbs.1 ((b09.trans b915).free z hbs.2)
      · rw [del_at (off bl (fx _ hb0) nbx (ne_of_none hg9 nbl).symm nbe nbt nbf)]
        exact b1015 _ _ e10 nbx
      · refine R4.mono fun a g q => ?_
        obtain ⟨⟨dg, eg⟩, ng, na3⟩ := q
        have nax : a ≠ x := (ne_of_none hx3 na3).symm
        have e9 := ((b5.trans b7).trans b9) _ _ eg nax
        refine ⟨dg, ?_⟩
        rw [del_at (off a (fx _ (b3.free na3 nax)) nax ng (ne_of_none e9 zel9) (ne_of_none e9 ztl9) (ne_of_none e9 zfl9))]
        exact b915 _ _ e9 nax
      · rw [del_at (off wl (fx _ hw0) nwx (ne_of_none hg5 hwl5).symm (ne_of_none hw9 zel9) (ne_of_none hw9 ztl9) (ne_of_none hw9 zfl9))]
        exact b915 _ _ hw9 nwx
      · rw [del_at (off vl (fx _ hv0) nvx (ne_of_none hg7 hvl7).symm (ne_of_none hv9 zel9) (ne_of_none hv9 ztl9) (ne_of_none hv9 zfl9))]
        exact b915 _ _ hv9 nvx
      · refine ⟨[], ?_, Rep.nil⟩
        rw [del_at (off cl' (fx _ hc0) ncx (ne_of_none hg11 hcl).symm (ne_of_none he10 hcl).symm (ne_of_none ht10 hcl).symm (ne_of_none hf10 hcl).symm)]
        exact b15 _ _ hc13 ncx
      · refine ⟨[], ?_, Rep.nil⟩
        rw [del_at (off jl (fx _ hj0) njx (ne_of_none (b13 _ _ hg11 ngx) hjl).symm (ne_of_none (b13 _ _ he10 nex) hjl).symm (ne_of_none (b13 _ _ ht10 ntx) hjl).symm (ne_of_none (b13 _ _ hf10 nfx) hjl).symm)]
        exact hj15
      · refine ⟨List.length_replicate, fun b hb => ?_, h1, h2, hrr, List.length_replicate, fun g hg => ?_, List.length_replicate, fun z hz => ?_, List.length_replicate, fun z hz => ?_, by simp [house0], by simp [house0], by simp [house0]⟩
        · rw [List.eq_of_mem_replicate hb]
          decide
        · rw [List.eq_of_mem_replicate hg]
          exact gain1_ok
        · rw [List.eq_of_mem_replicate hz]
          decide
        · rw [List.eq_of_mem_replicate hz]
          decide
end
end Jb
end
section
set_option Elab.async false
set_option linter.all false
set_option maxHeartbeats 2000000
namespace Jb
open Sj24 (House)
open Sj24Neutral (callOf)
/-! ### the calls of a request, one by one -/
theorem call1 {ns : List Int} {q : Sj24.Call} (h : callOf (1 :: ns) = some q) : ∃ x y r, ns = [x, y, r] ∧ q = .open_ x y r := by
  rcases ns with _ | ⟨a, _ | ⟨b, _ | ⟨c, _ | ⟨d, r⟩⟩⟩⟩ <;> simp [callOf] at h
  exact ⟨a, b, c, rfl, h.symm⟩
theorem call2 {ns : List Int} {q : Sj24.Call} (h : callOf (2 :: ns) = some q) : ∃ k m s z, ns = [k, m, s, z] ∧ q = .gain k m s z := by
  rcases ns with _ | ⟨a, _ | ⟨b, _ | ⟨c, _ | ⟨d, _ | ⟨e, r⟩⟩⟩⟩⟩ <;> simp [callOf] at h
  exact ⟨a, b, c, d, rfl, h.symm⟩
theorem call3 {ns : List Int} {q : Sj24.Call} (h : callOf (3 :: ns) = some q) : ns.length = 16 ∧ q = .weights (ns.take 8) (ns.drop 8) := by
  have h' : (if ns.length = 16 then some (Sj24.Call.weights (ns.take 8) (ns.drop 8)) else none) = some q := by
    rcases ns with _ | ⟨a, _ | ⟨b, _ | ⟨c, _ | ⟨d, _ | ⟨e, r⟩⟩⟩⟩⟩ <;> simpa [callOf] using h
  by_cases e : ns.length = 16
  · rw [if_pos e] at h'
    exact ⟨e, (Option.some.inj h').symm⟩
  · rw [if_neg e] at h'
    cases h'
theorem call4 {ns : List Int} {q : Sj24.Call} (h : callOf (4 :: ns) = some q) : ∃ b k s, ns = b :: k :: s ∧ s.length = 8 ∧ q = .pulse b k s := by
  rcases ns with _ | ⟨a, _ | ⟨b, r⟩⟩
  · simp [callOf] at h
  · simp [callOf] at h
  · have h' : (if r.length = 8 then some (Sj24.Call.pulse a b r) else none) = some q := by
      rcases r with _ | ⟨c, _ | ⟨d, _ | ⟨e, r⟩⟩⟩ <;> simpa [callOf] using h
    by_cases e : r.length = 8
    · rw [if_pos e] at h'
      exact ⟨a, b, r, rfl, e, (Option.some.inj h').symm⟩
    · rw [if_neg e] at h'
      cases h'
theorem call5 {ns : List Int} {q : Sj24.Call} (h : callOf (5 :: ns) = some q) : ∃ b, ns = [b] ∧ q = .block b := by
  rcases ns with _ | ⟨a, _ | ⟨b, r⟩⟩ <;> simp [callOf] at h
  exact ⟨a, rfl, h.symm⟩
theorem call6 {ns : List Int} {q : Sj24.Call} (h : callOf (6 :: ns) = some q) : ns = [] ∧ q = .clusters := by
  rcases ns with _ | ⟨a, r⟩ <;> simp [callOf] at h
  exact ⟨rfl, h.symm⟩
theorem call7 {ns : List Int} {q : Sj24.Call} (h : callOf (7 :: ns) = some q) : ∃ b, ns = [b] ∧ q = .cluster b := by
  rcases ns with _ | ⟨a, _ | ⟨b, r⟩⟩ <;> simp [callOf] at h
  exact ⟨a, rfl, h.symm⟩
theorem call8 {ns : List Int} {q : Sj24.Call} (h : callOf (8 :: ns) = some q) : ∃ b, ns = [b] ∧ q = .parts b := by
  rcases ns with _ | ⟨a, _ | ⟨b, r⟩⟩ <;> simp [callOf] at h
  exact ⟨a, rfl, h.symm⟩
theorem call9 {ns : List Int} {q : Sj24.Call} (h : callOf (9 :: ns) = some q) : ns = [] ∧ q = .jets := by
  rcases ns with _ | ⟨a, r⟩ <;> simp [callOf] at h
  exact ⟨rfl, h.symm⟩
theorem call10 {ns : List Int} {q : Sj24.Call} (h : callOf (10 :: ns) = some q) : ∃ b, ns = [b] ∧ q = .jet b := by
  rcases ns with _ | ⟨a, _ | ⟨b, r⟩⟩ <;> simp [callOf] at h
  exact ⟨a, rfl, h.symm⟩
theorem call11 {ns : List Int} {q : Sj24.Call} (h : callOf (11 :: ns) = some q) : ns = [] ∧ q = .sums := by
  rcases ns with _ | ⟨a, r⟩ <;> simp [callOf] at h
  exact ⟨rfl, h.symm⟩
theorem call12 {ns : List Int} {q : Sj24.Call} (h : callOf (12 :: ns) = some q) : ∃ x y, ns = [x, y] ∧ q = .window x y := by
  rcases ns with _ | ⟨a, _ | ⟨b, _ | ⟨c, r⟩⟩⟩ <;> simp [callOf] at h
  exact ⟨a, b, rfl, h.symm⟩
theorem call13 {ns : List Int} {q : Sj24.Call} (h : callOf (13 :: ns) = some q) : ns = [] ∧ q = .clear := by
  rcases ns with _ | ⟨a, r⟩ <;> simp [callOf] at h
  exact ⟨rfl, h.symm⟩
theorem whole_id (c : List (List Int)) : PySj24.whole c = c := by
  unfold PySj24.whole
  split <;> rfl
theorem whole_map (cs : List (List (List Int))) : cs.map PySj24.whole = cs := by
  conv => rhs; rw [← List.map_id cs]
  exact List.map_congr_left fun c _ => whole_id c
/-- how many numbers a call has -/
def numbers : List Int := [0, 3, 4, 16, 10, 1, 0, 1, 1, 0, 1, 0, 2, 0]
theorem shape_cases {p : Int} {n k : Nat} (h : PySj24.shape p = some (n, k)) : k = 0 ∧ 1 ≤ p ∧ p ≤ 13 ∧ numbers[p.toNat]? = some (n : Int) := by
  by_cases hp : 1 ≤ p ∧ p ≤ 13
  · have c : p = 1 ∨ p = 2 ∨ p = 3 ∨ p = 4 ∨ p = 5 ∨ p = 6 ∨ p = 7 ∨ p = 8 ∨ p = 9 ∨ p = 10 ∨ p = 11 ∨ p = 12 ∨ p = 13 := by omega
    rcases c with rfl | rfl | rfl | rfl | rfl | rfl | rfl | rfl | rfl | rfl | rfl | rfl | rfl
    all_goals
      simp [PySj24.shape] at h
      obtain ⟨rfl, rfl⟩ := h
      exact ⟨rfl, by decide, by decide, by decide⟩
  · have e : PySj24.shape p = none := by
      unfold PySj24.shape
      rw [if_neg (by omega), if_neg (by omega), if_neg (by omega), if_neg (by omega), if_neg (by omega), if_neg (by omega), if_neg (by omega), if_neg (by omega), if_neg (by omega), if_neg (by omega), if_neg (by omega), if_neg (by omega), if_neg (by omega)]
    rw [e] at h
    cases h
theorem parse_step {f : Nat} {p : Int} {r : List Int} {cs : List (List (List Int))} (h : PyFlat.calls PySj24.shape f (p :: r) = some cs) :
    ∃ (f' n : Nat) (cs' : List (List (List Int))), 1 ≤ p ∧ p ≤ 13 ∧ numbers[p.toNat]? = some (n : Int) ∧ n ≤ r.length ∧ cs = [p :: r.take n] :: cs' ∧ PyFlat.calls PySj24.shape f' (r.drop n) = some cs' := by
  cases f with
  | zero => cases h
  | succ f =>
    have h1 : (match PyFlat.call PySj24.shape (p :: r) with
      | none => none
      | some (c, t) => match PyFlat.calls PySj24.shape f t with
        | none => none
        | some cs => some (c :: cs)) = some cs := h
    cases e : PySj24.shape p with
    | none =>
      have e2 : PyFlat.call PySj24.shape (p :: r) = none := by
        simp only [PyFlat.call, e]
      rw [e2] at h1
      cases h1
    | some nk =>
      obtain ⟨n, k⟩ := nk
      obtain ⟨rfl, h2, h3, h4⟩ := shape_cases e
      have e2 : PyFlat.call PySj24.shape (p :: r) = if r.length < n then none else some ([p :: r.take n], r.drop n) := by
        simp only [PyFlat.call, e]
        rfl
      rw [e2] at h1
      by_cases hl : r.length < n
      · rw [if_pos hl] at h1
        cases h1
      · rw [if_neg hl] at h1
        simp only at h1
        cases e3 : PyFlat.calls PySj24.shape f (r.drop n) with
        | none =>
          rw [e3] at h1
          cases h1
        | some cs' =>
          rw [e3] at h1
          cases h1
          exact ⟨f, n, cs', h2, h3, h4, by omega, rfl, e3⟩
theorem asked_parts {l : List Int} (h : PySj24.answers_asked l = true) : ∃ raw, PyFlat.calls PySj24.shape l.length l = some raw ∧ (∀ c ∈ raw, (callOf (c.headD [])).isSome = true) ∧ (PySj24.answers l).length ≤ 10000000 ∧
    PySj24.answers l = PyFlat.told (PyFlat.played Sj24Neutral.step Sj24Neutral.start raw) := by
  unfold PySj24.answers_asked at h
  cases e : PyFlat.calls PySj24.shape l.length l with
  | none =>
    rw [e] at h
    cases h
  | some raw =>
    rw [e] at h
    simp only [Bool.and_eq_true] at h
    obtain ⟨⟨⟨⟨_, _⟩, _⟩, h4⟩, h5⟩ := h
    rw [whole_map] at h4
    refine ⟨raw, rfl, fun c hc => ?_, of_decide_eq_true h5, ?_⟩
    · unfold Sj24Neutral.asked at h4
      rw [Bool.and_eq_true] at h4
      have a1 := List.all_eq_true.mp h4.1 c hc
      unfold Sj24Neutral.asked1 at a1
      simp only [Bool.and_eq_true] at a1
      exact a1.2.2
    · unfold PySj24.answers PySj24.calls
      rw [e]
      simp only [whole_map]
theorem told_cons (a : List Int) (r : List (List Int)) : PyFlat.told (a :: r) = (a.length : Int) :: a ++ PyFlat.told r := by
  unfold PyFlat.told
  rw [List.flatMap_cons]
end Jb
end
section
set_option Elab.async false
set_option linter.all false
set_option maxRecDepth 100000
set_option maxHeartbeats 2000000
namespace Jb
open PySem PySem.Spec PyProof.Rows L2
open Sj24 (House)
/-! ### the calls on a calorimeter, first part -/
section
variable {A : Ad} {H H' H1 : Hp} {d d' : Cd} {h : House} {X : List Addr}
theorem CalS.frozen (s : CalS A H d h X) (k : SameBut d.c H H') (hm : ∀ b ∈ mutA d', b ∈ mutA d ∨ H b = none) : Same (del (X ++ mutA d) H) (del (X ++ mutA d') H') := by
  refine del_mono (fun b o e hb => k b o e fun z => hb (List.mem_append_right _ (by rw [z]; simp [mutA]))) fun b hb hb' => ?_
  rcases List.mem_append.mp hb with q | q
  · exact absurd (List.mem_append_left _ q) hb'
  · rcases hm b q with r | r
    · exact absurd (List.mem_append_right _ r) hb'
    · exact r
theorem CalS.fresh (s : CalS A H d h X) (s1 : Same H H1) (k : SameBut d.c H1 H') (hm : ∀ b ∈ mutA d', b ∈ mutA d ∨ H1 b = none) : Same (minus H1 H) (del (X ++ mutA d') H') := fun b o e => by
  have hb := minus_off e
  rw [minus_at hb] at e
  have off := s.new_off hb
  have nc : b ≠ d.c := fun z => off (List.mem_append_right _ (by rw [z]; simp [mutA]))
  have off' : b ∉ X ++ mutA d' := fun q => by
    rcases List.mem_append.mp q with q | q
    · exact off (List.mem_append_left _ q)
    · rcases hm b q with r | r
      · exact off (List.mem_append_right _ r)
      · rw [e] at r; cases r
  rw [del_at off']
  exact k b o e nc
theorem CalS.nd5 (s : CalS A H d h X) : (d.c ≠ d.gl ∧ d.c ≠ d.el ∧ d.c ≠ d.tl ∧ d.c ≠ d.fl) ∧ (d.gl ≠ d.el ∧ d.gl ≠ d.tl ∧ d.gl ≠ d.fl) ∧ (d.el ≠ d.tl ∧ d.el ≠ d.fl) ∧ d.tl ≠ d.fl := by
  have q := s.nd
  simpa [mutA] using q
theorem CalS.cX (s : CalS A H d h X) : d.c ∉ X := fun q => s.xm _ q (by simp [mutA])
theorem CalS.sameX (s : CalS A H d h X) (k : SameBut d.c H H') : ∀ b ∈ X, H' b = H b := fun b hb => by
  cases e : H b with
  | none => exact absurd e (s.xn b hb)
  | some o => exact k b o e fun z => s.cX (by rw [← z]; exact hb)
end
def ansV (r : Sj24.Ans) : List V := (r.v :: r.l).map V.int
/-- what a call hands on: the calorimeter as the specification says, the answer in a new list -/
def OpK (A : Ad) (X : List Addr) (d : Cd) (r : House × Sj24.Ans) (H : Hp) (Q : VK) : Prop :=
  ∀ (d' : Cd) (H' : Hp) (p : Addr), d'.c = d.c → CalS A H' d' r.1 X → (∀ b ∈ X, H' b = H b) → H p = none → H' p = some (.lst (ansV r.2)) → Q (.ref p) H'
theorem OpK.read {A : Ad} {X : List Addr} {d : Cd} {h : House} {r : House × Sj24.Ans} {a : Sj24.Ans} {H H' : Hp} {Q : VK} {p : Addr} (k : OpK A X d r H Q) (s : CalS A H d h X) (e : r = (h, a)) (sm : Same H H') (hp : H p = none) (e' : H' p = some (.lst (ansV a))) : Q (.ref p) H' := by
  subst e
  exact k d H' p rfl (s.grow sm) (s.sameX (SameBut.of sm)) hp e'
theorem OpK.bad {A : Ad} {X : List Addr} {d : Cd} {h : House} {r : House × Sj24.Ans} {H H1 : Hp} {Q : VK} (k : OpK A X d r H Q) (s : CalS A H d h X) (e : r = (h, Sj24.just (-2))) (sm : Same H H1) (l : Addr) (hl : H1 l = none) : Q (.ref l) (upd H1 l (.lst [.int (-2)])) :=
  k.read s e (sm.trans (Same.upd_new hl)) (sm.free hl) upd_same
def spOp (code : Int) (A : Ad) : Sp := fun vs H Q _ => ∃ (d : Cd) (h : House) (X : List Addr) (np : Addr) (ns : List Int) (q : Sj24.Call), vs = [.ref d.c, .ref np] ∧ H np = some (.lst (ns.map V.int)) ∧ Sj24Neutral.callOf (code :: ns) = some q ∧ CalS A H d h X ∧ OpK A X d (Sj24.on h q) H Q
def sp_set_gain (K : PySem.W.Frag) (A : Ad) : Sp := spOp 2 A
def sp_set_weights (K : PySem.W.Frag) (A : Ad) : Sp := spOp 3 A
def sp_weigh_pulse (K : PySem.W.Frag) (A : Ad) : Sp := spOp 4 A
def sp_tell_block (K : PySem.W.Frag) (A : Ad) : Sp := spOp 5 A
def sp_find_clusters (K : PySem.W.Frag) (A : Ad) : Sp := spOp 6 A
def sp_tell_cluster (K : PySem.W.Frag) (A : Ad) : Sp := spOp 7 A
def sp_tell_parts (K : PySem.W.Frag) (A : Ad) : Sp := spOp 8 A
def sp_find_jets (K : PySem.W.Frag) (A : Ad) : Sp := spOp 9 A
def sp_tell_jet (K : PySem.W.Frag) (A : Ad) : Sp := spOp 10 A
def sp_tell_sums (K : PySem.W.Frag) (A : Ad) : Sp := spOp 11 A
def sp_tell_window (K : PySem.W.Frag) (A : Ad) : Sp := spOp 12 A
def sp_clear (K : PySem.W.Frag) (A : Ad) : Sp := spOp 13 A
def sp_opened (K : PySem.W.Frag) (A : Ad) : Sp := fun vs H Q _ => ∃ (np : Addr) (x y r : Int) (X : List Addr), vs = [.ref np] ∧ H np = some (.lst (([x, y, r] : List Int).map V.int)) ∧ (∀ b ∈ X, H b ≠ none) ∧
  ((!Sj24.isIn 1 Sj24.MOST y || !Sj24.isIn y Sj24.MOST x || !Sj24.isIn 1 1024 r) = true → Q .non H) ∧
  ((!Sj24.isIn 1 Sj24.MOST y || !Sj24.isIn y Sj24.MOST x || !Sj24.isIn 1 1024 r) = false → ∀ (H' : Hp) (d : Cd), Same H H' → CalS A H' d (house0 x y r) X → Q (.ref d.c) H')
theorem isIn_iff {a b z : Int} : Sj24.isIn a b z = true ↔ a ≤ z ∧ z ≤ b := by
  unfold Sj24.isIn
  rw [Bool.and_eq_true, decide_eq_true_eq, decide_eq_true_eq]
section
variable {P : Program} {w : World} {K : PySem.W.Frag} {mg : Str → Option Value} {base : Heap} {A : Ad}
theorem ok_Calorimeter_forget {f : Addr} {fd : FuncData} (F : Fun K "forget" "Calorimeter.forget" s_Calorimeter_forget f fd) (T : Txt K mg A) (C_Blocks___init__ : CalC P w K mg base 1 "Blocks" A.CBlocks ["self"] (sp_Blocks___init__ K A)) : FnOk P w K mg base CX0 3 f fd ["self"] (sp_Calorimeter_forget K A) := by
  refine F.ok sc_Calorimeter_forget (fun vs H Q E h => ?_) (fun cdv _ outer s H vs Q E hr h => ?_)
  · obtain ⟨d, h, X, rfl, _⟩ := h
    rfl
  · obtain ⟨d, h, X, rfl, s0, k⟩ := h
    refine ⟨_, (pss_cons (ps_fld (pv 0) (pe_mk0 C_Blocks___init__ (hr.mono (by decide)) (by rfl)) rfl)
      (pss_cons (ps_fld (pv 0) (pe_lst pa_nil) rfl)
      (pss_one (ps_fld (pv 0) (pe_lst pa_nil) rfl)))), ?_⟩
    have n := T.k_Calorimeter.na
    have cl := T.k_Calorimeter.cl
    intro bl dxb nbl ndb neb
    refine ⟨bl, dxb, rfl, upd_same, fun H1 el tl fl e1 k1 zel ztl zfl n1 n2 n3 g1 g2 g3 => ⟨rfl, ?_⟩⟩
    have s1 : Same H H1 := Same.made nbl ndb k1
    have p0 : Same H (upd (upd H dxb (.own bl)) bl (.ins A.CBlocks dxb [])) := fun b o e => by
      rw [upd_ne (ne_of_none e nbl), upd_ne (ne_of_none e ndb)]
      exact e
    have he0 : H el = none := p0.free zel
    have ht0 : H tl = none := p0.free ztl
    have hf0 : H fl = none := p0.free zfl
    have hx1 := s1 _ _ s0.cal
    refine ⟨_, rfl, d.c, _, d.dx, _, rfl, hx1, cl, n _ (by simp), (by show 9 < 1000; decide), ?_⟩
    unfold calF
    rw [put_Calorimeter_blocks]
    refine ⟨Nat.zero_le _, fun cl' hcl => ?_⟩
    generalize hH2 : upd H1 d.c (.ins A.CCalorimeter d.dx [("least", V.int h.seed), ("low", V.int h.low), ("reach", V.int h.reach), ("gains", V.ref d.gl), ("w", V.ref d.wl), ("v", V.ref d.vl), ("blocks", V.ref bl), ("clusters", V.ref d.cl), ("jets", V.ref d.jl)]) = H2 at hcl ⊢
    have b2 : SameBut d.c H1 H2 := by rw [← hH2]; exact SameBut.put
    have hx2 : H2 d.c = some (.ins A.CCalorimeter d.dx [("least", V.int h.seed), ("low", V.int h.low), ("reach", V.int h.reach), ("gains", V.ref d.gl), ("w", V.ref d.wl), ("v", V.ref d.vl), ("blocks", V.ref bl), ("clusters", V.ref d.cl), ("jets", V.ref d.jl)]) := by rw [← hH2]; exact upd_same
    have s3 : Same H2 (upd H2 cl' (.lst [])) := Same.upd_new hcl
    have ncx : cl' ≠ d.c := (ne_of_none hx2 hcl).symm
    refine ⟨_, rfl, d.c, _, d.dx, _, rfl, s3 _ _ hx2, cl, n _ (by simp), (by show 9 < 1000; decide), ?_⟩
    rw [put_Calorimeter_clusters]
    refine ⟨Nat.zero_le _, fun jl hjl => ?_⟩
    generalize hH4 : upd (upd H2 cl' (.lst [])) d.c (.ins A.CCalorimeter d.dx [("least", V.int h.seed), ("low", V.int h.low), ("reach", V.int h.reach), ("gains", V.ref d.gl), ("w", V.ref d.wl), ("v", V.ref d.vl), ("blocks", V.ref bl), ("clusters", V.ref cl'), ("jets", V.ref d.jl)]) = H4 at hjl ⊢
    have b4 : SameBut d.c H2 H4 := by rw [← hH4]; exact (SameBut.of s3).trans SameBut.put
    have hx4 : H4 d.c = some (.ins A.CCalorimeter d.dx [("least", V.int h.seed), ("low", V.int h.low), ("reach", V.int h.reach), ("gains", V.ref d.gl), ("w", V.ref d.wl), ("v", V.ref d.vl), ("blocks", V.ref bl), ("clusters", V.ref cl'), ("jets", V.ref d.jl)]) := by rw [← hH4]; exact upd_same
    have hc4 : H4 cl' = some (.lst []) := by rw [← hH4, upd_ne ncx]; exact upd_same
    have s5 : Same H4 (upd H4 jl (.lst [])) := Same.upd_new hjl
    have njx : jl ≠ d.c := (ne_of_none hx4 hjl).symm
    refine ⟨_, rfl, d.c, _, d.dx, _, rfl, s5 _ _ hx4, cl, n _ (by simp), (by show 9 < 1000; decide), ?_⟩
    rw [put_Calorimeter_jets]
    generalize hH6 : upd (upd H4 jl (.lst [])) d.c (.ins A.CCalorimeter d.dx [("least", V.int h.seed), ("low", V.int h.low), ("reach", V.int h.reach), ("gains", V.ref d.gl), ("w", V.ref d.wl), ("v", V.ref d.vl), ("blocks", V.ref bl), ("clusters", V.ref cl'), ("jets", V.ref jl)]) = H6
    have b6 : SameBut d.c H4 H6 := by rw [← hH6]; exact (SameBut.of s5).trans SameBut.put
    have hx6 : H6 d.c = some (.ins A.CCalorimeter d.dx [("least", V.int h.seed), ("low", V.int h.low), ("reach", V.int h.reach), ("gains", V.ref d.gl), ("w", V.ref d.wl), ("v", V.ref d.vl), ("blocks", V.ref bl), ("clusters", V.ref cl'), ("jets", V.ref jl)]) := by rw [← hH6]; exact upd_same
    have hj6 : H6 jl = some (.lst []) := by rw [← hH6, upd_ne njx]; exact upd_same
    have b16 : SameBut d.c H1 H6 := (b2.trans b4).trans b6
    have b06 : SameBut d.c H H6 := (SameBut.of s1).trans b16
    have nof : ∀ {b : Addr}, H b = none → ∀ a ∈ X ++ mutA d, b ≠ a := fun hb a ha z => s0.new_off hb (by rw [z]; exact ha)
    have inM : ∀ {a : Addr}, a ∈ mutA d → a ∈ X ++ mutA d := fun q => List.mem_append_right _ q
    have nec : el ≠ d.c := nof he0 _ (inM (by simp [mutA]))
    have ntc : tl ≠ d.c := nof ht0 _ (inM (by simp [mutA]))
    have nfc : fl ≠ d.c := nof hf0 _ (inM (by simp [mutA]))
    have neg' : el ≠ d.gl := nof he0 _ (inM (by simp [mutA]))
    have ntg : tl ≠ d.gl := nof ht0 _ (inM (by simp [mutA]))
    have nfg : fl ≠ d.gl := nof hf0 _ (inM (by simp [mutA]))
    have hcl0 : H cl' = none := ((SameBut.of s1).trans b2).free hcl ncx
    have hjl0 : H jl = none := (((SameBut.of s1).trans b2).trans b4).free hjl njx
    have hm : ∀ b ∈ mutA { d with bl := bl, dxb := dxb, el := el, tl := tl, fl := fl, cl := cl', jl := jl }, b ∈ mutA d ∨ H b = none := fun b hb => by
      rcases mem_mutA.mp hb with rfl | rfl | rfl | rfl | rfl
      · exact .inl (by simp [mutA])
      · exact .inl (by simp [mutA])
      · exact .inr he0
      · exact .inr ht0
      · exact .inr hf0
    have fz := s0.frozen b06 hm
    have off : ∀ b : Addr, H b = none → b ≠ el → b ≠ tl → b ≠ fl → b ∉ X ++ mutA { d with bl := bl, dxb := dxb, el := el, tl := tl, fl := fl, cl := cl', jl := jl } := fun b hb q3 q4 q5 q => by
      rcases List.mem_append.mp q with q | q
      · exact s0.new_off hb (List.mem_append_left _ q)
      · rcases mem_mutA.mp q with q | q | q | q | q
        · exact nof hb _ (inM (by simp [mutA])) q
        · exact nof hb _ (inM (by simp [mutA])) q
        · exact q3 q
        · exact q4 q
        · exact q5 q
    have nd := s0.nd5
    have g12 := b2 _ _ g1 nec
    have g22 := b2 _ _ g2 ntc
    have g32 := b2 _ _ g3 nfc
    have g14 := b4 _ _ g12 nec
    have g24 := b4 _ _ g22 ntc
    have g34 := b4 _ _ g32 nfc
    refine k H6 { d with bl := bl, dxb := dxb, el := el, tl := tl, fl := fl, cl := cl', jl := jl } rfl ⟨hx6, b06 _ _ s0.gl nd.1.1.symm, ?_, ?_, ?_, ?_, ?_, ?_, ?_, s0.gs.mono fun a g q => q.mono fz, fz _ _ s0.wl, fz _ _ s0.vl, ⟨[], ?_, Rep.nil⟩, ⟨[], ?_, Rep.nil⟩, ?_⟩ ?_
    · rw [show esV { h with blocks := List.replicate Sj24.BLOCKS Sj24.none_, clusters := [], jets := [] } = (List.replicate 1024 (0 : Int)).map V.int from house0_es 0 0 0]
      exact b16 _ _ g1 nec
    · rw [show tsV { h with blocks := List.replicate Sj24.BLOCKS Sj24.none_, clusters := [], jets := [] } = (List.replicate 1024 (0 : Int)).map V.int from house0_ts 0 0 0]
      exact b16 _ _ g2 ntc
    · rw [show fsV { h with blocks := List.replicate Sj24.BLOCKS Sj24.none_, clusters := [], jets := [] } = (List.replicate 1024 (0 : Int)).map V.int from house0_fs 0 0 0]
      exact b16 _ _ g3 nfc
    · show List.Nodup [d.c, d.gl, el, tl, fl]
      simp only [List.nodup_cons, List.mem_cons, List.not_mem_nil, or_false, not_or, List.nodup_nil, and_true, not_false_eq_true]
      exact ⟨⟨nd.1.1, nec.symm, ntc.symm, nfc.symm⟩, ⟨neg'.symm, ntg.symm, nfg.symm⟩, ⟨n1, n2⟩, n3⟩
    · intro b hb q
      rcases hm b q with r | r
      · exact s0.xm b hb r
      · exact s0.xn b hb r
    · intro b hb z
      have e := s0.sameX b06 b hb
      rw [z] at e
      exact s0.xn b hb e.symm
    · have nbe : bl ≠ el := ne_of e1 g1 (by intro z; cases z)
      have nbt : bl ≠ tl := ne_of e1 g2 (by intro z; cases z)
      have nbf : bl ≠ fl := ne_of e1 g3 (by intro z; cases z)
      rw [del_at (off bl nbl nbe nbt nbf)]
      exact b16 _ _ e1 (nof nbl _ (inM (by simp [mutA])))
    · rw [del_at (off cl' hcl0 (ne_of_none g12 hcl).symm (ne_of_none g22 hcl).symm (ne_of_none g32 hcl).symm)]
      exact b6 _ _ hc4 ncx
    · rw [del_at (off jl hjl0 (ne_of_none g14 hjl).symm (ne_of_none g24 hjl).symm (ne_of_none g34 hjl).symm)]
      exact hj6
    · have I := s0.inv
      exact ⟨List.length_replicate, fun b hb => by rw [List.eq_of_mem_replicate hb]; decide, I.low, I.seed, I.reach, I.glen, I.gok, I.wlen, I.wok, I.vlen, I.vok, by simp, by simp, by simp⟩
    · exact b06
theorem ok_opened {f : Addr} {fd : FuncData} (F : Fun K "opened" "opened" s_opened f fd) (T : Txt K mg A) (C_Calorimeter___init__ : CalC P w K mg base 3 "Calorimeter" A.CCalorimeter ["self", "least", "low", "reach"] (sp_Calorimeter___init__ K A)) (C_is_from : Cal P w K mg base 1 "is_from" ["number", "least", "greatest"] (sp_is_from K A)) : FnOk P w K mg base CX0 5 f fd ["n"] (sp_opened K A) := by
  refine F.ok sc_opened (fun vs H Q E h => ?_) (fun cdv _ outer s H vs Q E hr h => ?_)
  · obtain ⟨np, x, y, r, X, rfl, _⟩ := h
    rfl
  · obtain ⟨np, x, y, r, X, rfl, hnp, hX, kB, kG⟩ := h
    refine ⟨_, (pss_cons (ps_asg (pv 0) (pg_unl rfl (pgs_cons (pg_name (i := 1) sc_opened.nd rfl (Or.inl rfl)) (pgs_cons (pg_name (i := 2) sc_opened.nd rfl (Or.inl rfl)) (pgs_cons (pg_name (i := 3) sc_opened.nd rfl (Or.inl rfl)) pgs_nil)))))
      (pss_cons (ps_if (PW.pt (pw_or (pt_not (pt_val (pe_cal C_is_from (hr.mono (by decide)) (by rfl) (pa_cons (pv 2) (pa_cons (pe_int) (pa_cons (pe_cst rfl T.c_GREATEST_ENERGY) pa_nil)))))) (pw_or1 (pt_not (pt_val (pe_cal C_is_from (hr.mono (by decide)) (by rfl) (pa_cons (pv 1) (pa_cons (pv 2) (pa_cons (pe_cst rfl T.c_GREATEST_ENERGY) pa_nil))))))))) (pss_one (ps_ret (pe_non))) pss_nil)
      (pss_one (ps_ret (pe_ifExp (pt_val (pe_cal C_is_from (hr.mono (by decide)) (by rfl) (pa_cons (pv 3) (pa_cons (pe_int) (pa_cons (pe_cst rfl T.c_MOST_REACH) pa_nil))))) (pe_mk C_Calorimeter___init__ (hr.mono (by decide)) (by rfl) (pa_cons (pv 1) (pa_cons (pv 2) (pa_cons (pv 3) pa_nil)))) (pe_non)))))), ?_⟩
    have eM : Sj24.MOST = 1099511627776 := by decide
    refine ⟨_, rfl, np, _, rfl, SqL.of hnp, rfl, _, _, rfl, _, _, rfl, _, _, rfl, rfl, ?_⟩
    refine ⟨_, rfl, y, 1, 1099511627776, rfl, _, rfl, ite_b (fun c => ite_t rfl ?_) (fun c => ?_)⟩
    · refine kB ?_
      rw [eM, c]
      rfl
    · refine ⟨_, rfl, _, rfl, x, y, 1099511627776, rfl, _, rfl, ite_b (fun c2 => ?_) (fun c2 => ?_)⟩
      · refine kB ?_
        rw [eM, c2]
        simp
      · refine ⟨_, rfl, r, 1, 1024, rfl, _, rfl, ite_b (fun c3 => ?_) (fun c3 => ?_)⟩
        · have hgood : (!Sj24.isIn 1 Sj24.MOST y || !Sj24.isIn y Sj24.MOST x || !Sj24.isIn 1 1024 r) = false := by rw [eM, c, c2, c3]; rfl
          have a1 := isIn_iff.mp (show Sj24.isIn 1 1099511627776 y = true by simpa using c)
          have a2 := isIn_iff.mp (show Sj24.isIn y 1099511627776 x = true by simpa using c2)
          have a3 := isIn_iff.mp c3
          refine ⟨_, rfl, _, rfl, _, rfl, ?_⟩
          intro z dz nz nd ne
          have p0 : Same H (upd (upd H dz (.own z)) z (.ins A.CCalorimeter dz [])) := fun b o e => by
            rw [upd_ne (ne_of_none e nz), upd_ne (ne_of_none e nd)]
            exact e
          refine ⟨z, dz, x, y, r, X, rfl, upd_same, fun b hb => ⟨fun q => hX b hb (p0.free q), fun q => hX b hb (by rw [q]; exact nz)⟩, a1.1, a2.1, a3, fun H' d hd S k3 => ⟨rfl, ?_⟩⟩
          rw [← hd]
          exact kG hgood H' d (Same.made nz nd k3) S
        · refine kB ?_
          rw [eM, c3]
          simp
theorem ok_set_gain {f : Addr} {fd : FuncData} (F : Fun K "set_gain" "set_gain" s_set_gain f fd) (T : Txt K mg A) (C_Gain___init__ : CalC P w K mg base 1 "Gain" A.CGain ["self", "mul", "shift", "zero"] (sp_Gain___init__ K A)) (C_is_from : Cal P w K mg base 1 "is_from" ["number", "least", "greatest"] (sp_is_from K A)) : FnOk P w K mg base CX0 3 f fd ["one", "n"] (sp_set_gain K A) := by
  refine F.ok sc_set_gain (fun vs H Q E h => ?_) (fun cdv _ outer s H vs Q E hr h => ?_)
  · obtain ⟨d, h, X, np, ns, q, rfl, _⟩ := h
    rfl
  · obtain ⟨d, h, X, np, ns, q, rfl, hnp, hq, s0, k⟩ := h
    refine ⟨_, (pss_cons (ps_asg (pv 1) (pg_unl rfl (pgs_cons (pg_name (i := 2) sc_set_gain.nd rfl (Or.inl rfl)) (pgs_cons (pg_name (i := 3) sc_set_gain.nd rfl (Or.inl rfl)) (pgs_cons (pg_name (i := 4) sc_set_gain.nd rfl (Or.inl rfl)) (pgs_cons (pg_name (i := 5) sc_set_gain.nd rfl (Or.inl rfl)) pgs_nil))))))
      (pss_cons (ps_if (PW.pt (pw_or (pt_not (pt_val (pe_cal C_is_from (hr.mono (by decide)) (by rfl) (pa_cons (pv 2) (pa_cons (pe_int) (pa_cons (pe_op op_sub (pe_cst rfl T.c_MANY_GAINS) (pe_int)) pa_nil)))))) (pw_or1 (pt_not (pt_val (pe_cal C_is_from (hr.mono (by decide)) (by rfl) (pa_cons (pv 3) (pa_cons (pe_int) (pa_cons (pe_cst rfl T.c_MOST_MUL) pa_nil))))))))) (pss_one (ps_ret (pe_callTy call_list_of (by rfl) T.b_list (by decide +kernel) (pa_cons (pe_rf rfl T.g_BAD) pa_nil)))) pss_nil)
      (pss_cons (ps_if (PW.pt (pw_or (pt_not (pt_val (pe_cal C_is_from (hr.mono (by decide)) (by rfl) (pa_cons (pv 4) (pa_cons (pe_int) (pa_cons (pe_cst rfl T.c_MOST_SHIFT) pa_nil)))))) (pw_or1 (pt_not (pt_val (pe_cal C_is_from (hr.mono (by decide)) (by rfl) (pa_cons (pv 5) (pa_cons (pe_int) (pa_cons (pe_cst rfl T.c_GREATEST_SAMPLE) pa_nil))))))))) (pss_one (ps_ret (pe_callTy call_list_of (by rfl) T.b_list (by decide +kernel) (pa_cons (pe_rf rfl T.g_BAD) pa_nil)))) pss_nil)
      (pss_cons (ps_asg (pe_mk C_Gain___init__ (hr.mono (by decide)) (by rfl) (pa_cons (pv 3) (pa_cons (pv 4) (pa_cons (pv 5) pa_nil)))) (pg_sub (pe_fldK (K := K) (pv 0) rfl) (pv 2) set_list))
      (pss_one (ps_ret (pe_lst (pa_cons (pe_int) pa_nil)))))))), ?_⟩
    obtain ⟨k', m, s', z, rfl, rfl⟩ := call2 hq
    have n := T.k_Calorimeter.na
    have cl := T.k_Calorimeter.cl
    have e20 : (2 : Int) ^ 20 = 1048576 := by decide
    have eon : Sj24.on h (.gain k' m s' z) = if !Sj24.isIn 0 3 k' || !Sj24.isIn 1 (2 ^ 20) m || !Sj24.isIn 0 24 s' || !Sj24.isIn 0 4095 z then (h, Sj24.just (-2)) else ({ h with gains := h.gains.set k'.toNat ⟨m, s'.toNat, z⟩ }, Sj24.just 0) := rfl
    rw [e20] at eon
    refine ⟨_, rfl, np, _, rfl, SqL.of hnp, rfl, _, _, rfl, _, _, rfl, _, _, rfl, _, _, rfl, rfl, ?_⟩
    refine ⟨_, rfl, _, _, rfl, rfl, k', 0, 3, rfl, _, rfl, ite_b (fun c => ite_t rfl ?_) (fun c => ?_)⟩
    · refine ⟨A.aBAD, _, rfl, .inl (T.l_BAD _), k.bad s0 ?_ (Same.refl _)⟩
      rw [eon, if_pos (by rw [c]; rfl)]
    refine ⟨_, rfl, m, 1, 1048576, rfl, _, rfl, ite_b (fun c2 => ?_) (fun c2 => ?_)⟩
    · refine ⟨A.aBAD, _, rfl, .inl (T.l_BAD _), k.bad s0 ?_ (Same.refl _)⟩
      rw [eon, if_pos (by rw [c2]; simp)]
    refine ⟨_, rfl, s', 0, 24, rfl, _, rfl, ite_b (fun c3 => ite_t rfl ?_) (fun c3 => ?_)⟩
    · refine ⟨A.aBAD, _, rfl, .inl (T.l_BAD _), k.bad s0 ?_ (Same.refl _)⟩
      rw [eon, if_pos (by rw [c3]; simp)]
    refine ⟨_, rfl, z, 0, 4095, rfl, _, rfl, ite_b (fun c4 => ?_) (fun c4 => ?_)⟩
    · refine ⟨A.aBAD, _, rfl, .inl (T.l_BAD _), k.bad s0 ?_ (Same.refl _)⟩
      rw [eon, if_pos (by rw [c4]; simp)]
    have a1 := isIn_iff.mp (show Sj24.isIn 0 3 k' = true by simpa using c)
    have a2 := isIn_iff.mp (show Sj24.isIn 1 1048576 m = true by simpa using c2)
    have a3 := isIn_iff.mp (show Sj24.isIn 0 24 s' = true by simpa using c3)
    have a4 := isIn_iff.mp (show Sj24.isIn 0 4095 z = true by simpa using c4)
    have eon' : Sj24.on h (.gain k' m s' z) = ({ h with gains := h.gains.set k'.toNat ⟨m, s'.toNat, z⟩ }, Sj24.just 0) := by
      rw [eon, if_neg (by
        have b1 : Sj24.isIn 0 3 k' = true := by simpa using c
        have b2 : Sj24.isIn 1 1048576 m = true := by simpa using c2
        have b3 : Sj24.isIn 0 24 s' = true := by simpa using c3
        have b4 : Sj24.isIn 0 4095 z = true := by simpa using c4
        rw [b1, b2, b3, b4]
        decide)]
    rw [eon'] at k
    refine ⟨_, rfl, _, rfl, _, rfl, ?_⟩
    intro a da na nda nea
    refine ⟨a, da, _, _, _, rfl, upd_same, fun H1 e1 k1 => ⟨rfl, ?_⟩⟩
    have s1 : Same H H1 := Same.made na nda k1
    have gl1 := s1 _ _ s0.gl
    have glen : d.gas.length = 4 := by rw [s0.gs.len]; exact s0.inv.glen
    have hix : ixN (d.gas.map V.ref).length k' = some k'.toNat := by
      have e : (k'.toNat : Int) = k' := by omega
      have := ix_of (xs := d.gas.map V.ref) (b := k'.toNat) (by rw [List.length_map, glen]; omega)
      rw [e] at this
      exact this
    refine ⟨_, rfl, d.c, _, d.dx, _, _, rfl, s1 _ _ s0.cal, cl, n _ (by simp), lk_Calorimeter_gains, _, rfl, d.gl, _, _, k'.toNat, rfl, rfl, gl1, hix, ?_⟩
    refine ⟨(by show 1 ≤ sizeLine; decide), fun p hp => ?_⟩
    generalize hH2 : upd H1 d.gl (.lst ((d.gas.map V.ref).set k'.toNat (V.ref a))) = H2 at hp ⊢
    have nd := s0.nd5
    have npg : p ≠ d.gl := fun q => by
      rw [q, ← hH2, upd_same] at hp
      cases hp
    have hp1 : H1 p = none := by
      rw [← hH2, upd_ne npg] at hp
      exact hp
    have st : ∀ b o, H1 b = some o → b ≠ d.gl → upd H2 p (.lst [V.int 0]) b = some o := fun b o e hb => by
      rw [upd_ne (ne_of_none e hp1), ← hH2, upd_ne hb]
      exact e
    have stH : ∀ b o, H b = some o → b ≠ d.gl → upd H2 p (.lst [V.int 0]) b = some o := fun b o e hb => st b o (s1 _ _ e) hb
    have inM : ∀ {b : Addr}, b ∈ mutA d → b ∈ X ++ mutA d := fun q => List.mem_append_right _ q
    have fz : Same (del (X ++ mutA d) H) (del (X ++ mutA d) (upd H2 p (.lst [V.int 0]))) := del_mono (fun b o e hb => stH b o e fun q => hb (inM (by rw [q]; simp [mutA]))) fun b hb hb' => absurd hb hb'
    have offa : a ∉ X ++ mutA d := s0.new_off na
    have hX' : ∀ b ∈ X, upd H2 p (.lst [V.int 0]) b = H b := fun b hb => by
      cases e : H b with
      | none => exact absurd e (s0.xn b hb)
      | some o => exact stH b o e fun q => s0.xm b hb (by rw [q]; simp [mutA])
    refine k { d with gas := d.gas.set k'.toNat a } (upd H2 p (.lst [V.int 0])) p rfl ⟨stH _ _ s0.cal nd.1.1, ?_, stH _ _ s0.el nd.2.1.1.symm, stH _ _ s0.tl nd.2.1.2.1.symm, stH _ _ s0.fl nd.2.1.2.2.symm, s0.nd, s0.xm, fun b hb => by rw [hX' b hb]; exact s0.xn b hb,
      fz _ _ s0.bl, ?_, fz _ _ s0.wl, fz _ _ s0.vl, s0.cs.mono fz, s0.js.mono fz, ?_⟩ hX' (s1.free hp1) upd_same
    · rw [upd_ne npg.symm, ← hH2, upd_same, List.map_set]
    · refine Rep.set (s0.gs.mono fun b g q => q.mono fz) ⟨da, ?_⟩
      show del (X ++ mutA d) _ a = _
      rw [del_at offa, st a _ e1 (fun q => offa (inM (by rw [q]; simp [mutA])))]
      show some (HO.ins A.CGain da [("mul", V.int m), ("shift", V.int s'), ("zero", V.int z)]) = some (HO.ins A.CGain da [("mul", V.int m), ("shift", V.int ((s'.toNat : Nat) : Int)), ("zero", V.int z)])
      rw [show ((s'.toNat : Nat) : Int) = s' by omega]
    · have I := s0.inv
      refine ⟨I.len, I.blk, I.low, I.seed, I.reach, by show (h.gains.set _ _).length = 4; rw [List.length_set]; exact I.glen, fun g hg => ?_, I.wlen, I.wok, I.vlen, I.vok, I.cok, I.clen, I.jok⟩
      rcases List.mem_or_eq_of_mem_set hg with q | q
      · exact I.gok g q
      · rw [q]
        exact ⟨a2.1, by show m ≤ 2 ^ 20; omega, by show s'.toNat ≤ 24; omega, a4.1, a4.2⟩
end
end Jb
end
section
set_option Elab.async false
set_option linter.all false
set_option maxRecDepth 100000
set_option maxHeartbeats 2000000
namespace Jb
open PySem PySem.Spec PyProof.Rows L2
open Sj24 (House)
/-! ### the calls on a calorimeter, second part -/
theorem all_in {a b : Int} {l : List Int} (h : l.all (Sj24.isIn a b) = true) : ∀ x ∈ l, a ≤ x ∧ x ≤ b := fun x hx => isIn_iff.mp (List.all_eq_true.mp h x hx)
theorem esV_at {h : House} (hl : h.blocks.length = 1024) {k : Nat} (hk : k < 1024) : atI (esV h) (k : Int) = some (V.int (h.e k)) := es_at hl hk
theorem esV_len {h : House} (hl : h.blocks.length = 1024) : (esV h).length = 1024 := by
  unfold esV
  rw [List.length_map]
  exact es_len hl
theorem tsV_len {h : House} (hl : h.blocks.length = 1024) : (tsV h).length = 1024 := by
  unfold tsV
  rw [List.length_map, List.length_map, hl]
theorem fsV_len {h : House} (hl : h.blocks.length = 1024) : (fsV h).length = 1024 := by
  unfold fsV
  rw [List.length_map, List.length_map, hl]
section
variable {P : Program} {w : World} {K : PySem.W.Frag} {mg : Str → Option Value} {base : Heap} {A : Ad}
theorem ok_set_weights {f : Addr} {fd : FuncData} (F : Fun K "set_weights" "set_weights" s_set_weights f fd) (T : Txt K mg A) (C_are_from : Cal P w K mg base 2 "are_from" ["numbers", "least", "greatest"] (sp_are_from K A)) : FnOk P w K mg base CX0 3 f fd ["one", "n"] (sp_set_weights K A) := by
  refine F.ok sc_set_weights (fun vs H Q E h => ?_) (fun cdv _ outer s H vs Q E hr h => ?_)
  · obtain ⟨d, h, X, np, ns, q, rfl, _⟩ := h
    rfl
  · obtain ⟨d, h, X, np, ns, q, rfl, hnp, hq, s0, k⟩ := h
    refine ⟨_, (pss_cons (ps_if (pt_not (pt_val (pe_cal C_are_from (hr.mono (by decide)) (by rfl) (pa_cons (pv 1) (pa_cons (pe_cst rfl T.c_LEAST_WEIGHT) (pa_cons (pe_cst rfl T.c_GREATEST_WEIGHT) pa_nil)))))) (pss_one (ps_ret (pe_callTy call_list_of (by rfl) T.b_list (by decide +kernel) (pa_cons (pe_rf rfl T.g_BAD) pa_nil)))) pss_nil)
      (pss_cons (ps_fld (pv 0) (pe_slice sl_list (pv 1) po_none (po_some (pe_cst rfl T.c_MANY_WEIGHTS))) rfl)
      (pss_cons (ps_fld (pv 0) (pe_slice sl_list (pv 1) (po_some (pe_cst rfl T.c_MANY_WEIGHTS)) po_none) rfl)
      (pss_one (ps_ret (pe_lst (pa_cons (pe_int) pa_nil))))))), ?_⟩
    obtain ⟨hlen, rfl⟩ := call3 hq
    have n := T.k_Calorimeter.na
    have cl := T.k_Calorimeter.cl
    have eon : Sj24.on h (.weights (ns.take 8) (ns.drop 8)) = if (ns.take 8).length != 8 || (ns.drop 8).length != 8 || !((ns.take 8) ++ (ns.drop 8)).all (Sj24.isIn (-32768) 32767) then (h, Sj24.just (-2)) else ({ h with w := ns.take 8, v := ns.drop 8 }, Sj24.just 0) := rfl
    have l1 : (ns.take 8).length = 8 := by rw [List.length_take]; omega
    have l2 : (ns.drop 8).length = 8 := by rw [List.length_drop]; omega
    rw [l1, l2, List.take_append_drop] at eon
    refine ⟨_, rfl, np, ns, -32768, 32767, rfl, SqL.of hnp, by omega, fun H1 s1 => ⟨_, rfl, ite_b (fun c => ?_) (fun c => ?_)⟩⟩
    · refine ⟨A.aBAD, _, rfl, .inl (T.l_BAD _), k.bad s0 ?_ s1⟩
      rw [eon, if_pos (by rw [c]; rfl)]
    · have call : ns.all (Sj24.isIn (-32768) 32767) = true := by simpa using c
      have eon' : Sj24.on h (.weights (ns.take 8) (ns.drop 8)) = ({ h with w := ns.take 8, v := ns.drop 8 }, Sj24.just 0) := by
        rw [eon, if_neg (by rw [call]; decide)]
      rw [eon'] at k
      have hb := all_in call
      have np1 := s1 _ _ hnp
      refine ⟨_, rfl, _, rfl, np, _, rfl, SqL.of np1, fun wl hwl => ?_⟩
      have ew : cutV (ns.map V.int) none (some 8) = (ns.take 8).map V.int := by
        have e := cut_to (ns.map V.int) (i := 8) (by rw [List.length_map]; omega)
        rw [List.map_take]
        exact e
      have ev : cutV (ns.map V.int) (some 8) none = (ns.drop 8).map V.int := by
        have e := cut_from (ns.map V.int) (i := 8) (by rw [List.length_map]; omega)
        rw [List.map_drop]
        exact e
      rw [ew] at *
      have s2 : Same H1 (upd H1 wl (.lst ((ns.take 8).map V.int))) := Same.upd_new hwl
      have hc2 := s2 _ _ (s1 _ _ s0.cal)
      refine ⟨_, rfl, d.c, _, d.dx, _, rfl, hc2, cl, n _ (by simp), (by show 9 < 1000; decide), ?_⟩
      unfold calF
      rw [put_Calorimeter_w]
      have hwl0 : H wl = none := s1.free hwl
      have offw : wl ∉ X ++ mutA d := s0.new_off hwl0
      have nwc : wl ≠ d.c := fun z => offw (List.mem_append_right _ (by rw [z]; simp [mutA]))
      generalize hH3 : upd (upd H1 wl (.lst ((ns.take 8).map V.int))) d.c (.ins A.CCalorimeter d.dx [("least", V.int h.seed), ("low", V.int h.low), ("reach", V.int h.reach), ("gains", V.ref d.gl), ("w", V.ref wl), ("v", V.ref d.vl), ("blocks", V.ref d.bl), ("clusters", V.ref d.cl), ("jets", V.ref d.jl)]) = H3
      have b3 : SameBut d.c H1 H3 := by rw [← hH3]; exact (SameBut.of s2).trans SameBut.put
      have hx3 : H3 d.c = some (.ins A.CCalorimeter d.dx [("least", V.int h.seed), ("low", V.int h.low), ("reach", V.int h.reach), ("gains", V.ref d.gl), ("w", V.ref wl), ("v", V.ref d.vl), ("blocks", V.ref d.bl), ("clusters", V.ref d.cl), ("jets", V.ref d.jl)]) := by rw [← hH3]; exact upd_same
      have hw3 : H3 wl = some (.lst ((ns.take 8).map V.int)) := by rw [← hH3, upd_ne nwc]; exact upd_same
      have nnc : np ≠ d.c := ne_of hnp s0.cal (by intro z; cases z)
      have np3 := b3 _ _ np1 nnc
      refine ⟨_, rfl, _, rfl, np, _, rfl, SqL.of np3, fun vl hvl => ?_⟩
      rw [ev] at *
      have s4 : Same H3 (upd H3 vl (.lst ((ns.drop 8).map V.int))) := Same.upd_new hvl
      have nvc : vl ≠ d.c := (ne_of_none hx3 hvl).symm
      refine ⟨_, rfl, d.c, _, d.dx, _, rfl, s4 _ _ hx3, cl, n _ (by simp), (by show 9 < 1000; decide), ?_⟩
      rw [put_Calorimeter_v]
      generalize hH5 : upd (upd H3 vl (.lst ((ns.drop 8).map V.int))) d.c (.ins A.CCalorimeter d.dx [("least", V.int h.seed), ("low", V.int h.low), ("reach", V.int h.reach), ("gains", V.ref d.gl), ("w", V.ref wl), ("v", V.ref vl), ("blocks", V.ref d.bl), ("clusters", V.ref d.cl), ("jets", V.ref d.jl)]) = H5
      have b5 : SameBut d.c H3 H5 := by rw [← hH5]; exact (SameBut.of s4).trans SameBut.put
      have hx5 : H5 d.c = some (.ins A.CCalorimeter d.dx [("least", V.int h.seed), ("low", V.int h.low), ("reach", V.int h.reach), ("gains", V.ref d.gl), ("w", V.ref wl), ("v", V.ref vl), ("blocks", V.ref d.bl), ("clusters", V.ref d.cl), ("jets", V.ref d.jl)]) := by rw [← hH5]; exact upd_same
      have hv5 : H5 vl = some (.lst ((ns.drop 8).map V.int)) := by rw [← hH5, upd_ne nvc]; exact upd_same
      have hw5 := b5 _ _ hw3 nwc
      refine ⟨(by show 1 ≤ sizeLine; decide), fun p hp => ?_⟩
      have s6 : Same H5 (upd H5 p (.lst [V.int 0])) := Same.upd_new hp
      have b06 : SameBut d.c H (upd H5 p (.lst [V.int 0])) := (((SameBut.of s1).trans b3).trans b5).trans (SameBut.of s6)
      have hvl0 : H vl = none := ((SameBut.of s1).trans b3).free hvl nvc
      have offv : vl ∉ X ++ mutA d := s0.new_off hvl0
      have npc : p ≠ d.c := (ne_of_none hx5 hp).symm
      have hp0 : H p = none := (((SameBut.of s1).trans b3).trans b5).free hp npc
      have fz := s0.frozen (d' := { d with wl := wl, vl := vl }) b06 fun b hb => .inl hb
      have nd := s0.nd5
      refine k { d with wl := wl, vl := vl } (upd H5 p (.lst [V.int 0])) p rfl ⟨s6 _ _ hx5, b06 _ _ s0.gl nd.1.1.symm, b06 _ _ s0.el nd.1.2.1.symm, b06 _ _ s0.tl nd.1.2.2.1.symm, b06 _ _ s0.fl nd.1.2.2.2.symm, s0.nd, s0.xm, fun b hb => by rw [s0.sameX b06 b hb]; exact s0.xn b hb,
        fz _ _ s0.bl, s0.gs.mono fun a g q => q.mono fz, ?_, ?_, s0.cs.mono fz, s0.js.mono fz, ?_⟩ (s0.sameX b06) hp0 upd_same
      · show del (X ++ mutA d) _ wl = _
        rw [del_at offw]
        exact s6 _ _ hw5
      · show del (X ++ mutA d) _ vl = _
        rw [del_at offv]
        exact s6 _ _ hv5
      · have I := s0.inv
        exact ⟨I.len, I.blk, I.low, I.seed, I.reach, I.glen, I.gok, l1, fun x hx => hb x (List.mem_of_mem_take hx), l2, fun x hx => hb x (List.mem_of_mem_drop hx), I.cok, I.clen, I.jok⟩
theorem ok_weigh_pulse {f : Addr} {fd : FuncData} (F : Fun K "weigh_pulse" "weigh_pulse" s_weigh_pulse f fd) (T : Txt K mg A) (C_Blocks_put : CalM P w K mg base 1 A.CBlocks "put" ["self", "block", "energy", "time", "flag"] (sp_Blocks_put K A)) (C_are_from : Cal P w K mg base 2 "are_from" ["numbers", "least", "greatest"] (sp_are_from K A)) (C_is_from : Cal P w K mg base 1 "is_from" ["number", "least", "greatest"] (sp_is_from K A)) (C_weighed : Cal P w K mg base 3 "weighed" ["samples", "gain", "w", "v"] (sp_weighed K A)) : FnOk P w K mg base CX0 4 f fd ["one", "n"] (sp_weigh_pulse K A) := by
  refine F.ok sc_weigh_pulse (fun vs H Q E h => ?_) (fun cdv _ outer s H vs Q E hr h => ?_)
  · obtain ⟨d, h, X, np, ns, q, rfl, _⟩ := h
    rfl
  · obtain ⟨d, h, X, np, ns, q, rfl, hnp, hq, s0, k⟩ := h
    refine ⟨_, (pss_cons (ps_par3 (i := 2) (j := 3) (l := 4) (by rfl) sc_weigh_pulse.nd rfl rfl rfl (by decide) (by decide) (by decide) rfl rfl rfl (pa_cons (pe_ixL (K := K) (pv 1) (pe_int) (fun _ _ => rfl)) (pa_cons (pe_ixL (K := K) (pv 1) (pe_int) (fun _ _ => rfl)) (pa_cons (pe_slice sl_list (pv 1) (po_some (pe_int)) po_none) pa_nil))) (by rfl))
      (pss_cons (ps_if (PW.pt (pw_or (pt_not (pt_val (pe_cal C_is_from (hr.mono (by decide)) (by rfl) (pa_cons (pv 2) (pa_cons (pe_int) (pa_cons (pe_op op_sub (pe_cst rfl T.c_MANY_BLOCKS) (pe_int)) pa_nil)))))) (pw_or1 (pt_not (pt_val (pe_cal C_is_from (hr.mono (by decide)) (by rfl) (pa_cons (pv 3) (pa_cons (pe_int) (pa_cons (pe_op op_sub (pe_cst rfl T.c_MANY_GAINS) (pe_int)) pa_nil))))))))) (pss_one (ps_ret (pe_callTy call_list_of (by rfl) T.b_list (by decide +kernel) (pa_cons (pe_rf rfl T.g_BAD) pa_nil)))) pss_nil)
      (pss_cons (ps_if (pt_not (pt_val (pe_cal C_are_from (hr.mono (by decide)) (by rfl) (pa_cons (pv 4) (pa_cons (pe_int) (pa_cons (pe_cst rfl T.c_GREATEST_SAMPLE) pa_nil)))))) (pss_one (ps_ret (pe_callTy call_list_of (by rfl) T.b_list (by decide +kernel) (pa_cons (pe_rf rfl T.g_BAD) pa_nil)))) pss_nil)
      (pss_cons (ps_asg (pe_cal C_weighed (hr.mono (by decide)) (by rfl) (pa_cons (pv 4) (pa_cons (pe_ixL (K := K) (pe_fldK (K := K) (pv 0) rfl) (pv 3) (fun _ _ => rfl)) (pa_cons (pe_fldK (K := K) (pv 0) rfl) (pa_cons (pe_fldK (K := K) (pv 0) rfl) pa_nil))))) (pg_tupK (K := K) (n := 3) rfl (pgs_cons (pg_name (i := 5) sc_weigh_pulse.nd rfl (Or.inl rfl)) (pgs_cons (pg_name (i := 6) sc_weigh_pulse.nd rfl (Or.inl rfl)) (pgs_cons (pg_name (i := 7) sc_weigh_pulse.nd rfl (Or.inl rfl)) pgs_nil)))))
      (pss_cons (ps_expr (pe_mth (pe_fldK (K := K) (pv 0) rfl) C_Blocks_put (hr.mono (by decide)) (pa_cons (pv 2) (pa_cons (pv 5) (pa_cons (pv 6) (pa_cons (pv 7) pa_nil))))))
      (pss_one (ps_ret (pe_lst (pa_cons (pe_callTy call_int1 (by rfl) T.b_int (by decide +kernel) (pa_cons (pe_cmpR op_gt (pv 5) (pe_int) (nomark _)) pa_nil)) pa_nil))))))))), ?_⟩
    obtain ⟨b, k', ss, rfl, hss, rfl⟩ := call4 hq
    have n := T.k_Calorimeter.na
    have cl := T.k_Calorimeter.cl
    have nb := T.k_Blocks.na
    have clb := T.k_Blocks.cl
    have I := s0.inv
    have eon : Sj24.on h (.pulse b k' ss) = if !Sj24.isIn 0 1023 b || !Sj24.isIn 0 3 k' || ss.length != 8 || !ss.all (Sj24.isIn 0 4095) then (h, Sj24.just (-2)) else
      ({ h with blocks := h.blocks.set b.toNat (Sj24.weighed h (h.gains.getD k'.toNat Sj24.gain1) ss) }, Sj24.just (Sj24.bit (decide (0 < (Sj24.weighed h (h.gains.getD k'.toNat Sj24.gain1) ss).e)))) := rfl
    rw [hss] at eon
    have at0 : atI ((b :: k' :: ss).map V.int) ((0 : Nat) : Int) = some (V.int b) := atI_nat rfl
    have at1 : atI ((b :: k' :: ss).map V.int) ((1 : Nat) : Int) = some (V.int k') := atI_nat rfl
    refine ⟨_, rfl, np, _, _, _, rfl, rfl, SqL.of hnp, at0, _, rfl, np, _, _, _, rfl, rfl, SqL.of hnp, at1, _, rfl, _, rfl, np, _, rfl, SqL.of hnp, fun sp hsp => ?_⟩
    have ecut : cutV ((b :: k' :: ss).map V.int) (some 2) none = ss.map V.int := by
      have e := cut_from ((b :: k' :: ss).map V.int) (i := 2) (by rw [List.length_map]; simp)
      exact e
    rw [ecut] at *
    have s1 : Same H (upd H sp (.lst (ss.map V.int))) := Same.upd_new hsp
    refine ⟨_, _, _, rfl, ?_⟩
    refine ⟨_, rfl, _, _, rfl, rfl, b, 0, 1023, rfl, _, rfl, ite_b (fun c => ite_t rfl ?_) (fun c => ?_)⟩
    · refine ⟨A.aBAD, _, rfl, .inl (T.l_BAD _), k.bad s0 ?_ s1⟩
      rw [eon, if_pos (by rw [c]; rfl)]
    refine ⟨_, rfl, _, _, rfl, rfl, k', 0, 3, rfl, _, rfl, ite_b (fun c2 => ?_) (fun c2 => ?_)⟩
    · refine ⟨A.aBAD, _, rfl, .inl (T.l_BAD _), k.bad s0 ?_ s1⟩
      rw [eon, if_pos (by rw [c2]; simp)]
    refine ⟨_, rfl, sp, ss, 0, 4095, rfl, SqL.of upd_same, by omega, fun H2 s2 => ⟨_, rfl, ite_b (fun c3 => ?_) (fun c3 => ?_)⟩⟩
    · refine ⟨A.aBAD, _, rfl, .inl (T.l_BAD _), k.bad s0 ?_ (s1.trans s2)⟩
      rw [eon, if_pos (by rw [c3]; simp)]
    have b1 : Sj24.isIn 0 1023 b = true := by simpa using c
    have b2 : Sj24.isIn 0 3 k' = true := by simpa using c2
    have b3 : ss.all (Sj24.isIn 0 4095) = true := by simpa using c3
    have a1 := isIn_iff.mp b1
    have a2 := isIn_iff.mp b2
    have a3 := all_in b3
    have s02 := s1.trans s2
    have hg : h.gains[k'.toNat]? = some (h.gains.getD k'.toNat Sj24.gain1) := by
      have hk : k'.toNat < h.gains.length := by rw [I.glen]; omega
      rw [List.getD_eq_getElem?_getD, List.getElem?_eq_getElem hk]
      rfl
    generalize hgg : h.gains.getD k'.toNat Sj24.gain1 = g at *
    generalize hx : Sj24.weighed h g ss = x at *
    have eon' : Sj24.on h (.pulse b k' ss) = ({ h with blocks := h.blocks.set b.toNat x }, Sj24.just (Sj24.bit (decide (0 < x.e)))) := by
      rw [eon, if_neg (by rw [b1, b2, b3]; decide)]
    rw [eon'] at k
    obtain ⟨ga, hga, hgA⟩ := s0.gs.item hg
    have gok := I.gok g (List.mem_of_getElem? hg)
    have ek : k' = ((k'.toNat : Nat) : Int) := by omega
    have hat : atI (d.gas.map V.ref) k' = some (V.ref ga) := by
      have := ref_at hga
      rw [← ek] at this
      exact this
    have up2 : Same (del (X ++ mutA d) H) H2 := s0.up.trans s02
    have sp2 := s2 _ _ (upd_same (H := H) (a := sp) (o := .lst (ss.map V.int)))
    refine ⟨_, rfl, _, rfl, d.c, _, d.dx, _, _, rfl, s02 _ _ s0.cal, cl, n _ (by simp), lk_Calorimeter_gains, _, rfl, d.gl, _, _, _, rfl, rfl, SqL.of (s02 _ _ s0.gl), hat, ?_⟩
    refine ⟨_, rfl, d.c, _, d.dx, _, _, rfl, s02 _ _ s0.cal, cl, n _ (by simp), lk_Calorimeter_w, _, rfl, d.c, _, d.dx, _, _, rfl, s02 _ _ s0.cal, cl, n _ (by simp), lk_Calorimeter_v, ?_⟩
    refine ⟨sp, ga, d.wl, d.vl, h, g, ss, rfl, SqL.of sp2, hgA.mono up2, gok, SqL.of (up2 _ _ s0.wl), SqL.of (up2 _ _ s0.vl), hss, a3, I.wlen, I.vlen, I.wok, I.vok, fun t H3 s3 ht e3 => ?_⟩
    rw [hx] at e3
    have s03 := s02.trans s3
    refine ⟨t, _, rfl, .inl (.inl e3), rfl, _, _, rfl, _, _, rfl, _, _, rfl, rfl, ?_⟩
    have bl3 := s03 _ _ (s0.up _ _ s0.bl)
    have nd := s0.nd5
    refine ⟨_, rfl, d.c, _, d.dx, _, _, rfl, s03 _ _ s0.cal, cl, n _ (by simp), lk_Calorimeter_blocks, d.bl, d.dxb, _, rfl, bl3, no_Blocks_put, ?_⟩
    have eb : b = ((b.toNat : Nat) : Int) := by omega
    refine ⟨_, rfl, _, rfl, _, rfl, _, rfl, d.bl, d.dxb, d.el, d.tl, d.fl, b.toNat, _, _, _, _, _, _, by rw [← eb], bl3, s03 _ _ s0.el, s03 _ _ s0.tl, s03 _ _ s0.fl, esV_len I.len, tsV_len I.len, fsV_len I.len, by omega, nd.2.2.1.1, nd.2.2.1.2, nd.2.2.2, ?_⟩
    generalize hH4 : upd (upd (upd H3 d.el (.lst ((esV h).set b.toNat (V.int x.e)))) d.tl (.lst ((tsV h).set b.toNat (V.int x.time)))) d.fl (.lst ((fsV h).set b.toNat (V.int (Sj24.bit x.full)))) = H4
    refine ⟨_, rfl, _, _, rfl, rfl, .inr ⟨_, rfl, (by show 1 ≤ sizeLine; decide), fun p hp => ?_⟩⟩
    have st3 : ∀ c o, H3 c = some o → c ≠ d.el → c ≠ d.tl → c ≠ d.fl → H4 c = some o := fun c o e q1 q2 q3 => by
      rw [← hH4, upd_ne q3, upd_ne q2, upd_ne q1]
      exact e
    have some4 : ∀ c, H3 c ≠ none → H4 c ≠ none := fun c hc z => by
      by_cases q3 : c = d.fl
      · rw [q3, ← hH4, upd_same] at z; cases z
      · by_cases q2 : c = d.tl
        · rw [q2, ← hH4, upd_ne nd.2.2.2, upd_same] at z; cases z
        · by_cases q1 : c = d.el
          · rw [q1, ← hH4, upd_ne nd.2.2.1.2, upd_ne nd.2.2.1.1, upd_same] at z; cases z
          · rw [← hH4, upd_ne q3, upd_ne q2, upd_ne q1] at z
            exact hc z
    have hp3 : H3 p = none := by
      cases e : H3 p with
      | none => rfl
      | some o => exact absurd hp (some4 p (by rw [e]; simp))
    have s5 : Same H4 (upd H4 p (.lst [V.int (Sj24.bit (decide (0 < x.e)))])) := Same.upd_new hp
    have stH : ∀ c o, H c = some o → c ≠ d.el → c ≠ d.tl → c ≠ d.fl → upd H4 p (.lst [V.int (Sj24.bit (decide (0 < x.e)))]) c = some o := fun c o e q1 q2 q3 => s5 _ _ (st3 c o (s03 _ _ e) q1 q2 q3)
    have inM : ∀ {c : Addr}, c ∈ mutA d → c ∈ X ++ mutA d := fun q => List.mem_append_right _ q
    have fz : Same (del (X ++ mutA d) H) (del (X ++ mutA d) (upd H4 p (.lst [V.int (Sj24.bit (decide (0 < x.e)))]))) := del_mono (fun c o e hc => stH c o e (fun q => hc (inM (by rw [q]; simp [mutA]))) (fun q => hc (inM (by rw [q]; simp [mutA]))) fun q => hc (inM (by rw [q]; simp [mutA]))) fun c hc hc' => absurd hc hc'
    have hX' : ∀ c ∈ X, upd H4 p (.lst [V.int (Sj24.bit (decide (0 < x.e)))]) c = H c := fun c hc => by
      cases e : H c with
      | none => exact absurd e (s0.xn c hc)
      | some o => exact stH c o e (fun q => s0.xm c hc (by rw [q]; simp [mutA])) (fun q => s0.xm c hc (by rw [q]; simp [mutA])) fun q => s0.xm c hc (by rw [q]; simp [mutA])
    refine k d (upd H4 p (.lst [V.int (Sj24.bit (decide (0 < x.e)))])) p rfl ⟨stH _ _ s0.cal nd.1.2.1 nd.1.2.2.1 nd.1.2.2.2, stH _ _ s0.gl nd.2.1.1 nd.2.1.2.1 nd.2.1.2.2, ?_, ?_, ?_, s0.nd, s0.xm, fun c hc => by rw [hX' c hc]; exact s0.xn c hc,
      fz _ _ s0.bl, s0.gs.mono fun a g q => q.mono fz, fz _ _ s0.wl, fz _ _ s0.vl, s0.cs.mono fz, s0.js.mono fz, ?_⟩ hX' (s03.free hp3) upd_same
    · refine s5 _ _ ?_
      rw [← hH4, upd_ne nd.2.2.1.2, upd_ne nd.2.2.1.1, upd_same]
      unfold esV es
      rw [List.map_set, List.map_set]
    · refine s5 _ _ ?_
      rw [← hH4, upd_ne nd.2.2.2, upd_same]
      unfold tsV
      rw [List.map_set, List.map_set]
    · refine s5 _ _ ?_
      rw [← hH4, upd_same]
      unfold fsV
      rw [List.map_set, List.map_set]
    · refine ⟨by show (h.blocks.set _ _).length = 1024; rw [List.length_set]; exact I.len, fun y hy => ?_, I.low, I.seed, I.reach, I.glen, I.gok, I.wlen, I.wok, I.vlen, I.vok, I.cok, I.clen, I.jok⟩
      rcases List.mem_or_eq_of_mem_set hy with q | q
      · exact I.blk y q
      · rw [q, ← hx, weighed_eq]
        exact blockOf_ok gok.m0
theorem ok_tell_block {f : Addr} {fd : FuncData} (F : Fun K "tell_block" "tell_block" s_tell_block f fd) (T : Txt K mg A) (C_is_from : Cal P w K mg base 1 "is_from" ["number", "least", "greatest"] (sp_is_from K A)) : FnOk P w K mg base CX0 2 f fd ["one", "n"] (sp_tell_block K A) := by
  refine F.ok sc_tell_block (fun vs H Q E h => ?_) (fun cdv _ outer s H vs Q E hr h => ?_)
  · obtain ⟨d, h, X, np, ns, q, rfl, _⟩ := h
    rfl
  · obtain ⟨d, h, X, np, ns, q, rfl, hnp, hq, s0, k⟩ := h
    refine ⟨_, (pss_cons (ps_set (i := 2) sc_tell_block.nd rfl (Or.inl rfl) (pe_ixL (K := K) (pv 1) (pe_int) (fun _ _ => rfl)))
      (pss_cons (ps_if (pt_not (pt_val (pe_cal C_is_from (hr.mono (by decide)) (by rfl) (pa_cons (pv 2) (pa_cons (pe_int) (pa_cons (pe_op op_sub (pe_cst rfl T.c_MANY_BLOCKS) (pe_int)) pa_nil)))))) (pss_one (ps_ret (pe_callTy call_list_of (by rfl) T.b_list (by decide +kernel) (pa_cons (pe_rf rfl T.g_BAD) pa_nil)))) pss_nil)
      (pss_one (ps_ret (pe_lst (pa_cons (pe_int) (pa_cons (pe_ixL (K := K) (pe_fldK (K := K) (pe_fldK (K := K) (pv 0) rfl) rfl) (pv 2) (fun _ _ => rfl)) (pa_cons (pe_ixL (K := K) (pe_fldK (K := K) (pe_fldK (K := K) (pv 0) rfl) rfl) (pv 2) (fun _ _ => rfl)) (pa_cons (pe_ixL (K := K) (pe_fldK (K := K) (pe_fldK (K := K) (pv 0) rfl) rfl) (pv 2) (fun _ _ => rfl)) pa_nil))))))))), ?_⟩
    obtain ⟨b, rfl, rfl⟩ := call5 hq
    have n := T.k_Calorimeter.na
    have cl := T.k_Calorimeter.cl
    have nb := T.k_Blocks.na
    have clb := T.k_Blocks.cl
    have I := s0.inv
    have eon : Sj24.on h (.block b) = if !Sj24.isIn 0 1023 b then (h, Sj24.just (-2)) else (h, ⟨0, [(h.block b.toNat).e, (h.block b.toNat).time, Sj24.bit (h.block b.toNat).full]⟩) := rfl
    have at0 : atI (([b] : List Int).map V.int) ((0 : Nat) : Int) = some (V.int b) := atI_nat rfl
    refine ⟨_, rfl, np, _, _, _, rfl, rfl, SqL.of hnp, at0, ?_⟩
    refine ⟨_, rfl, _, _, rfl, rfl, b, 0, 1023, rfl, _, rfl, ite_b (fun c => ?_) (fun c => ?_)⟩
    · refine ⟨A.aBAD, _, rfl, .inl (T.l_BAD _), k.bad s0 ?_ (Same.refl _)⟩
      rw [eon, if_pos c]
    have a1 := isIn_iff.mp (show Sj24.isIn 0 1023 b = true by simpa using c)
    rw [if_neg (by rw [c]; exact Bool.false_ne_true)] at eon
    have eb : b = ((b.toNat : Nat) : Int) := by omega
    have hbl := s0.up _ _ s0.bl
    have t1 : atI (esV h) b = some (V.int (h.block b.toNat).e) := by
      rw [eb]
      exact esV_at I.len (by omega)
    have t2 : atI (tsV h) b = some (V.int (h.block b.toNat).time) := by
      rw [eb]
      exact time_at I.len (by omega)
    have t3 : atI (fsV h) b = some (V.int (Sj24.bit (h.block b.toNat).full)) := by
      rw [eb]
      exact flag_at I.len (by omega)
    refine ⟨_, rfl, d.c, _, d.dx, _, _, rfl, s0.cal, cl, n _ (by simp), lk_Calorimeter_blocks, d.bl, _, d.dxb, _, _, rfl, hbl, clb, nb _ (by simp), lk_Blocks_energies, _, rfl, d.el, _, _, _, rfl, rfl, SqL.of s0.el, t1, ?_⟩
    refine ⟨_, rfl, d.c, _, d.dx, _, _, rfl, s0.cal, cl, n _ (by simp), lk_Calorimeter_blocks, d.bl, _, d.dxb, _, _, rfl, hbl, clb, nb _ (by simp), lk_Blocks_times, _, rfl, d.tl, _, _, _, rfl, rfl, SqL.of s0.tl, t2, ?_⟩
    refine ⟨_, rfl, d.c, _, d.dx, _, _, rfl, s0.cal, cl, n _ (by simp), lk_Calorimeter_blocks, d.bl, _, d.dxb, _, _, rfl, hbl, clb, nb _ (by simp), lk_Blocks_flags, _, rfl, d.fl, _, _, _, rfl, rfl, SqL.of s0.fl, t3, ?_⟩
    exact ⟨(by show 4 ≤ sizeLine; decide), fun p hp => k.read s0 eon (Same.upd_new hp) hp upd_same⟩
theorem ok_find_clusters {f : Addr} {fd : FuncData} (F : Fun K "find_clusters" "find_clusters" s_find_clusters f fd) (T : Txt K mg A) (C_clusters_of : Cal P w K mg base 6 "clusters_of" ["energies", "least", "low"] (sp_clusters_of K A)) : FnOk P w K mg base CX0 7 f fd ["one", "n"] (sp_find_clusters K A) := by
  refine F.ok sc_find_clusters (fun vs H Q E h => ?_) (fun cdv _ outer s H vs Q E hr h => ?_)
  · obtain ⟨d, h, X, np, ns, q, rfl, _⟩ := h
    rfl
  · obtain ⟨d, h, X, np, ns, q, rfl, hnp, hq, s0, k⟩ := h
    refine ⟨_, (pss_cons (ps_fld (pv 0) (pe_cal C_clusters_of (hr.mono (by decide)) (by rfl) (pa_cons (pe_fldK (K := K) (pe_fldK (K := K) (pv 0) rfl) rfl) (pa_cons (pe_fldK (K := K) (pv 0) rfl) (pa_cons (pe_fldK (K := K) (pv 0) rfl) pa_nil)))) rfl)
      (pss_cons (ps_fld (pv 0) (pe_lst pa_nil) rfl)
      (pss_one (ps_ret (pe_lst (pa_cons (pe_callB call_len_seq (by rfl) T.b_len PySem.boot_len (pa_cons (pe_fldK (K := K) (pv 0) rfl) pa_nil)) pa_nil)))))), ?_⟩
    obtain ⟨rfl, rfl⟩ := call6 hq
    have n := T.k_Calorimeter.na
    have cl := T.k_Calorimeter.cl
    have nb := T.k_Blocks.na
    have clb := T.k_Blocks.cl
    have I := s0.inv
    have eon : Sj24.on h .clusters = ({ h with clusters := Sj24.clustersOf h, jets := [] }, Sj24.just (Sj24.nat (Sj24.clustersOf h).length)) := rfl
    rw [eon] at k
    have hbl := s0.up _ _ s0.bl
    refine ⟨_, rfl, d.c, _, d.dx, _, _, rfl, s0.cal, cl, n _ (by simp), lk_Calorimeter_blocks, d.bl, _, d.dxb, _, _, rfl, hbl, clb, nb _ (by simp), lk_Blocks_energies, ?_⟩
    refine ⟨_, rfl, d.c, _, d.dx, _, _, rfl, s0.cal, cl, n _ (by simp), lk_Calorimeter_least, _, rfl, d.c, _, d.dx, _, _, rfl, s0.cal, cl, n _ (by simp), lk_Calorimeter_low, ?_⟩
    refine ⟨h, d.el, rfl, I.blkInv, SqL.of s0.el, fun pc H1 s1 hpc hcs => ?_⟩
    refine ⟨_, rfl, d.c, _, d.dx, _, rfl, s1 _ _ s0.cal, cl, n _ (by simp), (by show 9 < 1000; decide), ?_⟩
    unfold calF
    rw [put_Calorimeter_clusters]
    generalize hH2 : upd H1 d.c (.ins A.CCalorimeter d.dx [("least", V.int h.seed), ("low", V.int h.low), ("reach", V.int h.reach), ("gains", V.ref d.gl), ("w", V.ref d.wl), ("v", V.ref d.vl), ("blocks", V.ref d.bl), ("clusters", V.ref pc), ("jets", V.ref d.jl)]) = H2
    have b2 : SameBut d.c H1 H2 := by rw [← hH2]; exact SameBut.put
    have hx2 : H2 d.c = some (.ins A.CCalorimeter d.dx [("least", V.int h.seed), ("low", V.int h.low), ("reach", V.int h.reach), ("gains", V.ref d.gl), ("w", V.ref d.wl), ("v", V.ref d.vl), ("blocks", V.ref d.bl), ("clusters", V.ref pc), ("jets", V.ref d.jl)]) := by rw [← hH2]; exact upd_same
    refine ⟨Nat.zero_le _, fun jl hjl => ?_⟩
    have s3 : Same H2 (upd H2 jl (.lst [])) := Same.upd_new hjl
    have njc : jl ≠ d.c := (ne_of_none hx2 hjl).symm
    refine ⟨_, rfl, d.c, _, d.dx, _, rfl, s3 _ _ hx2, cl, n _ (by simp), (by show 9 < 1000; decide), ?_⟩
    rw [put_Calorimeter_jets]
    generalize hH4 : upd (upd H2 jl (.lst [])) d.c (.ins A.CCalorimeter d.dx [("least", V.int h.seed), ("low", V.int h.low), ("reach", V.int h.reach), ("gains", V.ref d.gl), ("w", V.ref d.wl), ("v", V.ref d.vl), ("blocks", V.ref d.bl), ("clusters", V.ref pc), ("jets", V.ref jl)]) = H4
    have b4 : SameBut d.c H2 H4 := by rw [← hH4]; exact (SameBut.of s3).trans SameBut.put
    have hx4 : H4 d.c = some (.ins A.CCalorimeter d.dx [("least", V.int h.seed), ("low", V.int h.low), ("reach", V.int h.reach), ("gains", V.ref d.gl), ("w", V.ref d.wl), ("v", V.ref d.vl), ("blocks", V.ref d.bl), ("clusters", V.ref pc), ("jets", V.ref jl)]) := by rw [← hH4]; exact upd_same
    have hj4 : H4 jl = some (.lst []) := by rw [← hH4, upd_ne njc]; exact upd_same
    have b14 : SameBut d.c H1 H4 := b2.trans b4
    have hcs0 := hcs
    obtain ⟨cas, hcp, hcr⟩ := hcs0
    have npcc : pc ≠ d.c := (ne_of_none s0.cal hpc).symm
    have hcp4 : H4 pc = some (.lst (cas.map V.ref)) := b14 _ _ (minus_le _ _ hcp) npcc
    refine ⟨_, rfl, d.c, _, d.dx, _, _, rfl, hx4, cl, n _ (by simp), lk_Calorimeter_clusters, pc, _, rfl, .inl (SqL.of hcp4), (by show 1 ≤ sizeLine; decide), fun p hp => ?_⟩
    have s5 : Same H4 (upd H4 p (.lst [V.int ((cas.map V.ref).length : Int)])) := Same.upd_new hp
    have b15 : SameBut d.c H1 (upd H4 p (.lst [V.int ((cas.map V.ref).length : Int)])) := b14.trans (SameBut.of s5)
    have b05 : SameBut d.c H (upd H4 p (.lst [V.int ((cas.map V.ref).length : Int)])) := (SameBut.of s1).trans b15
    have fz := s0.frozen (d' := { d with cl := pc, jl := jl }) b05 fun b hb => .inl hb
    have fr := s0.fresh (d' := { d with cl := pc, jl := jl }) s1 b15 fun b hb => .inl hb
    have nd := s0.nd5
    have hjl0 : H jl = none := ((SameBut.of s1).trans b2).free hjl njc
    have npc : p ≠ d.c := (ne_of_none hx4 hp).symm
    refine k { d with cl := pc, jl := jl } (upd H4 p (.lst [V.int ((cas.map V.ref).length : Int)])) p rfl ⟨s5 _ _ hx4, b05 _ _ s0.gl nd.1.1.symm, b05 _ _ s0.el nd.1.2.1.symm, b05 _ _ s0.tl nd.1.2.2.1.symm, b05 _ _ s0.fl nd.1.2.2.2.symm, s0.nd, s0.xm, fun b hb => by rw [s0.sameX b05 b hb]; exact s0.xn b hb,
      fz _ _ s0.bl, s0.gs.mono fun a g q => q.mono fz, fz _ _ s0.wl, fz _ _ s0.vl, hcs.mono fr, ⟨[], ?_, Rep.nil⟩, ?_⟩ (s0.sameX b05) (((SameBut.of s1).trans b14).free hp npc) ?_
    · show del (X ++ mutA d) _ jl = _
      rw [del_at (s0.new_off hjl0)]
      exact s5 _ _ hj4
    · exact ⟨I.len, I.blk, I.low, I.seed, I.reach, I.glen, I.gok, I.wlen, I.wok, I.vlen, I.vok, clusters_ok I.blkInv, clusters_len h, by simp⟩
    · rw [upd_same, List.length_map, hcr.len]
      rfl
theorem ok_find_jets {f : Addr} {fd : FuncData} (F : Fun K "find_jets" "find_jets" s_find_jets f fd) (T : Txt K mg A) (C_jets_of : Cal P w K mg base 5 "jets_of" ["clusters", "reach"] (sp_jets_of K A)) : FnOk P w K mg base CX0 6 f fd ["one", "n"] (sp_find_jets K A) := by
  refine F.ok sc_find_jets (fun vs H Q E h => ?_) (fun cdv _ outer s H vs Q E hr h => ?_)
  · obtain ⟨d, h, X, np, ns, q, rfl, _⟩ := h
    rfl
  · obtain ⟨d, h, X, np, ns, q, rfl, hnp, hq, s0, k⟩ := h
    refine ⟨_, (pss_cons (ps_fld (pv 0) (pe_cal C_jets_of (hr.mono (by decide)) (by rfl) (pa_cons (pe_fldK (K := K) (pv 0) rfl) (pa_cons (pe_fldK (K := K) (pv 0) rfl) pa_nil))) rfl)
      (pss_one (ps_ret (pe_lst (pa_cons (pe_callB call_len_seq (by rfl) T.b_len PySem.boot_len (pa_cons (pe_fldK (K := K) (pv 0) rfl) pa_nil)) pa_nil))))), ?_⟩
    obtain ⟨rfl, rfl⟩ := call9 hq
    have n := T.k_Calorimeter.na
    have cl := T.k_Calorimeter.cl
    have I := s0.inv
    have eon : Sj24.on h .jets = ({ h with jets := Sj24.ordered (Sj24.jetsOf h.reach h.clusters) }, Sj24.just (Sj24.nat (Sj24.ordered (Sj24.jetsOf h.reach h.clusters)).length)) := rfl
    rw [eon] at k
    refine ⟨_, rfl, d.c, _, d.dx, _, _, rfl, s0.cal, cl, n _ (by simp), lk_Calorimeter_clusters, _, rfl, d.c, _, d.dx, _, _, rfl, s0.cal, cl, n _ (by simp), lk_Calorimeter_reach, ?_⟩
    refine ⟨d.cl, h.clusters, h.reach, rfl, s0.cs.mono s0.up, I.clen, I.cok, I.reach, fun pj H1 s1 hpj hjs hmem => ?_⟩
    refine ⟨_, rfl, d.c, _, d.dx, _, rfl, s1 _ _ s0.cal, cl, n _ (by simp), (by show 9 < 1000; decide), ?_⟩
    unfold calF
    rw [put_Calorimeter_jets]
    generalize hH2 : upd H1 d.c (.ins A.CCalorimeter d.dx [("least", V.int h.seed), ("low", V.int h.low), ("reach", V.int h.reach), ("gains", V.ref d.gl), ("w", V.ref d.wl), ("v", V.ref d.vl), ("blocks", V.ref d.bl), ("clusters", V.ref d.cl), ("jets", V.ref pj)]) = H2
    have b2 : SameBut d.c H1 H2 := by rw [← hH2]; exact SameBut.put
    have hx2 : H2 d.c = some (.ins A.CCalorimeter d.dx [("least", V.int h.seed), ("low", V.int h.low), ("reach", V.int h.reach), ("gains", V.ref d.gl), ("w", V.ref d.wl), ("v", V.ref d.vl), ("blocks", V.ref d.bl), ("clusters", V.ref d.cl), ("jets", V.ref pj)]) := by rw [← hH2]; exact upd_same
    have hjs0 := hjs
    obtain ⟨jas, hjp, hjr⟩ := hjs0
    have npjc : pj ≠ d.c := (ne_of_none s0.cal hpj).symm
    have hjp2 : H2 pj = some (.lst (jas.map V.ref)) := b2 _ _ (minus_le _ _ hjp) npjc
    refine ⟨_, rfl, d.c, _, d.dx, _, _, rfl, hx2, cl, n _ (by simp), lk_Calorimeter_jets, pj, _, rfl, .inl (SqL.of hjp2), (by show 1 ≤ sizeLine; decide), fun p hp => ?_⟩
    have s5 : Same H2 (upd H2 p (.lst [V.int ((jas.map V.ref).length : Int)])) := Same.upd_new hp
    have b15 : SameBut d.c H1 (upd H2 p (.lst [V.int ((jas.map V.ref).length : Int)])) := b2.trans (SameBut.of s5)
    have b05 : SameBut d.c H (upd H2 p (.lst [V.int ((jas.map V.ref).length : Int)])) := (SameBut.of s1).trans b15
    have fz := s0.frozen (d' := { d with jl := pj }) b05 fun b hb => .inl hb
    have fr := s0.fresh (d' := { d with jl := pj }) s1 b15 fun b hb => .inl hb
    have nd := s0.nd5
    have npc : p ≠ d.c := (ne_of_none hx2 hp).symm
    refine k { d with jl := pj } (upd H2 p (.lst [V.int ((jas.map V.ref).length : Int)])) p rfl ⟨s5 _ _ hx2, b05 _ _ s0.gl nd.1.1.symm, b05 _ _ s0.el nd.1.2.1.symm, b05 _ _ s0.tl nd.1.2.2.1.symm, b05 _ _ s0.fl nd.1.2.2.2.symm, s0.nd, s0.xm, fun b hb => by rw [s0.sameX b05 b hb]; exact s0.xn b hb,
      fz _ _ s0.bl, s0.gs.mono fun a g q => q.mono fz, fz _ _ s0.wl, fz _ _ s0.vl, s0.cs.mono fz, hjs.mono fr, ?_⟩ (s0.sameX b05) (((SameBut.of s1).trans b2).free hp npc) ?_
    · exact ⟨I.len, I.blk, I.low, I.seed, I.reach, I.glen, I.gok, I.wlen, I.wok, I.vlen, I.vok, I.cok, I.clen, hmem⟩
    · rw [upd_same, List.length_map, hjr.len]
      rfl
end
end Jb
end
section
set_option Elab.async false
set_option linter.all false
set_option maxRecDepth 100000
set_option maxHeartbeats 2000000
namespace Jb
open PySem PySem.Spec PyProof.Rows L2
open Sj24 (House)
/-! ### the calls on a calorimeter, third part -/
theorem insertNat_perm (x : Nat) : ∀ l : List Nat, (Sj24.insertNat x l).Perm (x :: l)
  | [] => List.Perm.refl _
  | y :: r => by
    unfold Sj24.insertNat
    split
    · exact List.Perm.refl _
    · exact ((insertNat_perm x r).cons y).trans (List.Perm.swap x y r)
theorem rising_perm : ∀ l : List Nat, (Sj24.rising l).Perm l
  | [] => List.Perm.refl _
  | x :: l => (insertNat_perm x (Sj24.rising l)).trans ((rising_perm l).cons x)
theorem insertNat_sorted {x : Nat} : ∀ {l : List Nat}, l.Pairwise (· ≤ ·) → (Sj24.insertNat x l).Pairwise (· ≤ ·)
  | [], _ => List.pairwise_singleton _ _
  | y :: r, h => by
    have h' := List.pairwise_cons.mp h
    unfold Sj24.insertNat
    split
    · rename_i c
      refine List.pairwise_cons.mpr ⟨fun z hz => ?_, h⟩
      rcases List.mem_cons.mp hz with rfl | hz
      · exact c
      · exact Nat.le_trans c (h'.1 z hz)
    · rename_i c
      refine List.pairwise_cons.mpr ⟨fun z hz => ?_, insertNat_sorted h'.2⟩
      rcases List.mem_cons.mp ((insertNat_perm x r).mem_iff.mp hz) with rfl | hz
      · omega
      · exact h'.1 z hz
theorem rising_sorted : ∀ l : List Nat, (Sj24.rising l).Pairwise (· ≤ ·)
  | [] => List.Pairwise.nil
  | x :: l => insertNat_sorted (rising_sorted l)
theorem rising_uniq {l : List Nat} {ns : List Int} (hp : ns.Perm (l.map fun n : Nat => (n : Int))) (hs : ns.Pairwise (· ≤ ·)) : ns = (Sj24.rising l).map Sj24.nat := by
  refine List.Perm.eq_of_pairwise (le := (· ≤ ·)) (fun a b _ _ h1 h2 => by omega) hs ?_ (hp.trans ((rising_perm l).symm.map _))
  rw [List.pairwise_map]
  refine (rising_sorted l).imp fun {a b} h => ?_
  show (a : Int) ≤ (b : Int)
  omega
theorem nV_eq (l : List Nat) : nV l = (l.map fun n : Nat => (n : Int)).map V.int := by
  unfold nV
  rw [List.map_map]
  rfl
section
variable {P : Program} {w : World} {K : PySem.W.Frag} {mg : Str → Option Value} {base : Heap} {A : Ad}
theorem ok_tell_cluster {f : Addr} {fd : FuncData} (F : Fun K "tell_cluster" "tell_cluster" s_tell_cluster f fd) (T : Txt K mg A) (C_Cluster_flag_by : CalM P w K mg base 1 A.CCluster "flag_by" ["self", "flags"] (sp_Cluster_flag_by K A)) (C_Cluster_time_by : CalM P w K mg base 2 A.CCluster "time_by" ["self", "times"] (sp_Cluster_time_by K A)) (C_is_from : Cal P w K mg base 1 "is_from" ["number", "least", "greatest"] (sp_is_from K A)) : FnOk P w K mg base CX0 3 f fd ["one", "n"] (sp_tell_cluster K A) := by
  refine F.ok sc_tell_cluster (fun vs H Q E h => ?_) (fun cdv _ outer s H vs Q E hr h => ?_)
  · obtain ⟨d, h, X, np, ns, q, rfl, _⟩ := h
    rfl
  · obtain ⟨d, h, X, np, ns, q, rfl, hnp, hq, s0, k⟩ := h
    refine ⟨_, (pss_cons (ps_if (pt_not (pt_val (pe_cal C_is_from (hr.mono (by decide)) (by rfl) (pa_cons (pe_ixL (K := K) (pv 1) (pe_int) (fun _ _ => rfl)) (pa_cons (pe_int) (pa_cons (pe_op op_sub (pe_callB call_len_seq (by rfl) T.b_len PySem.boot_len (pa_cons (pe_fldK (K := K) (pv 0) rfl) pa_nil)) (pe_int)) pa_nil)))))) (pss_one (ps_ret (pe_callTy call_list_of (by rfl) T.b_list (by decide +kernel) (pa_cons (pe_rf rfl T.g_BAD) pa_nil)))) pss_nil)
      (pss_cons (ps_set (i := 2) sc_tell_cluster.nd rfl (Or.inl rfl) (pe_ixL (K := K) (pe_fldK (K := K) (pv 0) rfl) (pe_ixL (K := K) (pv 1) (pe_int) (fun _ _ => rfl)) (fun _ _ => rfl)))
      (pss_cons (ps_set (i := 3) sc_tell_cluster.nd rfl (Or.inl rfl) (pe_lst (pa_cons (pe_callB call_len_seq (by rfl) T.b_len PySem.boot_len (pa_cons (pe_fldK (K := K) (pv 2) rfl) pa_nil)) (pa_cons (pe_fldK (K := K) (pv 2) rfl) (pa_cons (pe_fldK (K := K) (pv 2) rfl) (pa_cons (pe_fldK (K := K) (pv 2) rfl) (pa_cons (pe_fldK (K := K) (pv 2) rfl) pa_nil)))))))
      (pss_one (ps_ret (pe_op op_cat (pv 3) (pe_lst (pa_cons (pe_mth (pv 2) C_Cluster_time_by (hr.mono (by decide)) (pa_cons (pe_fldK (K := K) (pe_fldK (K := K) (pv 0) rfl) rfl) pa_nil)) (pa_cons (pe_mth (pv 2) C_Cluster_flag_by (hr.mono (by decide)) (pa_cons (pe_fldK (K := K) (pe_fldK (K := K) (pv 0) rfl) rfl) pa_nil)) pa_nil))))))))), ?_⟩
    obtain ⟨c, rfl, rfl⟩ := call7 hq
    have n := T.k_Calorimeter.na
    have cl := T.k_Calorimeter.cl
    have nb := T.k_Blocks.na
    have clb := T.k_Blocks.cl
    have nc := T.k_Cluster.na
    have clc := T.k_Cluster.cl
    have I := s0.inv
    have eon : Sj24.on h (.cluster c) = if !Sj24.isIn 0 (Sj24.nat h.clusters.length - 1) c then (h, Sj24.just (-2)) else match h.clusters[c.toNat]? with
      | none => (h, Sj24.just (-2))
      | some x => (h, ⟨Sj24.nat x.parts.length, [Sj24.nat x.seed, x.e, x.col, x.row, x.time h, Sj24.bit (x.parts.any fun p => (h.block p.block).full)]⟩) := rfl
    have at0 : atI (([c] : List Int).map V.int) ((0 : Nat) : Int) = some (V.int c) := atI_nat rfl
    obtain ⟨cas, hcp, hcr⟩ := s0.cs.mono s0.up
    have hcl : ((cas.map V.ref).length : Int) = Sj24.nat h.clusters.length := by rw [List.length_map, hcr.len]; rfl
    refine ⟨_, rfl, np, _, _, _, rfl, rfl, SqL.of hnp, at0, _, rfl, d.c, _, d.dx, _, _, rfl, s0.cal, cl, n _ (by simp), lk_Calorimeter_clusters, d.cl, _, rfl, .inl (SqL.of hcp), _, _, rfl, rfl, c, 0, _, rfl, _, rfl, ?_⟩
    rw [hcl]
    refine ite_b (fun cc => ?_) (fun cc => ?_)
    · refine ⟨A.aBAD, _, rfl, .inl (T.l_BAD _), k.bad s0 ?_ (Same.refl _)⟩
      rw [eon, if_pos cc]
    have a1 := isIn_iff.mp (show Sj24.isIn 0 (Sj24.nat h.clusters.length - 1) c = true by simpa using cc)
    rw [if_neg (by rw [cc]; exact Bool.false_ne_true)] at eon
    have ec : ((c.toNat : Nat) : Int) = c := by omega
    have hcl2 : c.toNat < h.clusters.length := by
      have e : Sj24.nat h.clusters.length = (h.clusters.length : Int) := rfl
      omega
    obtain ⟨x, hx⟩ : ∃ x, h.clusters[c.toNat]? = some x := ⟨_, List.getElem?_eq_getElem hcl2⟩
    rw [hx] at eon
    simp only at eon
    obtain ⟨ca, hca, dxc, pa, e1, e2⟩ := hcr.item hx
    have O := I.cok x (List.mem_of_getElem? hx)
    have hat : atI (cas.map V.ref) c = some (V.ref ca) := by
      have := ref_at hca
      rw [ec] at this
      exact this
    have e20 := e2
    obtain ⟨ts, t1, t2⟩ := e20
    refine ⟨_, rfl, d.c, _, d.dx, _, _, rfl, s0.cal, cl, n _ (by simp), lk_Calorimeter_clusters, _, rfl, np, _, _, _, rfl, rfl, SqL.of hnp, at0, d.cl, _, _, _, rfl, rfl, SqL.of hcp, hat, ?_⟩
    refine ⟨_, rfl, ca, _, dxc, _, _, rfl, e1, clc, nc _ (by simp), lk_Cluster_parts, pa, _, rfl, .inl (SqL.of t1), _, rfl, ca, _, dxc, _, _, rfl, e1, clc, nc _ (by simp), lk_Cluster_seed, _, rfl, ca, _, dxc, _, _, rfl, e1, clc, nc _ (by simp), lk_Cluster_energy,
      _, rfl, ca, _, dxc, _, _, rfl, e1, clc, nc _ (by simp), lk_Cluster_column, _, rfl, ca, _, dxc, _, _, rfl, e1, clc, nc _ (by simp), lk_Cluster_row, (by show 5 ≤ sizeLine; decide), fun F hF => ?_⟩
    have s1 : Same H (upd H F (.lst [V.int ((ts.map V.ref).length : Int), V.int (x.seed : Int), V.int x.e, V.int x.col, V.int x.row])) := Same.upd_new hF
    have bl1 := s1 _ _ (s0.up _ _ s0.bl)
    refine ⟨_, rfl, _, rfl, ca, dxc, _, rfl, s1 _ _ e1, no_Cluster_time_by, _, rfl, d.c, _, d.dx, _, _, rfl, s1 _ _ s0.cal, cl, n _ (by simp), lk_Calorimeter_blocks, d.bl, _, d.dxb, _, _, rfl, bl1, clb, nb _ (by simp), lk_Blocks_times, ?_⟩
    refine ⟨ca, d.tl, x, h, rfl, ⟨dxc, pa, s1 _ _ e1, e2.mono s1⟩, O, I.len, I.times, SqL.of (s1 _ _ s0.tl), fun H2 s2 => ?_⟩
    have s12 := s1.trans s2
    refine ⟨_, rfl, ca, dxc, _, rfl, s12 _ _ e1, no_Cluster_flag_by, _, rfl, d.c, _, d.dx, _, _, rfl, s12 _ _ s0.cal, cl, n _ (by simp), lk_Calorimeter_blocks, d.bl, _, d.dxb, _, _, rfl, s2 _ _ bl1, clb, nb _ (by simp), lk_Blocks_flags, ?_⟩
    refine ⟨ca, d.fl, x, h, rfl, ⟨dxc, pa, s12 _ _ e1, e2.mono s12⟩, O, I.len, SqL.of (s12 _ _ s0.fl), fun H3 s3 => ?_⟩
    have s13 := s12.trans s3
    refine ⟨(by show 2 ≤ sizeLine; decide), fun L hL => ?_⟩
    have s4 : Same H3 (upd H3 L (.lst [V.int (x.time h), V.int (Sj24.bit (x.parts.any fun p => (h.block p.block).full))])) := Same.upd_new hL
    refine ⟨F, L, _, _, rfl, rfl, s4 _ _ (s3 _ _ (s2 _ _ upd_same)), upd_same, (by show 5 + 2 ≤ sizeLine; decide), fun p hp => ?_⟩
    refine k.read s0 eon ((s13.trans s4).trans (Same.upd_new hp)) ((s13.trans s4).free hp) ?_
    rw [upd_same, List.length_map, t2.len]
    rfl
theorem ok_tell_parts {f : Addr} {fd : FuncData} (F : Fun K "tell_parts" "tell_parts" s_tell_parts f fd) (T : Txt K mg A) (C_is_from : Cal P w K mg base 1 "is_from" ["number", "least", "greatest"] (sp_is_from K A)) : FnOk P w K mg base CX0 2 f fd ["one", "n"] (sp_tell_parts K A) := by
  refine F.ok sc_tell_parts (fun vs H Q E h => ?_) (fun cdv _ outer s H vs Q E hr h => ?_)
  · obtain ⟨d, h, X, np, ns, q, rfl, _⟩ := h
    rfl
  · obtain ⟨d, h, X, np, ns, q, rfl, hnp, hq, s0, k⟩ := h
    refine ⟨_, (pss_cons (ps_if (pt_not (pt_val (pe_cal C_is_from (hr.mono (by decide)) (by rfl) (pa_cons (pe_ixL (K := K) (pv 1) (pe_int) (fun _ _ => rfl)) (pa_cons (pe_int) (pa_cons (pe_op op_sub (pe_callB call_len_seq (by rfl) T.b_len PySem.boot_len (pa_cons (pe_fldK (K := K) (pv 0) rfl) pa_nil)) (pe_int)) pa_nil)))))) (pss_one (ps_ret (pe_callTy call_list_of (by rfl) T.b_list (by decide +kernel) (pa_cons (pe_rf rfl T.g_BAD) pa_nil)))) pss_nil)
      (pss_cons (ps_set (i := 2) sc_tell_parts.nd rfl (Or.inl rfl) (pe_lst (pa_cons (pe_callB call_len_seq (by rfl) T.b_len PySem.boot_len (pa_cons (pe_fldK (K := K) (pe_ixL (K := K) (pe_fldK (K := K) (pv 0) rfl) (pe_ixL (K := K) (pv 1) (pe_int) (fun _ _ => rfl)) (fun _ _ => rfl)) rfl) pa_nil)) pa_nil)))
      (pss_cons (ps_for PassesOwn.never rfl (pi_list (pe_fldK (K := K) (pe_ixL (K := K) (pe_fldK (K := K) (pv 0) rfl) (pe_ixL (K := K) (pv 1) (pe_int) (fun _ _ => rfl)) (fun _ _ => rfl)) rfl)) (pg_tupK (K := K) (n := 2) rfl (pgs_cons (pg_name (i := 3) sc_tell_parts.nd rfl (Or.inl rfl)) (pgs_cons (pg_name (i := 4) sc_tell_parts.nd rfl (Or.inl rfl)) pgs_nil))) (pss_one (ps_expr (pe_bm PySem.F.plainAttrs_list PySem.F.slot_list_extend PySem.F.type_list_extend mt_extend (pv 2) (pa_cons (pe_lst (pa_cons (pv 3) (pa_cons (pv 4) pa_nil))) pa_nil)))))
      (pss_one (ps_ret (pv 2)))))), ?_⟩
    obtain ⟨c, rfl, rfl⟩ := call8 hq
    have n := T.k_Calorimeter.na
    have cl := T.k_Calorimeter.cl
    have nc := T.k_Cluster.na
    have clc := T.k_Cluster.cl
    have I := s0.inv
    have eon : Sj24.on h (.parts c) = if !Sj24.isIn 0 (Sj24.nat h.clusters.length - 1) c then (h, Sj24.just (-2)) else match h.clusters[c.toNat]? with
      | none => (h, Sj24.just (-2))
      | some x => (h, ⟨Sj24.nat x.parts.length, x.parts.flatMap fun p => [Sj24.nat p.block, p.e]⟩) := rfl
    have at0 : atI (([c] : List Int).map V.int) ((0 : Nat) : Int) = some (V.int c) := atI_nat rfl
    obtain ⟨cas, hcp, hcr⟩ := s0.cs.mono s0.up
    have hcl : ((cas.map V.ref).length : Int) = Sj24.nat h.clusters.length := by rw [List.length_map, hcr.len]; rfl
    refine ⟨_, rfl, np, _, _, _, rfl, rfl, SqL.of hnp, at0, _, rfl, d.c, _, d.dx, _, _, rfl, s0.cal, cl, n _ (by simp), lk_Calorimeter_clusters, d.cl, _, rfl, .inl (SqL.of hcp), _, _, rfl, rfl, c, 0, _, rfl, _, rfl, ?_⟩
    rw [hcl]
    refine ite_b (fun cc => ?_) (fun cc => ?_)
    · refine ⟨A.aBAD, _, rfl, .inl (T.l_BAD _), k.bad s0 ?_ (Same.refl _)⟩
      rw [eon, if_pos cc]
    have a1 := isIn_iff.mp (show Sj24.isIn 0 (Sj24.nat h.clusters.length - 1) c = true by simpa using cc)
    rw [if_neg (by rw [cc]; exact Bool.false_ne_true)] at eon
    have ec : ((c.toNat : Nat) : Int) = c := by omega
    have hcl2 : c.toNat < h.clusters.length := by
      have e : Sj24.nat h.clusters.length = (h.clusters.length : Int) := rfl
      omega
    obtain ⟨x, hx⟩ : ∃ x, h.clusters[c.toNat]? = some x := ⟨_, List.getElem?_eq_getElem hcl2⟩
    rw [hx] at eon
    simp only at eon
    obtain ⟨ca, hca, dxc, pa, e1, e2⟩ := hcr.item hx
    have O := I.cok x (List.mem_of_getElem? hx)
    have hat : atI (cas.map V.ref) c = some (V.ref ca) := by
      have := ref_at hca
      rw [ec] at this
      exact this
    obtain ⟨ts, t1, t2⟩ := e2
    refine ⟨_, rfl, d.c, _, d.dx, _, _, rfl, s0.cal, cl, n _ (by simp), lk_Calorimeter_clusters, _, rfl, np, _, _, _, rfl, rfl, SqL.of hnp, at0, d.cl, _, _, _, rfl, rfl, SqL.of hcp, hat, ca, _, dxc, _, _, rfl, e1, clc, nc _ (by simp), lk_Cluster_parts, pa, _, rfl, .inl (SqL.of t1), (by show 1 ≤ sizeLine; decide), fun F hF => ?_⟩
    have s1 : Same H (upd H F (.lst [V.int ((ts.map V.ref).length : Int)])) := Same.upd_new hF
    refine ⟨_, rfl, d.c, _, d.dx, _, _, rfl, s1 _ _ s0.cal, cl, n _ (by simp), lk_Calorimeter_clusters, _, rfl, np, _, _, _, rfl, rfl, SqL.of (s1 _ _ hnp), at0, d.cl, _, _, _, rfl, rfl, SqL.of (s1 _ _ hcp), hat, ca, _, dxc, _, _, rfl, s1 _ _ e1, clc, nc _ (by simp), lk_Cluster_parts, pa, rfl, ⟨_, SqL.of (s1 _ _ t1)⟩, ?_⟩
    refine for_list (K := K) (a := pa) (xs := ts.map V.ref) (fun i σ H' => ∃ v3 v4 : Option V, σ = [some (.ref d.c), some (.ref np), some (.ref F), v3, v4] ∧ Same H H' ∧ H' F = some (.lst (V.int (x.parts.length : Int) :: (((x.parts.take i).flatMap fun p => [Sj24.nat p.block, p.e]).map V.int))))
      ⟨none, none, rfl, s1, by rw [upd_same, List.length_map, t2.len]; rfl⟩ (fun i σ H' _ ⟨_, _, _, s, _⟩ => SqL.of (s _ _ t1)) ?_ ?_
    · rintro i y σ H1 hy ⟨v3, v4, rfl, s2, hF2⟩
      obtain ⟨t, ht, rfl⟩ := map_some hy
      obtain ⟨p, hp, ep⟩ := t2.at_ i t ht
      refine ⟨t, _, rfl, .inl (.inl (s2 _ _ ep)), rfl, _, _, rfl, _, _, rfl, rfl, ?_⟩
      refine ⟨_, rfl, .inl ⟨rfl, _, SqL.of hF2⟩, _, rfl, _, rfl, (by show 2 ≤ sizeLine; decide), fun m hm => ?_⟩
      have s3 : Same H1 (upd H1 m (.lst [V.int (p.block : Int), V.int p.e])) := Same.upd_new hm
      refine ⟨F, m, _, _, rfl, rfl, s3 _ _ hF2, upd_same, ?_, _, _, rfl, Same.upd_keep (s2.trans s3) hF, ?_⟩
      · have hl : ∀ l : List Sj24.Part, (l.flatMap fun p => [Sj24.nat p.block, p.e]).length = 2 * l.length := by
          intro l
          induction l with
          | nil => rfl
          | cons a l ih => rw [List.flatMap_cons, List.length_append, ih, List.length_cons]; simp; omega
        have := O.len
        refine small ?_
        rw [List.length_cons, List.length_map, hl, List.length_take]
        simp
        omega
      · rw [upd_same, take_snoc hp, List.flatMap_append, List.map_append]
        rfl
    · rintro σ H1 ⟨v3, v4, rfl, s2, hF2⟩
      refine ⟨_, rfl, k.read s0 eon s2 hF ?_⟩
      rw [hF2, List.take_of_length_le (by rw [List.length_map, t2.len]; exact Nat.le_refl _)]
      rfl
theorem ok_tell_jet {f : Addr} {fd : FuncData} (F : Fun K "tell_jet" "tell_jet" s_tell_jet f fd) (T : Txt K mg A) (C_is_from : Cal P w K mg base 1 "is_from" ["number", "least", "greatest"] (sp_is_from K A)) : FnOk P w K mg base CX0 2 f fd ["one", "n"] (sp_tell_jet K A) := by
  refine F.ok sc_tell_jet (fun vs H Q E h => ?_) (fun cdv _ outer s H vs Q E hr h => ?_)
  · obtain ⟨d, h, X, np, ns, q, rfl, _⟩ := h
    rfl
  · obtain ⟨d, h, X, np, ns, q, rfl, hnp, hq, s0, k⟩ := h
    refine ⟨_, (pss_cons (ps_if (pt_not (pt_val (pe_cal C_is_from (hr.mono (by decide)) (by rfl) (pa_cons (pe_ixL (K := K) (pv 1) (pe_int) (fun _ _ => rfl)) (pa_cons (pe_int) (pa_cons (pe_op op_sub (pe_callB call_len_seq (by rfl) T.b_len PySem.boot_len (pa_cons (pe_fldK (K := K) (pv 0) rfl) pa_nil)) (pe_int)) pa_nil)))))) (pss_one (ps_ret (pe_callTy call_list_of (by rfl) T.b_list (by decide +kernel) (pa_cons (pe_rf rfl T.g_BAD) pa_nil)))) pss_nil)
      (pss_cons (ps_set (i := 2) sc_tell_jet.nd rfl (Or.inl rfl) (pe_ixL (K := K) (pe_fldK (K := K) (pv 0) rfl) (pe_ixL (K := K) (pv 1) (pe_int) (fun _ _ => rfl)) (fun _ _ => rfl)))
      (pss_one (ps_ret (pe_op op_cat (pe_lst (pa_cons (pe_callB call_len_seq (by rfl) T.b_len PySem.boot_len (pa_cons (pe_fldK (K := K) (pv 2) rfl) pa_nil)) (pa_cons (pe_fldK (K := K) (pv 2) rfl) (pa_cons (pe_fldK (K := K) (pv 2) rfl) (pa_cons (pe_fldK (K := K) (pv 2) rfl) pa_nil))))) (pe_callB cr_sortedI (by rfl) T.b_sorted (by decide +kernel) (pa_cons (pe_fldK (K := K) (pv 2) rfl) pa_nil))))))), ?_⟩
    obtain ⟨c, rfl, rfl⟩ := call10 hq
    have n := T.k_Calorimeter.na
    have cl := T.k_Calorimeter.cl
    have nj := T.k_Pseudojet.na
    have clj := T.k_Pseudojet.cl
    have I := s0.inv
    have eon : Sj24.on h (.jet c) = if !Sj24.isIn 0 (Sj24.nat h.jets.length - 1) c then (h, Sj24.just (-2)) else match h.jets[c.toNat]? with
      | none => (h, Sj24.just (-2))
      | some x => (h, ⟨Sj24.nat x.members.length, [x.e, x.col, x.row] ++ (Sj24.rising x.members).map Sj24.nat⟩) := rfl
    have at0 : atI (([c] : List Int).map V.int) ((0 : Nat) : Int) = some (V.int c) := atI_nat rfl
    obtain ⟨cas, hcp, hcr⟩ := s0.js.mono s0.up
    have hcl : ((cas.map V.ref).length : Int) = Sj24.nat h.jets.length := by rw [List.length_map, hcr.len]; rfl
    refine ⟨_, rfl, np, _, _, _, rfl, rfl, SqL.of hnp, at0, _, rfl, d.c, _, d.dx, _, _, rfl, s0.cal, cl, n _ (by simp), lk_Calorimeter_jets, d.jl, _, rfl, .inl (SqL.of hcp), _, _, rfl, rfl, c, 0, _, rfl, _, rfl, ?_⟩
    rw [hcl]
    refine ite_b (fun cc => ?_) (fun cc => ?_)
    · refine ⟨A.aBAD, _, rfl, .inl (T.l_BAD _), k.bad s0 ?_ (Same.refl _)⟩
      rw [eon, if_pos cc]
    have a1 := isIn_iff.mp (show Sj24.isIn 0 (Sj24.nat h.jets.length - 1) c = true by simpa using cc)
    rw [if_neg (by rw [cc]; exact Bool.false_ne_true)] at eon
    have ec : ((c.toNat : Nat) : Int) = c := by omega
    have hcl2 : c.toNat < h.jets.length := by
      have e : Sj24.nat h.jets.length = (h.jets.length : Int) := rfl
      omega
    obtain ⟨x, hx⟩ : ∃ x, h.jets[c.toNat]? = some x := ⟨_, List.getElem?_eq_getElem hcl2⟩
    rw [hx] at eon
    simp only at eon
    obtain ⟨ca, hca, dxc, ma, e1, e2⟩ := hcr.item hx
    have hm := I.jok x (List.mem_of_getElem? hx)
    have hat : atI (cas.map V.ref) c = some (V.ref ca) := by
      have := ref_at hca
      rw [ec] at this
      exact this
    refine ⟨_, rfl, d.c, _, d.dx, _, _, rfl, s0.cal, cl, n _ (by simp), lk_Calorimeter_jets, _, rfl, np, _, _, _, rfl, rfl, SqL.of hnp, at0, d.jl, _, _, _, rfl, rfl, SqL.of hcp, hat, ?_⟩
    refine ⟨_, rfl, ca, _, dxc, _, _, rfl, e1, clj, nj _ (by simp), lk_Pseudojet_clusters, ma, _, rfl, .inl (SqL.of e2), _, rfl, ca, _, dxc, _, _, rfl, e1, clj, nj _ (by simp), lk_Pseudojet_energy, _, rfl, ca, _, dxc, _, _, rfl, e1, clj, nj _ (by simp), lk_Pseudojet_column,
      _, rfl, ca, _, dxc, _, _, rfl, e1, clj, nj _ (by simp), lk_Pseudojet_row, (by show 4 ≤ sizeLine; decide), fun F hF => ?_⟩
    have s1 : Same H (upd H F (.lst [V.int ((nV x.members).length : Int), V.int x.e, V.int x.col, V.int x.row])) := Same.upd_new hF
    refine ⟨_, rfl, ca, _, dxc, _, _, rfl, s1 _ _ e1, clj, nj _ (by simp), lk_Pseudojet_clusters, ma, x.members.map fun n : Nat => (n : Int), rfl, by rw [← nV_eq]; exact SqL.of (s1 _ _ e2), fun ns' L hperm hrise hL => ?_⟩
    have ens := rising_uniq hperm hrise
    have hnl : ns'.length ≤ 1024 := by
      rw [hperm.length_eq, List.length_map]
      exact hm
    have s2 : Same _ (upd (upd H F (.lst [V.int ((nV x.members).length : Int), V.int x.e, V.int x.col, V.int x.row])) L (.lst (ns'.map V.int))) := Same.upd_new hL
    refine ⟨F, L, _, _, rfl, rfl, s2 _ _ upd_same, upd_same, small (by rw [List.length_map]; simp; omega), fun p hp => ?_⟩
    refine k.read s0 eon ((s1.trans s2).trans (Same.upd_new hp)) ((s1.trans s2).free hp) ?_
    rw [upd_same, nV_len, ens]
    rfl
theorem ok_tell_sums {f : Addr} {fd : FuncData} (F : Fun K "tell_sums" "tell_sums" s_tell_sums f fd) (T : Txt K mg A) (C_energy_inside : Cal P w K mg base 5 "energy_inside" ["energies", "least", "low"] (sp_energy_inside K A)) : FnOk P w K mg base CX0 6 f fd ["one", "n"] (sp_tell_sums K A) := by
  refine F.ok sc_tell_sums (fun vs H Q E h => ?_) (fun cdv _ outer s H vs Q E hr h => ?_)
  · obtain ⟨d, h, X, np, ns, q, rfl, _⟩ := h
    rfl
  · obtain ⟨d, h, X, np, ns, q, rfl, hnp, hq, s0, k⟩ := h
    refine ⟨_, (pss_cons (ps_set (i := 2) sc_tell_sums.nd rfl (Or.inl rfl) (pe_callB (cr_sum rfl) (by rfl) T.b_sum (by decide +kernel) (pa_cons (pe_fldK (K := K) (pe_fldK (K := K) (pv 0) rfl) rfl) pa_nil)))
      (pss_cons (ps_set (i := 3) sc_tell_sums.nd rfl (Or.inl rfl) (pe_cal C_energy_inside (hr.mono (by decide)) (by rfl) (pa_cons (pe_fldK (K := K) (pe_fldK (K := K) (pv 0) rfl) rfl) (pa_cons (pe_fldK (K := K) (pv 0) rfl) (pa_cons (pe_fldK (K := K) (pv 0) rfl) pa_nil)))))
      (pss_one (ps_ret (pe_lst (pa_cons (pe_int) (pa_cons (pv 2) (pa_cons (pv 3) (pa_cons (pe_op op_sub (pv 2) (pv 3)) pa_nil))))))))), ?_⟩
    obtain ⟨rfl, rfl⟩ := call11 hq
    have n := T.k_Calorimeter.na
    have cl := T.k_Calorimeter.cl
    have nb := T.k_Blocks.na
    have clb := T.k_Blocks.cl
    have I := s0.inv
    have eon : Sj24.on h .sums = (h, ⟨0, [Sj24.total h, Sj24.total h - Sj24.outside h, Sj24.outside h]⟩) := rfl
    have bl0 := s0.up _ _ s0.bl
    refine ⟨_, rfl, d.c, _, d.dx, _, _, rfl, s0.cal, cl, n _ (by simp), lk_Calorimeter_blocks, d.bl, _, d.dxb, _, _, rfl, bl0, clb, nb _ (by simp), lk_Blocks_energies, d.el, _, rfl, SqL.of s0.el, ?_⟩
    refine ⟨_, rfl, d.c, _, d.dx, _, _, rfl, s0.cal, cl, n _ (by simp), lk_Calorimeter_blocks, d.bl, _, d.dxb, _, _, rfl, bl0, clb, nb _ (by simp), lk_Blocks_energies, _, rfl, d.c, _, d.dx, _, _, rfl, s0.cal, cl, n _ (by simp), lk_Calorimeter_least, _, rfl, d.c, _, d.dx, _, _, rfl, s0.cal, cl, n _ (by simp), lk_Calorimeter_low, ?_⟩
    refine ⟨h, d.el, rfl, I.len, SqL.of s0.el, fun H1 s1 => ?_⟩
    refine ⟨_, rfl, _, rfl, _, rfl, _, rfl, _, _, rfl, rfl, (by show 4 ≤ sizeLine; decide), fun p hp => ?_⟩
    refine k.read s0 eon (s1.trans (Same.upd_new hp)) (s1.free hp) ?_
    rw [upd_same, inside_eq I.len, ← total_eq I.len]
    have e3 : Sj24.total h - (Sj24.total h - Sj24.outside h) = Sj24.outside h := by omega
    show some (HO.lst [V.int 0, V.int (Sj24.total h), V.int (Sj24.total h - Sj24.outside h), V.int (Sj24.total h - (Sj24.total h - Sj24.outside h))]) = _
    rw [e3]
    rfl
theorem ok_tell_window {f : Addr} {fd : FuncData} (F : Fun K "tell_window" "tell_window" s_tell_window f fd) (T : Txt K mg A) (C_best_window : Cal P w K mg base 3 "best_window" ["energies", "width", "height"] (sp_best_window K A)) (C_is_from : Cal P w K mg base 1 "is_from" ["number", "least", "greatest"] (sp_is_from K A)) : FnOk P w K mg base CX0 4 f fd ["one", "n"] (sp_tell_window K A) := by
  refine F.ok sc_tell_window (fun vs H Q E h => ?_) (fun cdv _ outer s H vs Q E hr h => ?_)
  · obtain ⟨d, h, X, np, ns, q, rfl, _⟩ := h
    rfl
  · obtain ⟨d, h, X, np, ns, q, rfl, hnp, hq, s0, k⟩ := h
    refine ⟨_, (pss_cons (ps_asg (pv 1) (pg_unl rfl (pgs_cons (pg_name (i := 2) sc_tell_window.nd rfl (Or.inl rfl)) (pgs_cons (pg_name (i := 3) sc_tell_window.nd rfl (Or.inl rfl)) pgs_nil))))
      (pss_cons (ps_if (PW.pt (pw_or (pt_not (pt_val (pe_cal C_is_from (hr.mono (by decide)) (by rfl) (pa_cons (pv 2) (pa_cons (pe_int) (pa_cons (pe_cst rfl T.c_MANY_COLUMNS) pa_nil)))))) (pw_or1 (pt_not (pt_val (pe_cal C_is_from (hr.mono (by decide)) (by rfl) (pa_cons (pv 3) (pa_cons (pe_int) (pa_cons (pe_cst rfl T.c_MANY_ROWS) pa_nil))))))))) (pss_one (ps_ret (pe_callTy call_list_of (by rfl) T.b_list (by decide +kernel) (pa_cons (pe_rf rfl T.g_BAD) pa_nil)))) pss_nil)
      (pss_cons (ps_asg (pe_cal C_best_window (hr.mono (by decide)) (by rfl) (pa_cons (pe_fldK (K := K) (pe_fldK (K := K) (pv 0) rfl) rfl) (pa_cons (pv 2) (pa_cons (pv 3) pa_nil)))) (pg_tupK (K := K) (n := 2) rfl (pgs_cons (pg_name (i := 4) sc_tell_window.nd rfl (Or.inl rfl)) (pgs_cons (pg_name (i := 5) sc_tell_window.nd rfl (Or.inl rfl)) pgs_nil))))
      (pss_one (ps_ret (pe_lst (pa_cons (pv 4) (pa_cons (pv 5) pa_nil)))))))), ?_⟩
    obtain ⟨x, y, rfl, rfl⟩ := call12 hq
    have n := T.k_Calorimeter.na
    have cl := T.k_Calorimeter.cl
    have nb := T.k_Blocks.na
    have clb := T.k_Blocks.cl
    have I := s0.inv
    have eon : Sj24.on h (.window x y) = if !Sj24.isIn 1 32 x || !Sj24.isIn 1 32 y then (h, Sj24.just (-2)) else (h, ⟨Sj24.nat (Sj24.best h x.toNat y.toNat).1, [(Sj24.best h x.toNat y.toNat).2]⟩) := rfl
    have bl0 := s0.up _ _ s0.bl
    refine ⟨_, rfl, np, _, rfl, SqL.of hnp, rfl, _, _, rfl, _, _, rfl, rfl, ?_⟩
    refine ⟨_, rfl, x, 1, 32, rfl, _, rfl, ite_b (fun c => ite_t rfl ?_) (fun c => ?_)⟩
    · refine ⟨A.aBAD, _, rfl, .inl (T.l_BAD _), k.bad s0 ?_ (Same.refl _)⟩
      rw [eon, if_pos (by rw [c]; rfl)]
    refine ⟨_, rfl, y, 1, 32, rfl, _, rfl, ite_b (fun c2 => ?_) (fun c2 => ?_)⟩
    · refine ⟨A.aBAD, _, rfl, .inl (T.l_BAD _), k.bad s0 ?_ (Same.refl _)⟩
      rw [eon, if_pos (by rw [c2]; simp)]
    have b1 : Sj24.isIn 1 32 x = true := by simpa using c
    have b2 : Sj24.isIn 1 32 y = true := by simpa using c2
    have a1 := isIn_iff.mp b1
    have a2 := isIn_iff.mp b2
    rw [if_neg (by rw [b1, b2]; decide)] at eon
    have e1 : x = ((x.toNat : Nat) : Int) := by omega
    have e2 : y = ((y.toNat : Nat) : Int) := by omega
    refine ⟨_, rfl, d.c, _, d.dx, _, _, rfl, s0.cal, cl, n _ (by simp), lk_Calorimeter_blocks, d.bl, _, d.dxb, _, _, rfl, bl0, clb, nb _ (by simp), lk_Blocks_energies, _, rfl, _, rfl, ?_⟩
    refine ⟨d.el, h, x.toNat, y.toNat, by rw [← e1, ← e2], I.len, SqL.of s0.el, by omega, by omega, by omega, by omega, fun t H1 s1 ht e3 => ?_⟩
    refine ⟨t, _, rfl, .inl (.inl e3), rfl, _, _, rfl, _, _, rfl, rfl, ?_⟩
    exact ⟨_, rfl, _, rfl, (by show 2 ≤ sizeLine; decide), fun p hp => k.read s0 eon (s1.trans (Same.upd_new hp)) (s1.free hp) upd_same⟩
theorem ok_clear {f : Addr} {fd : FuncData} (F : Fun K "clear" "clear" s_clear f fd) (T : Txt K mg A) (C_Calorimeter_forget : CalM P w K mg base 3 A.CCalorimeter "forget" ["self"] (sp_Calorimeter_forget K A)) : FnOk P w K mg base CX0 4 f fd ["one", "n"] (sp_clear K A) := by
  refine F.ok sc_clear (fun vs H Q E h => ?_) (fun cdv _ outer s H vs Q E hr h => ?_)
  · obtain ⟨d, h, X, np, ns, q, rfl, _⟩ := h
    rfl
  · obtain ⟨d, h, X, np, ns, q, rfl, hnp, hq, s0, k⟩ := h
    refine ⟨_, (pss_cons (ps_expr (pe_mth0 (pv 0) C_Calorimeter_forget (hr.mono (by decide))))
      (pss_one (ps_ret (pe_lst (pa_cons (pe_int) pa_nil))))), ?_⟩
    obtain ⟨rfl, rfl⟩ := call13 hq
    have eon : Sj24.on h .clear = ({ h with blocks := List.replicate Sj24.BLOCKS Sj24.none_, clusters := [], jets := [] }, Sj24.just 0) := rfl
    rw [eon] at k
    refine ⟨_, rfl, d.c, d.dx, _, rfl, s0.cal, no_Calorimeter_forget, d, h, X, rfl, s0, fun H1 d' hd s1 st => ?_⟩
    refine ⟨(by show 1 ≤ sizeLine; decide), fun p hp => ?_⟩
    have s2 : Same H1 (upd H1 p (.lst [V.int 0])) := Same.upd_new hp
    have nc : p ≠ d.c := fun z => by
      rw [z, ← hd, s1.cal] at hp
      cases hp
    exact k d' (upd H1 p (.lst [V.int 0])) p hd (s1.grow s2) (s0.sameX (st.trans (SameBut.of s2))) (st.free hp nc) upd_same
end
end Jb
end
section
set_option Elab.async false
set_option linter.all false
set_option maxRecDepth 100000
set_option maxHeartbeats 2000000
namespace Jb
open PySem PySem.Spec PyProof.Rows L2
open Sj24 (House)
open Sj24Neutral (callOf)
/-! ### the desk, and all calls -/
def StAt (A : Ad) (H : Hp) (dk : Addr) (s : Sj24.State) (X : List Addr) : Prop := ∃ (dxk : Addr) (v : V), H dk = some (.ins A.CDesk dxk [("calorimeter", v)]) ∧ (∀ b ∈ X, H b ≠ none) ∧ match s with
  | none => v = .non
  | some h => ∃ d : Cd, v = .ref d.c ∧ CalS A H d h X
theorem StAt.move {A : Ad} {H H' : Hp} {dk : Addr} {s : Sj24.State} {X : List Addr} (h : StAt A H dk s X) (k : ∀ b o, H b = some o → b ∉ X → H' b = some o) (kx : ∀ b ∈ X, H' b ≠ none) (kd : H' dk = H dk) : StAt A H' dk s X := by
  obtain ⟨dxk, v, h1, h2, h3⟩ := h
  refine ⟨dxk, v, kd.trans h1, kx, ?_⟩
  cases s with
  | none => exact h3
  | some hh =>
    obtain ⟨d, e, S⟩ := h3
    exact ⟨d, e, S.keep k kx⟩
def badOpen (x y r : Int) : Bool := !Sj24.isIn 1 Sj24.MOST y || !Sj24.isIn y Sj24.MOST x || !Sj24.isIn 1 1024 r
def sp_Desk___init__ (K : PySem.W.Frag) (A : Ad) : Sp := fun vs H Q _ => ∃ (x dx : Addr), vs = [.ref x] ∧ H x = some (.ins A.CDesk dx []) ∧
  ∀ H' : Hp, H' x = some (.ins A.CDesk dx [("calorimeter", .non)]) → SameBut x H H' → Q .non H'
def sp_Desk_begin (K : PySem.W.Frag) (A : Ad) : Sp := fun vs H Q _ => ∃ (dk dxk np : Addr) (v : V) (x y r : Int) (X : List Addr), vs = [.ref dk, .ref np] ∧ H dk = some (.ins A.CDesk dxk [("calorimeter", v)]) ∧ H np = some (.lst (([x, y, r] : List Int).map V.int)) ∧ dk ∈ X ∧ (∀ b ∈ X, H b ≠ none) ∧
  (badOpen x y r = true → ∀ (H' : Hp) (p : Addr), Same H H' → H p = none → H' p = some (.lst (ansV (Sj24.just (-2)))) → Q (.ref p) H') ∧
  (badOpen x y r = false → ∀ (H' : Hp) (p : Addr) (d : Cd), H' dk = some (.ins A.CDesk dxk [("calorimeter", .ref d.c)]) → CalS A H' d (house0 x y r) X → (∀ b ∈ X, b ≠ dk → H' b = H b) → H p = none → H' p = some (.lst (ansV (Sj24.just 0))) → Q (.ref p) H')
def sp_Desk_answer (K : PySem.W.Frag) (A : Ad) : Sp := fun vs H Q _ => ∃ (dk np : Addr) (code : Int) (ns : List Int) (q : Sj24.Call) (s : Sj24.State) (X : List Addr), vs = [.ref dk, .int code, .ref np] ∧ H np = some (.lst (ns.map V.int)) ∧ callOf (code :: ns) = some q ∧ (1 ≤ code ∧ code ≤ 13) ∧ dk ∈ X ∧ StAt A H dk s X ∧
  ∀ (H' : Hp) (p : Addr), StAt A H' dk (Sj24.step s q).1 X → (∀ b ∈ X, b ≠ dk → H' b = H b) → H p = none → H' p = some (.lst (ansV (Sj24.step s q).2)) → Q (.ref p) H'
def spAns (K : PySem.W.Frag) : Sp := fun vs H Q _ => ∃ (a : Addr) (ns : List Int), vs = [.ref a] ∧ SqL K H a (ns.map V.int) ∧ PySj24.answers_asked ns = true ∧
  ∀ (H' : Hp) (p : Addr), H' p = some (.lst ((PySj24.answers ns).map V.int)) → Q (.ref p) H'
def sp_answers (K : PySem.W.Frag) (A : Ad) : Sp := spAns K
theorem code_cases {code : Int} (h : 1 ≤ code ∧ code ≤ 13) (h1 : code ≠ 1) : code = 2 ∨ code = 3 ∨ code = 4 ∨ code = 5 ∨ code = 6 ∨ code = 7 ∨ code = 8 ∨ code = 9 ∨ code = 10 ∨ code = 11 ∨ code = 12 ∨ code = 13 := by omega
theorem step_on {code : Int} {ns : List Int} {q : Sj24.Call} (hq : callOf (code :: ns) = some q) (hc : 1 ≤ code ∧ code ≤ 13) (h1 : code ≠ 1) : Sj24.step none q = (none, Sj24.just (-7)) ∧ ∀ h, Sj24.step (some h) q = (some (Sj24.on h q).1, (Sj24.on h q).2) := by
  rcases code_cases hc h1 with rfl | rfl | rfl | rfl | rfl | rfl | rfl | rfl | rfl | rfl | rfl | rfl
  · obtain ⟨k, m, s, z, _, rfl⟩ := call2 hq
    exact ⟨rfl, fun _ => rfl⟩
  · obtain ⟨_, rfl⟩ := call3 hq
    exact ⟨rfl, fun _ => rfl⟩
  · obtain ⟨b, k, s, _, _, rfl⟩ := call4 hq
    exact ⟨rfl, fun _ => rfl⟩
  · obtain ⟨b, _, rfl⟩ := call5 hq
    exact ⟨rfl, fun _ => rfl⟩
  · obtain ⟨_, rfl⟩ := call6 hq
    exact ⟨rfl, fun _ => rfl⟩
  · obtain ⟨b, _, rfl⟩ := call7 hq
    exact ⟨rfl, fun _ => rfl⟩
  · obtain ⟨b, _, rfl⟩ := call8 hq
    exact ⟨rfl, fun _ => rfl⟩
  · obtain ⟨_, rfl⟩ := call9 hq
    exact ⟨rfl, fun _ => rfl⟩
  · obtain ⟨b, _, rfl⟩ := call10 hq
    exact ⟨rfl, fun _ => rfl⟩
  · obtain ⟨_, rfl⟩ := call11 hq
    exact ⟨rfl, fun _ => rfl⟩
  · obtain ⟨b, c, _, rfl⟩ := call12 hq
    exact ⟨rfl, fun _ => rfl⟩
  · obtain ⟨_, rfl⟩ := call13 hq
    exact ⟨rfl, fun _ => rfl⟩
theorem held_of {P : Program} {w : World} {K : PySem.W.Frag} {mg : Str → Option Value} {base : Heap} {a : Addr} {code : Int} {name : Str} {k : Nat} {ps : List Str} {sp : Sp}
    (hT : ∃ f, mg name = some (.ref f) ∧ KDctI K a code (.ref f)) (C : Cal P w K mg base k name ps sp) (hk : k ≤ 7) : ∃ f, KDctI K a code (.ref f) ∧ Held P w K mg base 7 f sp := by
  obtain ⟨f, m1, kd⟩ := hT
  obtain ⟨f', fd, F, m2, kp, hb⟩ := C
  rw [m1] at m2
  cases m2
  exact ⟨f, kd, ⟨fd, ps, F.mono hk, kp, hb⟩⟩
section
variable {P : Program} {w : World} {K : PySem.W.Frag} {mg : Str → Option Value} {base : Heap} {A : Ad}
theorem ok_Desk___init__ {f : Addr} {fd : FuncData} (F : Fun K "__init__" "Desk.__init__" s_Desk___init__ f fd) (T : Txt K mg A) : FnOk P w K mg base CX0 1 f fd ["self"] (sp_Desk___init__ K A) := by
  refine F.ok sc_Desk___init__ (fun vs H Q E h => ?_) (fun cdv _ outer s H vs Q E hr h => ?_)
  · obtain ⟨x, dx, rfl, _⟩ := h
    rfl
  · obtain ⟨x, dx, rfl, hx, k⟩ := h
    refine ⟨_, (pss_one (ps_fld (pv 0) (pe_non) rfl)), ?_⟩
    refine ⟨_, rfl, x, _, dx, _, rfl, hx, T.k_Desk.cl, T.k_Desk.na _ (by simp), (by show 0 < 1000; decide), ?_⟩
    rw [ini_Desk_calorimeter]
    exact k _ upd_same SameBut.put
theorem ok_Desk_begin {f : Addr} {fd : FuncData} (F : Fun K "begin" "Desk.begin" s_Desk_begin f fd) (T : Txt K mg A) (C_opened : Cal P w K mg base 5 "opened" ["n"] (sp_opened K A)) : FnOk P w K mg base CX0 6 f fd ["self", "n"] (sp_Desk_begin K A) := by
  refine F.ok sc_Desk_begin (fun vs H Q E h => ?_) (fun cdv _ outer s H vs Q E hr h => ?_)
  · obtain ⟨dk, dxk, np, v, x, y, r, X, rfl, _⟩ := h
    rfl
  · obtain ⟨dk, dxk, np, v, x, y, r, X, rfl, hdk, hnp, hX, hXn, kB, kG⟩ := h
    refine ⟨_, (pss_cons (ps_set (i := 2) sc_Desk_begin.nd rfl (Or.inl rfl) (pe_cal C_opened (hr.mono (by decide)) (by rfl) (pa_cons (pv 1) pa_nil)))
      (pss_cons (ps_if (pt_cmpR op_isN (pv 2) pe_non (nomark _)) (pss_one (ps_ret (pe_callTy call_list_of (by rfl) T.b_list (by decide +kernel) (pa_cons (pe_rf rfl T.g_BAD) pa_nil)))) pss_nil)
      (pss_cons (ps_fld (pv 0) (pv 2) rfl)
      (pss_one (ps_ret (pe_lst (pa_cons (pe_int) pa_nil))))))), ?_⟩
    refine ⟨_, rfl, np, x, y, r, X, rfl, hnp, hXn, fun hb => ?_, fun hb H1 d s1 S1 => ?_⟩
    · refine ⟨_, rfl, rfl, _, rfl, ite_t rfl ?_⟩
      exact ⟨A.aBAD, _, rfl, .inl (T.l_BAD _), fun l hl => kB hb _ l (Same.upd_new hl) hl upd_same⟩
    · refine ⟨_, rfl, rfl, _, rfl, ite_f rfl ?_⟩
      refine ⟨_, rfl, _, rfl, dk, _, dxk, _, rfl, s1 _ _ hdk, T.k_Desk.cl, T.k_Desk.na _ (by simp), (by show 1 < 1000; decide), ?_⟩
      rw [put_Desk_calorimeter]
      generalize hH2 : upd H1 dk (.ins A.CDesk dxk [("calorimeter", V.ref d.c)]) = H2
      have hk2 : H2 dk = some (.ins A.CDesk dxk [("calorimeter", V.ref d.c)]) := by rw [← hH2]; exact upd_same
      have S2 : CalS A H2 d (house0 x y r) X := by rw [← hH2]; exact S1.updX hX
      refine ⟨(by show 1 ≤ sizeLine; decide), fun p hp => ?_⟩
      have s3 : Same H2 (upd H2 p (.lst [V.int 0])) := Same.upd_new hp
      have b02 : SameBut dk H H2 := by rw [← hH2]; exact (SameBut.of s1).trans SameBut.put
      refine kG hb _ p d (s3 _ _ hk2) (S2.grow s3) (fun b hb hn => ?_) (b02.free hp (ne_of_none hk2 hp).symm) upd_same
      cases e : H b with
      | none => exact absurd e (hXn b hb)
      | some o => exact s3 _ _ (b02 b o e hn)
theorem ok_Desk_answer {f : Addr} {fd : FuncData} (F : Fun K "answer" "Desk.answer" s_Desk_answer f fd) (T : Txt K mg A) (C_Desk_begin : CalM P w K mg base 6 A.CDesk "begin" ["self", "n"] (sp_Desk_begin K A)) (C_clear : Cal P w K mg base 4 "clear" ["one", "n"] (sp_clear K A)) (C_find_clusters : Cal P w K mg base 7 "find_clusters" ["one", "n"] (sp_find_clusters K A)) (C_find_jets : Cal P w K mg base 6 "find_jets" ["one", "n"] (sp_find_jets K A)) (C_set_gain : Cal P w K mg base 3 "set_gain" ["one", "n"] (sp_set_gain K A)) (C_set_weights : Cal P w K mg base 3 "set_weights" ["one", "n"] (sp_set_weights K A)) (C_tell_block : Cal P w K mg base 2 "tell_block" ["one", "n"] (sp_tell_block K A)) (C_tell_cluster : Cal P w K mg base 3 "tell_cluster" ["one", "n"] (sp_tell_cluster K A)) (C_tell_jet : Cal P w K mg base 2 "tell_jet" ["one", "n"] (sp_tell_jet K A)) (C_tell_parts : Cal P w K mg base 2 "tell_parts" ["one", "n"] (sp_tell_parts K A)) (C_tell_sums : Cal P w K mg base 6 "tell_sums" ["one", "n"] (sp_tell_sums K A)) (C_tell_window : Cal P w K mg base 4 "tell_window" ["one", "n"] (sp_tell_window K A)) (C_weigh_pulse : Cal P w K mg base 4 "weigh_pulse" ["one", "n"] (sp_weigh_pulse K A)) : FnOk P w K mg base CX0 8 f fd ["self", "call", "n"] (sp_Desk_answer K A) := by
  refine F.ok sc_Desk_answer (fun vs H Q E h => ?_) (fun cdv _ outer s H vs Q E hr h => ?_)
  · obtain ⟨dk, np, code, ns, q, s', X, rfl, _⟩ := h
    rfl
  · obtain ⟨dk, np, code, ns, q, s', X, rfl, hnp, hq, hc, hX, hst, k⟩ := h
    refine ⟨_, (pss_cons (ps_if (pt_cmpR op_eqI (pv 1) (pe_cst rfl T.c_OPEN) (nomark _)) (pss_one (ps_ret (pe_mth (pv 0) C_Desk_begin (hr.mono (by decide)) (pa_cons (pv 2) pa_nil)))) pss_nil)
      (pss_cons (ps_if (pt_cmpR op_isN (pe_fldK (K := K) (pv 0) rfl) pe_non (nomark _)) (pss_one (ps_ret (pe_callTy call_list_of (by rfl) T.b_list (by decide +kernel) (pa_cons (pe_rf rfl T.g_NO_CALORIMETER) pa_nil)))) pss_nil)
      (pss_cons (ps_set (i := 3) sc_Desk_answer.nd rfl (Or.inl rfl) (pe_ixI (pe_rf rfl T.g_CALLS) (pv 1) (fun _ _ => rfl)))
      (pss_one (ps_ret (pe_callH (k := 7) (i := 3) (hr.mono (by decide)) rfl (Or.inl rfl) (pa_cons (pe_fldK (K := K) (pv 0) rfl) (pa_cons (pv 2) pa_nil)))))))), ?_⟩
    obtain ⟨dxk, v, hdk, hXn, hs⟩ := hst
    have n := T.k_Desk.na
    have cl := T.k_Desk.cl
    refine ⟨_, rfl, _, _, rfl, rfl, _, rfl, ite_b (fun c => ?_) (fun c => ?_)⟩
    · -- open
      have c := of_decide_eq_true c
      subst c
      obtain ⟨x, y, r, rfl, rfl⟩ := call1 hq
      refine ⟨_, rfl, dk, dxk, _, rfl, hdk, no_Desk_begin, _, rfl, dk, dxk, np, v, x, y, r, X, rfl, hdk, hnp, hX, hXn, fun hb H' p sm hp he => ?_, fun hb H' p d hd hS hXs hp he => ?_⟩
      · have e : Sj24.step s' (.open_ x y r) = (s', Sj24.just (-2)) := if_pos hb
        rw [e] at k
        refine k H' p ⟨dxk, v, sm _ _ hdk, fun b hb z => hXn b hb (sm.free z), ?_⟩ (fun b hb _ => ?_) hp he
        · cases s' with
          | none => exact hs
          | some hh =>
            obtain ⟨d, e, S⟩ := hs
            exact ⟨d, e, S.grow sm⟩
        · cases e : H b with
          | none => exact absurd e (hXn b hb)
          | some o => exact sm b o e
      · have e : Sj24.step s' (.open_ x y r) = (some (house0 x y r), Sj24.just 0) := if_neg (by rw [show (!Sj24.isIn 1 Sj24.MOST y || !Sj24.isIn y Sj24.MOST x || !Sj24.isIn 1 1024 r) = false from hb]; exact Bool.false_ne_true)
        rw [e] at k
        exact k H' p ⟨dxk, _, hd, hS.xn, d, rfl, hS⟩ hXs hp he
    · have c := of_decide_eq_false c
      have so := step_on hq hc c
      refine ⟨_, rfl, dk, _, dxk, _, _, rfl, hdk, cl, n _ (by simp), lk_Desk_calorimeter, rfl, _, rfl, ?_⟩
      cases s' with
      | none =>
        have ev : v = .non := hs
        subst ev
        rw [so.1] at k
        refine ite_t rfl ?_
        refine ⟨A.aNO_CALORIMETER, _, rfl, .inl (T.l_NO_CALORIMETER _), fun l hl => ?_⟩
        have sm : Same H (upd H l (.lst [V.int (-7)])) := Same.upd_new hl
        refine k _ l ⟨dxk, _, sm _ _ hdk, fun b hb z => hXn b hb (sm.free z), rfl⟩ (fun b hb _ => ?_) hl upd_same
        cases e : H b with
        | none => exact absurd e (hXn b hb)
        | some o => exact sm b o e
      | some hh =>
        obtain ⟨d, ev, S⟩ := hs
        subst ev
        rw [so.2 hh] at k
        have hheld : ∃ f, KDctI K A.aCALLS code (.ref f) ∧ Held P w K mg base 7 f (spOp code A) := by
          rcases code_cases hc c with rfl | rfl | rfl | rfl | rfl | rfl | rfl | rfl | rfl | rfl | rfl | rfl
          · exact held_of (T.l_CALLS (2, "set_gain") (by simp [callNames])) C_set_gain (by decide)
          · exact held_of (T.l_CALLS (3, "set_weights") (by simp [callNames])) C_set_weights (by decide)
          · exact held_of (T.l_CALLS (4, "weigh_pulse") (by simp [callNames])) C_weigh_pulse (by decide)
          · exact held_of (T.l_CALLS (5, "tell_block") (by simp [callNames])) C_tell_block (by decide)
          · exact held_of (T.l_CALLS (6, "find_clusters") (by simp [callNames])) C_find_clusters (by decide)
          · exact held_of (T.l_CALLS (7, "tell_cluster") (by simp [callNames])) C_tell_cluster (by decide)
          · exact held_of (T.l_CALLS (8, "tell_parts") (by simp [callNames])) C_tell_parts (by decide)
          · exact held_of (T.l_CALLS (9, "find_jets") (by simp [callNames])) C_find_jets (by decide)
          · exact held_of (T.l_CALLS (10, "tell_jet") (by simp [callNames])) C_tell_jet (by decide)
          · exact held_of (T.l_CALLS (11, "tell_sums") (by simp [callNames])) C_tell_sums (by decide)
          · exact held_of (T.l_CALLS (12, "tell_window") (by simp [callNames])) C_tell_window (by decide)
          · exact held_of (T.l_CALLS (13, "clear") (by simp [callNames])) C_clear (by decide)
        obtain ⟨f', kd, hH⟩ := hheld
        refine ite_f rfl ?_
        refine ⟨_, rfl, A.aCALLS, code, _, rfl, rfl, kd, ?_⟩
        refine ⟨f', spOp code A, rfl, hH, _, rfl, dk, _, dxk, _, _, rfl, hdk, cl, n _ (by simp), lk_Desk_calorimeter, _, rfl, ?_⟩
        refine ⟨d, hh, X, np, ns, q, rfl, hnp, hq, S, fun d' H' p hd S' hXs hp he => ?_⟩
        refine k H' p ⟨dxk, .ref d.c, (hXs dk hX).trans hdk, S'.xn, d', by rw [hd], S'⟩ (fun b hb _ => hXs b hb) hp he
theorem ok_answers {f : Addr} {fd : FuncData} (F : Fun K "answers" "answers" s_answers f fd) (T : Txt K mg A) (C_Desk___init__ : CalC P w K mg base 1 "Desk" A.CDesk ["self"] (sp_Desk___init__ K A)) (C_Desk_answer : CalM P w K mg base 8 A.CDesk "answer" ["self", "call", "n"] (sp_Desk_answer K A)) : FnOk P w K mg base CX0 9 f fd ["calls"] (sp_answers K A) := by
  refine F.ok sc_answers (fun vs H Q E h => ?_) (fun cdv _ outer s H vs Q E hr h => ?_)
  · obtain ⟨a, ns, rfl, _⟩ := h
    rfl
  · obtain ⟨a, ns, rfl, hS, hask, k⟩ := h
    refine ⟨_, (pss_cons (ps_set (i := 1) sc_answers.nd rfl (Or.inl rfl) (pe_mk0 C_Desk___init__ (hr.mono (by decide)) (by rfl)))
      (pss_cons (ps_set (i := 2) sc_answers.nd rfl (Or.inl rfl) (pe_lst pa_nil))
      (pss_cons (ps_set (i := 3) sc_answers.nd rfl (Or.inl rfl) (pe_int))
      (pss_cons (ps_while PassesOwn.never (pt_cmpR op_lt (pv 3) (pe_callB call_len_seq (by rfl) T.b_len PySem.boot_len (pa_cons (pv 0) pa_nil)) (nomark _)) (pss_cons (ps_set (i := 4) sc_answers.nd rfl (Or.inl rfl) (pe_ixL (K := K) (pv 0) (pv 3) (fun _ _ => rfl)))
      (pss_cons (ps_set (i := 5) sc_answers.nd rfl (Or.inl rfl) (pe_op op_add (pe_op op_add (pv 3) (pe_int)) (pe_ixT (K := K) (pe_rf rfl T.g_NUMBERS) (pv 4) (fun _ _ => rfl))))
      (pss_cons (ps_set (i := 6) sc_answers.nd rfl (Or.inl rfl) (pe_mth (pv 1) C_Desk_answer (hr.mono (by decide)) (pa_cons (pv 4) (pa_cons (pe_slice sl_list (pv 0) (po_some (pe_op op_add (pv 3) (pe_int))) (po_some (pv 5))) pa_nil))))
      (pss_cons (ps_expr (pe_bm PySem.F.plainAttrs_list PySem.F.slot_list_append PySem.F.type_list_append mt_append (pv 2) (pa_cons (pe_callB call_len_seq (by rfl) T.b_len PySem.boot_len (pa_cons (pv 6) pa_nil)) pa_nil)))
      (pss_cons (ps_expr (pe_bm PySem.F.plainAttrs_list PySem.F.slot_list_extend PySem.F.type_list_extend mt_extend (pv 2) (pa_cons (pv 6) pa_nil)))
      (pss_one (ps_set (i := 3) sc_answers.nd rfl (Or.inl rfl) (pv 5)))))))))
      (pss_one (ps_ret (pv 2))))))), ?_⟩
    obtain ⟨raw, hraw, hsome, hmost, hans⟩ := asked_parts hask
    -- what of the request's list is tracked
    obtain ⟨l, hl1, hl2⟩ : ∃ l : List Addr, (∀ b ∈ l, H b ≠ none) ∧ ∀ H' : Hp, (∀ b ∈ l, H' b = H b) → SqL K H' a (ns.map V.int) := by
      rcases hS with (e | ⟨o, e⟩) | e
      · exact ⟨[a], fun b hb => by
          have eb : b = a := by simpa using hb
          rw [eb, e]; simp, fun H' hH => .inl (.inl ((hH a (by simp)).trans e))⟩
      · exact ⟨[a], fun b hb => by
          have eb : b = a := by simpa using hb
          rw [eb, e]; simp, fun H' hH => .inl (.inr ⟨o, (hH a (by simp)).trans e⟩)⟩
      · exact ⟨[], by simp, fun H' _ => .inr e⟩
    intro dk dxk ndk ndx nex
    refine ⟨dk, dxk, rfl, upd_same, fun H1 e1 b1 => ⟨rfl, ?_⟩⟩
    have s1 : Same H H1 := Same.made ndk ndx b1
    refine ⟨Nat.zero_le _, fun L hL => ?_⟩
    have s2 : Same H1 (upd H1 L (.lst [])) := Same.upd_new hL
    have nLd : L ≠ dk := (ne_of_none e1 hL).symm
    have hL0 : H L = none := s1.free hL
    have nl : ∀ b ∈ l, b ≠ dk ∧ b ≠ L := fun b hb => ⟨fun z => hl1 b hb (by rw [z]; exact ndk), fun z => hl1 b hb (by rw [z]; exact hL0)⟩
    generalize hX : dk :: L :: l = X
    have mdk : dk ∈ X := by rw [← hX]; simp
    have mL : L ∈ X := by rw [← hX]; simp
    have ml : ∀ b ∈ l, b ∈ X := fun b hb => by rw [← hX]; simp [hb]
    have st0 : StAt A (upd H1 L (.lst [])) dk Sj24Neutral.start X := by
      refine ⟨dxk, .non, s2 _ _ e1, fun b hb => ?_, rfl⟩
      rw [← hX] at hb
      rcases List.mem_cons.mp hb with rfl | hb
      · rw [s2 _ _ e1]; simp
      · rcases List.mem_cons.mp hb with rfl | hb
        · rw [upd_same]; simp
        · intro z
          exact hl1 b hb ((s1.trans s2).free z)
    refine ⟨fun m σ H' => ∃ (at' : Nat) (out : List Int) (s' : Sj24.State) (cs : List (List (List Int))) (f' : Nat) (v4 v5 v6 : Option V), m = ns.length - at' ∧ at' ≤ ns.length ∧ σ = [some (.ref a), some (.ref dk), some (.ref L), some (.int (at' : Int)), v4, v5, v6] ∧
        (∀ b ∈ l, H' b = H b) ∧ H' L = some (.lst (out.map V.int)) ∧ StAt A H' dk s' X ∧ PyFlat.calls PySj24.shape f' (ns.drop at') = some cs ∧ (∀ c ∈ cs, (callOf (c.headD [])).isSome = true) ∧ out ++ PyFlat.told (PyFlat.played Sj24Neutral.step s' cs) = PySj24.answers ns,
      ⟨ns.length, 0, [], Sj24Neutral.start, raw, ns.length, none, none, none, rfl, Nat.zero_le _, rfl, fun b hb => ?_, upd_same, st0, by rw [List.drop_zero]; exact hraw, hsome, by rw [List.nil_append]; exact hans.symm⟩, ?_⟩
    · cases e : H b with
      | none => exact absurd e (hl1 b hb)
      | some o => exact s2 _ _ (s1 _ _ e)
    · rintro m σ H2 ⟨at', out, s', cs, f', v4, v5, v6, rfl, hat, rfl, hl3, hL2, st, hcs, hcsome, heq⟩
      have hS2 := hl2 H2 hl3
      refine ⟨_, rfl, _, rfl, a, _, rfl, .inl hS2, _, _, rfl, rfl, _, rfl, ite_b (fun c => ?_) (fun c => ?_)⟩
      · have c := of_decide_eq_true c
        rw [List.length_map] at c
        have hlt : at' < ns.length := by omega
        obtain ⟨p', hp'⟩ : ∃ p', ns[at']? = some p' := ⟨_, List.getElem?_eq_getElem hlt⟩
        have hdrop : ns.drop at' = p' :: ns.drop (at' + 1) := by
          rw [List.drop_eq_getElem_cons hlt]
          congr 1
          rw [List.getElem?_eq_getElem hlt] at hp'
          exact Option.some.inj hp'
        rw [hdrop] at hcs
        obtain ⟨f2, n', cs', hp1, hp2, hnum, hn', ecs, hcs'⟩ := parse_step hcs
        have hatn : at' + 1 + n' ≤ ns.length := by
          rw [List.length_drop] at hn'
          omega
        have hc0 := hcsome [p' :: (ns.drop (at' + 1)).take n'] (by rw [ecs]; simp)
        obtain ⟨q, hq⟩ : ∃ q, callOf (p' :: (ns.drop (at' + 1)).take n') = some q := Option.isSome_iff_exists.mp hc0
        have hatV : atI (ns.map V.int) (at' : Int) = some (V.int p') := atI_nat (by rw [List.getElem?_map, hp']; rfl)
        have hnumV : atI (numbers.map V.int) p' = some (V.int (n' : Int)) := by
          have e : ((p'.toNat : Nat) : Int) = p' := by omega
          have := atI_nat (xs := numbers.map V.int) (j := p'.toNat) (v := V.int (n' : Int)) (by rw [List.getElem?_map, hnum]; rfl)
          rw [e] at this
          exact this
        have hstep : ∀ s'', Sj24Neutral.step s'' [p' :: (ns.drop (at' + 1)).take n'] = ((Sj24.step s'' q).1, (Sj24.step s'' q).2.v :: (Sj24.step s'' q).2.l) := fun s'' => by
          unfold Sj24Neutral.step
          rw [show ([p' :: (ns.drop (at' + 1)).take n'] : List (List Int)).headD [] = p' :: (ns.drop (at' + 1)).take n' from rfl, hq]
        obtain ⟨dxk2, v2, hdk2, _, _⟩ := id st
        refine ⟨fun σ' H' => ∃ (out' : List Int) (v4 v5 v6 : Option V), σ' = [some (.ref a), some (.ref dk), some (.ref L), some (.int ((at' + 1 + n' : Nat) : Int)), v4, v5, v6] ∧ (∀ b ∈ l, H' b = H b) ∧ H' L = some (.lst (out'.map V.int)) ∧ StAt A H' dk (Sj24.step s' q).1 X ∧
            out' ++ PyFlat.told (PyFlat.played Sj24Neutral.step (Sj24.step s' q).1 cs') = PySj24.answers ns, ?_, ?_⟩
        · rintro σ' H' ⟨out', w4, w5, w6, rfl, g1, g2, g3, g4⟩
          refine ⟨ns.length - (at' + 1 + n'), by omega, at' + 1 + n', out', (Sj24.step s' q).1, cs', f2, w4, w5, w6, rfl, hatn, rfl, g1, g2, g3, ?_, fun c hc => hcsome c (by rw [ecs]; simp [hc]), g4⟩
          rw [← hcs', List.drop_drop]
        · refine ⟨_, rfl, _, rfl, a, _, _, _, rfl, rfl, hS2, hatV, ?_⟩
          refine ⟨_, rfl, _, _, rfl, rfl, _, rfl, A.aNUMBERS, _, _, _, rfl, rfl, T.l_NUMBERS _, hnumV, _, _, rfl, rfl, ?_⟩
          refine ⟨_, rfl, dk, dxk2, _, rfl, hdk2, no_Desk_answer, _, rfl, _, rfl, _, rfl, _, _, rfl, rfl, _, rfl, _, rfl, _, rfl, a, _, rfl, hS2, fun np hnp => ?_⟩
          have ecut : cutV (ns.map V.int) (some ((at' : Int) + 1)) (some ((at' : Int) + 1 + (n' : Int))) = ((ns.drop (at' + 1)).take n').map V.int := by
            have a1 : (at' : Int) + 1 = ((at' + 1 : Nat) : Int) := by omega
            have a2 : (at' : Int) + 1 + (n' : Int) = ((at' + 1 + n' : Nat) : Int) := by omega
            unfold cutV
            rw [a2, a1, HT.sIx_nat, HT.sIx_nat, List.length_map, Nat.min_eq_left (by omega), Nat.min_eq_left (by omega), ← List.map_drop, ← List.map_take]
            have a3 : at' + 1 + n' - (at' + 1) = n' := by omega
            rw [a3]
          rw [ecut]
          have s3 : Same H2 (upd H2 np (.lst (((ns.drop (at' + 1)).take n').map V.int))) := Same.upd_new hnp
          have keepX : ∀ b ∈ X, upd H2 np (.lst (((ns.drop (at' + 1)).take n').map V.int)) b = H2 b := fun b hb => by
            cases e : H2 b with
            | none =>
              obtain ⟨_, _, _, hxn, _⟩ := id st
              exact absurd e (hxn b hb)
            | some o => exact s3 b o e
          have st3 : StAt A (upd H2 np (.lst (((ns.drop (at' + 1)).take n').map V.int))) dk s' X := by
            obtain ⟨_, _, _, hxn, _⟩ := id st
            exact st.move (fun b o e _ => s3 b o e) (fun b hb => by rw [keepX b hb]; exact hxn b hb) (keepX dk mdk)
          refine ⟨dk, np, p', (ns.drop (at' + 1)).take n', q, s', X, rfl, upd_same, hq, ⟨hp1, hp2⟩, mdk, st3, fun H4 p st4 hX4 hp hp4 => ?_⟩
          -- the answer is told
          have hL4 : H4 L = some (.lst (out.map V.int)) := by rw [hX4 L mL nLd, keepX L mL]; exact hL2
          have npL : p ≠ L := fun z => by
            rw [z, keepX L mL, hL2] at hp
            cases hp
          have heq2 : out ++ (((Sj24.step s' q).2.v :: (Sj24.step s' q).2.l).length : Int) :: (((Sj24.step s' q).2.v :: (Sj24.step s' q).2.l) ++ PyFlat.told (PyFlat.played Sj24Neutral.step (Sj24.step s' q).1 cs')) = PySj24.answers ns := by
            rw [← heq, ecs]
            show _ = out ++ PyFlat.told ((Sj24Neutral.step s' [p' :: (ns.drop (at' + 1)).take n']).2 :: PyFlat.played Sj24Neutral.step (Sj24Neutral.step s' [p' :: (ns.drop (at' + 1)).take n']).1 cs')
            rw [hstep, told_cons]
            rfl
          have hlen := congrArg List.length heq2
          simp only [List.length_append, List.length_cons] at hlen
          have hansl : (ansV (Sj24.step s' q).2).length = (Sj24.step s' q).2.l.length + 1 := by
            unfold ansV
            rw [List.length_map, List.length_cons]
          refine ⟨_, rfl, .inl ⟨rfl, _, SqL.of hL4⟩, _, rfl, p, _, rfl, .inl (SqL.of hp4), L, _, _, rfl, rfl, hL4, by rw [sizeLine_eq, List.length_map]; omega, ?_⟩
          refine ⟨_, rfl, .inl ⟨rfl, _, SqL.of upd_same⟩, _, rfl, L, p, _, _, rfl, rfl, upd_same, by rw [upd_ne npL]; exact hp4, by rw [sizeLine_eq, List.length_append, List.length_map, hansl]; simp; omega, ?_⟩
          rw [upd_upd]
          refine ⟨_, rfl, ?_⟩
          refine ⟨out ++ (((Sj24.step s' q).2.v :: (Sj24.step s' q).2.l).length : Int) :: ((Sj24.step s' q).2.v :: (Sj24.step s' q).2.l), some (V.int p'), some (V.int ((at' + 1 + n' : Nat) : Int)), some (V.ref p), ?_, fun b hb => ?_, ?_, ?_, ?_⟩
          · have e9 : (at' : Int) + 1 + (n' : Int) = ((at' + 1 + n' : Nat) : Int) := by omega
            rw [← e9]
            rfl
          · rw [upd_ne (nl b hb).2, hX4 b (ml b hb) (nl b hb).1, keepX b (ml b hb)]
            exact hl3 b hb
          · rw [upd_same, hansl]
            unfold ansV
            simp
          · obtain ⟨_, _, _, hxn, _⟩ := id st4
            refine st4.move (fun b o e hb => ?_) (fun b hb => ?_) ?_
            · rw [upd_ne (fun z => hb (by rw [z]; exact mL))]
              exact e
            · by_cases z : b = L
              · rw [z, upd_same]; simp
              · rw [upd_ne z]
                exact hxn b hb
            · rw [upd_ne nLd.symm]
          · rw [← heq2]
            simp
      · have c := of_decide_eq_false c
        rw [List.length_map] at c
        have hge : ns.length ≤ at' := by omega
        have hcs0 : cs = [] := by
          rw [List.drop_of_length_le hge] at hcs
          have e : PyFlat.calls PySj24.shape f' [] = some [] := by cases f' <;> rfl
          rw [e] at hcs
          exact (Option.some.inj hcs).symm
        rw [hcs0] at heq
        have hout : out = PySj24.answers ns := by
          rw [← heq]
          show out = out ++ []
          rw [List.append_nil]
        refine ⟨_, rfl, k H2 L ?_⟩
        rw [hL2, hout]
end
end Jb
end
section
set_option Elab.async false
set_option linter.all false
set_option maxRecDepth 100000
set_option maxHeartbeats 4000000
namespace Jb
open PySem PySem.Spec PyProof.Rows L2
/-! ### the end: what the top has written, taken together -/
def DefF (K : PySem.W.Frag) (mg : Str → Option Value) (x : Str) (st : Stmt) : Prop := ∃ (f : Addr) (fd : FuncData), Fun K x x st f fd ∧ mg x = some (.ref f)
def IniF (K : PySem.W.Frag) (mg : Str → Option Value) (x q : Str) (C : Addr) (st : Stmt) : Prop := ∃ (f : Addr) (fd : FuncData), Fun K "__init__" q st f fd ∧ Mk K C f ∧ mg x = some (.ref C)
def MthF (K : PySem.W.Frag) (C : Addr) (m q : Str) (st : Stmt) : Prop := ∃ (f : Addr) (fd : FuncData), Fun K m q st f fd ∧ Meth K C m f
def NA (K : PySem.W.Frag) (C : Addr) : List Str → Prop
  | [] => True
  | x :: r => PySem.W.findIn K (.ref C) x = some none ∧ NA K C r
theorem na_all {K : PySem.W.Frag} {C : Addr} : ∀ {l : List Str}, NA K C l → ∀ x ∈ l, NoAttr K C x
  | [], _, x, hx => by cases hx
  | y :: r, h, x, hx => by
    rcases List.mem_cons.mp hx with rfl | hx
    · exact h.1
    · exact na_all h.2 x hx
section
variable {K : PySem.W.Frag} {h : Heap} {mg : Str → Option Value}
theorem def_mk (X : K.In h) (G : h.Ns mainGlobals mg) {x : Str} {st : Stmt} {f : Addr} {oc : Value} {od an : Option Addr} {osl : Array (Option Value)} {kV doc pm cdv ct : Value} (a : PySem.W.nsIn K mainGlobals x = some (some (.ref f)))
    (l : K.lookup f = some ⟨oc, od, .func (PySem.W.fnOf x x (defArgs st) (defBody st) (defScope st) .none kV doc pm an cdv ct), osl⟩) (c : PySem.W.codeIn K cdv x = true) (k : PySem.W.keepIn K (.ref f) = true) : DefF K mg x st :=
  ⟨f, _, fun_mk l c k, PySem.W.mg_of X G a⟩
theorem ini_mk (X : K.In h) (G : h.Ns mainGlobals mg) {x q : Str} {st : Stmt} {C f : Addr} {oc : Value} {od an : Option Addr} {osl : Array (Option Value)} {kV doc pm cdv ct : Value} (ca : PySem.W.nsIn K mainGlobals x = some (some (.ref C)))
    (ia : PySem.W.findIn K (.ref C) "__init__" = some (some (.ref f))) (fn : PySem.W.isFn K (.ref f) = true)
    (l : K.lookup f = some ⟨oc, od, .func (PySem.W.fnOf "__init__" q (defArgs st) (defBody st) (defScope st) .none kV doc pm an cdv ct), osl⟩) (c : PySem.W.codeIn K cdv q = true) (k : PySem.W.keepIn K (.ref f) = true)
    (mk : PySem.W.makesIn K C = true) (kc : PySem.W.keepIn K (.ref C) = true) : IniF K mg x q C st :=
  ⟨f, _, fun_mk l c k, ⟨mk, ia, fn, kc⟩, PySem.W.mg_of X G ca⟩
theorem mth_mk {m q : Str} {st : Stmt} {C f : Addr} {oc : Value} {od an : Option Addr} {osl : Array (Option Value)} {kV doc pm cdv ct : Value}
    (a : PySem.W.findIn K (.ref C) m = some (some (.ref f))) (fn : PySem.W.isFn K (.ref f) = true)
    (l : K.lookup f = some ⟨oc, od, .func (PySem.W.fnOf m q (defArgs st) (defBody st) (defScope st) .none kV doc pm an cdv ct), osl⟩) (c : PySem.W.codeIn K cdv q = true) (k : PySem.W.keepIn K (.ref f) = true) : MthF K C m q st :=
  ⟨f, _, fun_mk l c k, ⟨a, fn, k⟩⟩
theorem cls_mk {C : Addr} {l : List Str} (pg : PySem.W.plainGet K C Str.empty = true) (hd : PySem.W.hasDictIn K C = true) (po : PySem.W.plainOver K C = true) (sa : PySem.W.findIn K (.ref C) "__setattr__" = some (some (.builtin "object.__setattr__"))) (na : NA K C l) : ClsT K C l :=
  ⟨⟨pg, hd, po, sa⟩, na_all na⟩
end
theorem txt_mk {K : PySem.W.Frag} {h : Heap} {mg : Str → Option Value} (X : K.In h) (G : h.Ns mainGlobals mg) {CBlocks CCluster CPseudojet CGain CCalorimeter CDesk aNO_CALORIMETER aBAD aNUMBERS aCALLS : Addr}
    {u_MANY_ROWS u_MANY_COLUMNS u_MANY_BLOCKS u_STEPS u_CYCLE u_GREATEST_SAMPLE u_GREATEST_ENERGY u_LEAST_TIME u_GREATEST_TIME u_TIME_STEPS u_OPEN u_MANY_GAINS u_MANY_WEIGHTS u_MOST_REACH u_MOST_MUL u_MOST_SHIFT u_LEAST_WEIGHT u_GREATEST_WEIGHT : Tok}
    {t_NO_CALORIMETER t_BAD q0 q1 q2 q3 q4 q5 q6 q7 q8 q9 q10 q11 q12 q13 r2 r3 r4 r5 r6 r7 r8 r9 r10 r11 r12 r13 : Tok} {n_NO_CALORIMETER n_BAD n_N n_C : Nat} {dd0 : Option Addr} {s_NO_CALORIMETER s_BAD s_N : Array (Option Value)}
    {hh2 hh3 hh4 hh5 hh6 hh7 hh8 hh9 hh10 hh11 hh12 hh13 : Int} {f2 f3 f4 f5 f6 f7 f8 f9 f10 f11 f12 f13 : Addr}
    (c_MANY_ROWS : PySem.W.nsIn K mainGlobals "MANY_ROWS" = some (some (.int (32) u_MANY_ROWS)))
    (c_MANY_COLUMNS : PySem.W.nsIn K mainGlobals "MANY_COLUMNS" = some (some (.int (32) u_MANY_COLUMNS)))
    (c_MANY_BLOCKS : PySem.W.nsIn K mainGlobals "MANY_BLOCKS" = some (some (.int (1024) u_MANY_BLOCKS)))
    (c_STEPS : PySem.W.nsIn K mainGlobals "STEPS" = some (some (.int (64) u_STEPS)))
    (c_CYCLE : PySem.W.nsIn K mainGlobals "CYCLE" = some (some (.int (2048) u_CYCLE)))
    (c_GREATEST_SAMPLE : PySem.W.nsIn K mainGlobals "GREATEST_SAMPLE" = some (some (.int (4095) u_GREATEST_SAMPLE)))
    (c_GREATEST_ENERGY : PySem.W.nsIn K mainGlobals "GREATEST_ENERGY" = some (some (.int (1099511627776) u_GREATEST_ENERGY)))
    (c_LEAST_TIME : PySem.W.nsIn K mainGlobals "LEAST_TIME" = some (some (.int (-32768) u_LEAST_TIME)))
    (c_GREATEST_TIME : PySem.W.nsIn K mainGlobals "GREATEST_TIME" = some (some (.int (32767) u_GREATEST_TIME)))
    (c_TIME_STEPS : PySem.W.nsIn K mainGlobals "TIME_STEPS" = some (some (.int (256) u_TIME_STEPS)))
    (c_OPEN : PySem.W.nsIn K mainGlobals "OPEN" = some (some (.int (1) u_OPEN)))
    (c_MANY_GAINS : PySem.W.nsIn K mainGlobals "MANY_GAINS" = some (some (.int (4) u_MANY_GAINS)))
    (c_MANY_WEIGHTS : PySem.W.nsIn K mainGlobals "MANY_WEIGHTS" = some (some (.int (8) u_MANY_WEIGHTS)))
    (c_MOST_REACH : PySem.W.nsIn K mainGlobals "MOST_REACH" = some (some (.int (1024) u_MOST_REACH)))
    (c_MOST_MUL : PySem.W.nsIn K mainGlobals "MOST_MUL" = some (some (.int (1048576) u_MOST_MUL)))
    (c_MOST_SHIFT : PySem.W.nsIn K mainGlobals "MOST_SHIFT" = some (some (.int (24) u_MOST_SHIFT)))
    (c_LEAST_WEIGHT : PySem.W.nsIn K mainGlobals "LEAST_WEIGHT" = some (some (.int (-32768) u_LEAST_WEIGHT)))
    (c_GREATEST_WEIGHT : PySem.W.nsIn K mainGlobals "GREATEST_WEIGHT" = some (some (.int (32767) u_GREATEST_WEIGHT)))
    (g_NO_CALORIMETER : PySem.W.nsIn K mainGlobals "NO_CALORIMETER" = some (some (.ref aNO_CALORIMETER)))
    (g_BAD : PySem.W.nsIn K mainGlobals "BAD" = some (some (.ref aBAD)))
    (g_NUMBERS : PySem.W.nsIn K mainGlobals "NUMBERS" = some (some (.ref aNUMBERS)))
    (g_CALLS : PySem.W.nsIn K mainGlobals "CALLS" = some (some (.ref aCALLS)))
    (b_len : PySem.W.nsIn K mainGlobals "len" = some none)
    (b_sum : PySem.W.nsIn K mainGlobals "sum" = some none)
    (b_all : PySem.W.nsIn K mainGlobals "all" = some none)
    (b_abs : PySem.W.nsIn K mainGlobals "abs" = some none)
    (b_max : PySem.W.nsIn K mainGlobals "max" = some none)
    (b_min : PySem.W.nsIn K mainGlobals "min" = some none)
    (b_sorted : PySem.W.nsIn K mainGlobals "sorted" = some none)
    (b_list : PySem.W.nsIn K mainGlobals "list" = some none)
    (b_int : PySem.W.nsIn K mainGlobals "int" = some none)
    (b_range : PySem.W.nsIn K mainGlobals "range" = some none)
    (b_zip : PySem.W.nsIn K mainGlobals "zip" = some none)
    (b_enumerate : PySem.W.nsIn K mainGlobals "enumerate" = some none)
    (k_Blocks : ClsT K CBlocks ["energies", "times", "flags"])
    (k_Cluster : ClsT K CCluster ["seed", "parts", "energy", "column", "row"])
    (k_Pseudojet : ClsT K CPseudojet ["energy", "column", "row", "clusters"])
    (k_Gain : ClsT K CGain ["mul", "shift", "zero"])
    (k_Calorimeter : ClsT K CCalorimeter ["least", "low", "reach", "gains", "w", "v", "blocks", "clusters", "jets"])
    (k_Desk : ClsT K CDesk ["calorimeter"])
    (l_NO_CALORIMETER : K.lookup aNO_CALORIMETER = some ⟨.type "list", none, .seq #[.int (-7) t_NO_CALORIMETER] n_NO_CALORIMETER, s_NO_CALORIMETER⟩)
    (l_BAD : K.lookup aBAD = some ⟨.type "list", none, .seq #[.int (-2) t_BAD] n_BAD, s_BAD⟩)
    (l_N : K.lookup aNUMBERS = some ⟨.type "tuple", dd0, .seq #[.int 0 q0, .int 3 q1, .int 4 q2, .int 16 q3, .int 10 q4, .int 1 q5, .int 0 q6, .int 1 q7, .int 1 q8, .int 0 q9, .int 1 q10, .int 0 q11, .int 2 q12, .int 0 q13] n_N, s_N⟩)
    (l_C : K.lookup aCALLS = some ⟨.type "dict", none, .dict #[⟨hh2, .int 2 r2, .ref f2⟩, ⟨hh3, .int 3 r3, .ref f3⟩, ⟨hh4, .int 4 r4, .ref f4⟩, ⟨hh5, .int 5 r5, .ref f5⟩, ⟨hh6, .int 6 r6, .ref f6⟩, ⟨hh7, .int 7 r7, .ref f7⟩, ⟨hh8, .int 8 r8, .ref f8⟩, ⟨hh9, .int 9 r9, .ref f9⟩, ⟨hh10, .int 10 r10, .ref f10⟩, ⟨hh11, .int 11 r11, .ref f11⟩, ⟨hh12, .int 12 r12, .ref f12⟩, ⟨hh13, .int 13 r13, .ref f13⟩] n_C, #[]⟩)
    (m_2 : PySem.W.nsIn K mainGlobals "set_gain" = some (some (.ref f2))) (h_2 : hh2 = hashInt 2)
    (m_3 : PySem.W.nsIn K mainGlobals "set_weights" = some (some (.ref f3))) (h_3 : hh3 = hashInt 3)
    (m_4 : PySem.W.nsIn K mainGlobals "weigh_pulse" = some (some (.ref f4))) (h_4 : hh4 = hashInt 4)
    (m_5 : PySem.W.nsIn K mainGlobals "tell_block" = some (some (.ref f5))) (h_5 : hh5 = hashInt 5)
    (m_6 : PySem.W.nsIn K mainGlobals "find_clusters" = some (some (.ref f6))) (h_6 : hh6 = hashInt 6)
    (m_7 : PySem.W.nsIn K mainGlobals "tell_cluster" = some (some (.ref f7))) (h_7 : hh7 = hashInt 7)
    (m_8 : PySem.W.nsIn K mainGlobals "tell_parts" = some (some (.ref f8))) (h_8 : hh8 = hashInt 8)
    (m_9 : PySem.W.nsIn K mainGlobals "find_jets" = some (some (.ref f9))) (h_9 : hh9 = hashInt 9)
    (m_10 : PySem.W.nsIn K mainGlobals "tell_jet" = some (some (.ref f10))) (h_10 : hh10 = hashInt 10)
    (m_11 : PySem.W.nsIn K mainGlobals "tell_sums" = some (some (.ref f11))) (h_11 : hh11 = hashInt 11)
    (m_12 : PySem.W.nsIn K mainGlobals "tell_window" = some (some (.ref f12))) (h_12 : hh12 = hashInt 12)
    (m_13 : PySem.W.nsIn K mainGlobals "clear" = some (some (.ref f13))) (h_13 : hh13 = hashInt 13)
    : Txt K mg ⟨CBlocks, CCluster, CPseudojet, CGain, CCalorimeter, CDesk, aNO_CALORIMETER, aBAD, aNUMBERS, aCALLS⟩ := by
  refine ⟨⟨_, PySem.W.mg_of X G c_MANY_ROWS⟩, ⟨_, PySem.W.mg_of X G c_MANY_COLUMNS⟩, ⟨_, PySem.W.mg_of X G c_MANY_BLOCKS⟩, ⟨_, PySem.W.mg_of X G c_STEPS⟩, ⟨_, PySem.W.mg_of X G c_CYCLE⟩, ⟨_, PySem.W.mg_of X G c_GREATEST_SAMPLE⟩, ⟨_, PySem.W.mg_of X G c_GREATEST_ENERGY⟩, ⟨_, PySem.W.mg_of X G c_LEAST_TIME⟩, ⟨_, PySem.W.mg_of X G c_GREATEST_TIME⟩, ⟨_, PySem.W.mg_of X G c_TIME_STEPS⟩, ⟨_, PySem.W.mg_of X G c_OPEN⟩, ⟨_, PySem.W.mg_of X G c_MANY_GAINS⟩, ⟨_, PySem.W.mg_of X G c_MANY_WEIGHTS⟩, ⟨_, PySem.W.mg_of X G c_MOST_REACH⟩, ⟨_, PySem.W.mg_of X G c_MOST_MUL⟩, ⟨_, PySem.W.mg_of X G c_MOST_SHIFT⟩, ⟨_, PySem.W.mg_of X G c_LEAST_WEIGHT⟩, ⟨_, PySem.W.mg_of X G c_GREATEST_WEIGHT⟩, PySem.W.mg_of X G g_NO_CALORIMETER, PySem.W.mg_of X G g_BAD, PySem.W.mg_of X G g_NUMBERS, PySem.W.mg_of X G g_CALLS, PySem.W.mg_none_of X G b_len, PySem.W.mg_none_of X G b_sum, PySem.W.mg_none_of X G b_all, PySem.W.mg_none_of X G b_abs, PySem.W.mg_none_of X G b_max, PySem.W.mg_none_of X G b_min, PySem.W.mg_none_of X G b_sorted, PySem.W.mg_none_of X G b_list, PySem.W.mg_none_of X G b_int, PySem.W.mg_none_of X G b_range, PySem.W.mg_none_of X G b_zip, PySem.W.mg_none_of X G b_enumerate, k_Blocks, k_Cluster, k_Pseudojet, k_Gain, k_Calorimeter, k_Desk, ?_, ?_, ?_, ?_⟩
  · exact fun H => .inr ⟨_, _, _, l_BAD, rfl, rfl, rfl, (by show 1 ≤ sizeLine; decide), .cons ⟨_, rfl⟩ .nil⟩
  · exact fun H => .inr ⟨_, _, _, l_NO_CALORIMETER, rfl, rfl, rfl, (by show 1 ≤ sizeLine; decide), .cons ⟨_, rfl⟩ .nil⟩
  · exact fun H => .inr ⟨_, _, _, l_N, rfl, rfl, (by show 14 ≤ sizeLine; decide), (.cons ⟨_, rfl⟩ (.cons ⟨_, rfl⟩ (.cons ⟨_, rfl⟩ (.cons ⟨_, rfl⟩ (.cons ⟨_, rfl⟩ (.cons ⟨_, rfl⟩ (.cons ⟨_, rfl⟩ (.cons ⟨_, rfl⟩ (.cons ⟨_, rfl⟩ (.cons ⟨_, rfl⟩ (.cons ⟨_, rfl⟩ (.cons ⟨_, rfl⟩ (.cons ⟨_, rfl⟩ (.cons ⟨_, rfl⟩ .nil))))))))))))))⟩
  · have keys : KeysNum [⟨hh2, .int 2 r2, .ref f2⟩, ⟨hh3, .int 3 r3, .ref f3⟩, ⟨hh4, .int 4 r4, .ref f4⟩, ⟨hh5, .int 5 r5, .ref f5⟩, ⟨hh6, .int 6 r6, .ref f6⟩, ⟨hh7, .int 7 r7, .ref f7⟩, ⟨hh8, .int 8 r8, .ref f8⟩, ⟨hh9, .int 9 r9, .ref f9⟩, ⟨hh10, .int 10 r10, .ref f10⟩, ⟨hh11, .int 11 r11, .ref f11⟩, ⟨hh12, .int 12 r12, .ref f12⟩, ⟨hh13, .int 13 r13, .ref f13⟩] := by
      intro e he
      simp only [List.mem_cons, List.not_mem_nil, or_false] at he
      rcases he with rfl | rfl | rfl | rfl | rfl | rfl | rfl | rfl | rfl | rfl | rfl | rfl
      · exact ⟨_, _, rfl, h_2⟩
      · exact ⟨_, _, rfl, h_3⟩
      · exact ⟨_, _, rfl, h_4⟩
      · exact ⟨_, _, rfl, h_5⟩
      · exact ⟨_, _, rfl, h_6⟩
      · exact ⟨_, _, rfl, h_7⟩
      · exact ⟨_, _, rfl, h_8⟩
      · exact ⟨_, _, rfl, h_9⟩
      · exact ⟨_, _, rfl, h_10⟩
      · exact ⟨_, _, rfl, h_11⟩
      · exact ⟨_, _, rfl, h_12⟩
      · exact ⟨_, _, rfl, h_13⟩
    intro p hp
    simp only [callNames, List.mem_cons, List.not_mem_nil, or_false] at hp
    rcases hp with rfl | rfl | rfl | rfl | rfl | rfl | rfl | rfl | rfl | rfl | rfl | rfl
    · exact ⟨_, PySem.W.mg_of X G m_2, _, _, _, l_C, keys, rfl, rfl⟩
    · exact ⟨_, PySem.W.mg_of X G m_3, _, _, _, l_C, keys, rfl, rfl⟩
    · exact ⟨_, PySem.W.mg_of X G m_4, _, _, _, l_C, keys, rfl, rfl⟩
    · exact ⟨_, PySem.W.mg_of X G m_5, _, _, _, l_C, keys, rfl, rfl⟩
    · exact ⟨_, PySem.W.mg_of X G m_6, _, _, _, l_C, keys, rfl, rfl⟩
    · exact ⟨_, PySem.W.mg_of X G m_7, _, _, _, l_C, keys, rfl, rfl⟩
    · exact ⟨_, PySem.W.mg_of X G m_8, _, _, _, l_C, keys, rfl, rfl⟩
    · exact ⟨_, PySem.W.mg_of X G m_9, _, _, _, l_C, keys, rfl, rfl⟩
    · exact ⟨_, PySem.W.mg_of X G m_10, _, _, _, l_C, keys, rfl, rfl⟩
    · exact ⟨_, PySem.W.mg_of X G m_11, _, _, _, l_C, keys, rfl, rfl⟩
    · exact ⟨_, PySem.W.mg_of X G m_12, _, _, _, l_C, keys, rfl, rfl⟩
    · exact ⟨_, PySem.W.mg_of X G m_13, _, _, _, l_C, keys, rfl, rfl⟩
theorem all_ok {P : Program} {w : World} {K : PySem.W.Frag} {h : Heap} {mg : Str → Option Value} {fa : Addr} (hfa : mg "answers" = some (.ref fa)) {A : Ad} (T : Txt K mg A)
    (D_row_of : DefF K mg "row_of" s_row_of)
    (D_column_of : DefF K mg "column_of" s_column_of)
    (D_block_at : DefF K mg "block_at" s_block_at)
    (D_rows_near : DefF K mg "rows_near" s_rows_near)
    (D_columns_near : DefF K mg "columns_near" s_columns_near)
    (D_neighbours_of : DefF K mg "neighbours_of" s_neighbours_of)
    (D_Blocks___init__ : IniF K mg "Blocks" "Blocks.__init__" A.CBlocks s_Blocks___init__)
    (D_Blocks_put : MthF K A.CBlocks "put" "Blocks.put" s_Blocks_put)
    (D_rounded : DefF K mg "rounded" s_rounded)
    (D_is_from : DefF K mg "is_from" s_is_from)
    (D_are_from : DefF K mg "are_from" s_are_from)
    (D_is_seed : DefF K mg "is_seed" s_is_seed)
    (D_marks_of : DefF K mg "marks_of" s_marks_of)
    (D_owners_of : DefF K mg "owners_of" s_owners_of)
    (D_greatest_place : DefF K mg "greatest_place" s_greatest_place)
    (D_shares_of : DefF K mg "shares_of" s_shares_of)
    (D_row_step : DefF K mg "row_step" s_row_step)
    (D_Cluster___init__ : IniF K mg "Cluster" "Cluster.__init__" A.CCluster s_Cluster___init__)
    (D_Cluster_own_column : MthF K A.CCluster "own_column" "Cluster.own_column" s_Cluster_own_column)
    (D_Cluster_own_row : MthF K A.CCluster "own_row" "Cluster.own_row" s_Cluster_own_row)
    (D_Cluster_time_by : MthF K A.CCluster "time_by" "Cluster.time_by" s_Cluster_time_by)
    (D_Cluster_flag_by : MthF K A.CCluster "flag_by" "Cluster.flag_by" s_Cluster_flag_by)
    (D_parts_by_seeds : DefF K mg "parts_by_seeds" s_parts_by_seeds)
    (D_clusters_of : DefF K mg "clusters_of" s_clusters_of)
    (D_energy_inside : DefF K mg "energy_inside" s_energy_inside)
    (D_Pseudojet___init__ : IniF K mg "Pseudojet" "Pseudojet.__init__" A.CPseudojet s_Pseudojet___init__)
    (D_far_rows : DefF K mg "far_rows" s_far_rows)
    (D_squared_distance : DefF K mg "squared_distance" s_squared_distance)
    (D_joined : DefF K mg "joined" s_joined)
    (D_finished_first : DefF K mg "finished_first" s_finished_first)
    (D_pair_measure : DefF K mg "pair_measure" s_pair_measure)
    (D_is_less : DefF K mg "is_less" s_is_less)
    (D_best_pair : DefF K mg "best_pair" s_best_pair)
    (D_is_joined_first : DefF K mg "is_joined_first" s_is_joined_first)
    (D_without : DefF K mg "without" s_without)
    (D_beginning : DefF K mg "beginning" s_beginning)
    (D_ordered : DefF K mg "ordered" s_ordered)
    (D_jets_of : DefF K mg "jets_of" s_jets_of)
    (D_Gain___init__ : IniF K mg "Gain" "Gain.__init__" A.CGain s_Gain___init__)
    (D_weighed_sum : DefF K mg "weighed_sum" s_weighed_sum)
    (D_energy_of : DefF K mg "energy_of" s_energy_of)
    (D_time_of : DefF K mg "time_of" s_time_of)
    (D_flag_of : DefF K mg "flag_of" s_flag_of)
    (D_weighed : DefF K mg "weighed" s_weighed)
    (D_row_sums : DefF K mg "row_sums" s_row_sums)
    (D_window_energy : DefF K mg "window_energy" s_window_energy)
    (D_best_window : DefF K mg "best_window" s_best_window)
    (D_Calorimeter___init__ : IniF K mg "Calorimeter" "Calorimeter.__init__" A.CCalorimeter s_Calorimeter___init__)
    (D_Calorimeter_forget : MthF K A.CCalorimeter "forget" "Calorimeter.forget" s_Calorimeter_forget)
    (D_opened : DefF K mg "opened" s_opened)
    (D_set_gain : DefF K mg "set_gain" s_set_gain)
    (D_set_weights : DefF K mg "set_weights" s_set_weights)
    (D_weigh_pulse : DefF K mg "weigh_pulse" s_weigh_pulse)
    (D_tell_block : DefF K mg "tell_block" s_tell_block)
    (D_find_clusters : DefF K mg "find_clusters" s_find_clusters)
    (D_tell_cluster : DefF K mg "tell_cluster" s_tell_cluster)
    (D_tell_parts : DefF K mg "tell_parts" s_tell_parts)
    (D_find_jets : DefF K mg "find_jets" s_find_jets)
    (D_tell_jet : DefF K mg "tell_jet" s_tell_jet)
    (D_tell_sums : DefF K mg "tell_sums" s_tell_sums)
    (D_tell_window : DefF K mg "tell_window" s_tell_window)
    (D_clear : DefF K mg "clear" s_clear)
    (D_Desk___init__ : IniF K mg "Desk" "Desk.__init__" A.CDesk s_Desk___init__)
    (D_Desk_begin : MthF K A.CDesk "begin" "Desk.begin" s_Desk_begin)
    (D_Desk_answer : MthF K A.CDesk "answer" "Desk.answer" s_Desk_answer)
    (D_answers : DefF K mg "answers" s_answers)
    : ∃ fd : FuncData, (∀ (s : Shared) (us : List Value), us.length = (["calls"] : List Str).length → BindsTo s fd ⟨us, []⟩ ((["calls"] : List Str).zip us)) ∧ ∀ base : Heap, FnOk P w K mg base CX0 9 fa fd ["calls"] (spAns K) := by
  have D0 := D_answers
  obtain ⟨f0, fd0, F0, m0⟩ := D0
  rw [hfa] at m0
  cases m0
  refine ⟨fd0, ?_, fun base => ?_⟩
  · obtain ⟨oc, od, kV, doc, pm, an, cdv, ct, osl, rfl, lk, hcd⟩ := F0.ex
    exact fun s us hu => match us, hu with | [_], _ => .of_eq rfl
  have C_row_of : Cal P w K mg base 1 "row_of" ["block"] (sp_row_of K A) := by
    obtain ⟨f, fd, F, hm⟩ := D_row_of
    exact ⟨f, fd, ok_row_of F T , hm, F.kp, F.binds fun _ _ _ _ _ _ us hl => match us, hl with | [_], _ => rfl⟩
  have C_column_of : Cal P w K mg base 1 "column_of" ["block"] (sp_column_of K A) := by
    obtain ⟨f, fd, F, hm⟩ := D_column_of
    exact ⟨f, fd, ok_column_of F T , hm, F.kp, F.binds fun _ _ _ _ _ _ us hl => match us, hl with | [_], _ => rfl⟩
  have C_block_at : Cal P w K mg base 1 "block_at" ["row", "column"] (sp_block_at K A) := by
    obtain ⟨f, fd, F, hm⟩ := D_block_at
    exact ⟨f, fd, ok_block_at F T , hm, F.kp, F.binds fun _ _ _ _ _ _ us hl => match us, hl with | [_, _], _ => rfl⟩
  have C_rows_near : Cal P w K mg base 1 "rows_near" ["row"] (sp_rows_near K A) := by
    obtain ⟨f, fd, F, hm⟩ := D_rows_near
    exact ⟨f, fd, ok_rows_near F T , hm, F.kp, F.binds fun _ _ _ _ _ _ us hl => match us, hl with | [_], _ => rfl⟩
  have C_columns_near : Cal P w K mg base 1 "columns_near" ["column"] (sp_columns_near K A) := by
    obtain ⟨f, fd, F, hm⟩ := D_columns_near
    exact ⟨f, fd, ok_columns_near F T , hm, F.kp, F.binds fun _ _ _ _ _ _ us hl => match us, hl with | [_], _ => rfl⟩
  have C_neighbours_of : Cal P w K mg base 2 "neighbours_of" ["block"] (sp_neighbours_of K A) := by
    obtain ⟨f, fd, F, hm⟩ := D_neighbours_of
    exact ⟨f, fd, ok_neighbours_of F T C_block_at C_column_of C_columns_near C_row_of C_rows_near, hm, F.kp, F.binds fun _ _ _ _ _ _ us hl => match us, hl with | [_], _ => rfl⟩
  have C_Blocks___init__ : CalC P w K mg base 1 "Blocks" A.CBlocks ["self"] (sp_Blocks___init__ K A) := by
    obtain ⟨f, fd, F, M, hm⟩ := D_Blocks___init__
    exact ⟨f, fd, ok_Blocks___init__ F T , M, hm, F.binds fun _ _ _ _ _ _ us hl => match us, hl with | [_], _ => rfl⟩
  have C_Blocks_put : CalM P w K mg base 1 A.CBlocks "put" ["self", "block", "energy", "time", "flag"] (sp_Blocks_put K A) := by
    obtain ⟨f, fd, F, M⟩ := D_Blocks_put
    exact ⟨f, fd, ok_Blocks_put F T , M, T.k_Blocks.cl, F.binds fun _ _ _ _ _ _ us hl => match us, hl with | [_, _, _, _, _], _ => rfl⟩
  have C_rounded : Cal P w K mg base 1 "rounded" ["a", "b"] (sp_rounded K A) := by
    obtain ⟨f, fd, F, hm⟩ := D_rounded
    exact ⟨f, fd, ok_rounded F T , hm, F.kp, F.binds fun _ _ _ _ _ _ us hl => match us, hl with | [_, _], _ => rfl⟩
  have C_is_from : Cal P w K mg base 1 "is_from" ["number", "least", "greatest"] (sp_is_from K A) := by
    obtain ⟨f, fd, F, hm⟩ := D_is_from
    exact ⟨f, fd, ok_is_from F T , hm, F.kp, F.binds fun _ _ _ _ _ _ us hl => match us, hl with | [_, _, _], _ => rfl⟩
  have C_are_from : Cal P w K mg base 2 "are_from" ["numbers", "least", "greatest"] (sp_are_from K A) := by
    obtain ⟨f, fd, F, hm⟩ := D_are_from
    exact ⟨f, fd, ok_are_from F T C_is_from, hm, F.kp, F.binds fun _ _ _ _ _ _ us hl => match us, hl with | [_, _, _], _ => rfl⟩
  have C_is_seed : Cal P w K mg base 3 "is_seed" ["energies", "least", "block"] (sp_is_seed K A) := by
    obtain ⟨f, fd, F, hm⟩ := D_is_seed
    exact ⟨f, fd, ok_is_seed F T C_neighbours_of, hm, F.kp, F.binds fun _ _ _ _ _ _ us hl => match us, hl with | [_, _, _], _ => rfl⟩
  have C_marks_of : Cal P w K mg base 4 "marks_of" ["energies", "least"] (sp_marks_of K A) := by
    obtain ⟨f, fd, F, hm⟩ := D_marks_of
    exact ⟨f, fd, ok_marks_of F T C_is_seed, hm, F.kp, F.binds fun _ _ _ _ _ _ us hl => match us, hl with | [_, _], _ => rfl⟩
  have C_owners_of : Cal P w K mg base 3 "owners_of" ["energies", "marks", "low", "block"] (sp_owners_of K A) := by
    obtain ⟨f, fd, F, hm⟩ := D_owners_of
    exact ⟨f, fd, ok_owners_of F T C_neighbours_of, hm, F.kp, F.binds fun _ _ _ _ _ _ us hl => match us, hl with | [_, _, _, _], _ => rfl⟩
  have C_greatest_place : Cal P w K mg base 1 "greatest_place" ["energies", "owners"] (sp_greatest_place K A) := by
    obtain ⟨f, fd, F, hm⟩ := D_greatest_place
    exact ⟨f, fd, ok_greatest_place F T , hm, F.kp, F.binds fun _ _ _ _ _ _ us hl => match us, hl with | [_, _], _ => rfl⟩
  have C_shares_of : Cal P w K mg base 2 "shares_of" ["energies", "block", "owners"] (sp_shares_of K A) := by
    obtain ⟨f, fd, F, hm⟩ := D_shares_of
    exact ⟨f, fd, ok_shares_of F T C_greatest_place, hm, F.kp, F.binds fun _ _ _ _ _ _ us hl => match us, hl with | [_, _, _], _ => rfl⟩
  have C_row_step : Cal P w K mg base 2 "row_step" ["seed", "block"] (sp_row_step K A) := by
    obtain ⟨f, fd, F, hm⟩ := D_row_step
    exact ⟨f, fd, ok_row_step F T C_row_of, hm, F.kp, F.binds fun _ _ _ _ _ _ us hl => match us, hl with | [_, _], _ => rfl⟩
  have C_Cluster_own_column : CalM P w K mg base 2 A.CCluster "own_column" ["self"] (sp_Cluster_own_column K A) := by
    obtain ⟨f, fd, F, M⟩ := D_Cluster_own_column
    exact ⟨f, fd, ok_Cluster_own_column F T C_column_of C_rounded, M, T.k_Cluster.cl, F.binds fun _ _ _ _ _ _ us hl => match us, hl with | [_], _ => rfl⟩
  have C_Cluster_own_row : CalM P w K mg base 3 A.CCluster "own_row" ["self"] (sp_Cluster_own_row K A) := by
    obtain ⟨f, fd, F, M⟩ := D_Cluster_own_row
    exact ⟨f, fd, ok_Cluster_own_row F T C_rounded C_row_of C_row_step, M, T.k_Cluster.cl, F.binds fun _ _ _ _ _ _ us hl => match us, hl with | [_], _ => rfl⟩
  have C_Cluster___init__ : CalC P w K mg base 4 "Cluster" A.CCluster ["self", "seed", "parts"] (sp_Cluster___init__ K A) := by
    obtain ⟨f, fd, F, M, hm⟩ := D_Cluster___init__
    exact ⟨f, fd, ok_Cluster___init__ F T C_Cluster_own_column C_Cluster_own_row, M, hm, F.binds fun _ _ _ _ _ _ us hl => match us, hl with | [_, _, _], _ => rfl⟩
  have C_Cluster_time_by : CalM P w K mg base 2 A.CCluster "time_by" ["self", "times"] (sp_Cluster_time_by K A) := by
    obtain ⟨f, fd, F, M⟩ := D_Cluster_time_by
    exact ⟨f, fd, ok_Cluster_time_by F T C_rounded, M, T.k_Cluster.cl, F.binds fun _ _ _ _ _ _ us hl => match us, hl with | [_, _], _ => rfl⟩
  have C_Cluster_flag_by : CalM P w K mg base 1 A.CCluster "flag_by" ["self", "flags"] (sp_Cluster_flag_by K A) := by
    obtain ⟨f, fd, F, M⟩ := D_Cluster_flag_by
    exact ⟨f, fd, ok_Cluster_flag_by F T , M, T.k_Cluster.cl, F.binds fun _ _ _ _ _ _ us hl => match us, hl with | [_, _], _ => rfl⟩
  have C_parts_by_seeds : Cal P w K mg base 4 "parts_by_seeds" ["energies", "marks", "low"] (sp_parts_by_seeds K A) := by
    obtain ⟨f, fd, F, hm⟩ := D_parts_by_seeds
    exact ⟨f, fd, ok_parts_by_seeds F T C_owners_of C_shares_of, hm, F.kp, F.binds fun _ _ _ _ _ _ us hl => match us, hl with | [_, _, _], _ => rfl⟩
  have C_clusters_of : Cal P w K mg base 6 "clusters_of" ["energies", "least", "low"] (sp_clusters_of K A) := by
    obtain ⟨f, fd, F, hm⟩ := D_clusters_of
    exact ⟨f, fd, ok_clusters_of F T C_Cluster___init__ C_marks_of C_parts_by_seeds, hm, F.kp, F.binds fun _ _ _ _ _ _ us hl => match us, hl with | [_, _, _], _ => rfl⟩
  have C_energy_inside : Cal P w K mg base 5 "energy_inside" ["energies", "least", "low"] (sp_energy_inside K A) := by
    obtain ⟨f, fd, F, hm⟩ := D_energy_inside
    exact ⟨f, fd, ok_energy_inside F T C_marks_of C_owners_of, hm, F.kp, F.binds fun _ _ _ _ _ _ us hl => match us, hl with | [_, _, _], _ => rfl⟩
  have C_Pseudojet___init__ : CalC P w K mg base 1 "Pseudojet" A.CPseudojet ["self", "energy", "column", "row", "clusters"] (sp_Pseudojet___init__ K A) := by
    obtain ⟨f, fd, F, M, hm⟩ := D_Pseudojet___init__
    exact ⟨f, fd, ok_Pseudojet___init__ F T , M, hm, F.binds fun _ _ _ _ _ _ us hl => match us, hl with | [_, _, _, _, _], _ => rfl⟩
  have C_far_rows : Cal P w K mg base 1 "far_rows" ["one", "other"] (sp_far_rows K A) := by
    obtain ⟨f, fd, F, hm⟩ := D_far_rows
    exact ⟨f, fd, ok_far_rows F T , hm, F.kp, F.binds fun _ _ _ _ _ _ us hl => match us, hl with | [_, _], _ => rfl⟩
  have C_squared_distance : Cal P w K mg base 2 "squared_distance" ["one", "other"] (sp_squared_distance K A) := by
    obtain ⟨f, fd, F, hm⟩ := D_squared_distance
    exact ⟨f, fd, ok_squared_distance F T C_far_rows, hm, F.kp, F.binds fun _ _ _ _ _ _ us hl => match us, hl with | [_, _], _ => rfl⟩
  have C_joined : Cal P w K mg base 3 "joined" ["one", "other"] (sp_joined K A) := by
    obtain ⟨f, fd, F, hm⟩ := D_joined
    exact ⟨f, fd, ok_joined F T C_Pseudojet___init__, hm, F.kp, F.binds fun _ _ _ _ _ _ us hl => match us, hl with | [_, _], _ => rfl⟩
  have C_finished_first : Cal P w K mg base 1 "finished_first" ["some"] (sp_finished_first K A) := by
    obtain ⟨f, fd, F, hm⟩ := D_finished_first
    exact ⟨f, fd, ok_finished_first F T , hm, F.kp, F.binds fun _ _ _ _ _ _ us hl => match us, hl with | [_], _ => rfl⟩
  have C_pair_measure : Cal P w K mg base 3 "pair_measure" ["one", "other"] (sp_pair_measure K A) := by
    obtain ⟨f, fd, F, hm⟩ := D_pair_measure
    exact ⟨f, fd, ok_pair_measure F T C_squared_distance, hm, F.kp, F.binds fun _ _ _ _ _ _ us hl => match us, hl with | [_, _], _ => rfl⟩
  have C_is_less : Cal P w K mg base 1 "is_less" ["one", "other"] (sp_is_less K A) := by
    obtain ⟨f, fd, F, hm⟩ := D_is_less
    exact ⟨f, fd, ok_is_less F T , hm, F.kp, F.binds fun _ _ _ _ _ _ us hl => match us, hl with | [_, _], _ => rfl⟩
  have C_best_pair : Cal P w K mg base 4 "best_pair" ["some"] (sp_best_pair K A) := by
    obtain ⟨f, fd, F, hm⟩ := D_best_pair
    exact ⟨f, fd, ok_best_pair F T C_is_less C_pair_measure, hm, F.kp, F.binds fun _ _ _ _ _ _ us hl => match us, hl with | [_], _ => rfl⟩
  have C_is_joined_first : Cal P w K mg base 1 "is_joined_first" ["pair", "energy", "reach"] (sp_is_joined_first K A) := by
    obtain ⟨f, fd, F, hm⟩ := D_is_joined_first
    exact ⟨f, fd, ok_is_joined_first F T , hm, F.kp, F.binds fun _ _ _ _ _ _ us hl => match us, hl with | [_, _, _], _ => rfl⟩
  have C_without : Cal P w K mg base 1 "without" ["some", "place"] (sp_without K A) := by
    obtain ⟨f, fd, F, hm⟩ := D_without
    exact ⟨f, fd, ok_without F T , hm, F.kp, F.binds fun _ _ _ _ _ _ us hl => match us, hl with | [_, _], _ => rfl⟩
  have C_beginning : Cal P w K mg base 3 "beginning" ["clusters"] (sp_beginning K A) := by
    obtain ⟨f, fd, F, hm⟩ := D_beginning
    exact ⟨f, fd, ok_beginning F T C_Pseudojet___init__, hm, F.kp, F.binds fun _ _ _ _ _ _ us hl => match us, hl with | [_], _ => rfl⟩
  have C_ordered : Cal P w K mg base 1 "ordered" ["jets"] (sp_ordered K A) := by
    obtain ⟨f, fd, F, hm⟩ := D_ordered
    exact ⟨f, fd, ok_ordered F T , hm, F.kp, F.binds fun _ _ _ _ _ _ us hl => match us, hl with | [_], _ => rfl⟩
  have C_jets_of : Cal P w K mg base 5 "jets_of" ["clusters", "reach"] (sp_jets_of K A) := by
    obtain ⟨f, fd, F, hm⟩ := D_jets_of
    exact ⟨f, fd, ok_jets_of F T C_beginning C_best_pair C_finished_first C_is_joined_first C_joined C_ordered C_without, hm, F.kp, F.binds fun _ _ _ _ _ _ us hl => match us, hl with | [_, _], _ => rfl⟩
  have C_Gain___init__ : CalC P w K mg base 1 "Gain" A.CGain ["self", "mul", "shift", "zero"] (sp_Gain___init__ K A) := by
    obtain ⟨f, fd, F, M, hm⟩ := D_Gain___init__
    exact ⟨f, fd, ok_Gain___init__ F T , M, hm, F.binds fun _ _ _ _ _ _ us hl => match us, hl with | [_, _, _, _], _ => rfl⟩
  have C_weighed_sum : Cal P w K mg base 1 "weighed_sum" ["weights", "samples", "zero"] (sp_weighed_sum K A) := by
    obtain ⟨f, fd, F, hm⟩ := D_weighed_sum
    exact ⟨f, fd, ok_weighed_sum F T , hm, F.kp, F.binds fun _ _ _ _ _ _ us hl => match us, hl with | [_, _, _], _ => rfl⟩
  have C_energy_of : Cal P w K mg base 1 "energy_of" ["a", "gain"] (sp_energy_of K A) := by
    obtain ⟨f, fd, F, hm⟩ := D_energy_of
    exact ⟨f, fd, ok_energy_of F T , hm, F.kp, F.binds fun _ _ _ _ _ _ us hl => match us, hl with | [_, _], _ => rfl⟩
  have C_time_of : Cal P w K mg base 2 "time_of" ["a", "b"] (sp_time_of K A) := by
    obtain ⟨f, fd, F, hm⟩ := D_time_of
    exact ⟨f, fd, ok_time_of F T C_rounded, hm, F.kp, F.binds fun _ _ _ _ _ _ us hl => match us, hl with | [_, _], _ => rfl⟩
  have C_flag_of : Cal P w K mg base 1 "flag_of" ["samples"] (sp_flag_of K A) := by
    obtain ⟨f, fd, F, hm⟩ := D_flag_of
    exact ⟨f, fd, ok_flag_of F T , hm, F.kp, F.binds fun _ _ _ _ _ _ us hl => match us, hl with | [_], _ => rfl⟩
  have C_weighed : Cal P w K mg base 3 "weighed" ["samples", "gain", "w", "v"] (sp_weighed K A) := by
    obtain ⟨f, fd, F, hm⟩ := D_weighed
    exact ⟨f, fd, ok_weighed F T C_energy_of C_flag_of C_time_of C_weighed_sum, hm, F.kp, F.binds fun _ _ _ _ _ _ us hl => match us, hl with | [_, _, _, _], _ => rfl⟩
  have C_row_sums : Cal P w K mg base 2 "row_sums" ["energies", "row", "width"] (sp_row_sums K A) := by
    obtain ⟨f, fd, F, hm⟩ := D_row_sums
    exact ⟨f, fd, ok_row_sums F T C_block_at, hm, F.kp, F.binds fun _ _ _ _ _ _ us hl => match us, hl with | [_, _, _], _ => rfl⟩
  have C_window_energy : Cal P w K mg base 1 "window_energy" ["sums", "row", "column", "height"] (sp_window_energy K A) := by
    obtain ⟨f, fd, F, hm⟩ := D_window_energy
    exact ⟨f, fd, ok_window_energy F T , hm, F.kp, F.binds fun _ _ _ _ _ _ us hl => match us, hl with | [_, _, _, _], _ => rfl⟩
  have C_best_window : Cal P w K mg base 3 "best_window" ["energies", "width", "height"] (sp_best_window K A) := by
    obtain ⟨f, fd, F, hm⟩ := D_best_window
    exact ⟨f, fd, ok_best_window F T C_block_at C_row_sums C_window_energy, hm, F.kp, F.binds fun _ _ _ _ _ _ us hl => match us, hl with | [_, _, _], _ => rfl⟩
  have C_Calorimeter___init__ : CalC P w K mg base 3 "Calorimeter" A.CCalorimeter ["self", "least", "low", "reach"] (sp_Calorimeter___init__ K A) := by
    obtain ⟨f, fd, F, M, hm⟩ := D_Calorimeter___init__
    exact ⟨f, fd, ok_Calorimeter___init__ F T C_Blocks___init__ C_Gain___init__, M, hm, F.binds fun _ _ _ _ _ _ us hl => match us, hl with | [_, _, _, _], _ => rfl⟩
  have C_Calorimeter_forget : CalM P w K mg base 3 A.CCalorimeter "forget" ["self"] (sp_Calorimeter_forget K A) := by
    obtain ⟨f, fd, F, M⟩ := D_Calorimeter_forget
    exact ⟨f, fd, ok_Calorimeter_forget F T C_Blocks___init__, M, T.k_Calorimeter.cl, F.binds fun _ _ _ _ _ _ us hl => match us, hl with | [_], _ => rfl⟩
  have C_opened : Cal P w K mg base 5 "opened" ["n"] (sp_opened K A) := by
    obtain ⟨f, fd, F, hm⟩ := D_opened
    exact ⟨f, fd, ok_opened F T C_Calorimeter___init__ C_is_from, hm, F.kp, F.binds fun _ _ _ _ _ _ us hl => match us, hl with | [_], _ => rfl⟩
  have C_set_gain : Cal P w K mg base 3 "set_gain" ["one", "n"] (sp_set_gain K A) := by
    obtain ⟨f, fd, F, hm⟩ := D_set_gain
    exact ⟨f, fd, ok_set_gain F T C_Gain___init__ C_is_from, hm, F.kp, F.binds fun _ _ _ _ _ _ us hl => match us, hl with | [_, _], _ => rfl⟩
  have C_set_weights : Cal P w K mg base 3 "set_weights" ["one", "n"] (sp_set_weights K A) := by
    obtain ⟨f, fd, F, hm⟩ := D_set_weights
    exact ⟨f, fd, ok_set_weights F T C_are_from, hm, F.kp, F.binds fun _ _ _ _ _ _ us hl => match us, hl with | [_, _], _ => rfl⟩
  have C_weigh_pulse : Cal P w K mg base 4 "weigh_pulse" ["one", "n"] (sp_weigh_pulse K A) := by
    obtain ⟨f, fd, F, hm⟩ := D_weigh_pulse
    exact ⟨f, fd, ok_weigh_pulse F T C_Blocks_put C_are_from C_is_from C_weighed, hm, F.kp, F.binds fun _ _ _ _ _ _ us hl => match us, hl with | [_, _], _ => rfl⟩
  have C_tell_block : Cal P w K mg base 2 "tell_block" ["one", "n"] (sp_tell_block K A) := by
    obtain ⟨f, fd, F, hm⟩ := D_tell_block
    exact ⟨f, fd, ok_tell_block F T C_is_from, hm, F.kp, F.binds fun _ _ _ _ _ _ us hl => match us, hl with | [_, _], _ => rfl⟩
  have C_find_clusters : Cal P w K mg base 7 "find_clusters" ["one", "n"] (sp_find_clusters K A) := by
    obtain ⟨f, fd, F, hm⟩ := D_find_clusters
    exact ⟨f, fd, ok_find_clusters F T C_clusters_of, hm, F.kp, F.binds fun _ _ _ _ _ _ us hl => match us, hl with | [_, _], _ => rfl⟩
  have C_tell_cluster : Cal P w K mg base 3 "tell_cluster" ["one", "n"] (sp_tell_cluster K A) := by
    obtain ⟨f, fd, F, hm⟩ := D_tell_cluster
    exact ⟨f, fd, ok_tell_cluster F T C_Cluster_flag_by C_Cluster_time_by C_is_from, hm, F.kp, F.binds fun _ _ _ _ _ _ us hl => match us, hl with | [_, _], _ => rfl⟩
  have C_tell_parts : Cal P w K mg base 2 "tell_parts" ["one", "n"] (sp_tell_parts K A) := by
    obtain ⟨f, fd, F, hm⟩ := D_tell_parts
    exact ⟨f, fd, ok_tell_parts F T C_is_from, hm, F.kp, F.binds fun _ _ _ _ _ _ us hl => match us, hl with | [_, _], _ => rfl⟩
  have C_find_jets : Cal P w K mg base 6 "find_jets" ["one", "n"] (sp_find_jets K A) := by
    obtain ⟨f, fd, F, hm⟩ := D_find_jets
    exact ⟨f, fd, ok_find_jets F T C_jets_of, hm, F.kp, F.binds fun _ _ _ _ _ _ us hl => match us, hl with | [_, _], _ => rfl⟩
  have C_tell_jet : Cal P w K mg base 2 "tell_jet" ["one", "n"] (sp_tell_jet K A) := by
    obtain ⟨f, fd, F, hm⟩ := D_tell_jet
    exact ⟨f, fd, ok_tell_jet F T C_is_from, hm, F.kp, F.binds fun _ _ _ _ _ _ us hl => match us, hl with | [_, _], _ => rfl⟩
  have C_tell_sums : Cal P w K mg base 6 "tell_sums" ["one", "n"] (sp_tell_sums K A) := by
    obtain ⟨f, fd, F, hm⟩ := D_tell_sums
    exact ⟨f, fd, ok_tell_sums F T C_energy_inside, hm, F.kp, F.binds fun _ _ _ _ _ _ us hl => match us, hl with | [_, _], _ => rfl⟩
  have C_tell_window : Cal P w K mg base 4 "tell_window" ["one", "n"] (sp_tell_window K A) := by
    obtain ⟨f, fd, F, hm⟩ := D_tell_window
    exact ⟨f, fd, ok_tell_window F T C_best_window C_is_from, hm, F.kp, F.binds fun _ _ _ _ _ _ us hl => match us, hl with | [_, _], _ => rfl⟩
  have C_clear : Cal P w K mg base 4 "clear" ["one", "n"] (sp_clear K A) := by
    obtain ⟨f, fd, F, hm⟩ := D_clear
    exact ⟨f, fd, ok_clear F T C_Calorimeter_forget, hm, F.kp, F.binds fun _ _ _ _ _ _ us hl => match us, hl with | [_, _], _ => rfl⟩
  have C_Desk___init__ : CalC P w K mg base 1 "Desk" A.CDesk ["self"] (sp_Desk___init__ K A) := by
    obtain ⟨f, fd, F, M, hm⟩ := D_Desk___init__
    exact ⟨f, fd, ok_Desk___init__ F T , M, hm, F.binds fun _ _ _ _ _ _ us hl => match us, hl with | [_], _ => rfl⟩
  have C_Desk_begin : CalM P w K mg base 6 A.CDesk "begin" ["self", "n"] (sp_Desk_begin K A) := by
    obtain ⟨f, fd, F, M⟩ := D_Desk_begin
    exact ⟨f, fd, ok_Desk_begin F T C_opened, M, T.k_Desk.cl, F.binds fun _ _ _ _ _ _ us hl => match us, hl with | [_, _], _ => rfl⟩
  have C_Desk_answer : CalM P w K mg base 8 A.CDesk "answer" ["self", "call", "n"] (sp_Desk_answer K A) := by
    obtain ⟨f, fd, F, M⟩ := D_Desk_answer
    exact ⟨f, fd, ok_Desk_answer F T C_Desk_begin C_clear C_find_clusters C_find_jets C_set_gain C_set_weights C_tell_block C_tell_cluster C_tell_jet C_tell_parts C_tell_sums C_tell_window C_weigh_pulse, M, T.k_Desk.cl, F.binds fun _ _ _ _ _ _ us hl => match us, hl with | [_, _, _], _ => rfl⟩
  exact ok_answers F0 T C_Desk___init__ C_Desk_answer
theorem all_okB {P : Program} {w : World} {K : PySem.W.Frag} {h : Heap} {mg : Str → Option Value} {fa : Addr} (X : K.In h) (G : h.Ns mainGlobals mg)
    (e : ∃ fd : FuncData, (∀ (s : Shared) (us : List Value), us.length = (["calls"] : List Str).length → BindsTo s fd ⟨us, []⟩ ((["calls"] : List Str).zip us)) ∧ ∀ base : Heap, FnOk P w K mg base CX0 9 fa fd ["calls"] (spAns K)) :
    ∃ fd : FuncData, (∀ (s : Shared) (us : List Value), us.length = (["calls"] : List Str).length → BindsTo s fd ⟨us, []⟩ ((["calls"] : List Str).zip us)) ∧ ∀ base : Heap, K.In base → base.Ns mainGlobals mg → FnOk P w K mg base CX0 9 fa fd ["calls"] (spAns K) := by
  obtain ⟨fd, b, F⟩ := e
  exact ⟨fd, b, fun base _ _ => F base⟩
end Jb
end
open PySem PySem.W PyProof.Rows
set_option maxRecDepth 100000 in
set_option maxHeartbeats 0 in
theorem PySem.Challenge.cw_jetblocks_s01_answers_holds : PySem.Challenge.rw_jetblocks_s01_answers.Holds := by
  w_on; k_headS; (case hw => exact ⟨[.list [.int 6]], by decide +kernel, by decide +kernel⟩)
  k_fillS
  refine L2.walk_specK (r := PySem.Challenge.rw_jetblocks_s01_answers) (k := 9) (CX := L2.CX0) (ps := ["calls"]) (sp := Jb.spAns) (by decide +kernel) rfl rfl ⟨rfl, by decide, by decide⟩ (fun w h Y => PySem.W.kIn_of Y) ?F ?S (fun _ _ _ _ z => z)
  case F =>
    intro w mg fa h Y KX G hmg
    refine' Jb.all_okB KX G (Jb.all_ok (h := h) hmg (Jb.txt_mk KX G ?c_MANY_ROWS ?c_MANY_COLUMNS ?c_MANY_BLOCKS ?c_STEPS ?c_CYCLE ?c_GREATEST_SAMPLE ?c_GREATEST_ENERGY ?c_LEAST_TIME ?c_GREATEST_TIME ?c_TIME_STEPS ?c_OPEN ?c_MANY_GAINS ?c_MANY_WEIGHTS ?c_MOST_REACH ?c_MOST_MUL ?c_MOST_SHIFT ?c_LEAST_WEIGHT ?c_GREATEST_WEIGHT ?g_NO_CALORIMETER ?g_BAD ?g_NUMBERS ?g_CALLS ?b_len ?b_sum ?b_all ?b_abs ?b_max ?b_min ?b_sorted ?b_list ?b_int ?b_range ?b_zip ?b_enumerate (Jb.cls_mk ?pg_Blocks ?hd_Blocks ?po_Blocks ?sa_Blocks ⟨?na_Blocks_energies, ?na_Blocks_times, ?na_Blocks_flags, trivial⟩) (Jb.cls_mk ?pg_Cluster ?hd_Cluster ?po_Cluster ?sa_Cluster ⟨?na_Cluster_seed, ?na_Cluster_parts, ?na_Cluster_energy, ?na_Cluster_column, ?na_Cluster_row, trivial⟩) (Jb.cls_mk ?pg_Pseudojet ?hd_Pseudojet ?po_Pseudojet ?sa_Pseudojet ⟨?na_Pseudojet_energy, ?na_Pseudojet_column, ?na_Pseudojet_row, ?na_Pseudojet_clusters, trivial⟩) (Jb.cls_mk ?pg_Gain ?hd_Gain ?po_Gain ?sa_Gain ⟨?na_Gain_mul, ?na_Gain_shift, ?na_Gain_zero, trivial⟩) (Jb.cls_mk ?pg_Calorimeter ?hd_Calorimeter ?po_Calorimeter ?sa_Calorimeter ⟨?na_Calorimeter_least, ?na_Calorimeter_low, ?na_Calorimeter_reach, ?na_Calorimeter_gains, ?na_Calorimeter_w, ?na_Calorimeter_v, ?na_Calorimeter_blocks, ?na_Calorimeter_clusters, ?na_Calorimeter_jets, trivial⟩) (Jb.cls_mk ?pg_Desk ?hd_Desk ?po_Desk ?sa_Desk ⟨?na_Desk_calorimeter, trivial⟩) ?l_NO_CALORIMETER ?l_BAD ?l_N ?l_C ?m_2 ?h_2 ?m_3 ?h_3 ?m_4 ?h_4 ?m_5 ?h_5 ?m_6 ?h_6 ?m_7 ?h_7 ?m_8 ?h_8 ?m_9 ?h_9 ?m_10 ?h_10 ?m_11 ?h_11 ?m_12 ?h_12 ?m_13 ?h_13)
      (Jb.def_mk KX G ?da_row_of ?dl_row_of ?dc_row_of ?dk_row_of)
      (Jb.def_mk KX G ?da_column_of ?dl_column_of ?dc_column_of ?dk_column_of)
      (Jb.def_mk KX G ?da_block_at ?dl_block_at ?dc_block_at ?dk_block_at)
      (Jb.def_mk KX G ?da_rows_near ?dl_rows_near ?dc_rows_near ?dk_rows_near)
      (Jb.def_mk KX G ?da_columns_near ?dl_columns_near ?dc_columns_near ?dk_columns_near)
      (Jb.def_mk KX G ?da_neighbours_of ?dl_neighbours_of ?dc_neighbours_of ?dk_neighbours_of)
      (Jb.ini_mk KX G ?ca_Blocks ?ia_Blocks ?if_Blocks ?il_Blocks ?ic_Blocks ?ik_Blocks ?im_Blocks ?ck_Blocks)
      (Jb.mth_mk ?ma_Blocks_put ?mf_Blocks_put ?ml_Blocks_put ?mc_Blocks_put ?mk_Blocks_put)
      (Jb.def_mk KX G ?da_rounded ?dl_rounded ?dc_rounded ?dk_rounded)
      (Jb.def_mk KX G ?da_is_from ?dl_is_from ?dc_is_from ?dk_is_from)
      (Jb.def_mk KX G ?da_are_from ?dl_are_from ?dc_are_from ?dk_are_from)
      (Jb.def_mk KX G ?da_is_seed ?dl_is_seed ?dc_is_seed ?dk_is_seed)
      (Jb.def_mk KX G ?da_marks_of ?dl_marks_of ?dc_marks_of ?dk_marks_of)
      (Jb.def_mk KX G ?da_owners_of ?dl_owners_of ?dc_owners_of ?dk_owners_of)
      (Jb.def_mk KX G ?da_greatest_place ?dl_greatest_place ?dc_greatest_place ?dk_greatest_place)
      (Jb.def_mk KX G ?da_shares_of ?dl_shares_of ?dc_shares_of ?dk_shares_of)
      (Jb.def_mk KX G ?da_row_step ?dl_row_step ?dc_row_step ?dk_row_step)
      (Jb.ini_mk KX G ?ca_Cluster ?ia_Cluster ?if_Cluster ?il_Cluster ?ic_Cluster ?ik_Cluster ?im_Cluster ?ck_Cluster)
      (Jb.mth_mk ?ma_Cluster_own_column ?mf_Cluster_own_column ?ml_Cluster_own_column ?mc_Cluster_own_column ?mk_Cluster_own_column)
      (Jb.mth_mk ?ma_Cluster_own_row ?mf_Cluster_own_row ?ml_Cluster_own_row ?mc_Cluster_own_row ?mk_Cluster_own_row)
      (Jb.mth_mk ?ma_Cluster_time_by ?mf_Cluster_time_by ?ml_Cluster_time_by ?mc_Cluster_time_by ?mk_Cluster_time_by)
      (Jb.mth_mk ?ma_Cluster_flag_by ?mf_Cluster_flag_by ?ml_Cluster_flag_by ?mc_Cluster_flag_by ?mk_Cluster_flag_by)
      (Jb.def_mk KX G ?da_parts_by_seeds ?dl_parts_by_seeds ?dc_parts_by_seeds ?dk_parts_by_seeds)
      (Jb.def_mk KX G ?da_clusters_of ?dl_clusters_of ?dc_clusters_of ?dk_clusters_of)
      (Jb.def_mk KX G ?da_energy_inside ?dl_energy_inside ?dc_energy_inside ?dk_energy_inside)
      (Jb.ini_mk KX G ?ca_Pseudojet ?ia_Pseudojet ?if_Pseudojet ?il_Pseudojet ?ic_Pseudojet ?ik_Pseudojet ?im_Pseudojet ?ck_Pseudojet)
      (Jb.def_mk KX G ?da_far_rows ?dl_far_rows ?dc_far_rows ?dk_far_rows)
      (Jb.def_mk KX G ?da_squared_distance ?dl_squared_distance ?dc_squared_distance ?dk_squared_distance)
      (Jb.def_mk KX G ?da_joined ?dl_joined ?dc_joined ?dk_joined)
      (Jb.def_mk KX G ?da_finished_first ?dl_finished_first ?dc_finished_first ?dk_finished_first)
      (Jb.def_mk KX G ?da_pair_measure ?dl_pair_measure ?dc_pair_measure ?dk_pair_measure)
      (Jb.def_mk KX G ?da_is_less ?dl_is_less ?dc_is_less ?dk_is_less)
      (Jb.def_mk KX G ?da_best_pair ?dl_best_pair ?dc_best_pair ?dk_best_pair)
      (Jb.def_mk KX G ?da_is_joined_first ?dl_is_joined_first ?dc_is_joined_first ?dk_is_joined_first)
      (Jb.def_mk KX G ?da_without ?dl_without ?dc_without ?dk_without)
      (Jb.def_mk KX G ?da_beginning ?dl_beginning ?dc_beginning ?dk_beginning)
      (Jb.def_mk KX G ?da_ordered ?dl_ordered ?dc_ordered ?dk_ordered)
      (Jb.def_mk KX G ?da_jets_of ?dl_jets_of ?dc_jets_of ?dk_jets_of)
      (Jb.ini_mk KX G ?ca_Gain ?ia_Gain ?if_Gain ?il_Gain ?ic_Gain ?ik_Gain ?im_Gain ?ck_Gain)
      (Jb.def_mk KX G ?da_weighed_sum ?dl_weighed_sum ?dc_weighed_sum ?dk_weighed_sum)
      (Jb.def_mk KX G ?da_energy_of ?dl_energy_of ?dc_energy_of ?dk_energy_of)
      (Jb.def_mk KX G ?da_time_of ?dl_time_of ?dc_time_of ?dk_time_of)
      (Jb.def_mk KX G ?da_flag_of ?dl_flag_of ?dc_flag_of ?dk_flag_of)
      (Jb.def_mk KX G ?da_weighed ?dl_weighed ?dc_weighed ?dk_weighed)
      (Jb.def_mk KX G ?da_row_sums ?dl_row_sums ?dc_row_sums ?dk_row_sums)
      (Jb.def_mk KX G ?da_window_energy ?dl_window_energy ?dc_window_energy ?dk_window_energy)
      (Jb.def_mk KX G ?da_best_window ?dl_best_window ?dc_best_window ?dk_best_window)
      (Jb.ini_mk KX G ?ca_Calorimeter ?ia_Calorimeter ?if_Calorimeter ?il_Calorimeter ?ic_Calorimeter ?ik_Calorimeter ?im_Calorimeter ?ck_Calorimeter)
      (Jb.mth_mk ?ma_Calorimeter_forget ?mf_Calorimeter_forget ?ml_Calorimeter_forget ?mc_Calorimeter_forget ?mk_Calorimeter_forget)
      (Jb.def_mk KX G ?da_opened ?dl_opened ?dc_opened ?dk_opened)
      (Jb.def_mk KX G ?da_set_gain ?dl_set_gain ?dc_set_gain ?dk_set_gain)
      (Jb.def_mk KX G ?da_set_weights ?dl_set_weights ?dc_set_weights ?dk_set_weights)
      (Jb.def_mk KX G ?da_weigh_pulse ?dl_weigh_pulse ?dc_weigh_pulse ?dk_weigh_pulse)
      (Jb.def_mk KX G ?da_tell_block ?dl_tell_block ?dc_tell_block ?dk_tell_block)
      (Jb.def_mk KX G ?da_find_clusters ?dl_find_clusters ?dc_find_clusters ?dk_find_clusters)
      (Jb.def_mk KX G ?da_tell_cluster ?dl_tell_cluster ?dc_tell_cluster ?dk_tell_cluster)
      (Jb.def_mk KX G ?da_tell_parts ?dl_tell_parts ?dc_tell_parts ?dk_tell_parts)
      (Jb.def_mk KX G ?da_find_jets ?dl_find_jets ?dc_find_jets ?dk_find_jets)
      (Jb.def_mk KX G ?da_tell_jet ?dl_tell_jet ?dc_tell_jet ?dk_tell_jet)
      (Jb.def_mk KX G ?da_tell_sums ?dl_tell_sums ?dc_tell_sums ?dk_tell_sums)
      (Jb.def_mk KX G ?da_tell_window ?dl_tell_window ?dc_tell_window ?dk_tell_window)
      (Jb.def_mk KX G ?da_clear ?dl_clear ?dc_clear ?dk_clear)
      (Jb.ini_mk KX G ?ca_Desk ?ia_Desk ?if_Desk ?il_Desk ?ic_Desk ?ik_Desk ?im_Desk ?ck_Desk)
      (Jb.mth_mk ?ma_Desk_begin ?mf_Desk_begin ?ml_Desk_begin ?mc_Desk_begin ?mk_Desk_begin)
      (Jb.mth_mk ?ma_Desk_answer ?mf_Desk_answer ?ml_Desk_answer ?mc_Desk_answer ?mk_Desk_answer)
      (Jb.def_mk KX G ?da_answers ?dl_answers ?dc_answers ?dk_answers))
    (case ca_Blocks => k_is)
    (case ca_Cluster => k_is)
    (case ca_Pseudojet => k_is)
    (case ca_Gain => k_is)
    (case ca_Calorimeter => k_is)
    (case ca_Desk => k_is)
    (case g_NO_CALORIMETER => k_is)
    (case g_BAD => k_is)
    (case g_NUMBERS => k_is)
    (case g_CALLS => k_is)
    (case ia_Blocks => k_is)
    (case if_Blocks => k_is)
    (case il_Blocks => k_is)
    (case ic_Blocks => k_is)
    (case ik_Blocks => k_is)
    (case im_Blocks => k_is)
    (case ck_Blocks => k_is)
    (case pg_Blocks => k_is)
    (case hd_Blocks => k_is)
    (case po_Blocks => k_is)
    (case sa_Blocks => k_is)
    (case na_Blocks_energies => k_is)
    (case na_Blocks_times => k_is)
    (case na_Blocks_flags => k_is)
    (case ia_Cluster => k_is)
    (case if_Cluster => k_is)
    (case il_Cluster => k_is)
    (case ic_Cluster => k_is)
    (case ik_Cluster => k_is)
    (case im_Cluster => k_is)
    (case ck_Cluster => k_is)
    (case pg_Cluster => k_is)
    (case hd_Cluster => k_is)
    (case po_Cluster => k_is)
    (case sa_Cluster => k_is)
    (case na_Cluster_seed => k_is)
    (case na_Cluster_parts => k_is)
    (case na_Cluster_energy => k_is)
    (case na_Cluster_column => k_is)
    (case na_Cluster_row => k_is)
    (case ia_Pseudojet => k_is)
    (case if_Pseudojet => k_is)
    (case il_Pseudojet => k_is)
    (case ic_Pseudojet => k_is)
    (case ik_Pseudojet => k_is)
    (case im_Pseudojet => k_is)
    (case ck_Pseudojet => k_is)
    (case pg_Pseudojet => k_is)
    (case hd_Pseudojet => k_is)
    (case po_Pseudojet => k_is)
    (case sa_Pseudojet => k_is)
    (case na_Pseudojet_energy => k_is)
    (case na_Pseudojet_column => k_is)
    (case na_Pseudojet_row => k_is)
    (case na_Pseudojet_clusters => k_is)
    (case ia_Gain => k_is)
    (case if_Gain => k_is)
    (case il_Gain => k_is)
    (case ic_Gain => k_is)
    (case ik_Gain => k_is)
    (case im_Gain => k_is)
    (case ck_Gain => k_is)
    (case pg_Gain => k_is)
    (case hd_Gain => k_is)
    (case po_Gain => k_is)
    (case sa_Gain => k_is)
    (case na_Gain_mul => k_is)
    (case na_Gain_shift => k_is)
    (case na_Gain_zero => k_is)
    (case ia_Calorimeter => k_is)
    (case if_Calorimeter => k_is)
    (case il_Calorimeter => k_is)
    (case ic_Calorimeter => k_is)
    (case ik_Calorimeter => k_is)
    (case im_Calorimeter => k_is)
    (case ck_Calorimeter => k_is)
    (case pg_Calorimeter => k_is)
    (case hd_Calorimeter => k_is)
    (case po_Calorimeter => k_is)
    (case sa_Calorimeter => k_is)
    (case na_Calorimeter_least => k_is)
    (case na_Calorimeter_low => k_is)
    (case na_Calorimeter_reach => k_is)
    (case na_Calorimeter_gains => k_is)
    (case na_Calorimeter_w => k_is)
    (case na_Calorimeter_v => k_is)
    (case na_Calorimeter_blocks => k_is)
    (case na_Calorimeter_clusters => k_is)
    (case na_Calorimeter_jets => k_is)
    (case ia_Desk => k_is)
    (case if_Desk => k_is)
    (case il_Desk => k_is)
    (case ic_Desk => k_is)
    (case ik_Desk => k_is)
    (case im_Desk => k_is)
    (case ck_Desk => k_is)
    (case pg_Desk => k_is)
    (case hd_Desk => k_is)
    (case po_Desk => k_is)
    (case sa_Desk => k_is)
    (case na_Desk_calorimeter => k_is)
    (case c_MANY_ROWS => k_is)
    (case c_MANY_COLUMNS => k_is)
    (case c_MANY_BLOCKS => k_is)
    (case c_STEPS => k_is)
    (case c_CYCLE => k_is)
    (case c_GREATEST_SAMPLE => k_is)
    (case c_GREATEST_ENERGY => k_is)
    (case c_LEAST_TIME => k_is)
    (case c_GREATEST_TIME => k_is)
    (case c_TIME_STEPS => k_is)
    (case c_OPEN => k_is)
    (case c_MANY_GAINS => k_is)
    (case c_MANY_WEIGHTS => k_is)
    (case c_MOST_REACH => k_is)
    (case c_MOST_MUL => k_is)
    (case c_MOST_SHIFT => k_is)
    (case c_LEAST_WEIGHT => k_is)
    (case c_GREATEST_WEIGHT => k_is)
    (case b_len => k_is)
    (case b_sum => k_is)
    (case b_all => k_is)
    (case b_abs => k_is)
    (case b_max => k_is)
    (case b_min => k_is)
    (case b_sorted => k_is)
    (case b_list => k_is)
    (case b_int => k_is)
    (case b_range => k_is)
    (case b_zip => k_is)
    (case b_enumerate => k_is)
    (case l_NO_CALORIMETER => k_is)
    (case l_BAD => k_is)
    (case l_N => k_is)
    (case l_C => k_is)
    (case m_2 => k_is)
    (case h_2 => rfl)
    (case m_3 => k_is)
    (case h_3 => rfl)
    (case m_4 => k_is)
    (case h_4 => rfl)
    (case m_5 => k_is)
    (case h_5 => rfl)
    (case m_6 => k_is)
    (case h_6 => rfl)
    (case m_7 => k_is)
    (case h_7 => rfl)
    (case m_8 => k_is)
    (case h_8 => rfl)
    (case m_9 => k_is)
    (case h_9 => rfl)
    (case m_10 => k_is)
    (case h_10 => rfl)
    (case m_11 => k_is)
    (case h_11 => rfl)
    (case m_12 => k_is)
    (case h_12 => rfl)
    (case m_13 => k_is)
    (case h_13 => rfl)
    (case da_row_of => k_is)
    (case dl_row_of => k_is)
    (case dc_row_of => k_is)
    (case dk_row_of => k_is)
    (case da_column_of => k_is)
    (case dl_column_of => k_is)
    (case dc_column_of => k_is)
    (case dk_column_of => k_is)
    (case da_block_at => k_is)
    (case dl_block_at => k_is)
    (case dc_block_at => k_is)
    (case dk_block_at => k_is)
    (case da_rows_near => k_is)
    (case dl_rows_near => k_is)
    (case dc_rows_near => k_is)
    (case dk_rows_near => k_is)
    (case da_columns_near => k_is)
    (case dl_columns_near => k_is)
    (case dc_columns_near => k_is)
    (case dk_columns_near => k_is)
    (case da_neighbours_of => k_is)
    (case dl_neighbours_of => k_is)
    (case dc_neighbours_of => k_is)
    (case dk_neighbours_of => k_is)
    (case ma_Blocks_put => k_is)
    (case mf_Blocks_put => k_is)
    (case ml_Blocks_put => k_is)
    (case mc_Blocks_put => k_is)
    (case mk_Blocks_put => k_is)
    (case da_rounded => k_is)
    (case dl_rounded => k_is)
    (case dc_rounded => k_is)
    (case dk_rounded => k_is)
    (case da_is_from => k_is)
    (case dl_is_from => k_is)
    (case dc_is_from => k_is)
    (case dk_is_from => k_is)
    (case da_are_from => k_is)
    (case dl_are_from => k_is)
    (case dc_are_from => k_is)
    (case dk_are_from => k_is)
    (case da_is_seed => k_is)
    (case dl_is_seed => k_is)
    (case dc_is_seed => k_is)
    (case dk_is_seed => k_is)
    (case da_marks_of => k_is)
    (case dl_marks_of => k_is)
    (case dc_marks_of => k_is)
    (case dk_marks_of => k_is)
    (case da_owners_of => k_is)
    (case dl_owners_of => k_is)
    (case dc_owners_of => k_is)
    (case dk_owners_of => k_is)
    (case da_greatest_place => k_is)
    (case dl_greatest_place => k_is)
    (case dc_greatest_place => k_is)
    (case dk_greatest_place => k_is)
    (case da_shares_of => k_is)
    (case dl_shares_of => k_is)
    (case dc_shares_of => k_is)
    (case dk_shares_of => k_is)
    (case da_row_step => k_is)
    (case dl_row_step => k_is)
    (case dc_row_step => k_is)
    (case dk_row_step => k_is)
    (case ma_Cluster_own_column => k_is)
    (case mf_Cluster_own_column => k_is)
    (case ml_Cluster_own_column => k_is)
    (case mc_Cluster_own_column => k_is)
    (case mk_Cluster_own_column => k_is)
    (case ma_Cluster_own_row => k_is)
    (case mf_Cluster_own_row => k_is)
    (case ml_Cluster_own_row => k_is)
    (case mc_Cluster_own_row => k_is)
    (case mk_Cluster_own_row => k_is)
    (case ma_Cluster_time_by => k_is)
    (case mf_Cluster_time_by => k_is)
    (case ml_Cluster_time_by => k_is)
    (case mc_Cluster_time_by => k_is)
    (case mk_Cluster_time_by => k_is)
    (case ma_Cluster_flag_by => k_is)
    (case mf_Cluster_flag_by => k_is)
    (case ml_Cluster_flag_by => k_is)
    (case mc_Cluster_flag_by => k_is)
    (case mk_Cluster_flag_by => k_is)
    (case da_parts_by_seeds => k_is)
    (case dl_parts_by_seeds => k_is)
    (case dc_parts_by_seeds => k_is)
    (case dk_parts_by_seeds => k_is)
    (case da_clusters_of => k_is)
    (case dl_clusters_of => k_is)
    (case dc_clusters_of => k_is)
    (case dk_clusters_of => k_is)
    (case da_energy_inside => k_is)
    (case dl_energy_inside => k_is)
    (case dc_energy_inside => k_is)
    (case dk_energy_inside => k_is)
    (case da_far_rows => k_is)
    (case dl_far_rows => k_is)
    (case dc_far_rows => k_is)
    (case dk_far_rows => k_is)
    (case da_squared_distance => k_is)
    (case dl_squared_distance => k_is)
    (case dc_squared_distance => k_is)
    (case dk_squared_distance => k_is)
    (case da_joined => k_is)
    (case dl_joined => k_is)
    (case dc_joined => k_is)
    (case dk_joined => k_is)
    (case da_finished_first => k_is)
    (case dl_finished_first => k_is)
    (case dc_finished_first => k_is)
    (case dk_finished_first => k_is)
    (case da_pair_measure => k_is)
    (case dl_pair_measure => k_is)
    (case dc_pair_measure => k_is)
    (case dk_pair_measure => k_is)
    (case da_is_less => k_is)
    (case dl_is_less => k_is)
    (case dc_is_less => k_is)
    (case dk_is_less => k_is)
    (case da_best_pair => k_is)
    (case dl_best_pair => k_is)
    (case dc_best_pair => k_is)
    (case dk_best_pair => k_is)
    (case da_is_joined_first => k_is)
    (case dl_is_joined_first => k_is)
    (case dc_is_joined_first => k_is)
    (case dk_is_joined_first => k_is)
    (case da_without => k_is)
    (case dl_without => k_is)
    (case dc_without => k_is)
    (case dk_without => k_is)
    (case da_beginning => k_is)
    (case dl_beginning => k_is)
    (case dc_beginning => k_is)
    (case dk_beginning => k_is)
    (case da_ordered => k_is)
    (case dl_ordered => k_is)
    (case dc_ordered => k_is)
    (case dk_ordered => k_is)
    (case da_jets_of => k_is)
    (case dl_jets_of => k_is)
    (case dc_jets_of => k_is)
    (case dk_jets_of => k_is)
    (case da_weighed_sum => k_is)
    (case dl_weighed_sum => k_is)
    (case dc_weighed_sum => k_is)
    (case dk_weighed_sum => k_is)
    (case da_energy_of => k_is)
    (case dl_energy_of => k_is)
    (case dc_energy_of => k_is)
    (case dk_energy_of => k_is)
    (case da_time_of => k_is)
    (case dl_time_of => k_is)
    (case dc_time_of => k_is)
    (case dk_time_of => k_is)
    (case da_flag_of => k_is)
    (case dl_flag_of => k_is)
    (case dc_flag_of => k_is)
    (case dk_flag_of => k_is)
    (case da_weighed => k_is)
    (case dl_weighed => k_is)
    (case dc_weighed => k_is)
    (case dk_weighed => k_is)
    (case da_row_sums => k_is)
    (case dl_row_sums => k_is)
    (case dc_row_sums => k_is)
    (case dk_row_sums => k_is)
    (case da_window_energy => k_is)
    (case dl_window_energy => k_is)
    (case dc_window_energy => k_is)
    (case dk_window_energy => k_is)
    (case da_best_window => k_is)
    (case dl_best_window => k_is)
    (case dc_best_window => k_is)
    (case dk_best_window => k_is)
    (case ma_Calorimeter_forget => k_is)
    (case mf_Calorimeter_forget => k_is)
    (case ml_Calorimeter_forget => k_is)
    (case mc_Calorimeter_forget => k_is)
    (case mk_Calorimeter_forget => k_is)
    (case da_opened => k_is)
    (case dl_opened => k_is)
    (case dc_opened => k_is)
    (case dk_opened => k_is)
    (case da_set_gain => k_is)
    (case dl_set_gain => k_is)
    (case dc_set_gain => k_is)
    (case dk_set_gain => k_is)
    (case da_set_weights => k_is)
    (case dl_set_weights => k_is)
    (case dc_set_weights => k_is)
    (case dk_set_weights => k_is)
    (case da_weigh_pulse => k_is)
    (case dl_weigh_pulse => k_is)
    (case dc_weigh_pulse => k_is)
    (case dk_weigh_pulse => k_is)
    (case da_tell_block => k_is)
    (case dl_tell_block => k_is)
    (case dc_tell_block => k_is)
    (case dk_tell_block => k_is)
    (case da_find_clusters => k_is)
    (case dl_find_clusters => k_is)
    (case dc_find_clusters => k_is)
    (case dk_find_clusters => k_is)
    (case da_tell_cluster => k_is)
    (case dl_tell_cluster => k_is)
    (case dc_tell_cluster => k_is)
    (case dk_tell_cluster => k_is)
    (case da_tell_parts => k_is)
    (case dl_tell_parts => k_is)
    (case dc_tell_parts => k_is)
    (case dk_tell_parts => k_is)
    (case da_find_jets => k_is)
    (case dl_find_jets => k_is)
    (case dc_find_jets => k_is)
    (case dk_find_jets => k_is)
    (case da_tell_jet => k_is)
    (case dl_tell_jet => k_is)
    (case dc_tell_jet => k_is)
    (case dk_tell_jet => k_is)
    (case da_tell_sums => k_is)
    (case dl_tell_sums => k_is)
    (case dc_tell_sums => k_is)
    (case dk_tell_sums => k_is)
    (case da_tell_window => k_is)
    (case dl_tell_window => k_is)
    (case dc_tell_window => k_is)
    (case dk_tell_window => k_is)
    (case da_clear => k_is)
    (case dl_clear => k_is)
    (case dc_clear => k_is)
    (case dk_clear => k_is)
    (case ma_Desk_begin => k_is)
    (case mf_Desk_begin => k_is)
    (case ml_Desk_begin => k_is)
    (case mc_Desk_begin => k_is)
    (case mk_Desk_begin => k_is)
    (case ma_Desk_answer => k_is)
    (case mf_Desk_answer => k_is)
    (case ml_Desk_answer => k_is)
    (case mc_Desk_answer => k_is)
    (case mk_Desk_answer => k_is)
    (case da_answers => k_is)
    (case dl_answers => k_is)
    (case dc_answers => k_is)
    (case dk_answers => k_is)
  case S =>
    intro K H xs a hO hwi hask hx
    cases hx with
    | cons h1 h2 =>
      cases h2
      cases h1 with
      | lst hs ha =>
        have e := L2.ints_dw a.1 _ ha
        subst e
        exact ⟨_, a.1, rfl, hs, hask, fun H' p hp => .lst (L2.SqL.of hp) (L2.dw_ints _)⟩
#print axioms PySem.Challenge.cw_jetblocks_s01_answers_holds

import PyProof.Rows.All
import Wide.All
import OpenK.AllK
import Wide.FinOn
import HandS.ForMost
import HandS.Flow
import HandS.Defaults
import HandS.Codes
import HandS.Evl
import HandS.Walk
import HandS.IsInst
import HandS.Wide
import HandS.Deep
import HandS.TupAny
import HandS.SortInts
import HandS.Strs
import HandS.TupSets
import HandS.Conv
import PySem.Challenge.RW_rebut_k75_whole_logs_and_refutations
import KE.GoesMore
import KE.GoesEnum
import HandS.More
import HandS.SetFor
import KE.KStateDown
import Lean
import HandS.Base
import HandS.Call
import HandS.Ends
import HandS.Words
import HandS.WordsExc
import HandS.Head0
import HandS.Head1
import HandS.Head2
import HandS.HeadEnd
import HandS.HeadHook1
import HandS.HeadHook2
set_option Elab.async false
set_option linter.all false
set_option maxRecDepth 100000
set_option maxHeartbeats 4000000
namespace K75
open PySem L2
/-! ### the text by places -/
def top (i : Nat) : Stmt := PySem.Challenge.pw_rebut_k75_whole_logs_and_refutations.main.body.getD i (.Pass ⟨0, 0, 0, 0⟩)
abbrev s_is_integer : Stmt := top 4
abbrev p_is_integer : List Str := ["value"]
abbrev n_is_integer : List Str := ["value"]
theorem sc_is_integer : FnScope n_is_integer p_is_integer (defScope s_is_integer) := ⟨rfl, rfl, rfl, by decide +kernel, rfl, by decide +kernel, by decide +kernel⟩
abbrev s_is_number : Stmt := top 5
abbrev p_is_number : List Str := ["value"]
abbrev n_is_number : List Str := ["value"]
theorem sc_is_number : FnScope n_is_number p_is_number (defScope s_is_number) := ⟨rfl, rfl, rfl, by decide +kernel, rfl, by decide +kernel, by decide +kernel⟩
abbrev s_is_ascending : Stmt := top 6
abbrev p_is_ascending : List Str := ["items"]
abbrev n_is_ascending : List Str := ["items", "first", "second"]
theorem sc_is_ascending : FnScope n_is_ascending p_is_ascending (defScope s_is_ascending) := ⟨rfl, rfl, rfl, by decide +kernel, rfl, by decide +kernel, by decide +kernel⟩
abbrev s_is_clause : Stmt := top 7
abbrev p_is_clause : List Str := ["n", "value"]
abbrev n_is_clause : List Str := ["n", "value", "literal"]
theorem sc_is_clause : FnScope n_is_clause p_is_clause (defScope s_is_clause) := ⟨rfl, rfl, rfl, by decide +kernel, rfl, by decide +kernel, by decide +kernel⟩
abbrev s_made_clause : Stmt := top 8
abbrev p_made_clause : List Str := ["literals"]
abbrev n_made_clause : List Str := ["literals", "literal"]
theorem sc_made_clause : FnScope n_made_clause p_made_clause (defScope s_made_clause) := ⟨rfl, rfl, rfl, by decide +kernel, rfl, by decide +kernel, by decide +kernel⟩
abbrev s_is_earlier : Stmt := top 10
abbrev p_is_earlier : List Str := ["value", "k"]
abbrev n_is_earlier : List Str := ["value", "k"]
theorem sc_is_earlier : FnScope n_is_earlier p_is_earlier (defScope s_is_earlier) := ⟨rfl, rfl, rfl, by decide +kernel, rfl, by decide +kernel, by decide +kernel⟩
abbrev s_resolvent : Stmt := top 11
abbrev p_resolvent : List Str := ["first", "second", "v"]
abbrev n_resolvent : List Str := ["first", "second", "v", "a", "b"]
theorem sc_resolvent : FnScope n_resolvent p_resolvent (defScope s_resolvent) := ⟨rfl, rfl, rfl, by decide +kernel, rfl, by decide +kernel, by decide +kernel⟩
abbrev s_axiom_clause : Stmt := top 12
abbrev p_axiom_clause : List Str := ["formula", "step"]
abbrev n_axiom_clause : List Str := ["formula", "step"]
theorem sc_axiom_clause : FnScope n_axiom_clause p_axiom_clause (defScope s_axiom_clause) := ⟨rfl, rfl, rfl, by decide +kernel, rfl, by decide +kernel, by decide +kernel⟩
abbrev s_resolved_clause : Stmt := top 13
abbrev p_resolved_clause : List Str := ["formula", "clauses", "step"]
abbrev n_resolved_clause : List Str := ["formula", "clauses", "step"]
theorem sc_resolved_clause : FnScope n_resolved_clause p_resolved_clause (defScope s_resolved_clause) := ⟨rfl, rfl, rfl, by decide +kernel, rfl, by decide +kernel, by decide +kernel⟩
abbrev s_weakened_clause : Stmt := top 14
abbrev p_weakened_clause : List Str := ["formula", "clauses", "step"]
abbrev n_weakened_clause : List Str := ["formula", "clauses", "step", "literal"]
theorem sc_weakened_clause : FnScope n_weakened_clause p_weakened_clause (defScope s_weakened_clause) := ⟨rfl, rfl, rfl, by decide +kernel, rfl, by decide +kernel, by decide +kernel⟩
abbrev s_next_clause : Stmt := top 15
abbrev p_next_clause : List Str := ["formula", "clauses", "step"]
abbrev n_next_clause : List Str := ["formula", "clauses", "step"]
theorem sc_next_clause : FnScope n_next_clause p_next_clause (defScope s_next_clause) := ⟨rfl, rfl, rfl, by decide +kernel, rfl, by decide +kernel, by decide +kernel⟩
abbrev s_clauses_of : Stmt := top 16
abbrev p_clauses_of : List Str := ["formula", "steps"]
abbrev n_clauses_of : List Str := ["formula", "steps", "clauses", "k", "step", "clause"]
theorem sc_clauses_of : FnScope n_clauses_of p_clauses_of (defScope s_clauses_of) := ⟨rfl, rfl, rfl, by decide +kernel, rfl, by decide +kernel, by decide +kernel⟩
abbrev s_sources : Stmt := top 17
abbrev p_sources : List Str := ["step"]
abbrev n_sources : List Str := ["step"]
theorem sc_sources : FnScope n_sources p_sources (defScope s_sources) := ⟨rfl, rfl, rfl, by decide +kernel, rfl, by decide +kernel, by decide +kernel⟩
abbrev s_moved : Stmt := top 18
abbrev p_moved : List Str := ["step", "places"]
abbrev n_moved : List Str := ["step", "places"]
theorem sc_moved : FnScope n_moved p_moved (defScope s_moved) := ⟨rfl, rfl, rfl, by decide +kernel, rfl, by decide +kernel, by decide +kernel⟩
abbrev s_pruned_to : Stmt := top 19
abbrev p_pruned_to : List Str := ["steps", "last"]
abbrev n_pruned_to : List Str := ["steps", "last", "used", "k", "source", "places", "found"]
theorem sc_pruned_to : FnScope n_pruned_to p_pruned_to (defScope s_pruned_to) := ⟨rfl, rfl, rfl, by decide +kernel, rfl, by decide +kernel, by decide +kernel⟩
abbrev s_Shortener_init : Stmt := inClass (top 20) 0
abbrev p_Shortener_init : List Str := ["self", "formula"]
abbrev n_Shortener_init : List Str := ["self", "formula"]
theorem sc_Shortener_init : FnScope n_Shortener_init p_Shortener_init (defScope s_Shortener_init) := ⟨rfl, rfl, rfl, by decide +kernel, rfl, by decide +kernel, by decide +kernel⟩
abbrev s_Shortener_add : Stmt := inClass (top 20) 1
abbrev p_Shortener_add : List Str := ["self", "step"]
abbrev n_Shortener_add : List Str := ["self", "step"]
theorem sc_Shortener_add : FnScope n_Shortener_add p_Shortener_add (defScope s_Shortener_add) := ⟨rfl, rfl, rfl, by decide +kernel, rfl, by decide +kernel, by decide +kernel⟩
abbrev s_Shortener_resolve : Stmt := inClass (top 20) 2
abbrev p_Shortener_resolve : List Str := ["self", "a", "b", "v"]
abbrev n_Shortener_resolve : List Str := ["self", "a", "b", "v"]
theorem sc_Shortener_resolve : FnScope n_Shortener_resolve p_Shortener_resolve (defScope s_Shortener_resolve) := ⟨rfl, rfl, rfl, by decide +kernel, rfl, by decide +kernel, by decide +kernel⟩
abbrev s_log_of_steps : Stmt := top 22
abbrev p_log_of_steps : List Str := ["formula", "steps"]
abbrev n_log_of_steps : List Str := ["formula", "steps"]
theorem sc_log_of_steps : FnScope n_log_of_steps p_log_of_steps (defScope s_log_of_steps) := ⟨rfl, rfl, rfl, by decide +kernel, rfl, by decide +kernel, by decide +kernel⟩
abbrev s_LogFollower_init : Stmt := inClass (top 23) 0
abbrev p_LogFollower_init : List Str := ["self", "formula"]
abbrev n_LogFollower_init : List Str := ["self", "formula", "k"]
theorem sc_LogFollower_init : FnScope n_LogFollower_init p_LogFollower_init (defScope s_LogFollower_init) := ⟨rfl, rfl, rfl, by decide +kernel, rfl, by decide +kernel, by decide +kernel⟩
abbrev s_LogFollower_cause : Stmt := inClass (top 23) 1
abbrev p_LogFollower_cause : List Str := ["self", "found"]
abbrev n_LogFollower_cause : List Str := ["self", "found", "place", "rest", "literal"]
theorem sc_LogFollower_cause : FnScope n_LogFollower_cause p_LogFollower_cause (defScope s_LogFollower_cause) := ⟨rfl, rfl, rfl, by decide +kernel, rfl, by decide +kernel, by decide +kernel⟩
abbrev s_LogFollower_follow : Stmt := inClass (top 23) 2
abbrev p_LogFollower_follow : List Str := ["self", "clause"]
abbrev n_LogFollower_follow : List Str := ["self", "clause", "found", "reasons", "place", "literal", "reason"]
theorem sc_LogFollower_follow : FnScope n_LogFollower_follow p_LogFollower_follow (defScope s_LogFollower_follow) := ⟨rfl, rfl, rfl, by decide +kernel, rfl, by decide +kernel, by decide +kernel⟩
abbrev s_LogFollower_taken : Stmt := inClass (top 23) 3
abbrev p_LogFollower_taken : List Str := ["self", "place", "reason", "literal"]
abbrev n_LogFollower_taken : List Str := ["self", "place", "reason", "literal"]
theorem sc_LogFollower_taken : FnScope n_LogFollower_taken p_LogFollower_taken (defScope s_LogFollower_taken) := ⟨rfl, rfl, rfl, by decide +kernel, rfl, by decide +kernel, by decide +kernel⟩
abbrev s_steps_of_log : Stmt := top 24
abbrev p_steps_of_log : List Str := ["formula", "log"]
abbrev n_steps_of_log : List Str := ["formula", "log", "follower", "clause"]
theorem sc_steps_of_log : FnScope n_steps_of_log p_steps_of_log (defScope s_steps_of_log) := ⟨rfl, rfl, rfl, by decide +kernel, rfl, by decide +kernel, by decide +kernel⟩
abbrev s_law_cell : Stmt := top 26
abbrev p_law_cell : List Str := ["_law_script", "_law_k"]
abbrev n_law_cell : List Str := ["_law_script", "_law_k"]
theorem sc_law_cell : FnScope n_law_cell p_law_cell (defScope s_law_cell) := ⟨rfl, rfl, rfl, by decide +kernel, rfl, by decide +kernel, by decide +kernel⟩
abbrev s_law_draws : Stmt := top 27
abbrev p_law_draws : List Str := ["_law_cell_here", "_law_count"]
abbrev n_law_draws : List Str := ["_law_cell_here", "_law_count", "_law_rows_here", "_law_left", "_law_k", "_law_mixed"]
theorem sc_law_draws : FnScope n_law_draws p_law_draws (defScope s_law_draws) := ⟨rfl, rfl, rfl, by decide +kernel, rfl, by decide +kernel, by decide +kernel⟩
abbrev s_law_is_int : Stmt := top 28
abbrev p_law_is_int : List Str := ["_law_x"]
abbrev n_law_is_int : List Str := ["_law_x"]
theorem sc_law_is_int : FnScope n_law_is_int p_law_is_int (defScope s_law_is_int) := ⟨rfl, rfl, rfl, by decide +kernel, rfl, by decide +kernel, by decide +kernel⟩
abbrev s_law_ints : Stmt := top 29
abbrev p_law_ints : List Str := ["_law_x", "_law_kind"]
abbrev n_law_ints : List Str := ["_law_x", "_law_kind", "_law_k"]
theorem sc_law_ints : FnScope n_law_ints p_law_ints (defScope s_law_ints) := ⟨rfl, rfl, rfl, by decide +kernel, rfl, by decide +kernel, by decide +kernel⟩
abbrev s_law_is_tuple : Stmt := top 30
abbrev p_law_is_tuple : List Str := ["_law_x", "_law_due"]
abbrev n_law_is_tuple : List Str := ["_law_x", "_law_due"]
theorem sc_law_is_tuple : FnScope n_law_is_tuple p_law_is_tuple (defScope s_law_is_tuple) := ⟨rfl, rfl, rfl, by decide +kernel, rfl, by decide +kernel, by decide +kernel⟩
abbrev s_law_clause_of : Stmt := top 31
abbrev p_law_clause_of : List Str := ["_law_literals"]
abbrev n_law_clause_of : List Str := ["_law_literals", "_law_found", "_law_literal"]
theorem sc_law_clause_of : FnScope n_law_clause_of p_law_clause_of (defScope s_law_clause_of) := ⟨rfl, rfl, rfl, by decide +kernel, rfl, by decide +kernel, by decide +kernel⟩
abbrev s_law_rows : Stmt := top 32
abbrev p_law_rows : List Str := ["_law_draws_here", "_law_at", "_law_n", "_law_many", "_law_wide"]
abbrev n_law_rows : List Str := ["_law_draws_here", "_law_at", "_law_n", "_law_many", "_law_wide", "_law_rows_here", "_law_k", "_law_row", "_law_j", "_law_draw", "_law_v"]
theorem sc_law_rows : FnScope n_law_rows p_law_rows (defScope s_law_rows) := ⟨rfl, rfl, rfl, by decide +kernel, rfl, by decide +kernel, by decide +kernel⟩
abbrev s_law_of_rows : Stmt := top 33
abbrev p_law_of_rows : List Str := ["_law_n", "_law_rows_here"]
abbrev n_law_of_rows : List Str := ["_law_n", "_law_rows_here", "_law_found", "_law_row", "_law_clause"]
theorem sc_law_of_rows : FnScope n_law_of_rows p_law_of_rows (defScope s_law_of_rows) := ⟨rfl, rfl, rfl, by decide +kernel, rfl, by decide +kernel, by decide +kernel⟩
abbrev s_law_formula : Stmt := top 34
abbrev p_law_formula : List Str := ["_law_cell_here", "_law_most", "_law_many"]
abbrev n_law_formula : List Str := ["_law_cell_here", "_law_most", "_law_many", "_law_draws_here", "_law_n"]
theorem sc_law_formula : FnScope n_law_formula p_law_formula (defScope s_law_formula) := ⟨rfl, rfl, rfl, by decide +kernel, rfl, by decide +kernel, by decide +kernel⟩
abbrev s_law_assignments : Stmt := top 35
abbrev p_law_assignments : List Str := ["_law_n"]
abbrev n_law_assignments : List Str := ["_law_n", "_law_found", "_law_v", "_law_cube"]
theorem sc_law_assignments : FnScope n_law_assignments p_law_assignments (defScope s_law_assignments) := ⟨rfl, rfl, rfl, by decide +kernel, rfl, by decide +kernel, by decide +kernel⟩
abbrev s_law_breaks : Stmt := top 36
abbrev p_law_breaks : List Str := ["_law_cube", "_law_clause"]
abbrev n_law_breaks : List Str := ["_law_cube", "_law_clause", "_law_literal"]
theorem sc_law_breaks : FnScope n_law_breaks p_law_breaks (defScope s_law_breaks) := ⟨rfl, rfl, rfl, by decide +kernel, rfl, by decide +kernel, by decide +kernel⟩
abbrev s_law_meets : Stmt := top 37
abbrev p_law_meets : List Str := ["_law_cube", "_law_clause"]
abbrev n_law_meets : List Str := ["_law_cube", "_law_clause", "_law_literal"]
theorem sc_law_meets : FnScope n_law_meets p_law_meets (defScope s_law_meets) := ⟨rfl, rfl, rfl, by decide +kernel, rfl, by decide +kernel, by decide +kernel⟩
abbrev s_law_models : Stmt := top 38
abbrev p_law_models : List Str := ["_law_formula_here"]
abbrev n_law_models : List Str := ["_law_formula_here", "_law_found", "_law_cube", "_law_clause"]
theorem sc_law_models : FnScope n_law_models p_law_models (defScope s_law_models) := ⟨rfl, rfl, rfl, by decide +kernel, rfl, by decide +kernel, by decide +kernel⟩
abbrev s_law_hopeless : Stmt := top 39
abbrev p_law_hopeless : List Str := ["_law_cell_here", "_law_most", "_law_many"]
abbrev n_law_hopeless : List Str := ["_law_cell_here", "_law_most", "_law_many", "_law_n", "_law_clauses", "_law_rows_here", "_law_draws_here", "_law_k", "_law_models_here", "_law_cube", "_law_keep", "_law_literal"]
theorem sc_law_hopeless : FnScope n_law_hopeless p_law_hopeless (defScope s_law_hopeless) := ⟨rfl, rfl, rfl, by decide +kernel, rfl, by decide +kernel, by decide +kernel⟩
abbrev s_law_rows_same : Stmt := top 40
abbrev p_law_rows_same : List Str := ["_law_x", "_law_due"]
abbrev n_law_rows_same : List Str := ["_law_x", "_law_due", "_law_k"]
theorem sc_law_rows_same : FnScope n_law_rows_same p_law_rows_same (defScope s_law_rows_same) := ⟨rfl, rfl, rfl, by decide +kernel, rfl, by decide +kernel, by decide +kernel⟩
abbrev s_law_tree : Stmt := top 41
abbrev p_law_tree : List Str := ["_law_formula_here", "_law_cube", "_law_draws_here", "_law_at"]
abbrev n_law_tree : List Str := ["_law_formula_here", "_law_cube", "_law_draws_here", "_law_at", "_law_k", "_law_free", "_law_v", "_law_low", "_law_high"]
theorem sc_law_tree : FnScope n_law_tree p_law_tree (defScope s_law_tree) := ⟨rfl, rfl, rfl, by decide +kernel, rfl, by decide +kernel, by decide +kernel⟩
abbrev s_law_steps : Stmt := top 42
abbrev p_law_steps : List Str := ["_law_formula_here", "_law_steps_here"]
abbrev n_law_steps : List Str := ["_law_formula_here", "_law_steps_here", "_law_found", "_law_k", "_law_step", "_law_one_here", "_law_two", "_law_clause", "_law_x"]
theorem sc_law_steps : FnScope n_law_steps p_law_steps (defScope s_law_steps) := ⟨rfl, rfl, rfl, by decide +kernel, rfl, by decide +kernel, by decide +kernel⟩
abbrev s_law_pushed : Stmt := top 43
abbrev p_law_pushed : List Str := ["_law_formula_here", "_law_more", "_law_cube"]
abbrev n_law_pushed : List Str := ["_law_formula_here", "_law_more", "_law_cube", "_law_found", "_law_turn", "_law_next_one", "_law_clause", "_law_rest", "_law_literal"]
theorem sc_law_pushed : FnScope n_law_pushed p_law_pushed (defScope s_law_pushed) := ⟨rfl, rfl, rfl, by decide +kernel, rfl, by decide +kernel, by decide +kernel⟩
abbrev s_law_opposite : Stmt := top 44
abbrev p_law_opposite : List Str := ["_law_clause"]
abbrev n_law_opposite : List Str := ["_law_clause", "_law_literal"]
theorem sc_law_opposite : FnScope n_law_opposite p_law_opposite (defScope s_law_opposite) := ⟨rfl, rfl, rfl, by decide +kernel, rfl, by decide +kernel, by decide +kernel⟩
abbrev s_law_at_once : Stmt := top 45
abbrev p_law_at_once : List Str := ["_law_formula_here", "_law_more", "_law_clause"]
abbrev n_law_at_once : List Str := ["_law_formula_here", "_law_more", "_law_clause"]
theorem sc_law_at_once : FnScope n_law_at_once p_law_at_once (defScope s_law_at_once) := ⟨rfl, rfl, rfl, by decide +kernel, rfl, by decide +kernel, by decide +kernel⟩
abbrev s_law_good_log : Stmt := top 46
abbrev p_law_good_log : List Str := ["_law_formula_here", "_law_log"]
abbrev n_law_good_log : List Str := ["_law_formula_here", "_law_log", "_law_k", "_law_j", "_law_literal"]
theorem sc_law_good_log : FnScope n_law_good_log p_law_good_log (defScope s_law_good_log) := ⟨rfl, rfl, rfl, by decide +kernel, rfl, by decide +kernel, by decide +kernel⟩
abbrev s_law_tree_steps : Stmt := top 47
abbrev p_law_tree_steps : List Str := ["_law_formula_here", "_law_tree_here", "_law_steps_here", "_law_clauses"]
abbrev n_law_tree_steps : List Str := ["_law_formula_here", "_law_tree_here", "_law_steps_here", "_law_clauses", "_law_one_here", "_law_two", "_law_rows_here", "_law_literal"]
theorem sc_law_tree_steps : FnScope n_law_tree_steps p_law_tree_steps (defScope s_law_tree_steps) := ⟨rfl, rfl, rfl, by decide +kernel, rfl, by decide +kernel, by decide +kernel⟩
abbrev s_law_made_steps : Stmt := top 48
abbrev p_law_made_steps : List Str := ["_law_formula_here", "_law_draws_here"]
abbrev n_law_made_steps : List Str := ["_law_formula_here", "_law_draws_here", "_law_steps_here", "_law_last"]
theorem sc_law_made_steps : FnScope n_law_made_steps p_law_made_steps (defScope s_law_made_steps) := ⟨rfl, rfl, rfl, by decide +kernel, rfl, by decide +kernel, by decide +kernel⟩
abbrev s_law_one : Stmt := top 49
abbrev p_law_one : List Str := ["_law_formula_here", "_law_found", "_law_step"]
abbrev n_law_one : List Str := ["_law_formula_here", "_law_found", "_law_step", "_law_one_here", "_law_two", "_law_x"]
theorem sc_law_one : FnScope n_law_one p_law_one (defScope s_law_one) := ⟨rfl, rfl, rfl, by decide +kernel, rfl, by decide +kernel, by decide +kernel⟩
abbrev s_law_read : Stmt := top 50
abbrev p_law_read : List Str := ["_law_formula_here", "_law_steps_here"]
abbrev n_law_read : List Str := ["_law_formula_here", "_law_steps_here", "_law_found", "_law_k", "_law_step", "_law_clause", "_law_x"]
theorem sc_law_read : FnScope n_law_read p_law_read (defScope s_law_read) := ⟨rfl, rfl, rfl, by decide +kernel, rfl, by decide +kernel, by decide +kernel⟩
abbrev s_law : Stmt := top 51
abbrev p_law : List Str := ["_law_script"]
abbrev n_law : List Str := ["_law_script", "_law_formula_here", "_law_draws_here", "_law_steps_here", "_law_due", "_law_log", "_law_rows_here", "_law_at", "_law_found", "_law_clauses", "_law_clause"]
theorem sc_law : FnScope n_law p_law (defScope s_law) := ⟨rfl, rfl, rfl, by decide +kernel, rfl, by decide +kernel, by decide +kernel⟩
end K75
set_option Elab.async false
set_option linter.all false
set_option maxHeartbeats 4000000
/-! the mathematics, first part: clauses as ascending lists, steps, derivations -/
namespace K75
abbrev Cl := List Int

/-! ### ascending lists without repetitions -/
def ins (x : Int) : List Int → List Int
  | [] => [x]
  | y :: r => if x < y then x :: y :: r else if x = y then y :: r else y :: ins x r
def norm : List Int → List Int
  | [] => []
  | x :: r => ins x (norm r)
def Asc (l : List Int) : Prop := l.Pairwise (· < ·)
theorem mem_ins {x z : Int} : ∀ {l : List Int}, z ∈ ins x l ↔ z = x ∨ z ∈ l
  | [] => by simp [ins]
  | y :: r => by
    unfold ins
    split
    · simp
    · split
      · rename_i h1 h2
        subst h2
        simp
      · rw [List.mem_cons, mem_ins (l := r), List.mem_cons]
        constructor
        · rintro (h | h | h)
          · exact .inr (.inl h)
          · exact .inl h
          · exact .inr (.inr h)
        · rintro (h | h | h)
          · exact .inr (.inl h)
          · exact .inl h
          · exact .inr (.inr h)
theorem asc_ins {x : Int} : ∀ {l : List Int}, Asc l → Asc (ins x l)
  | [], _ => List.pairwise_singleton _ _
  | y :: r, h => by
    unfold ins
    obtain ⟨h1, h2⟩ := List.pairwise_cons.mp h
    split
    · rename_i c
      refine List.pairwise_cons.mpr ⟨fun z hz => ?_, h⟩
      rcases List.mem_cons.mp hz with e | hz
      · rw [e]; exact c
      · have := h1 z hz
        omega
    · split
      · exact h
      · refine List.pairwise_cons.mpr ⟨fun z hz => ?_, asc_ins h2⟩
        rcases mem_ins.mp hz with e | hz
        · rw [e]; omega
        · exact h1 z hz
theorem asc_norm : ∀ l : List Int, Asc (norm l)
  | [] => List.Pairwise.nil
  | x :: r => asc_ins (asc_norm r)
theorem mem_norm {z : Int} : ∀ {l : List Int}, z ∈ norm l ↔ z ∈ l
  | [] => Iff.rfl
  | x :: r => by
    show z ∈ ins x (norm r) ↔ _
    rw [mem_ins, mem_norm (l := r), List.mem_cons]
theorem asc_uniq : ∀ {a b : List Int}, Asc a → Asc b → (∀ x, x ∈ a ↔ x ∈ b) → a = b
  | [], [], _, _, _ => rfl
  | [], y :: b, _, _, h => absurd ((h y).mpr (List.mem_cons_self ..)) (by simp)
  | x :: a, [], _, _, h => absurd ((h x).mp (List.mem_cons_self ..)) (by simp)
  | x :: a, y :: b, ha, hb, h => by
    obtain ⟨a1, a2⟩ := List.pairwise_cons.mp ha
    obtain ⟨b1, b2⟩ := List.pairwise_cons.mp hb
    have e : x = y := by
      rcases List.mem_cons.mp ((h x).mp (List.mem_cons_self ..)) with e | hx
      · exact e
      · rcases List.mem_cons.mp ((h y).mpr (List.mem_cons_self ..)) with e | hy
        · exact e.symm
        · have := a1 y hy
          have := b1 x hx
          omega
    subst e
    rw [asc_uniq a2 b2 fun z => ?_]
    constructor
    · intro hz
      rcases List.mem_cons.mp ((h z).mp (List.mem_cons_of_mem _ hz)) with e | q
      · have := a1 z hz
        omega
      · exact q
    · intro hz
      rcases List.mem_cons.mp ((h z).mpr (List.mem_cons_of_mem _ hz)) with e | q
      · have := b1 z hz
        omega
      · exact q
theorem norm_asc {l : List Int} (h : Asc l) : norm l = l := asc_uniq (asc_norm l) h fun _ => mem_norm
theorem norm_eq {a b : List Int} (h : ∀ x, x ∈ a ↔ x ∈ b) : norm a = norm b := asc_uniq (asc_norm a) (asc_norm b) fun x => by rw [mem_norm, mem_norm, h]
theorem asc_nodup {l : List Int} (h : Asc l) : l.Nodup := h.imp fun {x y} z => by omega
theorem norm_len : ∀ l : List Int, (norm l).length ≤ l.length
  | [] => Nat.le_refl _
  | x :: r => by
    have e : ∀ m : List Int, (ins x m).length ≤ m.length + 1 := fun m => by
      induction m with
      | nil => exact Nat.le_refl _
      | cons y m ih =>
        unfold ins
        split
        · exact Nat.le_refl _
        · split
          · simp
          · rw [List.length_cons, List.length_cons]; omega
    have := e (norm r)
    have := norm_len r
    show (ins x (norm r)).length ≤ _
    rw [List.length_cons]
    omega

/-! ### clauses -/
def taut (l : List Int) : Bool := l.any fun x => l.contains (-x)
/-- the clause of some literals, none if it is always true -/
def mkCl (l : List Int) : Option Cl := if taut l then none else some (norm l)
theorem taut_iff {l : List Int} : taut l = true ↔ ∃ x ∈ l, -x ∈ l := by
  unfold taut
  simp
structure Clause (n : Int) (c : Cl) : Prop where
  asc : Asc c
  rng : ∀ x ∈ c, x ≠ 0 ∧ -n ≤ x ∧ x ≤ n
  con : ∀ x ∈ c, -x ∉ c
theorem mkCl_none {l : List Int} : mkCl l = none ↔ taut l = true := by
  unfold mkCl
  split <;> simp_all
theorem mkCl_some {l : List Int} {c : Cl} : mkCl l = some c ↔ taut l = false ∧ c = norm l := by
  unfold mkCl
  cases h : taut l with
  | true => simp
  | false =>
    simp only [Bool.false_eq_true, if_false, true_and]
    exact ⟨fun e => (Option.some.inj e).symm, fun e => by rw [e]⟩
theorem Clause.of_mk {n : Int} {l : List Int} {c : Cl} (h : mkCl l = some c) (r : ∀ x ∈ l, x ≠ 0 ∧ -n ≤ x ∧ x ≤ n) : Clause n c := by
  obtain ⟨h1, rfl⟩ := mkCl_some.mp h
  refine ⟨asc_norm l, fun x hx => r x (mem_norm.mp hx), fun x hx hn => ?_⟩
  have : taut l = true := taut_iff.mpr ⟨x, mem_norm.mp hx, mem_norm.mp hn⟩
  rw [h1] at this
  cases this
theorem mk_clause {n : Int} {c : Cl} (h : Clause n c) : mkCl c = some c := by
  refine mkCl_some.mpr ⟨?_, (norm_asc h.asc).symm⟩
  cases e : taut c with
  | false => rfl
  | true =>
    obtain ⟨x, h1, h2⟩ := taut_iff.mp e
    exact absurd h2 (h.con x h1)

/-! ### steps -/
inductive Step where
  | ax (i : Nat)
  | res (a b : Nat) (v : Int)
def without (c : Cl) (v : Int) : Cl := c.filter fun x => !decide (x = v)
def resv (p q : Cl) (v : Int) : Option Cl := if v ∈ p ∧ -v ∈ q then mkCl (without p v ++ without q (-v)) else none
def stepC (cs prev : List Cl) : Step → Option Cl
  | .ax i => cs[i]?
  | .res a b v => match prev[a]?, prev[b]? with
    | some p, some q => resv p q v
    | _, _ => none
/-- a step of n variables -/
def Step.ok (n : Int) : Step → Prop
  | .ax _ => True
  | .res _ _ v => 0 < v ∧ v ≤ n
/-- a derivation: steps, their clauses -/
structure Drv (n : Int) (cs : List Cl) (ss : List Step) (ds : List Cl) : Prop where
  len : ss.length = ds.length
  step : ∀ (k : Nat) (s : Step), ss[k]? = some s → stepC cs (ds.take k) s = ds[k]?
  ok : ∀ s ∈ ss, s.ok n
theorem Drv.nil {n : Int} {cs : List Cl} : Drv n cs [] [] := ⟨rfl, fun k s h => by simp at h, fun s h => by simp at h⟩
theorem Drv.get {n : Int} {cs : List Cl} {ss : List Step} {ds : List Cl} (D : Drv n cs ss ds) {k : Nat} {s : Step} (h : ss[k]? = some s) : ∃ d, ds[k]? = some d ∧ stepC cs (ds.take k) s = some d := by
  have hk := (List.getElem?_eq_some_iff.mp h).1
  rw [D.len] at hk
  exact ⟨ds[k], List.getElem?_eq_getElem hk, by rw [D.step k s h, List.getElem?_eq_getElem hk]⟩
theorem Drv.snoc {n : Int} {cs : List Cl} {ss : List Step} {ds : List Cl} {s : Step} {d : Cl} (D : Drv n cs ss ds) (h : stepC cs ds s = some d) (o : s.ok n) : Drv n cs (ss ++ [s]) (ds ++ [d]) := by
  refine ⟨by simp [D.len], fun k t e => ?_, fun t ht => ?_⟩
  · by_cases hk : k < ss.length
    · rw [List.getElem?_append_left hk] at e
      have hd : k < ds.length := by rw [← D.len]; exact hk
      rw [List.getElem?_append_left hd, List.take_append_of_le_length (Nat.le_of_lt hd)]
      exact D.step k t e
    · have hl := (List.getElem?_eq_some_iff.mp e).1
      rw [List.length_append, List.length_singleton] at hl
      have ek : k = ss.length := by omega
      subst ek
      rw [List.getElem?_append_right (Nat.le_refl _), Nat.sub_self] at e
      have et : s = t := Option.some.inj e
      subst et
      rw [D.len, List.getElem?_append_right (Nat.le_refl _), Nat.sub_self, List.take_append_of_le_length (Nat.le_refl _), List.take_length]
      exact h
  · rcases List.mem_append.mp ht with q | q
    · exact D.ok t q
    · rw [List.mem_singleton.mp q]
      exact o
/-- what a step leans on -/
theorem stepC_res {cs prev : List Cl} {a b : Nat} {v : Int} {d : Cl} (h : stepC cs prev (.res a b v) = some d) : ∃ p q, prev[a]? = some p ∧ prev[b]? = some q ∧ v ∈ p ∧ -v ∈ q ∧ mkCl (without p v ++ without q (-v)) = some d := by
  cases h1 : prev[a]? with
  | none =>
    simp only [stepC, h1] at h
    cases h
  | some p =>
    cases h2 : prev[b]? with
    | none =>
      simp only [stepC, h1, h2] at h
      cases h
    | some q =>
      simp only [stepC, h1, h2] at h
      unfold resv at h
      split at h
      · rename_i c
        exact ⟨p, q, rfl, rfl, c.1, c.2, h⟩
      · cases h
theorem stepC_of {cs prev : List Cl} {a b : Nat} {v : Int} {d p q : Cl} (h1 : prev[a]? = some p) (h2 : prev[b]? = some q) (h3 : v ∈ p) (h4 : -v ∈ q) (h5 : mkCl (without p v ++ without q (-v)) = some d) : stepC cs prev (.res a b v) = some d := by
  simp only [stepC, h1, h2]
  unfold resv
  rw [if_pos ⟨h3, h4⟩]
  exact h5
theorem mem_without {c : Cl} {v x : Int} : x ∈ without c v ↔ x ∈ c ∧ x ≠ v := by
  unfold without
  simp
/-- clauses of a derivation are clauses -/
theorem Drv.clause {n : Int} {cs : List Cl} {ss : List Step} {ds : List Cl} (D : Drv n cs ss ds) (hc : ∀ c ∈ cs, Clause n c) : ∀ (k : Nat) (d : Cl), ds[k]? = some d → Clause n d := by
  intro k
  induction k using Nat.strongRecOn with
  | ind k ih =>
    intro d hd
    have hk : k < ss.length := by rw [D.len]; exact (List.getElem?_eq_some_iff.mp hd).1
    have e := D.step k ss[k] (List.getElem?_eq_getElem hk)
    rw [hd] at e
    cases hs : ss[k] with
    | ax i =>
      rw [hs] at e
      exact hc d (List.mem_of_getElem? e)
    | res a b v =>
      rw [hs] at e
      obtain ⟨p, q, h1, h2, h3, h4, h5⟩ := stepC_res e
      have p1 : ∀ {j : Nat} {c : Cl}, (ds.take k)[j]? = some c → Clause n c := fun {j c} hj => by
        have hlt : j < k := by
          have := (List.getElem?_eq_some_iff.mp hj).1
          rw [List.length_take] at this
          omega
        rw [List.getElem?_take, if_pos hlt] at hj
        exact ih j hlt c hj
      have cp := p1 h1
      have cq := p1 h2
      refine Clause.of_mk h5 fun x hx => ?_
      rcases List.mem_append.mp hx with hx | hx
      · exact cp.rng x (mem_without.mp hx).1
      · exact cq.rng x (mem_without.mp hx).1
end K75
set_option Elab.async false
set_option linter.all false
set_option maxRecDepth 100000
set_option maxHeartbeats 4000000
/-! rules of the layer that this claim wants: sorted of a tuple of ints; in a tuple of data; range(n) as a value; enumerate of a tuple -/
namespace K75
open PySem PySem.Spec PyProof.Rows L2

/-! ### x in t, t a tuple of data -/
section
variable {X : Cx}
def rInU (K : PySem.W.Frag) : R2 := fun x y H Q => ∃ d ds, Dp K H x d ∧ Dp K H y (.tuple ds) ∧ SeqAt.shaped d = true ∧ SeqAt.shaped (.tuple ds) = true ∧
  Q (.bl (!ds.any fun z => PyData.eqv z d)) H
theorem op_notInU (hu : X.A.units + 65 < cLine) : OpR X (compareOp .NotIn) (rInU X.K) := by
  intro pins s σ H x y v u Q I rx ry ⟨d, ds, hd, he, sd, se, q⟩
  obtain ⟨as, r1⟩ := Dp.reads I d x v hd rx
  obtain ⟨bs, r2⟩ := Dp.reads I (.tuple ds) y u he ry
  refine SeqAt.notIn_tuple_reads r2 r1 ?_ (SeqAt.canLay_of_shaped sd) (room_in_shaped sd hu) ⟨.bl _, H, I, rfl, q⟩
  have z := SeqAt.canLay_of_shaped se
  simpa [PyData.canLay0] using z
end

/-! ### range(n) as a value -/
section
variable {X : Cx}
theorem cr_range1 : CallR X (.type "range") (fun vs H Q => ∃ j, vs = [V.int j] ∧ ∀ p, H p = none → Q (.ref p) (upd H p (.rng 0 j))) := by
  intro pins s σ H vs us Q I r ⟨j, e, q⟩
  subst e
  obtain ⟨u, rfl, t, rfl⟩ := vals1 r
  refine call_range_1 ⟨.ref s.heap.objs.size, upd H s.heap.objs.size (.rng 0 j), I.laid (t' := s.toks + 2) (fun b o e => Heap.get?_push_of_some _ e) (Nat.le_refl _) ?_, rfl, q _ (I.hok.fresh (Nat.le_refl _))⟩
  exact ⟨_, t, _, Heap.get?_push_size _ rfl⟩
end
end K75
set_option Elab.async false
set_option linter.all false
set_option maxRecDepth 100000
set_option maxHeartbeats 4000000
/-! sorted of a list of tuples of ints of any lengths, the empty one among them -/
namespace K75
open PySem PySem.Spec PyProof.Rows L2

/-- v is a tuple of the ints ns -/
def TupInt (h : Heap) (v : Value) (ns : List Int) : Prop := ∃ a o its n, v = .ref a ∧ h.get? a = some o ∧ o.cls = .type "tuple" ∧ o.data = .seq its n ∧ IntsAre its.toList ns
theorem TupInt.keeps {h h' : Heap} {v : Value} {ns : List Int} (t : TupInt h v ns) (k : ∀ b o, h.get? b = some o → o.cls = .type "tuple" → h'.get? b = some o) : TupInt h' v ns := by
  obtain ⟨a, o, its, n, e, ho, hc, hd, hi⟩ := t
  exact ⟨a, o, its, n, e, k a o ho hc, hc, hd, hi⟩

theorem lexLt_asym : ∀ (x y : List Int), HT.lexLt x y = true → HT.lexLt y x = false
  | [], [], h => by cases h
  | [], _ :: _, _ => rfl
  | _ :: _, [], h => by cases h
  | a :: r, b :: t, h => by
    rw [HT.lexLt_cons] at h ⊢
    by_cases e : a = b
    · rw [if_pos e] at h
      rw [if_pos e.symm]
      exact lexLt_asym r t h
    · rw [if_neg e] at h
      rw [if_neg fun z => e z.symm]
      have := of_decide_eq_true h
      exact decide_eq_false (by omega)
theorem lexLt_tr : ∀ (x y z : List Int), HT.lexLt y x = false → HT.lexLt z y = false → HT.lexLt z x = false
  | [], y, z, _, _ => by cases z <;> rfl
  | a :: r, [], z, h, _ => by cases h
  | a :: r, b :: t, [], _, h => by cases h
  | a :: r, b :: t, c :: u, h1, h2 => by
    rw [HT.lexLt_cons] at h1 h2 ⊢
    by_cases e1 : b = a
    · rw [if_pos e1] at h1
      subst e1
      by_cases e2 : c = b
      · rw [if_pos e2] at h2 ⊢
        exact lexLt_tr r t u h1 h2
      · rw [if_neg e2] at h2 ⊢
        exact h2
    · rw [if_neg e1] at h1
      have q1 := of_decide_eq_false h1
      by_cases e2 : c = b
      · subst e2
        rw [if_neg e1]
        exact h1
      · rw [if_neg e2] at h2
        have q2 := of_decide_eq_false h2
        rw [if_neg (by omega)]
        exact decide_eq_false (by omega)
theorem swo_tups (k : Value → List Int) : SrtO.Swo fun v u => HT.lexLt (k v) (k u) := ⟨fun x y => lexLt_asym _ _, fun x y z => lexLt_tr _ _ _⟩

section
variable {prog : Program} {w : World} {A : Around} {E : Value → Shared → Prop} {s : Shared}
/-- the places of two tuples of ints, one behind the other, as the sort compares them -/
theorem katLex_ints : ∀ (vs us : List Value) (ns ms : List Int) (i : Nat) (fin : Bool) (Q : Bool → Shared → Prop), IntsAre vs ns → IntsAre us ms → (HT.lexLt ns ms = (HT.lexLt ns ms)) →
    (∀ b, b = HT.lexLt ns ms → Q b s) → (fin = decide (ns.length < ms.length)) → PySem.W.KatLex prog w A true fin Q (vs.zip us) i s
  | _, _, _, _, i, fin, Q, .nil, .nil, _, q, hf => PySem.W.kat_nil (q _ (by rw [hf]; rfl))
  | _, _, _, _, i, fin, Q, .nil, .cons c u hu, _, q, hf => PySem.W.kat_nil (q _ (by rw [hf]; rfl))
  | _, _, _, _, i, fin, Q, .cons a t hv, .nil, _, q, hf => PySem.W.kat_nil (q _ (by rw [hf]; rfl))
  | _, _, _, _, i, fin, Q, .cons (vs := vs) (ns := ns) a t hv, .cons (vs := us) (ns := ms) c u hu, _, q, hf => by
    rw [List.zip_cons_cons]
    refine PySem.W.kat_cons (SeqAt.EqAt.int_int a t c u prog w _ _ ?_)
    refine PySem.W.kat_go (fun e1 => ?_) (fun e1 => ?_)
    · have ea : a = c := by simpa using e1
      refine PySem.W.kat_yes (katLex_ints vs us ns ms (i + 1) fin Q hv hu rfl (fun b hb => q b ?_) ?_)
      · rw [HT.lexLt_cons, if_pos ea]
        exact hb
      · rw [hf]
        simp
    · have ea : ¬ a = c := by simpa using e1
      exact PySem.W.kat_no (TS.oneLt_ints _ (q _ (by rw [HT.lexLt_cons, if_neg ea])))

theorem one_tups (c : Bool) {v u : Value} {ns ms : List Int} {Q : Bool → Shared → Prop} (h1 : TupInt s.heap v ns) (h2 : TupInt s.heap u ms) (hu : A.units < cLine) (h : Q (HT.lexLt ns ms) s) : wpAny (model prog w) A (oneLt' c v u) Q E s := by
  obtain ⟨a, ⟨cls, dd, data, sl⟩, its, n, rfl, ho, hc, hd, hi⟩ := h1
  obtain ⟨b, ⟨cls2, dd2, data2, sl2⟩, its2, n2, rfl, ho2, hc2, hd2, hi2⟩ := h2
  simp only at hc hd hc2 hd2
  subst hc hd hc2 hd2
  cases c with
  | false =>
    refine PySem.W.kat_one _ _ (HT.lt_tupInts ⟨_, ho, rfl, _, rfl⟩ ⟨_, ho2, rfl, _, rfl⟩ hi hi2 hu ?_)
    exact h
  | true =>
    rw [oneLt'_eq]
    simp only [if_true]
    refine wpAny_bind (wpAny_cRoomFor hu ?_)
    refine wpAny_bind (wpAny_callSpecialIfBound?_slot (T := "tuple") ⟨_, ho, rfl⟩ PySem.F.slot_tuple_lt (call_meets PySem.F.slot_tuple_lt ⟨_, ho, rfl⟩ PySem.F.entry_tuple_lt (PySem.F.args_tuple_lt_2 _ _)
      (HT.tuple_lt_ints a b its its2 n n2 dd dd2 sl sl2 ns ms hi hi2) ⟨ho, ho2, ?_⟩))
    exact wpAny_truthy_bool h

theorem tups_key {κ : SortKind} (hκ : κ = tuples' true ∨ κ = general' ∨ κ = oneType') {v u : Value} {ns ms : List Int} {Q : Bool → Shared → Prop} (h1 : TupInt s.heap v ns) (h2 : TupInt s.heap u ms) (hu : A.units < cLine) (h : Q (HT.lexLt ns ms) s) :
    wpAny (model prog w) A (keyLt' κ v u) Q E s := by
  rcases hκ with rfl | rfl | rfl
  · obtain ⟨a, o, its, n, rfl, ho, hc, hd, hi⟩ := h1
    obtain ⟨b, o2, its2, n2, rfl, ho2, hc2, hd2, hi2⟩ := h2
    refine PySem.W.kat_lt ho hd ho2 hd2 (katLex_ints _ _ ns ms 0 _ Q hi hi2 rfl (fun b hb => by rw [hb]; exact h) ?_)
    have l1 := hi.length
    have l2 := hi2.length
    rw [Array.length_toList] at l1 l2
    rw [l1, l2]
  · exact one_tups false h1 h2 hu h
  · exact one_tups true h1 h2 hu h

/-- the first items of tuples, where there are any -/
theorem tups_firsts : ∀ (vs : List Value) (k : Value → List Int) {Q : List (Option Value) → Shared → Prop}, (∀ v ∈ vs, TupInt s.heap v (k v)) →
    (∀ fs : List (Option Value), fs.length = vs.length → (∀ (i : Nat) v, vs[i]? = some v → ∃ f, fs[i]? = some f ∧ (f = none ↔ k v = []) ∧ ∀ x, f = some x → ∃ j t, x = Value.int j t) → Q fs s) → wpAny (model prog w) A (vs.mapM firstOfTuple') Q E s
  | [], _, _, _, h => by
    rw [List.mapM_nil]
    exact wpAny_pure (h [] rfl fun i v e => by simp at e)
  | v :: vs, k, Q, hk, h => by
    obtain ⟨a, o, its, n, rfl, ho, hc, hd, hi⟩ := hk v (List.mem_cons_self ..)
    rw [List.mapM_cons, PySem.W.kas_first_eq]
    refine wpAny_bind (wpAny_bind (PySem.W.Looks.here (show PySem.W.Looks (model prog w) s.heap (typeOf (.ref a)) o.cls from (PySem.W.Looks.ld ho).andThen .now) ?_))
    rw [hc, if_neg (by first | decide | simp)]
    refine wpAny_bind (listItems_at ho hd (wpAny_pure ?_))
    refine wpAny_bind (tups_firsts vs k (fun u hu => hk u (List.mem_cons_of_mem _ hu)) fun fs hl hf => wpAny_pure (h _ (by simp [hl]) fun i u e => ?_))
    cases i with
    | zero =>
      have eu : Value.ref a = u := by simpa using e
      subst eu
      refine ⟨its[0]?, rfl, ?_, fun x hx => ?_⟩
      · generalize k (Value.ref a) = ns at hi
        rcases its with ⟨l⟩
        cases hi with
        | nil => simp
        | cons n t hr =>
          simp_all
      · generalize k (Value.ref a) = ns at hi
        rcases its with ⟨l⟩
        cases hi with
        | nil => simp at hx
        | cons n t hr =>
          exact ⟨n, t, by simp_all⟩
    | succ i => exact hf i u (by simpa using e)

theorem tups_kind {vs : List Value} (k : Value → List Int) (h2 : 2 ≤ vs.length) (hk : ∀ v ∈ vs, TupInt s.heap v (k v)) : ∃ κ, (κ = tuples' true ∨ κ = general' ∨ κ = oneType') ∧
    ∀ (Q : SortKind → Shared → Prop) (E : Value → Shared → Prop) (A : Around), Q κ s → wpAny (model prog w) A (keyKind' vs.toArray) Q E s := by
  have hfm : ∀ (fs : List (Option Value)), (∀ f ∈ fs, ∃ j t, f = some (Value.int j t)) → fs.filterMap id = fs.map fun f => f.getD .none := fun fs hf => by
    induction fs with
    | nil => rfl
    | cons f fs ih =>
      obtain ⟨j, t, e⟩ := hf f (List.mem_cons_self ..)
      subst e
      rw [List.filterMap_cons, List.map_cons, ih fun g hg => hf g (List.mem_cons_of_mem _ hg)]
      rfl
  by_cases all : ∀ v ∈ vs, k v ≠ []
  · refine ⟨tuples' true, .inl rfl, fun Q E A q => ?_⟩
    rw [PyProof.Rows.kat_kind_eq, List.mapM_toArray, map_eq_pure_bind]
    refine wpAny_bind (wpAny_bind (tups_firsts vs k hk fun fs hl hf => wpAny_pure ?_))
    have hfs : ∀ f ∈ fs, ∃ j t, f = some (Value.int j t) := fun f hm => by
      obtain ⟨i, hi, e⟩ := List.mem_iff_getElem.mp hm
      have hv : i < vs.length := by omega
      obtain ⟨g, hg, hn, hx⟩ := hf i vs[i] (List.getElem?_eq_getElem hv)
      have eg : g = f := by
        rw [List.getElem?_eq_getElem hi, e] at hg
        exact (Option.some.inj hg).symm
      subst eg
      cases g with
      | none => exact absurd (hn.mp rfl) (all _ (List.getElem_mem hv))
      | some x =>
        obtain ⟨j, t, e⟩ := hx x rfl
        exact ⟨j, t, by rw [e]⟩
    have hall : (fs.toArray.all fun x => x.isSome) = true := by
      simp only [List.all_toArray, List.all_eq_true]
      intro f hm
      obtain ⟨j, t, e⟩ := hfs f hm
      rw [e]
      rfl
    rw [if_pos hall]
    refine wpAny_bind (wpAny_rule ?_)
    have e2 : fs.toArray.filterMap id = (fs.map fun f => f.getD Value.none).toArray := by
      rw [← hfm fs hfs]
      simp
    rw [e2, oneTypeOnly'_eq, List.mapM_toArray, map_eq_pure_bind]
    refine wpAny_bind (wpAny_bind (wpAny_bind (PySem.W.kas_mapM (r := Value.type "int") _ (fun v hv Q' hq => ?_) (wpAny_pure ?_))))
    · obtain ⟨f, hm, e⟩ := List.mem_map.mp hv
      obtain ⟨j, t, e1⟩ := hfs f hm
      subst e1
      subst e
      exact PySem.W.Looks.here PySem.W.Looks.now hq
    · have hlen : fs ≠ [] := by
        intro e
        rw [e] at hl
        simp at hl
        omega
      obtain ⟨f1, fr, rfl⟩ : ∃ f1 fr, fs = f1 :: fr := by
        cases fs with
        | nil => exact absurd rfl hlen
        | cons f1 fr => exact ⟨f1, fr, rfl⟩
      have hall2 : ((List.map (fun _ => Value.type "int") (List.map (fun f : Option Value => f.getD Value.none) (f1 :: fr))).toArray.all fun x => x == Value.type "int") = true := by
        simp only [List.all_toArray, List.all_map, List.all_eq_true]
        intro _ _
        rfl
      have h0 : (List.map (fun _ => Value.type "int") (List.map (fun f : Option Value => f.getD Value.none) (f1 :: fr))).toArray[0]? = some (Value.type "int") := by simp
      rw [h0]
      simp only [hall2, if_true]
      refine wpAny_pure (wpAny_pure ?_)
      exact q
  · obtain ⟨v0, hv0, e0⟩ : ∃ v ∈ vs, k v = [] := by
      false_or_by_contra
      rename_i c
      exact all fun v hv e => c ⟨v, hv, e⟩
    obtain ⟨v1, vr, rfl⟩ : ∃ v1 vr, vs = v1 :: vr := by
      cases vs with
      | nil => simp at h2
      | cons v1 vr => exact ⟨v1, vr, rfl⟩
    have notall : ∀ fs : List (Option Value), fs.length = (v1 :: vr).length → (∀ (i : Nat) v, (v1 :: vr)[i]? = some v → ∃ f, fs[i]? = some f ∧ (f = none ↔ k v = []) ∧ ∀ x, f = some x → ∃ j t, x = Value.int j t) → ¬ (fs.toArray.all fun x => x.isSome) = true := fun fs hl hf c => by
      simp only [List.all_toArray, List.all_eq_true] at c
      obtain ⟨i, hi⟩ := List.getElem?_of_mem hv0
      obtain ⟨f, e1, e2, _⟩ := hf i v0 hi
      have z := c f (List.mem_of_getElem? e1)
      rw [e2.mpr e0] at z
      cases z
    by_cases e1 : k v1 = []
    · refine ⟨oneType', .inr (.inr rfl), fun Q E A q => ?_⟩
      rw [PyProof.Rows.kat_kind_eq, List.mapM_toArray, map_eq_pure_bind]
      refine wpAny_bind (wpAny_bind (tups_firsts (v1 :: vr) k hk fun fs hl hf => wpAny_pure ?_))
      rw [if_neg (notall fs hl hf)]
      obtain ⟨f, h1, h3, _⟩ := hf 0 v1 rfl
      have z : fs.toArray[0]? = some none := by rw [← h3.mpr e1]; simpa using h1
      rw [z]
      show wpAny (model prog w) A (do return if (← oneTypeOnly' (v1 :: vr).toArray).isSome then oneType' else general') Q E s
      rw [oneTypeOnly'_eq, List.mapM_toArray, map_eq_pure_bind]
      refine wpAny_bind (wpAny_bind (wpAny_bind (PySem.W.kas_mapM (r := Value.type "tuple") _ (fun v hv Q' hq => ?_) (wpAny_pure ?_))))
      · obtain ⟨a, o, its, n, rfl, ho, hc, hd, hi⟩ := hk v hv
        have l : PySem.W.Looks (model prog w) s.heap (typeOf (.ref a)) o.cls := (PySem.W.Looks.ld ho).andThen .now
        rw [hc] at l
        exact l.here hq
      · have hall2 : ((List.map (fun _ => Value.type "tuple") (v1 :: vr)).toArray.all fun x => x == Value.type "tuple") = true := by
          simp only [List.all_toArray, List.all_map, List.all_eq_true]
          intro _ _
          rfl
        have h0 : (List.map (fun _ => Value.type "tuple") (v1 :: vr)).toArray[0]? = some (Value.type "tuple") := by simp
        rw [h0]
        simp only [hall2, if_true]
        exact wpAny_pure (wpAny_pure q)
    · refine ⟨general', .inr (.inl rfl), fun Q E A q => ?_⟩
      rw [PyProof.Rows.kat_kind_eq, List.mapM_toArray, map_eq_pure_bind]
      refine wpAny_bind (wpAny_bind (tups_firsts (v1 :: vr) k hk fun fs hl hf => wpAny_pure ?_))
      rw [if_neg (notall fs hl hf)]
      obtain ⟨f, h1, h3, _⟩ := hf 0 v1 rfl
      have z : (fs.toArray[0]?.bind id).isSome = true := by
        have z1 : fs.toArray[0]? = some f := by simpa using h1
        rw [z1]
        cases f with
        | none => exact absurd (h3.mp rfl) e1
        | some x => rfl
      rw [if_pos z]
      exact wpAny_pure q

theorem tups_sortable {a : Addr} {vs : List Value} {k : Value → List Int} (h2 : 2 ≤ vs.length) (hu : A.units < cLine) (hk : ∀ v ∈ vs, TupInt s.heap v (k v)) (ha : ∀ o, s.heap.get? a = some o → o.cls ≠ .type "tuple") :
    SrtO.SortableO prog w A s a vs fun v u => HT.lexLt (k v) (k u) := by
  intro h' keep
  have hk' : ∀ v ∈ vs, TupInt h' v (k v) := fun v hv => (hk v hv).keeps fun b o e c => keep b o (fun z => ha o (by rw [← z]; exact e) c) e
  obtain ⟨κ, h1, h3⟩ := tups_kind (prog := prog) (w := w) (s := { s with heap := h' }) k h2 hk'
  refine ⟨κ, fun Q E q => h3 Q E A q, fun p q hp hq => ?_⟩
  exact tups_key h1 (hk' _ hp) (hk' _ hq) hu ⟨rfl, rfl⟩
end

/-- sorted(xs), xs a list of tuples of ints: a new list, the same ones -/
def rSortedTI (K : PySem.W.Frag) : List V → Hp → VK → Prop := fun vs H Q => ∃ (a : Addr) (xs : List V), vs = [V.ref a] ∧ SqL K H a xs ∧ (∀ x ∈ xs, ∃ (t : Addr) (ns : List Int), x = V.ref t ∧ SqT K H t (ns.map V.int)) ∧
  ∀ ys p, ys.Perm xs → H p = none → Q (.ref p) (upd H p (.lst ys))
section
variable {X : Cx}
theorem cr_sortedTI (hu : X.A.units + 2 < cLine) : CallR X (.builtin "sorted") (rSortedTI X.K) := by
  intro pins s σ H vs us Q I r ⟨a, xs, e, hs, hx, q⟩
  subst e
  obtain ⟨its, rv, hl, hz⟩ := I.list hs
  obtain ⟨u, rfl, ru⟩ := vals1 r
  obtain rfl : u = Value.ref a := ru
  obtain ⟨e1, e2⟩ := refs_back rv fun x m => by
    obtain ⟨t, ns, e, _⟩ := hx x m
    exact ⟨t, e⟩
  have hk : ∃ k : Value → List Int, ∀ v ∈ its, TupInt s.heap v (k v) := by
    have each : ∀ v ∈ its, ∃ ns, TupInt s.heap v ns := fun v hv => by
      obtain ⟨t, rfl⟩ := e2 v hv
      have hm : V.ref t ∈ xs := by rw [e1]; exact List.mem_map.mpr ⟨_, hv, rfl⟩
      obtain ⟨t', ns, e, ht⟩ := hx _ hm
      cases e
      obtain ⟨its2, r2, p2, _⟩ := I.tuple ht
      obtain ⟨o, ho, hc, n, hd⟩ := p2
      exact ⟨ns, t, o, _, n, rfl, ho, hc, hd, intsAre_of r2⟩
    refine ⟨fun v => open Classical in if h : ∃ ns, TupInt s.heap v ns then h.choose else [], fun v hv => ?_⟩
    have h := each v hv
    dsimp only
    rw [dif_pos h]
    exact h.choose_spec
  obtain ⟨k, hk⟩ := hk
  refine SrtO.sorted_ord (swo_tups k) hl.isList (by rw [← rv.length]; exact hz) (fun h2 h₁ b hb kk => tups_sortable (s := { s with heap := h₁ }) h2 (by simp only [Around.in1_units]; omega) (fun v hm => (hk v hm).keeps fun c o e _ => (kk c o e).2) fun o e => ?_) fun out g1 g2 => ?_
  · have e' : some o = some (seqObj "list" its.toArray 0) := e.symm.trans hb
    cases e'
    intro c
    exact absurd (Value.type.inj c) (by decide)
  · have h3 : ∀ u ∈ out, ∃ a, u = Value.ref a := fun u hu => e2 u (g2.perm.mem_iff.mp hu)
    obtain ⟨ep, he'⟩ := PyProof.Rows.sortedAll_at s.heap its out.toArray
    have pm : (out.map backV).Perm xs := by
      rw [e1]
      exact g2.perm.map backV
    exact ⟨.ref _, upd H (s.heap.objs.size + 1) (.lst (out.map backV)), I.laid (t' := s.toks) (fun _ _ => PyProof.Rows.sortedAll_old) (Nat.le_succ _) ⟨by rw [pm.length_eq]; exact hz, out, ep, vals_back h3, he'⟩, rfl, q _ _ pm (I.hok.fresh (Nat.le_succ _))⟩
end
end K75
set_option Elab.async false
set_option linter.all false
set_option maxRecDepth 100000
set_option maxHeartbeats 4000000
/-! sorted of a tuple of ints, of a dict of ints of any size; set of a list of ints -/
namespace K75
open PySem PySem.Spec PyProof.Rows L2

section
variable {prog : Program} {w : World} {A : Around} {E : Value → Shared → Prop} {s : Shared}
/-- the items of a tuple, collected into a new list -/
theorem gather_tup {l : Addr} {vs : List Value} {Q : List Value → Shared → Prop} (hl : s.heap.IsTuple l vs.toArray) (hsz : vs.length ≤ sizeLine)
    (h : Q vs { s with heap := (s.heap.push (seqObj "list" #[] 0)).update s.heap.objs.size (Obj.mapSeq (· ++ vs.toArray)) }) : wpAny (model prog w) A (collect (.ref l)) Q E s := by
  obtain ⟨o, ho, hc, n, hd⟩ := id hl
  have new : (s.heap.push (seqObj "list" #[] 0)).get? s.heap.objs.size = some (seqObj "list" #[] 0) := Heap.get?_push_size _ rfl
  have old : (s.heap.push (seqObj "list" #[] 0)).get? l = some o := Heap.get?_push_of_some _ ho
  unfold collect
  refine wpAny_bind (wpAny_runValue (codeAny_builtin PyProof.Rows.entry_proto_collect' ?_))
  show wpAny _ _ (do again (.builtin "list.__iadd__" ⟨[← newList [], .ref l], []⟩)) _ _ s
  refine wpAny_bind (wpAny_newList (wpAny_pure ⟨Code.quiet_builtin _ (by decide +kernel), codeAny_builtin PyProof.Rows.entry_list_iadd' ?_⟩))
  show wpAny _ _ (Builtin.List.listExtendWith (.ref s.heap.objs.size) (.ref l) (.ref s.heap.objs.size)) _ _ { s with heap := s.heap.push (seqObj "list" #[] 0) }
  unfold Builtin.List.listExtendWith
  refine wpAny_bind (wpAny_typeOf (T := "tuple") ⟨o, old, hc⟩ ?_)
  have isT : (Value.type "tuple" == Value.type "tuple") = true := by rfl
  rw [if_pos (by rw [isT]; simp)]
  refine wpAny_bind (listItems_at old hd ?_)
  refine wpAny_bind (listItems_at (xs := #[]) (n := 0) new rfl ?_)
  rw [if_neg (by simp)]
  refine wpAny_bind (listUpdate_at (xs := #[]) (n := 0) new rfl ?_ (Nat.zero_le _) (by simp; omega))
  refine wpAny_pure ?_
  show wpAny (model prog w) A (do
      let o ← load s.heap.objs.size
      match o.data with
      | .seq xs _ => pure xs.toList
      | _ => unsupported "internal:collect") Q E { s with heap := (s.heap.push (seqObj "list" #[] 0)).update s.heap.objs.size (Obj.mapSeq (· ++ vs.toArray)) }
  refine wpAny_bind (wpAny_load (get?_update_seq new _) ?_)
  show wpAny _ _ (pure ((#[] : Array Value) ++ vs.toArray).toList) Q E _
  have e : ((#[] : Array Value) ++ vs.toArray).toList = vs := by simp
  rw [e]
  exact wpAny_pure h

theorem sorted_tup {l : Addr} {vs : List Value} {ltv : Value → Value → Bool} {Q : Value → Shared → Prop} (O : SrtO.Swo ltv) (hl : s.heap.IsTuple l vs.toArray) (hz : vs.length ≤ sizeLine)
    (hS : 2 ≤ vs.length → ∀ (h₁ : Heap) (a : Addr), SrtO.SortableO prog w A.in1.in1 { s with heap := h₁ } a vs ltv)
    (h : ∀ out : List Value, SrtO.Srtd ltv out → SrtO.Stb ltv out vs → Q (.ref (s.heap.objs.size + 1)) { s with heap := sortedAll s.heap vs out.toArray }) :
    wpAny (model prog w) A (call (.builtin "sorted") [.ref l]) Q E s := by
  refine Calls.call_function_entry kind_sorted plain_sorted entry_sorted (args_sorted1 _) ?_
  unfold Builtin.«sorted»
  refine wpAny_bind (m := checkCount "sorted" 1 1 _) (wpAny_pure ?_)
  refine wpAny_bind (gather_tup hl hz ?_)
  refine wpAny_bind (wpAny_newList ?_ hz)
  have size1 : ((s.heap.push (seqObj "list" #[] 0)).update s.heap.objs.size (Obj.mapSeq (· ++ vs.toArray))).objs.size = s.heap.objs.size + 1 := by
    rw [Heap.size_update, size_push']
  have copy : (((s.heap.push (seqObj "list" #[] 0)).update s.heap.objs.size (Obj.mapSeq (· ++ vs.toArray))).push (seqObj "list" vs.toArray 0)).get? (s.heap.objs.size + 1) = some (seqObj "list" vs.toArray 0) := by
    rw [← size1]; exact Heap.get?_push_size _ rfl
  show wpAny _ _ _ _ _ { s with heap := ((s.heap.push (seqObj "list" #[] 0)).update s.heap.objs.size (Obj.mapSeq (· ++ vs.toArray))).push (seqObj "list" vs.toArray 0) }
  rw [size1]
  refine wpAny_bind (wpAny_holding (wpAny_call_entry slot_list_sort ⟨_, copy, rfl⟩ entry_list_sort (SrtO.list_sort_ord O copy hz (fun h2 => hS h2 _ _) fun out hs hb => ⟨_, rfl, ?_⟩) (args_list_sort _)))
  exact wpAny_pure ⟨_, rfl, h out hs hb⟩
end

/-- sorted(xs), a list or a tuple of ints, any number of them -/
def rSortedA (K : PySem.W.Frag) : List V → Hp → VK → Prop := fun vs H Q => ∃ (a : Addr) (ns : List Int), vs = [V.ref a] ∧ (SqL K H a (ns.map V.int) ∨ SqT K H a (ns.map V.int)) ∧
  ∀ (ns' : List Int) (p : Addr), ns'.Perm ns → ns'.Pairwise (· ≤ ·) → H p = none → Q (.ref p) (upd H p (.lst (ns'.map V.int)))
/-- sorted(d), a dict whose keys are ints -/
def rSortedDA : List V → Hp → VK → Prop := fun vs H Q => ∃ (a : Addr) (kvs : List (Key × V)) (ks : List Int), vs = [.ref a] ∧ Rd H a (.dK kvs) ∧ kvs.map (·.1) = ks.map Sum.inl ∧
  ∀ (ys : List Int) (p : Addr), ys.Perm ks → ys.Pairwise (· ≤ ·) → H p = none → Q (.ref p) (upd H p (.lst (ys.map V.int)))
section
variable {X : Cx}
theorem cr_sortedA : CallR X (.builtin "sorted") (rSortedA X.K) := by
  intro pins s σ H vs us Q I r ⟨a, ns, e, hs, q⟩
  rcases hs with hs | hs
  · exact cr_sortedI pins s σ H vs us Q I r ⟨a, ns, e, hs, q⟩
  subst e
  obtain ⟨its, rv, hl, hz⟩ := I.tuple hs
  rw [Vals.ref1 r]
  have hi := rv.ints
  refine sorted_tup SrtO.swo_int hl (by rw [← rv.length]; exact hz) (fun h2 h₁ a' => SrtO.ints_sortable hi h2) fun out h1 h2 => ?_
  obtain ⟨k1, k2, k3⟩ := SrtO.ints_out hi h1 h2
  obtain ⟨ep, he'⟩ := PyProof.Rows.sortedAll_at s.heap its out.toArray
  have fits : ((out.map SrtO.iv).map V.int).length ≤ sizeLine := by
    rw [List.length_map] at hz
    rw [List.length_map, k2.length_eq]
    exact hz
  exact ⟨.ref _, upd H (s.heap.objs.size + 1) (.lst ((out.map SrtO.iv).map V.int)), I.laid (t' := s.toks) (fun _ _ => PyProof.Rows.sortedAll_old) (Nat.le_succ _) ⟨fits, out, ep, vals_of_ints k1, he'⟩, rfl, q _ _ k2 k3 (I.hok.fresh (Nat.le_succ _))⟩

theorem cr_sortedDA (hcalm : X.calm = true) : CallR X (.builtin "sorted") rSortedDA := by
  intro pins s σ H xs us Q I r ⟨a, kvs, ks, ex, hd, hks, q⟩
  subst ex
  obtain ⟨u, eu, rx⟩ := vals1 r
  subst eu
  cases rx
  obtain ⟨z, lo, vs, rel, dd⟩ := dk_rd I.hok hd
  obtain ⟨ep, hat⟩ := dd.dictAt
  have hkeys : vs.map (·.1) = ks.map Sum.inl := rel.keys.symm.trans hks
  have hl : vs.length = ks.length := by
    have e := congrArg List.length hkeys
    rw [List.length_map, List.length_map] at e
    exact e
  have hl2 : kvs.length = ks.length := by
    have e := congrArg List.length hks
    rw [List.length_map, List.length_map] at e
    exact e
  have h16 : vs.length ≤ sizeLine := by omega
  refine Calls.call_function_entry PyProof.Rows.kind_sorted PyProof.Rows.plain_sorted PyProof.Rows.entry_sorted (PyProof.Rows.args_sorted1 _) ?_
  unfold Builtin.«sorted»
  refine wpAny_bind (m := checkCount "sorted" 1 1 _) (wpAny_pure ?_)
  refine wpAny_bind (PySem.W.kdu_collect (A := X.A.in1) (PySem.W.kdl_dict (knd := mixKind X.prog X.w) (kvs := vs) (ep := ep) lo) (I.ok.hd hcalm) hat h16 fun h' tk acc hk hacc => ?_)
  have hal : acc.toList.length = ks.length := by rw [Array.length_toList, hacc.1, hl]
  have hS : IntsAre acc.toList ks := ints_each hal fun j v e => by
    obtain ⟨k, x, e1, e2⟩ := hacc.2 j v (by rw [← Array.getElem?_toList]; exact e)
    have e3 : (vs.map (·.1))[j]? = some k := by rw [List.getElem?_map, e1]; rfl
    rw [hkeys, List.getElem?_map] at e3
    cases e4 : ks[j]? with
    | none => rw [e4] at e3; cases e3
    | some y =>
      rw [e4] at e3
      obtain rfl : Sum.inl y = k := Option.some.inj e3
      rcases keyIs_shape (show keyIs (Sum.inl y) v = true from e2) with ⟨i, t, ek, ev⟩ | ⟨z, t, ek, ev⟩
      · cases ek
        exact ⟨y, t, rfl, ev⟩
      · cases ek
  have I1 : Inv X pins σ H { s with heap := h', toks := tk } := I.kept hk
  have hz : acc.toList.length ≤ sizeLine := by omega
  refine wpAny_bind (wpAny_newList ?_ hz)
  have copy : (h'.push (seqObj "list" acc.toList.toArray 0)).get? h'.objs.size = some (seqObj "list" acc.toList.toArray 0) := Heap.get?_push_size _ rfl
  show wpAny _ _ _ _ _ { s with heap := h'.push (seqObj "list" acc.toList.toArray 0), toks := tk }
  refine wpAny_bind (wpAny_holding (wpAny_call_entry PyProof.Rows.slot_list_sort ⟨_, copy, rfl⟩ PyProof.Rows.entry_list_sort
    (SrtO.list_sort_ord (s := { s with heap := h'.push (seqObj "list" acc.toList.toArray 0), toks := tk }) SrtO.swo_int copy hz (fun h2 => SrtO.ints_sortable hS h2) fun out g1 g2 => ⟨_, rfl, ?_⟩) (PyProof.Rows.args_list_sort _)))
  obtain ⟨k1, k2, k3⟩ := SrtO.ints_out hS g1 g2
  obtain ⟨e', he'⟩ := PyProof.Rows.sortedHeap_at (vs := acc.toList) (out := out.toArray) copy
  have fits : ((out.map SrtO.iv).map V.int).length ≤ sizeLine := by
    rw [List.length_map, k2.length_eq]
    omega
  refine wpAny_pure ⟨_, rfl, .ref h'.objs.size, upd H h'.objs.size (.lst ((out.map SrtO.iv).map V.int)), I1.laid (t' := tk) (fun b u e => ?_) (Nat.le_refl _)
    (show ObjOk X.prog X.w _ _ _ (.lst ((out.map SrtO.iv).map V.int)) from ⟨fits, out, e', vals_of_ints k1, he'⟩), rfl, q _ _ k2 k3 (I1.hok.fresh (Nat.le_refl _))⟩
  have hb : b < h'.objs.size := Heap.lt_size e
  rw [PyProof.Rows.sortedHeap_old (Nat.ne_of_lt hb) (by rw [size_push']; exact Nat.lt_succ_of_lt hb)]
  exact Heap.get?_push_of_some _ e
end
end K75
set_option Elab.async false
set_option linter.all false
set_option maxRecDepth 100000
set_option maxHeartbeats 4000000
/-! set of a list of ints; enumerate of a tuple -/
namespace K75
open PySem PySem.Spec PyProof.Rows L2

/-- the set object as it is made -/
abbrev set0 (w : World) : Obj := { cls := .type "set", dict := none, data := .set #[] 0 (.fresh 0 0 (!w.params.followText "set-order")) }
section
variable {P : Program} {w : World} {A : Around} {E : Value → Shared → Prop} {s : Shared}
set_option maxHeartbeats 8000000 in
theorem set_of_list {l : Addr} {items : Array Value} (ns : List Int) {Q : Value → Shared → Prop} (hh : A.handled = none) (hl : s.heap.IsList l items) (hit : IntsAre items.toList ns) (hb : ns.length + 1 < scanBound)
    (h : ∀ (h' : Heap) (tk c : Nat), SetR w h' s.heap.objs.size (fun j => decide (j ∈ ns)) c → c ≤ ns.length → (∀ b o, s.heap.get? b = some o → h'.get? b = some o) → Q (.ref s.heap.objs.size) { s with heap := h', toks := tk }) :
    wpAny (model P w) A (call (.type "set") [.ref l]) Q E s := by
  have count : items.size = ns.length := by
    have q := IntsAre.length hit
    rw [Array.length_toList] at q
    exact q
  obtain ⟨c, tl, hmro⟩ := F.called_set.mro
  have hmade := F.called_set.made
  have hsub := F.called_set.sub
  refine wpAny_call (codeAny_of_tree ?_)
  show wpAny _ _ (callAny (.type "set") _) _ _ _
  refine wpAny_pure ⟨Code.quiet_builtin _ (by decide +kernel), codeAny_builtin F.entry_type_call ?_⟩
  rw [Around.under_plain (weight_type_call_type "set" [.ref l] []) rfl]
  have h1 := F.called_set.notType
  have h2 := F.called_set.canCreate
  have hct := F.typeCall_set_1 (.ref l)
  repeat (any_goals (first | assumption | wp_step))
  refine codeAny_mono (code_set_led1 (.ref l) (E := E) (Q₁ := fun obj s₁ => obj = .ref s.heap.objs.size ∧ s₁ = { s with heap := s.heap.push (set0 w) }) ⟨rfl, rfl⟩) fun r s₁ hr => ?_
  cases r with
  | error e => exact hr
  | ok fl =>
    cases fl with
    | ret obj =>
      obtain ⟨rfl, rfl⟩ := hr
      have made : (s.heap.push (set0 w)).get? s.heap.objs.size = some (set0 w) := Heap.get?_push_size _ rfl
      have hT : Shared.TypeIs { s with heap := s.heap.push (set0 w) } (.ref s.heap.objs.size) "set" := ⟨_, made, rfl⟩
      have hli := F.called_set.init.lookup
      have hbi := F.called_set.init.bind (.ref s.heap.objs.size)
      repeat (any_goals (first | assumption | wp_step))
      refine codeAny_mono (codeAny_call_builtin (R := wants (fun r s₂ => r = .none ∧ ∃ h' tk c, s₂ = { s with heap := h', toks := tk } ∧ SetR w h' s.heap.objs.size (fun j => decide (j ∈ ns)) c ∧ c ≤ ns.length ∧
          (∀ b o, s.heap.get? b = some o → h'.get? b = some o)) E) F.called_set.init.plain F.entry_set_init (check_set_init_1 hT ?_)) fun r₂ s₂ hr₂ => ?_
      · obtain ⟨ol, hol, hcl, nl, hdl⟩ := hl
        obtain ⟨ocls, odict, odata, oslots⟩ := ol
        simp only at hcl hdl
        subst hcl; subst hdl
        have there : (s.heap.push (set0 w)).get? l = some { cls := .type "list", dict := odict, data := .seq items nl, slots := oslots } := Heap.get?_push_of_some _ hol
        have hsls := F.sub_list_set
        have hslf := F.sub_list_frozenset
        have hne : (Value.type "list" == Value.type "dict") = false := by decide
        have isl : (s.heap.push (set0 w)).IsList l items := ⟨_, there, rfl, nl, rfl⟩
        unfold Builtin.«set.__init__» noKeywords Builtin.Frozenset.updateFrom
        generalize hPI : pyIter = PI
        wp_walk
        subst hPI
        refine wpAny_pyIter_list isl ?_
        refine wpAny_bind (wpAny_runValue ?_)
        have below : l < s.heap.objs.size := Heap.lt_size hol
        have calm : A.in1.in1.in1.handled = none := by simp [hh]
        have apart : l ≠ (s.heap.push (set0 w)).objs.size := by
          rw [Heap.size_push]; exact Nat.ne_of_lt (Nat.lt_succ_of_lt below)
        have notin : s.heap.objs.size ∉ [(s.heap.push (set0 w)).objs.size, l] := by
          rw [Heap.size_push]; simp only [List.mem_cons, List.mem_singleton, List.not_mem_nil, or_false, not_or]
          exact ⟨Nat.ne_of_lt (Nat.lt_succ_self _), Nat.ne_of_gt below⟩
        have vals : ∀ (i : Nat) (v : Value), items[i]? = some v → ∃ k t, ns[i]? = some k ∧ v = .int k t := fun i v hv => by
          have hi : i < ns.length := by rw [← count]; exact (Array.getElem?_eq_some_iff.mp hv).1
          obtain ⟨t, e⟩ := PyProof.Rows.IntsAre.int_at hit i v (by rw [Array.getElem?_toList]; exact hv)
          refine ⟨ns[i], t, List.getElem?_eq_getElem hi, ?_⟩
          rw [e, List.getD_eq_getElem?_getD, List.getElem?_eq_getElem hi] <;> rfl
        refine set_update_ints ((Walks.list calm _ l apart items).toS) s.heap.objs.size
          notin ns count hb vals (items.size - 0) 0 _ (by omega) (Nat.zero_le _)
          ⟨⟨_, Heap.get?_push_size _ rfl, rfl, rfl⟩, (isl.push _)⟩ ?hS0 ?hR
        case hS0 => exact ⟨0, Nat.le_refl 0, setR_new_at (Heap.get?_push_of_some _ made)⟩
        case hR =>
          intro s' c' hm hc' hS'
          obtain ⟨h', g2, d', tk', os'⟩ := s'
          obtain rfl : g2 = s.gens := hm.gens
          obtain rfl : d' = s.drawn := hm.drawn
          obtain rfl : os' = s.os := hm.os
          show wpAny _ _ _ _ _ _
          refine wpAny_pure ?_
          show wpAny _ _ (ret Value.none) _ _ _
          rw [count] at hc'
          refine wpAny_pure ⟨rfl, h', tk', c', rfl, hS', hc', fun b o e => ?_⟩
          have hb0 : b < s.heap.objs.size := Heap.lt_size e
          have hb2 : b ≠ (s.heap.push (set0 w)).objs.size := by
            rw [Heap.size_push]; exact Nat.ne_of_lt (Nat.lt_succ_of_lt hb0)
          exact hm.heap b o (by simp only [List.mem_cons, List.mem_singleton, List.not_mem_nil, or_false, not_or]; exact ⟨Nat.ne_of_lt hb0, hb2⟩) (Heap.get?_push_of_some _ (Heap.get?_push_of_some _ e))
      · cases r₂ with
        | error e => exact hr₂
        | ok fl₂ =>
          cases fl₂ with
          | ret r =>
            obtain ⟨rfl, h', tk, c', rfl, hS', hc', hk'⟩ := hr₂
            repeat (any_goals (first | assumption | wp_step))
            exact h _ _ _ hS' hc' hk'
          | _ => exact hr₂.elim
    | _ => exact hr.elim
end
/-- set(xs), a list of ints -/
def rSetL (K : PySem.W.Frag) (w : World) : List V → Hp → VK → Prop := fun vs H Q => ∃ (a : Addr) (ns : List Int), vs = [V.ref a] ∧ SqL K H a (ns.map V.int) ∧ ns.length ≤ 1000 ∧
  ∀ (p : Addr) (c : Nat), H p = none → c ≤ ns.length → Q (.ref p) (upd H p (SetO w p (fun j => decide (j ∈ ns)) c))
section
variable {X : Cx}
theorem cr_setL (hc : X.calm = true) : CallR X (.type "set") (rSetL X.K X.w) := by
  intro pins s σ H vs us Q I r ⟨a, ns, e, hs, hz, q⟩
  subst e
  obtain ⟨its, rv, hl, _⟩ := I.list hs
  rw [Vals.ref1 r]
  refine set_of_list ns (I.ok.hd hc) hl.isList rv.ints (Nat.lt_of_le_of_lt (Nat.succ_le_succ hz) (by decide)) fun h' tk c R hcl k => ?_
  exact ⟨.ref s.heap.objs.size, upd H s.heap.objs.size (SetO X.w s.heap.objs.size (fun j => decide (j ∈ ns)) c), I.laid (t' := tk) k (Nat.le_refl _) (setO_new R), rfl, q _ c (I.hok.fresh (Nat.le_refl _)) hcl⟩
end

end K75
set_option Elab.async false
set_option linter.all false
set_option maxRecDepth 100000
set_option maxHeartbeats 4000000
/-! enumerate of a tuple -/
namespace K75
open PySem PySem.Spec PyProof.Rows L2

/-! ### enumerate of a tuple -/
/-- the tuple at a, each item in a new pair with its place -/
def Itu (K : PySem.W.Frag) (a : Addr) : It :=
  ⟨fun i H => ∃ (xs : List V) (x : V), SqT K H a xs ∧ xs[i]? = some x, fun i H v H' => ∃ T x, v = .ref T ∧ H T = none ∧ H' = upd H T (.tup [.int (i : Nat), x]) ∧ ∀ xs, SqT K H a xs → xs[i]? = some x,
    fun i H => ∃ xs : List V, SqT K H a xs ∧ xs.length = i⟩
theorem turn_enumT {P : Program} {w : World} {K : PySem.W.Frag} {elts : List Expr} {kk : Nat} {tpos : Pos} (a e it : Addr) :
    Turn P w K (.Tuple elts kk tpos) (Itu K a) [e, it] e (fun i h => (∃ old, IsEnum h e it ((i : Nat) : Int) old) ∧ h.IsTupleIter it a i ∧ e ≠ it) where
  mem := by simp
  obj := fun i h ⟨⟨old, he⟩, ⟨o, ho, hc, hd⟩, _⟩ b hb => by
    rcases (show b = e ∨ b = it by simpa using hb) with z | z
    · rw [z]; exact ⟨_, he, fun v q => nomatch q⟩
    · rw [z]; exact ⟨o, ho, fun v q => by rw [hd] at q; cases q⟩
  keep := fun i h h' ⟨⟨old, he⟩, hi, hne⟩ k => ⟨⟨old, k e (by simp) _ he⟩, hi.at fun o q => k it (by simp) o q, hne⟩
  item := by
    intro X hP hw hK hc i pins s σ H E I hf ⟨⟨old, he⟩, hit, hne⟩ ⟨xs, x, hq, hx⟩
    subst hP hw hK
    obtain ⟨its, rv, p, hz⟩ := I.tuple hq
    obtain ⟨u, hu, ru⟩ := rv.get hx
    have hel : e < s.heap.objs.size := Heap.lt_size he
    have hil : it < s.heap.objs.size := by obtain ⟨_, q, _⟩ := hit; exact Heap.lt_size q
    have hal : a ≠ it := by
      obtain ⟨o, q, c1, _⟩ := hit
      obtain ⟨o2, q2, c2, _⟩ := p
      intro z
      rw [z, q] at q2
      have e0 := Option.some.inj q2
      rw [e0, c2] at c1
      exact absurd (Value.type.inj c1) (by decide)
    have hae : a ≠ e := by
      obtain ⟨o2, q2, c2, _⟩ := p
      intro z
      rw [z, he] at q2
      have e0 := Option.some.inj q2
      rw [← e0] at c2
      exact absurd (Value.type.inj c2) (by decide)
    have hlt : i < its.toArray.size := by
      have q := (List.getElem?_eq_some_iff.mp hu).1
      simpa using q
    refine wpAny_pyNext_enum_itemD (Draws.tuple (A := X.A.in1) (I.ok.hd hc) it a hal its.toArray) he ⟨hit, p⟩ hlt hne (by simp; exact ⟨hne, fun z => hae z.symm⟩) fun x' h' tk hP ho hst hT hsz hk => ?_
    have ex : x' = u := by
      have q : its.toArray[i]? = some x' := hP
      rw [List.getElem?_toArray, hu] at q
      exact (Option.some.inj q).symm
    subst ex
    refine ⟨_, rfl, wpAny_letOwnedTupleGo_enum (s := { s with heap := h', toks := tk + 1 }) ho fun h'' he' sb => ?_⟩
    have hT2 : h''.get? s.heap.objs.size = some { cls := .type "tuple", data := .seq #[.int i tk, x'] } := (sb.2 _ (Nat.ne_of_gt hel)).trans hT
    have new : ObjOk X.prog X.w (upd H s.heap.objs.size (.tup [.int (i : Nat), x])) h'' s.heap.objs.size (.tup [.int (i : Nat), x]) :=
      ⟨by show 2 ≤ sizeLine; decide, [.int i tk, x'], .cons ⟨_, rfl⟩ (.cons ru .nil), ⟨_, hT2, rfl, _, rfl⟩⟩
    have I1 : Inv X pins σ (upd H s.heap.objs.size (.tup [.int (i : Nat), x])) { s with heap := h'', toks := tk + 1 } :=
      I.turnedNew (ch := [e, it]) (fun b ob hb q => (sb.2 b (fun z => hb (by simp [z]))).trans (hk b ob (fun z => hb (by simp [z])) (fun z => hb (by simp [z])) q)) hf (Nat.le_refl _) new
    refine ⟨.ref s.heap.objs.size, _, I1, rfl, ⟨_, x, rfl, I.hok.fresh (Nat.le_refl _), rfl, fun ys hy => ?_⟩, ⟨⟨x', ?_⟩, hst.1.at fun o q => (sb.2 it (Ne.symm hne)).trans q, hne⟩, fun b hb => ?_⟩
    · obtain ⟨its2, rv2, p2, _⟩ := I.tuple hy
      have e2 : its2 = its := by
        obtain ⟨o1, q1, _, n1, d1⟩ := p
        obtain ⟨o2, q2, _, n2, d2⟩ := p2
        rw [q1] at q2
        cases q2
        rw [d1] at d2
        cases d2
        rfl
      subst e2
      rw [Vals.inj rv2 rv]
      exact hx
    · have e1 : ((i + 1 : Nat) : Int) = (i : Int) + 1 := by omega
      rw [e1]; exact he'
    · have hb' : b < s.heap.objs.size := by
        rcases (show b = e ∨ b = it by simpa using hb) with z | z
        · rw [z]; exact hel
        · rw [z]; exact hil
      rw [upd_ne (Nat.ne_of_lt hb')]
      exact (hf b hb).1
  done := by
    intro X hP hw hK hc i pins s σ H E I hf ⟨⟨old, he⟩, hit, hne⟩ ⟨xs, hq, hx⟩
    subst hP hw hK
    obtain ⟨its, rv, p, hz⟩ := I.tuple hq
    obtain ⟨f0, f1, f2, f3, f4, f5⟩ := hf it (by simp)
    have hl := rv.length
    have hal : a ≠ it := by
      obtain ⟨o, q, c1, _⟩ := hit
      obtain ⟨o2, q2, c2, _⟩ := p
      intro z
      rw [z, q] at q2
      have e0 := Option.some.inj q2
      rw [e0, c2] at c1
      exact absurd (Value.type.inj c1) (by decide)
    have en : its.toArray.size = i := by simp; omega
    refine wpAny_pyNext_enum_endD (Draws.tuple (A := X.A.in1) (I.ok.hd hc) it a hal its.toArray) he (by rw [en]; exact ⟨hit, p⟩) fun h' eb => ⟨rfl, I.turned (t' := s.toks) (fun b o hb q => eb b o hb q) f0 f1 f3 f4 f5⟩
  self := fun A i s Q E ⟨⟨_, he⟩, _⟩ h => wpAny_pyIter_enum he h
def iEnumT (K : PySem.W.Frag) (ta : TA) : TI := fun σ H R => ta σ H fun vs H1 => ∃ a xs, vs = [.ref a] ∧ SqT K H1 a xs ∧ R (Itu K a) H1
theorem walk_enumT {K : PySem.W.Frag} {a : Addr} {xs : List V} : Walk (Itu K a) xs.length (fun H => SqT K H a xs) (YPair (fun i => some (.int (i : Nat))) (fun i => xs[i]?)) :=
  ⟨fun i _ hi q => ⟨xs, xs[i], q, by simp [hi]⟩, fun _ q => ⟨xs, q, rfl⟩, fun i H v H' _ q ⟨T, x, h1, h2, h3, h4⟩ => ⟨T, .int (i : Nat), x, h1, h2, h3, rfl, h4 xs q⟩⟩

/-! enumerate is called -/
theorem enum_newT (l : Addr) (items : Array Value) (n : Nat) (dct : Option Addr) (sl : Array (Option Value)) :
    Meets (Builtin.«enumerate.__new__» ⟨[.type "enumerate", .ref l], []⟩) (fun _ R s => s.heap.get? l = some { cls := .type "tuple", dict := dct, data := .seq items n, slots := sl } ∧
      R (.ok (.ret (.ref (s.heap.push { cls := .type "tuple_iterator", data := .fields #[.ref l, .int 0 0] }).objs.size)))
        { s with heap := (s.heap.push { cls := .type "tuple_iterator", data := .fields #[.ref l, .int 0 0] }).push { cls := .type "enumerate", data := .fields #[.none, .bool false, .ref s.heap.objs.size, rawInt 0, .none, .none] } }) :=
  .of_wp fun prog w A R s h => by
    obtain ⟨hp, g, d, tk, os⟩ := s
    obtain ⟨hl, h⟩ := h
    have hsub := sub_enumerate
    have isT : Heap.IsTuple (Shared.heap ⟨hp, g, d, tk, os⟩) l items := ⟨_, hl, rfl, n, rfl⟩
    wp_walk using AutoSeq1.wpAny_loadPart' hl
    refine wpAny_stack_any fun st => wpAny_pure ?_
    split
    · rename_i c _ _ _ _ _
      cases (c == Value.type "enumerate")
      · wp_walk using AutoSeq1.wpAny_loadPart' hl, wpAny_pyIter_tuple isT
        exact ⟨_, rfl, h⟩
      · wp_walk using AutoSeq1.wpAny_loadPart' hl, wpAny_pyIter_tuple isT
        exact ⟨_, rfl, h⟩
    · wp_walk using AutoSeq1.wpAny_loadPart' hl, wpAny_pyIter_tuple isT
      exact ⟨_, rfl, h⟩
section
variable {prog : Program} {w : World} {A : Around} {E : Value → Shared → Prop} {s : Shared}
theorem call_enumT {l : Addr} {items : Array Value} {Q : Value → Shared → Prop} (hL : s.heap.IsTuple l items)
    (h : ∀ h', IsEnum h' (s.heap.objs.size + 1) s.heap.objs.size 0 .none → h'.IsTupleIter s.heap.objs.size l 0 → (∀ b o, s.heap.get? b = some o → h'.get? b = some o) → Q (.ref (s.heap.objs.size + 1)) { s with heap := h' }) :
    wpAny (model prog w) A (call (.type "enumerate") [.ref l]) Q E s := by
  obtain ⟨⟨c, dct, dt, sl⟩, hl, hc, n, hd⟩ := hL
  obtain rfl : c = .type "tuple" := hc
  obtain rfl : dt = .seq items n := hd
  refine callType_new F.called_enumerate (by decide) (F.typeCall_enumerate_1 _) (F.newCall_enumerate_1 _) (fun obj => F.args_object_init_2 obj _) F.entry_enumerate_new
    (enum_newT l items n dct sl) ⟨hl, ?_⟩
  have hz : (s.heap.push { cls := .type "tuple_iterator", data := .fields #[.ref l, .int 0 0] }).objs.size = s.heap.objs.size + 1 := Heap.size_push ..
  show _ ∧ _
  rw [hz]
  have he : IsEnum ((s.heap.push { cls := .type "tuple_iterator", data := .fields #[.ref l, .int 0 0] }).push
      { cls := .type "enumerate", data := .fields #[.none, .bool false, .ref s.heap.objs.size, rawInt 0, .none, .none] }) (s.heap.objs.size + 1) s.heap.objs.size 0 .none := by
    have z := Heap.get?_push_size (s.heap.push { cls := .type "tuple_iterator", data := .fields #[.ref l, .int 0 0] })
      (o := { cls := .type "enumerate", data := .fields #[.none, .bool false, .ref s.heap.objs.size, rawInt 0, .none, .none] }) rfl
    rw [hz] at z; exact z
  exact ⟨⟨_, he, rfl⟩, h _ he ⟨_, Heap.get?_push_of_some _ (Heap.get?_push_size _ rfl), rfl, rfl⟩ fun b o x => Heap.get?_push_of_some _ (Heap.get?_push_of_some _ x)⟩
end
theorem pi_enumT {X : Cx} {e : Expr} {ta : TA} {p pos tpos : Pos} {elts : List Expr} {kk : Nat} (hg : Gl X "enumerate") (hm : X.mg "enumerate" = none) (ha : PA X [e] ta) (hs : starEach [e] X.env = [(false, eval e X.env)] := by rfl) :
    PI X (.Tuple elts kk tpos) (.Call (.Name "enumerate" p) [e] [] pos) (iEnumT X.K ta) := by
  refine ⟨fun pins s σ H R I h => ?_⟩
  refine Call_ (ld_blt I hg hm boot_enumerate (PyProof.Rows.callWith_type1 (thn (ha.run pos pins s σ H _ I h) fun us s1 ⟨vs, H1, I1, r1, a, xs, ex, hq, q⟩ => ?_) hs rfl))
  subst ex
  cases r1 with
  | cons r rr =>
    cases rr
    cases r
    obtain ⟨its, rv, p', hz⟩ := I1.tuple hq
    refine call_enumT p' fun h' he hit hk => wpAny_pyIter_enum he ?_
    have I2 : Inv X pins σ H1 { s1 with heap := h' } := I1.kept (t' := s1.toks) hk
    refine ⟨s1.heap.objs.size + 1, [s1.heap.objs.size + 1, s1.heap.objs.size], _, _, H1, rfl, I2, turn_enumT a (s1.heap.objs.size + 1) s1.heap.objs.size, ⟨⟨.none, he⟩, hit, Nat.succ_ne_self _⟩, fun b hb => ?_, q⟩
    have hle : s1.heap.objs.size ≤ b := by
      rcases (show b = s1.heap.objs.size + 1 ∨ b = s1.heap.objs.size by simpa using hb) with z | z
      · rw [z]; exact Nat.le_add_right _ _
      · rw [z]; exact Nat.le_refl _
    exact I1.fpOk hle (I1.hok.fresh hle)
end K75
set_option Elab.async false
set_option linter.all false
set_option maxRecDepth 100000
set_option maxHeartbeats 4000000
/-! words of this claim: values of clauses, what stays, evaluations -/
namespace K75
open PySem PySem.Spec PyProof.Rows L2 Evl

/-! ### tuples stay -/
def Tst (H H' : Hp) : Prop := ∀ a xs, H a = some (.tup xs) → H' a = some (.tup xs)
theorem Tst.refl (H : Hp) : Tst H H := fun _ _ h => h
theorem Tst.trans {H H1 H2 : Hp} (a : Tst H H1) (b : Tst H1 H2) : Tst H H2 := fun x o h => b x o (a x o h)
theorem Tst.ex {H H' : Hp} (e : Ex H H') : Tst H H' := fun a xs h => e a _ h
theorem Tst.put {H : Hp} {l : Addr} {o u : HO} (h : H l = some u) (n : ∀ xs, u ≠ .tup xs) : Tst H (upd H l o) := fun a xs e => by
  rw [upd_ne fun z => n xs (by rw [z, h] at e; exact Option.some.inj e)]
  exact e
theorem Tst.lst {H : Hp} {l : Addr} {o : HO} {ys : List V} (h : H l = some (.lst ys)) : Tst H (upd H l o) := Tst.put h fun _ z => nomatch z
theorem Tst.new {H : Hp} {p : Addr} {o : HO} (h : H p = none) : Tst H (upd H p o) := Tst.ex (Ex.new h)

/-! ### two lists, place by place -/
structure All2 {α β : Type} (R : α → β → Prop) (xs : List α) (ys : List β) : Prop where
  len : xs.length = ys.length
  at_ : ∀ (i : Nat) x y, xs[i]? = some x → ys[i]? = some y → R x y
section
variable {α β : Type} {R : α → β → Prop} {xs xs' : List α} {ys ys' : List β}
theorem All2.nil : All2 R [] [] := ⟨rfl, fun i x y h => by simp at h⟩
theorem All2.mono {S : α → β → Prop} (a : All2 R xs ys) (h : ∀ x y, R x y → S x y) : All2 S xs ys := ⟨a.len, fun i x y h1 h2 => h x y (a.at_ i x y h1 h2)⟩
theorem All2.left (a : All2 R xs ys) {i : Nat} {x : α} (h : xs[i]? = some x) : ∃ y, ys[i]? = some y ∧ R x y := by
  have hi : i < ys.length := by rw [← a.len]; exact (List.getElem?_eq_some_iff.mp h).1
  exact ⟨ys[i], List.getElem?_eq_getElem hi, a.at_ i _ _ h (List.getElem?_eq_getElem hi)⟩
theorem All2.right (a : All2 R xs ys) {i : Nat} {y : β} (h : ys[i]? = some y) : ∃ x, xs[i]? = some x ∧ R x y := by
  have hi : i < xs.length := by rw [a.len]; exact (List.getElem?_eq_some_iff.mp h).1
  exact ⟨xs[i], List.getElem?_eq_getElem hi, a.at_ i _ _ (List.getElem?_eq_getElem hi) h⟩
theorem All2.mem_left (a : All2 R xs ys) {x : α} (h : x ∈ xs) : ∃ y ∈ ys, R x y := by
  obtain ⟨i, e⟩ := List.getElem?_of_mem h
  obtain ⟨y, e2, r⟩ := a.left e
  exact ⟨y, List.mem_of_getElem? e2, r⟩
theorem All2.append (a : All2 R xs ys) (b : All2 R xs' ys') : All2 R (xs ++ xs') (ys ++ ys') := by
  refine ⟨by rw [List.length_append, List.length_append, a.len, b.len], fun i x y h1 h2 => ?_⟩
  by_cases hi : i < xs.length
  · rw [List.getElem?_append_left hi] at h1
    rw [List.getElem?_append_left (by rw [← a.len]; exact hi)] at h2
    exact a.at_ i x y h1 h2
  · rw [List.getElem?_append_right (by omega)] at h1
    rw [List.getElem?_append_right (by rw [← a.len]; omega), ← a.len] at h2
    exact b.at_ _ x y h1 h2
theorem All2.one {x : α} {y : β} (r : R x y) : All2 R [x] [y] := ⟨rfl, fun i u v h1 h2 => by
  cases i with
  | zero =>
    cases h1
    cases h2
    exact r
  | succ i => simp at h1⟩
theorem All2.snoc (a : All2 R xs ys) {x : α} {y : β} (r : R x y) : All2 R (xs ++ [x]) (ys ++ [y]) := a.append (.one r)
theorem All2.take (a : All2 R xs ys) (n : Nat) : All2 R (xs.take n) (ys.take n) := by
  refine ⟨by rw [List.length_take, List.length_take, a.len], fun i x y h1 h2 => ?_⟩
  by_cases hi : i < n
  · rw [List.getElem?_take, if_pos hi] at h1 h2
    exact a.at_ i x y h1 h2
  · rw [List.getElem?_take, if_neg hi] at h1
    cases h1
theorem All2.drop (a : All2 R xs ys) (n : Nat) : All2 R (xs.drop n) (ys.drop n) := by
  refine ⟨by rw [List.length_drop, List.length_drop, a.len], fun i x y h1 h2 => ?_⟩
  rw [List.getElem?_drop] at h1 h2
  exact a.at_ _ x y h1 h2
theorem All2.perm (a : All2 R xs ys) (p : xs'.Perm xs) : ∃ zs, zs.Perm ys ∧ All2 R xs' zs := by
  -- by the pairs
  have hz : xs = (xs.zip ys).map Prod.fst := (List.map_fst_zip (by rw [a.len]; exact Nat.le_refl _)).symm
  have hy : ys = (xs.zip ys).map Prod.snd := (List.map_snd_zip (by rw [a.len]; exact Nat.le_refl _)).symm
  have hr : ∀ q ∈ xs.zip ys, R q.1 q.2 := fun q hq => by
    obtain ⟨i, e⟩ := List.getElem?_of_mem hq
    rw [List.getElem?_zip_eq_some] at e
    exact a.at_ i _ _ e.1 e.2
  have key : ∀ (l : List (α × β)) (us : List α), us.Perm (l.map Prod.fst) → ∃ m : List (α × β), m.Perm l ∧ m.map Prod.fst = us := by
    intro l us h
    generalize hw : l.map Prod.fst = w at h
    induction h generalizing l with
    | nil =>
      exact ⟨l, List.Perm.refl _, hw⟩
    | cons x q ih =>
      rename_i l1 l2
      obtain ⟨⟨x', y'⟩, t, rfl, e1, e2⟩ := List.map_eq_cons_iff.mp hw
      obtain ⟨m, m1, m2⟩ := ih t e2
      refine ⟨(x', y') :: m, m1.cons _, ?_⟩
      rw [List.map_cons, m2]
      exact congrArg (· :: l1) e1
    | swap x y r =>
      obtain ⟨⟨a1, b1⟩, t, rfl, e1, e2⟩ := List.map_eq_cons_iff.mp hw
      obtain ⟨⟨a2, b2⟩, t2, rfl, e3, e4⟩ := List.map_eq_cons_iff.mp e2
      refine ⟨(a2, b2) :: (a1, b1) :: t2, List.Perm.swap .., ?_⟩
      show a2 :: a1 :: t2.map Prod.fst = _
      have q1 : a1 = x := e1
      have q3 : a2 = y := e3
      rw [q1, q3, e4]
    | trans q1 q2 ih1 ih2 =>
      obtain ⟨m, m1, m2⟩ := ih2 l hw
      obtain ⟨m', n1, n2⟩ := ih1 m m2
      exact ⟨m', n1.trans m1, n2⟩
  rw [hz] at p
  obtain ⟨m, m1, m2⟩ := key _ _ p
  refine ⟨m.map Prod.snd, by rw [hy]; exact m1.map _, by rw [← m2, List.length_map, List.length_map], fun i x y h1 h2 => ?_⟩
  rw [← m2, List.getElem?_map] at h1
  rw [List.getElem?_map] at h2
  cases e : m[i]? with
  | none =>
    rw [e] at h1
    cases h1
  | some q =>
    rw [e] at h1 h2
    cases h1
    cases h2
    exact hr q (m1.mem_iff.mp (List.mem_of_getElem? e))
end

/-! ### clauses as values -/
def Cv (H : Hp) (v : V) (c : Cl) : Prop := ∃ a, v = .ref a ∧ H a = some (.tup (c.map V.int))
theorem Cv.t {H H' : Hp} {v : V} {c : Cl} (h : Cv H v c) (e : Tst H H') : Cv H' v c := by
  obtain ⟨a, h1, h2⟩ := h
  exact ⟨a, h1, e a _ h2⟩
theorem Cv.inj {H : Hp} {v : V} {c d : Cl} (h : Cv H v c) (g : Cv H v d) : c = d := by
  obtain ⟨a, rfl, h2⟩ := h
  obtain ⟨b, e, g2⟩ := g
  cases e
  rw [h2] at g2
  have q := HO.tup.inj (Option.some.inj g2)
  exact List.map_inj_right (fun _ _ z => V.int.inj z) |>.mp q
abbrev Cvs (H : Hp) : List V → List Cl → Prop := All2 (Cv H)
theorem Cvs.t {H H' : Hp} {vs : List V} {cs : List Cl} (h : Cvs H vs cs) (e : Tst H H') : Cvs H' vs cs := h.mono fun _ _ c => c.t e
/-- a formula: (n, clauses) -/
def Fv (H : Hp) (v : V) (n : Int) (cs : List Cl) : Prop := ∃ a b vs, v = .ref a ∧ H a = some (.tup [.int n, .ref b]) ∧ H b = some (.tup vs) ∧ Cvs H vs cs
theorem Fv.t {H H' : Hp} {v : V} {n : Int} {cs : List Cl} (h : Fv H v n cs) (e : Tst H H') : Fv H' v n cs := by
  obtain ⟨a, b, vs, h1, h2, h3, h4⟩ := h
  exact ⟨a, b, vs, h1, e a _ h2, e b _ h3, h4.t e⟩
/-- a list of clauses, a tuple of clauses -/
def Lv (H : Hp) (v : V) (cs : List Cl) : Prop := ∃ a vs, v = .ref a ∧ H a = some (.lst vs) ∧ Cvs H vs cs
def Tv (H : Hp) (v : V) (cs : List Cl) : Prop := ∃ a vs, v = .ref a ∧ H a = some (.tup vs) ∧ Cvs H vs cs
theorem Lv.ex {H H' : Hp} {v : V} {cs : List Cl} (h : Lv H v cs) (e : Ex H H') : Lv H' v cs := by
  obtain ⟨a, vs, h1, h2, h3⟩ := h
  exact ⟨a, vs, h1, e a _ h2, h3.t (.ex e)⟩
theorem Tv.t {H H' : Hp} {v : V} {cs : List Cl} (h : Tv H v cs) (e : Tst H H') : Tv H' v cs := by
  obtain ⟨a, vs, h1, h2, h3⟩ := h
  exact ⟨a, vs, h1, e a _ h2, h3.t e⟩

/-! ### ints in lists -/
theorem inV_int (x : Int) (l : List Int) : inV (.int x) (l.map V.int) = l.contains x := by
  unfold inV
  rw [List.any_map, List.contains_eq_any_beq]
  congr 1
  funext y
  exact Bool.beq_comm
theorem flat_ints (l : List Int) : (l.map V.int).all flatV = true := by
  rw [List.all_map]
  exact List.all_eq_true.mpr fun _ _ => rfl

/-! ### evaluations that tell a property -/
section
variable {K : PySem.W.Frag} {σ : L2.St} {H H' : Hp} {ta tb te tx : TE} {t u : TT} {x y z v : V}
def EvP (te : TE) (σ : L2.St) (H : Hp) (P : V → Hp → Prop) : Prop := ∀ H1, Ex H H1 → ∀ Q : VK, (∀ v H2, Ex H1 H2 → P v H2 → Q v H2) → te σ H1 Q
theorem EvP.mono {P : V → Hp → Prop} (e : Ex H H') (h : EvP te σ H P) : EvP te σ H' P := fun H1 a Q q => h H1 (e.trans a) Q q
theorem EvP.imp {P R : V → Hp → Prop} (h : EvP te σ H P) (f : ∀ v H', Ex H H' → P v H' → R v H') : EvP te σ H R := fun H1 a Q q => h H1 a Q fun v H2 e p => q v H2 e (f v H2 (a.trans e) p)
theorem Ev.p (h : Ev te σ H v) : EvP te σ H fun w _ => w = v := fun H1 a Q q => h H1 a Q fun H2 e => q v H2 e rfl
theorem EvP.go {P : V → Hp → Prop} (h : EvP te σ H P) {Q : VK} (q : ∀ v H2, Ex H H2 → P v H2 → Q v H2) : te σ H Q := h H (Ex.refl H) Q q
theorem Ev.go (h : Ev te σ H v) {Q : VK} (q : ∀ H2, Ex H H2 → Q v H2) : te σ H Q := h H (Ex.refl H) Q q
theorem EvT.go {b : Bool} (h : EvT t σ H b) {Q : Bool → Hp → Prop} (q : ∀ H2, Ex H H2 → Q b H2) : t σ H Q := h H (Ex.refl H) Q q
theorem EvL.go {xs : List V} (h : EvL te σ H xs) {Q : VK} (q : ∀ p H2, H p = none → Ex H H2 → H2 p = some (.lst xs) → Q (.ref p) H2) : te σ H Q := h H (Ex.refl H) Q q
theorem EvU.go {xs : List V} (h : EvU te σ H xs) {Q : VK} (q : ∀ p H2, H p = none → Ex H H2 → H2 p = some (.tup xs) → Q (.ref p) H2) : te σ H Q := h H (Ex.refl H) Q q
theorem EvU.mono {xs : List V} (e : Ex H H') (h : EvU te σ H xs) : EvU te σ H' xs := fun H1 a Q q => h H1 (e.trans a) Q q
end

/-! ### what a comprehension walks: the items of xs, whatever grows -/
section
variable {K : PySem.W.Frag} {σ : L2.St} {H H' : Hp} {ta tb te tx : TE} {t u : TT} {x y z v : V} {xs : List V}
def Src (wi : TI) (σ : L2.St) (H : Hp) (xs : List V) : Prop := ∀ H1, Ex H H1 → ∀ R : It → Hp → Prop, (∀ J H2, Ex H1 H2 → Walk J xs.length (fun H' => Ex H2 H') (YAt xs) → R J H2) → wi σ H1 R
theorem src_list {a : Addr} (h : Ev te σ H (.ref a)) (hx : H a = some (.lst xs)) : Src (iList K te) σ H xs := fun H1 e R q => h H1 e _ fun H2 e2 =>
  have h2 := (e.trans e2) a _ hx
  ⟨a, rfl, ⟨xs, sq_of h2⟩, q _ H2 e2 (walk_list.mono (fun H' e' => sq_of (e' a _ h2)) fun _ _ _ _ _ _ y => y)⟩
theorem src_tup {a : Addr} (h : Ev te σ H (.ref a)) (hx : H a = some (.tup xs)) : Src (iTup K te) σ H xs := fun H1 e R q => h H1 e _ fun H2 e2 =>
  have h2 := (e.trans e2) a _ hx
  ⟨a, rfl, ⟨xs, st_of h2⟩, q _ H2 e2 (walk_tup.mono (fun H' e' => st_of (e' a _ h2)) fun _ _ _ _ _ _ y => y)⟩
theorem src_newL (h : EvL te σ H xs) : Src (iList K te) σ H xs := fun H1 e R q => h H1 e _ fun a H2 _ e2 h2 =>
  ⟨a, rfl, ⟨xs, sq_of h2⟩, q _ H2 e2 (walk_list.mono (fun H' e' => sq_of (e' a _ h2)) fun _ _ _ _ _ _ y => y)⟩
theorem Src.of (h : Src wi σ H xs) (e : Ex H H') : Src wi σ H' xs := fun H1 a R q => h H1 (e.trans a) R q
/-- what a comprehension makes of the items so far: R the item and what it gave -/
def Made (R : V → V → Hp → Prop) (p : V → Bool) (xs ys : List V) (H : Hp) : Prop := All2 (fun x y => R x y H) (xs.filter p) ys
/-- [e for x in .. if t] -/
theorem lcP {wi : TI} {j : Nat} {vs : List Nat} (p : V → Bool) (R : V → V → Hp → Prop) (mono : ∀ x y H1 H2, Tst H1 H2 → R x y H1 → R x y H2) (hs : Src wi σ H xs) (hz : xs.length ≤ 40000) (hw : ∀ x, wipe ((wipe σ vs).set j (some x)) vs = wipe σ vs)
    (ht : ∀ (x : V) H1, Ex H H1 → x ∈ xs → EvT t ((wipe σ vs).set j (some x)) H1 (p x)) (he : ∀ (x : V) H1, Ex H H1 → x ∈ xs → p x = true → EvP te ((wipe σ vs).set j (some x)) H1 (R x)) :
    ∀ H1, Ex H H1 → ∀ Q : VK, (∀ q ys H2, H1 q = none → Ex H1 H2 → H2 q = some (.lst ys) → Made R p xs ys H2 → Q (.ref q) H2) → tLc wi (gName j) t te vs σ H1 Q := fun H1 e Q q =>
  hs H1 e _ fun J H2 e2 w Dl hD => by
    refine lc_it w (fun i H' => H2 Dl = none ∧ Ex H2 H' ∧ ∃ ys, H' Dl = some (.lst ys) ∧ ys.length ≤ i ∧ Made R p (xs.take i) ys H') ⟨hD, Ex.new hD, [], upd_same, Nat.zero_le _, ?_⟩ (fun i H' _ q => q.2.1) (fun i x H' H'' hi ⟨h1, h2, ys, h3, h4, h5⟩ hy => ?_) (fun H' ⟨h1, h2, ys, h3, h4, h5⟩ => ?_)
    · rw [List.take_zero]
      exact All2.nil
    · obtain ⟨rfl, hx⟩ := hy
      have hm : x ∈ xs := List.mem_of_getElem? hx
      have ht1 : xs.take (i + 1) = xs.take i ++ [x] := by rw [List.take_add_one, hx] <;> rfl
      have hbig : ys.length < 100000 := by omega
      refine ⟨hw x, ht x _ ((e.trans e2).trans h2) hm _ (Ex.refl _) _ fun H3 e3 => ?_⟩
      cases hp : p x with
      | true =>
        refine he x H3 (((e.trans e2).trans h2).trans e3) hm hp H3 (Ex.refl _) _ fun y H4 e4 r => ⟨ys, e4 Dl _ (e3 Dl _ h3), sz_lt hbig, h1, Ex.mut ((h2.trans e3).trans e4) h1, ys ++ [y], upd_same, by rw [List.length_append, List.length_singleton]; omega, ?_⟩
        have T4 : Tst H4 (upd H4 Dl (.lst (ys ++ [y]))) := Tst.lst (e4 Dl _ (e3 Dl _ h3))
        rw [ht1]
        show All2 _ ((xs.take i ++ [x]).filter p) _
        rw [List.filter_append, List.filter_cons, if_pos hp]
        exact (h5.mono fun u v r => mono u v _ _ (((Tst.ex e3).trans (Tst.ex e4)).trans T4) r).snoc (mono x y _ _ T4 r)
      | false =>
        refine ⟨h1, h2.trans e3, ys, e3 Dl _ h3, by omega, ?_⟩
        rw [ht1]
        show All2 _ ((xs.take i ++ [x]).filter p) _
        rw [List.filter_append, List.filter_cons, if_neg (by rw [hp]; decide)]
        show All2 _ ((xs.take i).filter p ++ []) _
        rw [List.append_nil]
        exact h5.mono fun u v r => mono u v _ _ (Tst.ex e3) r
    · rw [List.take_length] at h5
      exact q Dl ys H' (fresh_back e2 h1) (e2.trans h2) h3 h5
end
/-! ### rules whose reading names the written part (within a comprehension's block it is to be told) -/
section
variable {X : Cx} {K : PySem.W.Frag}
theorem k_in (h : X.K = K := by rfl) : OpR X (compareOp .In) (rIn K false) := by
  subst h
  exact op_in_seq
theorem k_nin (h : X.K = K := by rfl) : OpR X (compareOp .NotIn) (rIn K true) := by
  subst h
  exact op_notIn_seq
theorem k_fld {e : Expr} {f : PySem.Str} {pos : Pos} {ta : TE} (he : PE X e ta) (hb : attributeBase e f X.env (eval e X.env) = eval e X.env) (h : X.K = K := by rfl) : PE X (.Attribute e f pos) (tFld K ta f) := by
  subst h
  exact pe_fld he hb
theorem k_ixL (h : X.K = K := by rfl) : IxR X (rIxL K) := by
  subst h
  exact ix_list
theorem k_ixT (h : X.K = K := by rfl) : IxR X (rIxT K) := by
  subst h
  exact ix_tup
theorem k_len (h : X.K = K := by rfl) : CallR X (.builtin "len") (rLenS K) := by
  subst h
  exact call_len_seq
def rTup (K : PySem.W.Frag) : List V → Hp → VK → Prop := fun xs H Q => ∃ p ys, xs = [.ref p] ∧ ((SqL K H p ys ∧ ∀ l, H l = none → Q (.ref l) (upd H l (.tup ys))) ∨ (SqT K H p ys ∧ Q (.ref p) H))
theorem k_tup (h : X.K = K := by rfl) : CallR X (.type "tuple") (rTup K) := by
  subst h
  exact call_tuple_of
theorem k_lst (h : X.K = K := by rfl) : CallR X (.type "list") (rListS K) := by
  subst h
  exact call_list_of
theorem k_catA (h : X.K = K := by rfl) : OpR X (binaryOp .Add) (rCatA K) := by
  subst h
  exact op_catA
theorem k_eqD (hu : X.A.units + 64 < cLine) (h : X.K = K := by rfl) : OpR X (compareOp .Eq) (rEqD K) := by
  subst h
  exact op_eqD hu
theorem k_neD (hu : X.A.units + 64 < cLine) (h : X.K = K := by rfl) : OpR X (compareOp .NotEq) (rNeD K) := by
  subst h
  exact op_neD hu
theorem k_isi (h : X.K = K := by rfl) : CallR X (.builtin "isinstance") (rIsi K) := by
  subst h
  exact call_isi
def rAbs : List V → Hp → VK → Prop := fun xs H Q => ∃ i, xs = [.int i] ∧ Q (.int (if i < 0 then -i else i)) H
theorem k_abs : CallR X (.builtin "abs") rAbs := call_abs
end
/-! ### comprehensions of ints; comprehensions that keep items; lengths; in -/
section
variable {K : PySem.W.Frag} {σ : L2.St} {H H' : Hp} {ta tb te tx : TE} {t u : TT} {x y z v : V} {xs : List V}
theorem lcI {wi : TI} {j : Nat} {vs : List Nat} {ls : List Int} (q : Int → Bool) (g : Int → Int) (hs : Src wi σ H (ls.map V.int)) (hz : ls.length ≤ 40000) (hw : ∀ x, wipe ((wipe σ vs).set j (some x)) vs = wipe σ vs)
    (ht : ∀ (l : Int) H1, Ex H H1 → l ∈ ls → EvT t ((wipe σ vs).set j (some (.int l))) H1 (q l)) (he : ∀ (l : Int) H1, Ex H H1 → l ∈ ls → q l = true → Ev te ((wipe σ vs).set j (some (.int l))) H1 (.int (g l))) :
    EvL (tLc wi (gName j) t te vs) σ H (((ls.filter q).map g).map V.int) := fun H1 e Q k => by
  refine lcP (p := fun x => match x with | .int l => q l | _ => false) (R := fun x y _ => ∃ l, x = .int l ∧ y = .int (g l)) (fun _ _ _ _ _ h => h) hs (by rw [List.length_map]; exact hz) hw (fun x H1 e hx => ?_) (fun x H1 e hx hp => ?_) H1 e Q fun p ys H2 h1 h2 h3 h4 => ?_
  · obtain ⟨l, hl, rfl⟩ := List.mem_map.mp hx
    exact ht l H1 e hl
  · obtain ⟨l, hl, rfl⟩ := List.mem_map.mp hx
    exact (Ev.p (he l H1 e hl hp)).imp fun v _ _ h => ⟨l, rfl, h⟩
  · have ef : (ls.map V.int).filter (fun x => match x with | .int l => q l | _ => false) = (ls.filter q).map V.int := by rw [List.filter_map] <;> rfl
    have ey : ys = ((ls.filter q).map g).map V.int := by
      have h5 : All2 (fun x y => ∃ l, x = V.int l ∧ y = V.int (g l)) ((ls.filter q).map V.int) ys := by rw [← ef]; exact h4
      refine List.ext_getElem? fun i => ?_
      cases h : (ls.filter q)[i]? with
      | none =>
        have hl := h5.len
        rw [List.length_map] at hl
        have := List.getElem?_eq_none_iff.mp h
        rw [List.getElem?_eq_none (by omega), List.getElem?_map, List.getElem?_map, h] <;> rfl
      | some l =>
        obtain ⟨y, e1, l2, e2, e3⟩ := h5.left (i := i) (x := .int l) (by rw [List.getElem?_map, h] <;> rfl)
        cases e2
        rw [e1, e3, List.getElem?_map, List.getElem?_map, h] <;> rfl
    rw [← ey] at k
    exact k p H2 h1 h2 h3
theorem lcV {wi : TI} {j : Nat} {vs : List Nat} (p : V → Bool) (hs : Src wi σ H xs) (hz : xs.length ≤ 40000) (hw : ∀ x, wipe ((wipe σ vs).set j (some x)) vs = wipe σ vs)
    (ht : ∀ (x : V) H1, Ex H H1 → x ∈ xs → EvT t ((wipe σ vs).set j (some x)) H1 (p x)) (he : ∀ (x : V) H1, Ex H H1 → x ∈ xs → p x = true → Ev te ((wipe σ vs).set j (some x)) H1 x) :
    EvL (tLc wi (gName j) t te vs) σ H (xs.filter p) := fun H1 e Q k => by
  refine lcP (p := p) (R := fun x y _ => y = x) (fun _ _ _ _ _ h => h) hs hz hw ht (fun x H1 e hx hp => (Ev.p (he x H1 e hx hp)).imp fun v _ _ h => h) H1 e Q fun q ys H2 h1 h2 h3 h4 => ?_
  have ey : ys = xs.filter p := by
    have h5 : All2 (fun x y => y = x) (xs.filter p) ys := h4
    refine List.ext_getElem? fun i => ?_
    cases h : (xs.filter p)[i]? with
    | none =>
      have hl := h5.len
      have := List.getElem?_eq_none_iff.mp h
      exact List.getElem?_eq_none (by omega)
    | some l =>
      obtain ⟨y, e1, e2⟩ := h5.left h
      rw [e1, e2]
  rw [← ey] at k
  exact k q H2 h1 h2 h3
theorem ev_lenT {p : Addr} (ha : Ev ta σ H (.ref p)) (h : H p = some (.tup xs)) : Ev (tCB (rLenS K) (tCons ta tNil)) σ H (.int (xs.length : Int)) := fun H1 e Q q =>
  ha H1 e _ fun H2 e2 => ⟨p, xs, rfl, Or.inr (st_of ((e.trans e2) p _ h)), q H2 e2⟩
theorem ev_lenL {p : Addr} (ha : Ev ta σ H (.ref p)) (h : H p = some (.lst xs)) : Ev (tCB (rLenS K) (tCons ta tNil)) σ H (.int (xs.length : Int)) := ev_len ha (sq_of h)
/-- x not in c, a tuple of ints; a list of ints -/
theorem et_ninT {i : Int} {a : Addr} {c : List Int} (ha : Ev ta σ H (.int i)) (hb : Ev tb σ H (.ref a)) (h : H a = some (.tup (c.map V.int))) : EvT (tTest (tOp (rIn K true) ta tb)) σ H (!c.contains i) := by
  rw [← inV_int]
  exact et_test (ev_op ha hb (rv_niT (st_of h) rfl (flat_ints c)))
theorem et_ninL {i : Int} {a : Addr} {c : List Int} (ha : Ev ta σ H (.int i)) (hb : Ev tb σ H (.ref a)) (h : H a = some (.lst (c.map V.int))) : EvT (tTest (tOp (rIn K true) ta tb)) σ H (!c.contains i) := by
  rw [← inV_int]
  exact et_test (ev_op ha hb (rv_niL (sq_of h) rfl (flat_ints c)))
theorem et_inT {i : Int} {a : Addr} {c : List Int} (ha : Ev ta σ H (.int i)) (hb : Ev tb σ H (.ref a)) (h : H a = some (.tup (c.map V.int))) : EvT (tTest (tOp (rIn K false) ta tb)) σ H (c.contains i) := by
  rw [← inV_int]
  exact et_test (ev_op ha hb (rv_isT (st_of h) rfl (flat_ints c)))
theorem et_inL {i : Int} {a : Addr} {c : List Int} (ha : Ev ta σ H (.int i)) (hb : Ev tb σ H (.ref a)) (h : H a = some (.lst (c.map V.int))) : EvT (tTest (tOp (rIn K false) ta tb)) σ H (c.contains i) := by
  rw [← inV_int]
  exact et_test (ev_op ha hb (rv_isL (sq_of h) rfl (flat_ints c)))
theorem et_yes : EvT tYes σ H true := fun H1 _ _ q => q H1 (Ex.refl H1)
theorem ev_neg {i : Int} (ha : Ev ta σ H (.int i)) : Ev (tUn (rU fun i => .int (-i)) ta) σ H (.int (-i)) := ev_un ha ru_neg
theorem ev_eqI {i j : Int} (ha : Ev ta σ H (.int i)) (hb : Ev tb σ H (.int j)) : Ev (tOp rEq ta tb) σ H (.bl (decide (i = j))) := by
  have e : decide (V.int i = V.int j) = decide (i = j) := by
    by_cases h : i = j
    · subst h; simp
    · rw [decide_eq_false h, decide_eq_false fun z => h (V.int.inj z)]
  rw [← e]
  exact ev_op ha hb (rv_eq rfl)
theorem et_eqI {i j : Int} (ha : Ev ta σ H (.int i)) (hb : Ev tb σ H (.int j)) : EvT (tTest (tOp rEq ta tb)) σ H (decide (i = j)) := et_test (ev_eqI ha hb)
theorem et_neI {i j : Int} (ha : Ev ta σ H (.int i)) (hb : Ev tb σ H (.int j)) : EvT (tTest (tOp rNe ta tb)) σ H (!decide (i = j)) := by
  have e : decide (V.int i = V.int j) = decide (i = j) := by
    by_cases h : i = j
    · subst h; simp
    · rw [decide_eq_false h, decide_eq_false fun z => h (V.int.inj z)]
  rw [← e]
  exact et_test (ev_op ha hb (rv_ne rfl))
theorem ev_I0 {g : Int → Int → V} {i j : Int} (ha : Ev ta σ H (.int i)) (hb : Ev tb σ H (.int j)) : Ev (tOp (rI0 g) ta tb) σ H (g i j) := ev_op ha hb rv_I0
theorem ev_I {C : Int → Int → Prop} {g : Int → Int → V} {i j : Int} (ha : Ev ta σ H (.int i)) (hb : Ev tb σ H (.int j)) (hc : C i j) : Ev (tOp (rI C g) ta tb) σ H (g i j) := ev_op ha hb (rv_I hc)
theorem et_I0 {g : Int → Int → Bool} {i j : Int} (ha : Ev ta σ H (.int i)) (hb : Ev tb σ H (.int j)) : EvT (tTest (tOp (rI0 fun i j => .bl (g i j)) ta tb)) σ H (g i j) := et_test (ev_op ha hb rv_I0)
end
end K75
set_option Elab.async false
set_option linter.all false
set_option maxRecDepth 100000
set_option maxHeartbeats 4000000
namespace K75
open PySem PySem.Spec PyProof.Rows L2 Evl
/-- a def of the top, where it stands -/
def DefAt (K : PySem.W.Frag) (mg : PySem.Str → Option Value) (x : PySem.Str) (st : Stmt) (ps : List PySem.Str) : Prop :=
  ∃ (f : Addr) (fd : FuncData), FunD K x x (defArgs st) (defBody st) (defScope st) [] [] f fd ∧ mg x = some (.ref f) ∧ Binds K fd ps []
/-- a method of the class at C -/
def MetAt (K : PySem.W.Frag) (C : Addr) (m qual : PySem.Str) (st : Stmt) (ps : List PySem.Str) : Prop :=
  ∃ (f : Addr) (fd : FuncData), FunD K m qual (defArgs st) (defBody st) (defScope st) [] [] f fd ∧ Meth K C m f ∧ Binds K fd ps []
/-- the __init__ of the class at C, called by its name x -/
def IniAt (K : PySem.W.Frag) (mg : PySem.Str → Option Value) (x : PySem.Str) (C : Addr) (qual : PySem.Str) (st : Stmt) (ps : List PySem.Str) : Prop :=
  ∃ (f : Addr) (fd : FuncData), FunD K "__init__" qual (defArgs st) (defBody st) (defScope st) [] [] f fd ∧ Mk K C f ∧ mg x = some (.ref C) ∧ Binds K fd ps []
structure Txt (K : PySem.W.Frag) (mg : PySem.Str → Option Value) (cS cL : Addr) : Prop where
  z_len : mg "len" = none
  z_range : mg "range" = none
  z_sorted : mg "sorted" = none
  z_abs : mg "abs" = none
  z_isinstance : mg "isinstance" = none
  z_tuple : mg "tuple" = none
  z_list : mg "list" = none
  z_int : mg "int" = none
  z_bool : mg "bool" = none
  z_set : mg "set" = none
  z_enumerate : mg "enumerate" = none
  z_reversed : mg "reversed" = none
  d_is_integer : DefAt K mg "is_integer" s_is_integer p_is_integer
  d_is_number : DefAt K mg "is_number" s_is_number p_is_number
  d_made_clause : DefAt K mg "made_clause" s_made_clause p_made_clause
  d_is_earlier : DefAt K mg "is_earlier" s_is_earlier p_is_earlier
  d_resolvent : DefAt K mg "resolvent" s_resolvent p_resolvent
  d_axiom_clause : DefAt K mg "axiom_clause" s_axiom_clause p_axiom_clause
  d_resolved_clause : DefAt K mg "resolved_clause" s_resolved_clause p_resolved_clause
  d_next_clause : DefAt K mg "next_clause" s_next_clause p_next_clause
  d_clauses_of : DefAt K mg "clauses_of" s_clauses_of p_clauses_of
  d_sources : DefAt K mg "sources" s_sources p_sources
  d_moved : DefAt K mg "moved" s_moved p_moved
  d_pruned_to : DefAt K mg "pruned_to" s_pruned_to p_pruned_to
  d_log_of_steps : DefAt K mg "log_of_steps" s_log_of_steps p_log_of_steps
  d_steps_of_log : DefAt K mg "steps_of_log" s_steps_of_log p_steps_of_log
  d_law_cell : DefAt K mg "_law_cell" s_law_cell p_law_cell
  d_law_draws : DefAt K mg "_law_draws" s_law_draws p_law_draws
  d_law_is_int : DefAt K mg "_law_is_int" s_law_is_int p_law_is_int
  d_law_ints : DefAt K mg "_law_ints" s_law_ints p_law_ints
  d_law_is_tuple : DefAt K mg "_law_is_tuple" s_law_is_tuple p_law_is_tuple
  d_law_clause_of : DefAt K mg "_law_clause_of" s_law_clause_of p_law_clause_of
  d_law_rows : DefAt K mg "_law_rows" s_law_rows p_law_rows
  d_law_of_rows : DefAt K mg "_law_of_rows" s_law_of_rows p_law_of_rows
  d_law_formula : DefAt K mg "_law_formula" s_law_formula p_law_formula
  d_law_assignments : DefAt K mg "_law_assignments" s_law_assignments p_law_assignments
  d_law_breaks : DefAt K mg "_law_breaks" s_law_breaks p_law_breaks
  d_law_meets : DefAt K mg "_law_meets" s_law_meets p_law_meets
  d_law_models : DefAt K mg "_law_models" s_law_models p_law_models
  d_law_hopeless : DefAt K mg "_law_hopeless" s_law_hopeless p_law_hopeless
  d_law_rows_same : DefAt K mg "_law_rows_same" s_law_rows_same p_law_rows_same
  d_law_tree : DefAt K mg "_law_tree" s_law_tree p_law_tree
  d_law_steps : DefAt K mg "_law_steps" s_law_steps p_law_steps
  d_law_pushed : DefAt K mg "_law_pushed" s_law_pushed p_law_pushed
  d_law_opposite : DefAt K mg "_law_opposite" s_law_opposite p_law_opposite
  d_law_at_once : DefAt K mg "_law_at_once" s_law_at_once p_law_at_once
  d_law_good_log : DefAt K mg "_law_good_log" s_law_good_log p_law_good_log
  d_law_tree_steps : DefAt K mg "_law_tree_steps" s_law_tree_steps p_law_tree_steps
  d_law_made_steps : DefAt K mg "_law_made_steps" s_law_made_steps p_law_made_steps
  d_law_one : DefAt K mg "_law_one" s_law_one p_law_one
  d_law_read : DefAt K mg "_law_read" s_law_read p_law_read
  d_law : DefAt K mg "law" s_law p_law
  c_Shortener : Cls K cS
  a_Shortener_formula : NoAttr K cS "formula"
  a_Shortener_steps : NoAttr K cS "steps"
  a_Shortener_clauses : NoAttr K cS "clauses"
  c_LogFollower : Cls K cL
  a_LogFollower_writer : NoAttr K cL "writer"
  a_LogFollower_places : NoAttr K cL "places"
  i_Shortener : IniAt K mg "Shortener" cS "Shortener.__init__" s_Shortener_init p_Shortener_init
  m_Shortener_add : MetAt K cS "add" "Shortener.add" s_Shortener_add p_Shortener_add
  m_Shortener_resolve : MetAt K cS "resolve" "Shortener.resolve" s_Shortener_resolve p_Shortener_resolve
  i_LogFollower : IniAt K mg "LogFollower" cL "LogFollower.__init__" s_LogFollower_init p_LogFollower_init
  m_LogFollower_cause : MetAt K cL "cause" "LogFollower.cause" s_LogFollower_cause p_LogFollower_cause
  m_LogFollower_follow : MetAt K cL "follow" "LogFollower.follow" s_LogFollower_follow p_LogFollower_follow
  m_LogFollower_taken : MetAt K cL "taken" "LogFollower.taken" s_LogFollower_taken p_LogFollower_taken

section
variable {P : Program} {w : World} {K : PySem.W.Frag} {mg : PySem.Str → Option Value} {base : Heap}
/-- a body keeps a promise -/
abbrev Body (P : Program) (w : World) (K : PySem.W.Frag) (mg : PySem.Str → Option Value) (base : Heap) (k : Nat) (qual : PySem.Str) (st : Stmt) (N : List PySem.Str) (sp : Sp) : Prop :=
  ∀ (f : Addr) (cdv : Value) (A : Around) (outer : List Env) (s : Shared) (H : Hp) (vs : List V) (Q : VK) (E : XK), Room k (A.deeper (envOfC qual (defScope st) s.heap.objs.size f cdv)) → sp vs H Q E →
    ∃ t, PSs (cxOf CX0 P w K mg base N qual (defScope st) f cdv A outer s H E).nox (defBody st) t ∧ t { nx := fun _ H' => Q .non H', rt := Q } (start N vs) H
theorem fnD {x qual : PySem.Str} {st : Stmt} {f : Addr} {fd : FuncData} {N ps : List PySem.Str} {k : Nat} {sp : Sp} (F : FunD K x qual (defArgs st) (defBody st) (defScope st) [] [] f fd) (S : FnScope N ps (defScope st))
    (len : ∀ vs H Q E, sp vs H Q E → vs.length = ps.length) (hb : Body P w K mg base k qual st N sp) : FnOk P w K mg base CX0 (k + 1) f fd ps sp :=
  F.ok S len fun cdv A outer s H vs Q E hr h => by
    obtain ⟨t, h1, h2⟩ := hb f cdv A outer s H vs Q E hr h
    exact ⟨t, h1.nox, h2⟩
theorem calD {x : PySem.Str} {st : Stmt} {N ps : List PySem.Str} {k : Nat} {sp : Sp} (D : DefAt K mg x st ps) (S : FnScope N ps (defScope st)) (len : ∀ vs H Q E, sp vs H Q E → vs.length = ps.length) (hb : Body P w K mg base k x st N sp) :
    C8.Cal P w K mg base (k + 1) x sp [] := by
  obtain ⟨f, fd, F, hm, b⟩ := D
  exact ⟨f, fd, ps, [], fnD F S len hb, hm, F.kp, b, .nil⟩
theorem metD {C : Addr} {m qual : PySem.Str} {st : Stmt} {N ps : List PySem.Str} {k : Nat} {sp : Sp} (c : Cls K C) (D : MetAt K C m qual st ps) (S : FnScope N ps (defScope st)) (len : ∀ vs H Q E, sp vs H Q E → vs.length = ps.length) (hb : Body P w K mg base k qual st N sp) :
    C8.Met P w K mg base (k + 1) C m sp [] := by
  obtain ⟨f, fd, F, hm, b⟩ := D
  exact ⟨f, fd, ps, [], c, hm, fnD F S len hb, b, .nil⟩
theorem makD {C : Addr} {x qual : PySem.Str} {st : Stmt} {N ps : List PySem.Str} {k : Nat} {sp : Sp} (D : IniAt K mg x C qual st ps) (S : FnScope N ps (defScope st)) (len : ∀ vs H Q E, sp vs H Q E → vs.length = ps.length) (hb : Body P w K mg base k qual st N sp) :
    C8.Mak P w K mg base (k + 1) x C sp [] := by
  obtain ⟨f, fd, F, M, hm, b⟩ := D
  exact ⟨f, fd, ps, [], M, fnD F S len hb, hm, b, .nil⟩
theorem Cal.imp {k : Nat} {x : PySem.Str} {sp sp' : Sp} (c : C8.Cal P w K mg base k x sp []) (h : ∀ vs H Q E, sp' vs H Q E → sp vs H Q E) : C8.Cal P w K mg base k x sp' [] := by
  obtain ⟨f, fd, ps, ds, F, r⟩ := c.ex
  exact ⟨f, fd, ps, ds, F.imp h, r⟩
end

section
variable {X : Cx} {K : PySem.W.Frag}
theorem k_ninU (hu : X.A.units + 65 < cLine) (h : X.K = K := by rfl) : OpR X (compareOp .NotIn) (rInU K) := by
  subst h
  exact op_notInU hu
theorem k_sortedA (h : X.K = K := by rfl) : CallR X (.builtin "sorted") (rSortedA K) := by
  subst h
  exact cr_sortedA
theorem room65 {A : Around} {k : Nat} (hr : Room k A) : A.units + 65 < cLine := by
  have := hr.un
  omega
theorem room2 {A : Around} {k : Nat} (hr : Room k A) : A.units + 2 < cLine := by
  have := hr.un
  omega
/-- i not in r, r a range -/
theorem op_notin_rng : OpR X (compareOp .NotIn) (fun x y H Q => ∃ i a lo hi, x = V.int i ∧ y = V.ref a ∧ H a = some (.rng lo hi) ∧ Q (.bl (!decide (lo ≤ i ∧ i < hi))) H) := by
  intro pins s σ H x y v u Q I rx ry ⟨i, a, lo, hi, ex, ey, ha, q⟩
  subst ex
  subst ey
  obtain ⟨k, rfl⟩ := rx
  obtain rfl : u = Value.ref a := ry
  obtain ⟨t1, t2, t3, ho⟩ := I.hok a _ ha
  show wpAny _ _ (do return Value.bool (!(← contains (Value.ref a) (Value.int i k)))) _ _ s
  refine wpAny_bind (wpAny_contains_slot (T := "range") ⟨_, ho, rfl⟩ F.slot_range_contains (call_meets F.slot_range_contains ⟨_, ho, rfl⟩ F.entry_range_contains (F.args_range_contains_2 _ _) (q_contains a lo hi i t1 t2 t3 k)
    ⟨ho, wpAny_truthy_bool (wpAny_pure ?_)⟩))
  exact ⟨.bl (!decide (lo ≤ i ∧ i < hi)), H, I, by rw [place1] <;> rfl, q⟩
end
end K75
set_option Elab.async false
set_option linter.all false
set_option maxHeartbeats 4000000
/-! the mathematics, second part: unit propagation, trails, backward resolution -/
namespace K75
/-- the literals of d whose negations are not in c; those that are in c -/
def rest (d c : Cl) : Cl := d.filter fun x => !c.contains (-x)
def hits (d c : Cl) : Cl := d.filter fun x => c.contains x
theorem mem_rest {d c : Cl} {x : Int} : x ∈ rest d c ↔ x ∈ d ∧ -x ∉ c := by
  unfold rest
  simp
theorem rest_nil {d c : Cl} : rest d c = [] ↔ ∀ x ∈ d, -x ∈ c := by
  unfold rest
  simp
theorem rest_sub {d e c b : Cl} (h : ∀ x ∈ d, x ∈ e) (g : ∀ x ∈ b, x ∈ c) : ∀ x ∈ rest d c, x ∈ rest e b := fun x hx => by
  obtain ⟨h1, h2⟩ := mem_rest.mp hx
  exact mem_rest.mpr ⟨h x h1, fun z => h2 (g _ z)⟩
theorem nodup_rest {d c : Cl} (h : d.Nodup) : (rest d c).Nodup := List.Pairwise.sublist List.filter_sublist h
theorem sub_single {l : List Int} {x : Int} (hn : l.Nodup) (hs : ∀ y ∈ l, y ∈ [x]) (h0 : l ≠ []) : l = [x] := by
  match l, hn, hs, h0 with
  | [], _, _, h => exact absurd rfl h
  | [y], _, hs, _ => rw [List.mem_singleton.mp (hs y (List.mem_cons_self ..))]
  | y :: z :: r, hn, hs, _ =>
    have e1 := List.mem_singleton.mp (hs y (List.mem_cons_self ..))
    have e2 := List.mem_singleton.mp (hs z (List.mem_cons_of_mem _ (List.mem_cons_self ..)))
    rw [e1, e2] at hn
    exact absurd (List.mem_cons_self ..) (List.nodup_cons.mp hn).1
/-- nothing to do: no clause broken, no unit outside -/
def Closed (C : List Cl) (S : List Int) : Prop := ∀ p ∈ C, rest p S ≠ [] ∧ ∀ l, rest p S = [l] → l ∈ S
/-- unit propagation from S breaks a clause -/
def Refutes (C : List Cl) (S : List Int) : Prop := ∀ S', (∀ x ∈ S, x ∈ S') → ¬ Closed C S'
theorem Refutes.mono {C D : List Cl} {S S' : List Int} (h : Refutes C S) (hc : ∀ p ∈ C, p.Nodup ∧ ∃ q ∈ D, ∀ x ∈ q, x ∈ p) (hd : ∀ q ∈ D, q.Nodup) (hs : ∀ x ∈ S, x ∈ S') : Refutes D S' := fun T hT hcl => by
  refine h T (fun x hx => hT x (hs x hx)) fun p hp => ?_
  obtain ⟨hn, q, hq, hsub⟩ := hc p hp
  obtain ⟨c1, c2⟩ := hcl q hq
  have s1 := rest_sub (c := T) (b := T) hsub fun _ z => z
  refine ⟨fun z => c1 ?_, fun l hl => c2 l (sub_single (nodup_rest (hd q hq)) (fun y hy => ?_) c1)⟩
  · refine List.eq_nil_iff_forall_not_mem.mpr fun y hy => ?_
    have := s1 y hy
    rw [z] at this
    cases this
  · have := s1 y hy
    rw [hl] at this
    exact this

/-! ### how long a consistent list may be -/
theorem len_le {α : Type} [DecidableEq α] : ∀ {l m : List α}, l.Nodup → (∀ x ∈ l, x ∈ m) → l.length ≤ m.length
  | [], m, _, _ => Nat.zero_le _
  | x :: l, m, hn, hs => by
    obtain ⟨h1, h2⟩ := List.nodup_cons.mp hn
    have hx := hs x (List.mem_cons_self ..)
    have ih := len_le (l := l) (m := m.erase x) h2 fun y hy => by
      have ne : y ≠ x := fun z => h1 (by rw [← z]; exact hy)
      exact (List.mem_erase_of_ne ne).mpr (hs y (List.mem_cons_of_mem _ hy))
    rw [List.length_erase_of_mem hx] at ih
    have : 0 < m.length := List.length_pos_of_mem hx
    rw [List.length_cons]
    omega
def Con (S : List Int) : Prop := ∀ x ∈ S, -x ∉ S
def Rng (n : Int) (S : List Int) : Prop := ∀ x ∈ S, x ≠ 0 ∧ -n ≤ x ∧ x ≤ n
theorem con_len {n : Int} {S : List Int} (hn : S.Nodup) (hc : Con S) (hr : Rng n S) : S.length ≤ n.toNat := by
  have h1 : (S.map Int.natAbs).Nodup := by
    refine List.Pairwise.map _ (fun a b z => z) ?_ |> fun (z : (S.map Int.natAbs).Pairwise (· ≠ ·)) => z
    refine List.Pairwise.imp_of_mem (fun {a b} ha hb hne e => ?_) hn
    rcases Int.natAbs_eq_natAbs_iff.mp e with e | e
    · exact hne e
    · exact hc b hb (by rw [← e]; exact ha)
  have h2 := len_le (m := (List.range n.toNat).map (· + 1)) h1 fun x hx => by
    obtain ⟨y, hy, rfl⟩ := List.mem_map.mp hx
    obtain ⟨r1, r2, r3⟩ := hr y hy
    refine List.mem_map.mpr ⟨y.natAbs - 1, List.mem_range.mpr (by omega), by omega⟩
  simpa using h2
theorem Clause.con_neg {n : Int} {c : Cl} (h : Clause n c) : Con (c.map fun x => -x) := fun x hx z => by
  obtain ⟨y, hy, rfl⟩ := List.mem_map.mp hx
  obtain ⟨u, hu, e⟩ := List.mem_map.mp z
  have : u = -y := by omega
  rw [this] at hu
  exact h.con y hy hu
theorem Clause.rng_neg {n : Int} {c : Cl} (h : Clause n c) : Rng n (c.map fun x => -x) := fun x hx => by
  obtain ⟨y, hy, rfl⟩ := List.mem_map.mp hx
  have := h.rng y hy
  omega
theorem Clause.nod_neg {n : Int} {c : Cl} (h : Clause n c) : (c.map fun x => -x).Nodup := List.Pairwise.map _ (fun x y z e => z (by omega)) (asc_nodup h.asc)
theorem Clause.len {n : Int} {c : Cl} (h : Clause n c) : c.length ≤ n.toNat := by
  have := con_len (asc_nodup h.asc) h.con h.rng
  exact this

/-! ### trails -/
structure Trail (n : Int) (ds : List Cl) (b : List Int) (ls : List Int) (rs : List Nat) : Prop where
  len : ls.length = rs.length
  nod : (b ++ ls).Nodup
  con : Con (b ++ ls)
  rng : Rng n (b ++ ls)
  why : ∀ k l r, ls[k]? = some l → rs[k]? = some r → ∃ p, ds[r]? = some p ∧ rest p (b ++ ls.take k) = [l]
theorem Trail.nil {n : Int} {ds : List Cl} {c : Cl} (h : Clause n c) : Trail n ds (c.map fun x => -x) [] [] :=
  ⟨rfl, by rw [List.append_nil]; exact h.nod_neg, by rw [List.append_nil]; exact h.con_neg, by rw [List.append_nil]; exact h.rng_neg, fun k l r e => by simp at e⟩
theorem Trail.snoc {n : Int} {ds : List Cl} {b ls : List Int} {rs : List Nat} {r : Nat} {p : Cl} {l : Int} (t : Trail n ds b ls rs) (hp : ds[r]? = some p) (hr : rest p (b ++ ls) = [l]) (hl : l ∉ b ++ ls) (hc : Clause n p) :
    Trail n ds b (ls ++ [l]) (rs ++ [r]) := by
  have hm : l ∈ rest p (b ++ ls) := by rw [hr]; exact List.mem_singleton.mpr rfl
  obtain ⟨m1, m2⟩ := mem_rest.mp hm
  have r1 := hc.rng l m1
  refine ⟨by simp [t.len], ?_, ?_, ?_, fun k l' r' e1 e2 => ?_⟩
  · rw [← List.append_assoc]
    refine List.nodup_append.mpr ⟨t.nod, by simp, fun x hx y hy => ?_⟩
    rw [List.mem_singleton.mp hy]
    exact fun z => hl (by rw [← z]; exact hx)
  · rw [← List.append_assoc]
    intro x hx z
    rcases List.mem_append.mp hx with hx | hx
    · rcases List.mem_append.mp z with z | z
      · exact t.con x hx z
      · have := List.mem_singleton.mp z
        apply m2
        rw [← this, Int.neg_neg]
        exact hx
    · have e := List.mem_singleton.mp hx
      subst e
      rcases List.mem_append.mp z with z | z
      · exact m2 z
      · have := List.mem_singleton.mp z
        omega
  · rw [← List.append_assoc]
    intro x hx
    rcases List.mem_append.mp hx with hx | hx
    · exact t.rng x hx
    · rw [List.mem_singleton.mp hx]
      exact r1
  · by_cases hk : k < ls.length
    · rw [List.getElem?_append_left hk] at e1
      rw [List.getElem?_append_left (by rw [← t.len]; exact hk)] at e2
      obtain ⟨q, q1, q2⟩ := t.why k l' r' e1 e2
      rw [List.take_append_of_le_length (Nat.le_of_lt hk)]
      exact ⟨q, q1, q2⟩
    · have hk2 := (List.getElem?_eq_some_iff.mp e1).1
      rw [List.length_append, List.length_singleton] at hk2
      have ek : k = ls.length := by omega
      subst ek
      rw [List.getElem?_append_right (Nat.le_refl _), Nat.sub_self] at e1
      rw [t.len, List.getElem?_append_right (Nat.le_refl _), Nat.sub_self] at e2
      cases e1
      cases e2
      rw [List.take_append_of_le_length (Nat.le_refl _), List.take_length]
      exact ⟨p, hp, hr⟩
theorem Trail.short {n : Int} {ds : List Cl} {b ls : List Int} {rs : List Nat} (t : Trail n ds b ls rs) : b.length + ls.length ≤ n.toNat := by
  have := con_len t.nod t.con t.rng
  rw [List.length_append] at this
  exact this
theorem Trail.more {n : Int} {ds es : List Cl} {b ls : List Int} {rs : List Nat} (t : Trail n ds b ls rs) : Trail n (ds ++ es) b ls rs := by
  refine ⟨t.len, t.nod, t.con, t.rng, fun k l r e1 e2 => ?_⟩
  obtain ⟨p, h1, h2⟩ := t.why k l r e1 e2
  refine ⟨p, ?_, h2⟩
  rw [List.getElem?_append_left (List.getElem?_eq_some_iff.mp h1).1]
  exact h1
theorem mkCl_swap (a b : List Int) : mkCl (a ++ b) = mkCl (b ++ a) := by
  have h : taut (a ++ b) = taut (b ++ a) := by
    rw [Bool.eq_iff_iff, taut_iff, taut_iff]
    simp only [List.mem_append]
    constructor
    · rintro ⟨x, h1, h2⟩
      exact ⟨x, h1.symm, h2.symm⟩
    · rintro ⟨x, h1, h2⟩
      exact ⟨x, h1.symm, h2.symm⟩
  have hn : norm (a ++ b) = norm (b ++ a) := norm_eq fun x => by
    simp only [List.mem_append]
    exact or_comm
  unfold mkCl
  rw [h, hn]
/-- the step that takes the literal l away -/
def backStep (place reason : Nat) (l : Int) : Step := if 0 < l then .res reason place l else .res place reason (-l)
theorem take_snoc {α : Type} {l : List α} {k : Nat} {x : α} (h : l[k]? = some x) : l.take (k + 1) = l.take k ++ [x] := by rw [List.take_add_one, h] <;> rfl
theorem Trail.back_no {n : Int} {ds : List Cl} {b ls : List Int} {rs : List Nat} {p : Cl} {k : Nat} {l : Int} (t : Trail n ds b ls rs) (hk : ls[k]? = some l) (hp : rest p (b ++ ls.take (k + 1)) = []) (hm : -l ∉ p) : rest p (b ++ ls.take k) = [] := by
  rw [take_snoc hk, ← List.append_assoc] at hp
  refine rest_nil.mpr fun x hx => ?_
  rcases List.mem_append.mp (rest_nil.mp hp x hx) with h | h
  · exact h
  · have := List.mem_singleton.mp h
    have e : x = -l := by omega
    rw [e] at hx
    exact absurd hx hm
theorem Trail.back {n : Int} {ds : List Cl} {b ls : List Int} {rs : List Nat} {p : Cl} {k place reason : Nat} {l : Int} {cs : List Cl} (t : Trail n ds b ls rs) (hk : ls[k]? = some l) (hr : rs[k]? = some reason) (hpl : ds[place]? = some p)
    (hp : rest p (b ++ ls.take (k + 1)) = []) (hm : -l ∈ p) : ∃ d, stepC cs ds (backStep place reason l) = some d ∧ rest d (b ++ ls.take k) = [] ∧ (backStep place reason l).ok n := by
  obtain ⟨q, hq, hrest⟩ := t.why k l reason hk hr
  have lm : l ∈ rest q (b ++ ls.take k) := by rw [hrest]; exact List.mem_singleton.mpr rfl
  obtain ⟨lq, _⟩ := mem_rest.mp lm
  have lr := t.rng l (List.mem_append_right _ (List.mem_of_getElem? hk))
  -- every literal of the new clause is broken
  have key : ∀ x ∈ without p (-l) ++ without q l, -x ∈ b ++ ls.take k := fun x hx => by
    rcases List.mem_append.mp hx with hx | hx
    · obtain ⟨h1, h2⟩ := mem_without.mp hx
      have z := rest_nil.mp hp x h1
      rw [take_snoc hk, ← List.append_assoc] at z
      rcases List.mem_append.mp z with z | z
      · exact z
      · have := List.mem_singleton.mp z
        exact absurd (show x = -l by omega) h2
    · obtain ⟨h1, h2⟩ := mem_without.mp hx
      apply Classical.byContradiction
      intro z
      have : x ∈ rest q (b ++ ls.take k) := mem_rest.mpr ⟨h1, z⟩
      rw [hrest] at this
      exact h2 (List.mem_singleton.mp this)
  have nt : taut (without p (-l) ++ without q l) = false := by
    cases e : taut (without p (-l) ++ without q l) with
    | false => rfl
    | true =>
      obtain ⟨x, h1, h2⟩ := taut_iff.mp e
      have z1 := key x h1
      have z2 := key _ h2
      rw [Int.neg_neg] at z2
      have sub : ∀ y ∈ b ++ ls.take k, y ∈ b ++ ls := fun y hy => by
        rcases List.mem_append.mp hy with h | h
        · exact List.mem_append_left _ h
        · exact List.mem_append_right _ (List.mem_of_mem_take h)
      exact absurd (sub _ z1) (t.con x (sub _ z2))
  have mk : mkCl (without p (-l) ++ without q l) = some (norm (without p (-l) ++ without q l)) := mkCl_some.mpr ⟨nt, rfl⟩
  refine ⟨norm (without p (-l) ++ without q l), ?_, rest_nil.mpr fun x hx => key x (mem_norm.mp hx), ?_⟩
  · unfold backStep
    split
    · refine stepC_of hq hpl lq hm ?_
      rw [mkCl_swap]
      exact mk
    · refine stepC_of hpl hq hm (by rw [Int.neg_neg]; exact lq) ?_
      rw [Int.neg_neg]
      exact mk
  · unfold backStep
    split
    · exact ⟨by assumption, by omega⟩
    · refine ⟨?_, ?_⟩
      · have : ¬ 0 < l := by assumption
        omega
      · show -l ≤ n
        omega
/-- every row of the log is refuted at once by the clauses and the rows before it -/
def GoodL (cs log : List Cl) : Prop := ∀ i c, log[i]? = some c → Refutes (cs ++ log.take i) (c.map fun x => -x)
end K75
set_option Elab.async false
set_option linter.all false
set_option maxRecDepth 100000
set_option maxHeartbeats 4000000
/-! walks: the smallest defs -/
namespace K75
open PySem PySem.Spec PyProof.Rows L2 Evl

/-! ### isinstance -/
section
variable {K : PySem.W.Frag} {σ : L2.St} {H : Hp} {ta tb : TE}
theorem ev_isiI {i : Int} {n : String} {b : Bool} (ha : Ev ta σ H (.int i)) (hb : Ev tb σ H (.ty n)) (h : kitB "int" n = some b) : Ev (tCB (rIsi K) (tCons ta (tCons tb tNil))) σ H (.bl b) := fun H1 e Q q =>
  ha H1 e _ fun H2 e2 => hb H2 (e.trans e2) _ fun H3 e3 => ⟨.int i, .ty n, .type "int", .type n, b, rfl, .ty n, .base (.int i), kit_ty h, q H3 (e2.trans e3)⟩
theorem ev_isiT {a : Addr} {xs : List V} {n : String} {b : Bool} (ha : Ev ta σ H (.ref a)) (hb : Ev tb σ H (.ty n)) (hx : H a = some (.tup xs)) (h : kitB "tuple" n = some b) : Ev (tCB (rIsi K) (tCons ta (tCons tb tNil))) σ H (.bl b) := fun H1 e Q q =>
  ha H1 e _ fun H2 e2 => hb H2 (e.trans e2) _ fun H3 e3 => ⟨.ref a, .ty n, .type "tuple", .type n, b, rfl, .ty n, .base (.tup (((e.trans e2).trans e3) a _ hx)), kit_ty h, q H3 (e2.trans e3)⟩
end

section
variable {P : Program} {w : World} {K : PySem.W.Frag} {mg : PySem.Str → Option Value} {base : Heap} {cS cL : Addr}

/-! ### ints -/
def sp_isint : Sp := fun vs H Q _ => ∃ i, vs = [.int i] ∧ ∀ H', Ex H H' → Q (.bl true) H'
theorem ok_is_integer (T : Txt K mg cS cL) : C8.Cal P w K mg base 1 "is_integer" sp_isint [] := by
  refine calD T.d_is_integer sc_is_integer (fun vs H Q E h => ?_) fun f cdv A outer s H vs Q E hr h => ?_
  · obtain ⟨i, rfl, _⟩ := h
    rfl
  · obtain ⟨i, rfl, q⟩ := h
    refine ⟨_, (pss_one (ps_ret (pe_and (pe_callB (k_isi (K := K)) (by rfl) T.z_isinstance (by decide +kernel) (pa_cons (pv 0) (pa_cons (pe_bltn (v := .ty "int") (by rfl) T.z_int (by decide +kernel) rfl) pa_nil))) (pe_one (pe_not (pe_callB (k_isi (K := K)) (by rfl) T.z_isinstance (by decide +kernel) (pa_cons (pv 0) (pa_cons (pe_bltn (v := .ty "bool") (by rfl) T.z_bool (by decide +kernel) rfl) pa_nil)))))))), ?_⟩
    exact s_ret (ev_andV (a := true) (b := true) (ev_isiI (ev_var rfl) ev_c (by decide +kernel)) fun _ => ev_is (ev_notV (a := false) (ev_isiI (ev_var rfl) ev_c (by decide +kernel))) rfl) q
theorem ok_law_is_int (T : Txt K mg cS cL) : C8.Cal P w K mg base 1 "_law_is_int" sp_isint [] := by
  refine calD T.d_law_is_int sc_law_is_int (fun vs H Q E h => ?_) fun f cdv A outer s H vs Q E hr h => ?_
  · obtain ⟨i, rfl, _⟩ := h
    rfl
  · obtain ⟨i, rfl, q⟩ := h
    refine ⟨_, (pss_one (ps_ret (pe_and (pe_callB (k_isi (K := K)) (by rfl) T.z_isinstance (by decide +kernel) (pa_cons (pv 0) (pa_cons (pe_bltn (v := .ty "int") (by rfl) T.z_int (by decide +kernel) rfl) pa_nil))) (pe_one (pe_not (pe_callB (k_isi (K := K)) (by rfl) T.z_isinstance (by decide +kernel) (pa_cons (pv 0) (pa_cons (pe_bltn (v := .ty "bool") (by rfl) T.z_bool (by decide +kernel) rfl) pa_nil)))))))), ?_⟩
    exact s_ret (ev_andV (a := true) (b := true) (ev_isiI (ev_var rfl) ev_c (by decide +kernel)) fun _ => ev_is (ev_notV (a := false) (ev_isiI (ev_var rfl) ev_c (by decide +kernel))) rfl) q
def sp_is_number : Sp := fun vs H Q _ => ∃ i, vs = [.int i] ∧ ∀ H', Ex H H' → Q (.bl (decide (0 ≤ i))) H'
theorem ev_isint {σ : L2.St} {H : Hp} {ta : TE} {i : Int} {E : XK} (ha : Ev ta σ H (.int i)) : Ev (tCall sp_isint [] E (tCons ta tNil)) σ H (.bl true) :=
  ev_call (ea_cons ha ea_nil) fun H1 e Q q E => ⟨i, rfl, q⟩
theorem ok_is_number (T : Txt K mg cS cL) : C8.Cal P w K mg base 2 "is_number" sp_is_number [] := by
  have G_is_integer : C8.Cal P w K mg base 1 "is_integer" sp_isint [] := ok_is_integer T
  refine calD T.d_is_number sc_is_number (fun vs H Q E h => ?_) fun f cdv A outer s H vs Q E hr h => ?_
  · obtain ⟨i, rfl, _⟩ := h
    rfl
  · obtain ⟨i, rfl, q⟩ := h
    refine ⟨_, (pss_one (ps_ret (pe_and (C8.pe_c G_is_integer hr (by decide) (by rfl) (pa_cons (pv 0) pa_nil)) (pe_one (pe_cmpR op_ge (pv 0) pe_int (nomark _)))))), ?_⟩
    exact s_ret (ev_is (ev_andV (ev_isint (ev_var rfl)) fun _ => ev_I0 (ev_var rfl) ev_c) (by rw [Bool.true_and])) q
def sp_is_earlier : Sp := fun vs H Q _ => ∃ i k, vs = [.int i, .int k] ∧ ∀ H', Ex H H' → Q (.bl (decide (0 ≤ i) && decide (i < k))) H'
theorem ev_isnum {σ : L2.St} {H : Hp} {ta : TE} {i : Int} {E : XK} (ha : Ev ta σ H (.int i)) : Ev (tCall sp_is_number [] E (tCons ta tNil)) σ H (.bl (decide (0 ≤ i))) :=
  ev_call (ea_cons ha ea_nil) fun H1 e Q q E => ⟨i, rfl, q⟩
theorem ok_is_earlier (T : Txt K mg cS cL) : C8.Cal P w K mg base 3 "is_earlier" sp_is_earlier [] := by
  have G_is_number : C8.Cal P w K mg base 2 "is_number" sp_is_number [] := ok_is_number T
  refine calD T.d_is_earlier sc_is_earlier (fun vs H Q E h => ?_) fun f cdv A outer s H vs Q E hr h => ?_
  · obtain ⟨i, k, rfl, _⟩ := h
    rfl
  · obtain ⟨i, k, rfl, q⟩ := h
    refine ⟨_, (pss_one (ps_ret (pe_and (C8.pe_c G_is_number hr (by decide) (by rfl) (pa_cons (pv 0) pa_nil)) (pe_one (pe_cmpR op_lt (pv 0) (pv 1) (nomark _)))))), ?_⟩
    exact s_ret (ev_andV (ev_isnum (ev_var rfl)) fun _ => ev_I0 (ev_var rfl) (ev_var rfl)) q
theorem ev_isear {σ : L2.St} {H : Hp} {ta tb : TE} {i k : Int} {E : XK} (ha : Ev ta σ H (.int i)) (hb : Ev tb σ H (.int k)) : Ev (tCall sp_is_earlier [] E (tCons ta (tCons tb tNil))) σ H (.bl (decide (0 ≤ i) && decide (i < k))) :=
  ev_call (ea_cons ha (ea_cons hb ea_nil)) fun H1 e Q q E => ⟨i, k, rfl, q⟩

/-! ### breaks, meets -/
def sp_breaks : Sp := fun vs H Q _ => ∃ v1 v2 c1 c2, vs = [v1, v2] ∧ Cv H v1 c1 ∧ Cv H v2 c2 ∧ c2.length ≤ 1000 ∧ ∀ H', Ex H H' → Q (.bl (decide (rest c2 c1 = []))) H'
theorem ok_law_breaks (T : Txt K mg cS cL) : C8.Cal P w K mg base 1 "_law_breaks" sp_breaks [] := by
  refine calD T.d_law_breaks sc_law_breaks (fun vs H Q E h => ?_) fun f cdv A outer s H vs Q E hr h => ?_
  · obtain ⟨v1, v2, c1, c2, rfl, _⟩ := h
    rfl
  · obtain ⟨v1, v2, c1, c2, rfl, ⟨a1, rfl, h1⟩, ⟨a2, rfl, h2⟩, hz, q⟩ := h
    refine ⟨_, (pss_one (ps_ret (pe_cmpR op_eq (pe_callB (k_len (K := K)) (by rfl) T.z_len PySem.boot_len (pa_cons (pe_lc (own := [("_law_literal", 2)]) (g := gName 2) rfl sc_law_breaks.nd (pi_tup (pv 1)) (blkOk_by (N := n_law_breaks) (sc := defScope s_law_breaks) (by decide +kernel)) (fun _ _ _ _ _ => pg_name (i := 2) sc_law_breaks.nd rfl (Or.inl rfl)) (fun _ _ _ _ _ => pts_one (pt_cmpR (k_nin (K := K)) (pe_un un_neg (pv 2)) (pv 0) (by rfl))) (fun _ _ _ _ _ => (pv 2))) pa_nil)) pe_int (nomark _)))), ?_⟩
    refine s_ret (ev_is (ev_eqI (ev_lenN (lcI (ls := c2) (fun x => !c1.contains (-x)) (fun x => x) (src_tup (ev_var rfl) h2) (by omega) (fun x => rfl) (fun l H1 e _ => et_ninT (ev_neg (ev_var rfl)) (ev_var rfl) (e _ _ h1)) (fun l H1 e _ _ => ev_var rfl))) ev_c) ?_) q
    rw [List.length_map, List.map_id']
    have e2 : decide (((rest c2 c1).length : Int) = 0) = decide (rest c2 c1 = []) := by
      rw [decide_eq_decide]
      simp
    exact congrArg V.bl e2
def sp_meets : Sp := fun vs H Q _ => ∃ v1 v2 c1 c2, vs = [v1, v2] ∧ Cv H v1 c1 ∧ Cv H v2 c2 ∧ c2.length ≤ 1000 ∧ ∀ H', Ex H H' → Q (.bl (decide (hits c2 c1 ≠ []))) H'
theorem ok_law_meets (T : Txt K mg cS cL) : C8.Cal P w K mg base 1 "_law_meets" sp_meets [] := by
  refine calD T.d_law_meets sc_law_meets (fun vs H Q E h => ?_) fun f cdv A outer s H vs Q E hr h => ?_
  · obtain ⟨v1, v2, c1, c2, rfl, _⟩ := h
    rfl
  · obtain ⟨v1, v2, c1, c2, rfl, ⟨a1, rfl, h1⟩, ⟨a2, rfl, h2⟩, hz, q⟩ := h
    refine ⟨_, (pss_one (ps_ret (pe_cmpR op_gt (pe_callB (k_len (K := K)) (by rfl) T.z_len PySem.boot_len (pa_cons (pe_lc (own := [("_law_literal", 2)]) (g := gName 2) rfl sc_law_meets.nd (pi_tup (pv 1)) (blkOk_by (N := n_law_meets) (sc := defScope s_law_meets) (by decide +kernel)) (fun _ _ _ _ _ => pg_name (i := 2) sc_law_meets.nd rfl (Or.inl rfl)) (fun _ _ _ _ _ => pts_one (pt_cmpR (k_in (K := K)) (pv 2) (pv 0) (by rfl))) (fun _ _ _ _ _ => (pv 2))) pa_nil)) pe_int (nomark _)))), ?_⟩
    refine s_ret (ev_is (ev_I0 (ev_lenN (lcI (ls := c2) (fun x => c1.contains x) (fun x => x) (src_tup (ev_var rfl) h2) (by omega) (fun x => rfl) (fun l H1 e _ => et_inT (ev_var rfl) (ev_var rfl) (e _ _ h1)) (fun l H1 e _ _ => ev_var rfl))) ev_c) ?_) q
    rw [List.length_map, List.map_id']
    have e2 : decide (0 < ((hits c2 c1).length : Int)) = decide (hits c2 c1 ≠ []) := by
      rw [decide_eq_decide]
      cases hits c2 c1 with
      | nil => simp
      | cons x r => simp
    exact congrArg V.bl e2
end
end K75
set_option Elab.async false
set_option linter.all false
set_option maxRecDepth 100000
set_option maxHeartbeats 4000000
/-! walks: draws, clauses made -/
namespace K75
open PySem PySem.Spec PyProof.Rows L2 Evl

section
variable {K : PySem.W.Frag} {σ : L2.St} {H : Hp} {ta tb te : TE}
theorem ev_int1 {i : Int} (ha : Ev ta σ H (.int i)) : Ev (tCB (fun xs H Q => (∃ i, xs = [.int i] ∧ Q (.int i) H) ∨ ∃ k, xs = [.bl k] ∧ Q (.int (if k then 1 else 0)) H) (tCons ta tNil)) σ H (.int i) := fun H1 e Q q =>
  ha H1 e _ fun H2 e2 => Or.inl ⟨i, rfl, q H2 e2⟩
/-- an address where the ints ls stand, a list's or a tuple's -/
def IntsAt (H : Hp) (v : V) (ls : List Int) : Prop := ∃ a, v = .ref a ∧ (H a = some (.lst (ls.map V.int)) ∨ H a = some (.tup (ls.map V.int)))
theorem EvL.ints {ls : List Int} (h : EvL te σ H (ls.map V.int)) : EvP te σ H fun v H' => IntsAt H' v ls := fun H1 e Q q => h H1 e Q fun p H2 _ e2 h2 => q _ H2 e2 ⟨p, rfl, .inl h2⟩
theorem EvU.ints {ls : List Int} (h : EvU te σ H (ls.map V.int)) : EvP te σ H fun v H' => IntsAt H' v ls := fun H1 e Q q => h H1 e Q fun p H2 _ e2 h2 => q _ H2 e2 ⟨p, rfl, .inr h2⟩
theorem Ev.intsT {a : Addr} {ls : List Int} (h : Ev te σ H (.ref a)) (ha : H a = some (.tup (ls.map V.int))) : EvP te σ H fun v H' => IntsAt H' v ls := fun H1 e Q q => h H1 e Q fun H2 e2 => q _ H2 e2 ⟨a, rfl, .inr ((e.trans e2) a _ ha)⟩
theorem asc_of_sorted {a b : List Int} (p : a.Perm b) (s : a.Pairwise (· ≤ ·)) (n : b.Nodup) : a = norm b := by
  refine asc_uniq ?_ (asc_norm b) fun x => by rw [mem_norm]; exact p.mem_iff
  have na : a.Nodup := p.nodup_iff.mpr n
  exact (s.and na).imp fun {x y} z => by
    obtain ⟨z1, z2⟩ := z
    omega
/-- tuple(sorted(e)), e without repetitions -/
theorem eu_tsort {ls : List Int} (h : EvP te σ H fun v H' => IntsAt H' v ls) (hn : ls.Nodup) : EvU (tCB (rTup K) (tCons (tCB (rSortedA K) (tCons te tNil)) tNil)) σ H ((norm ls).map V.int) := fun H1 e Q q =>
  h H1 e _ fun v H2 e2 ⟨a, hv, ha⟩ => ⟨a, ls, by rw [hv], ha.elim (fun z => .inl (sq_of z)) (fun z => .inr (st_of z)), fun ns' p hp hs hnew => ⟨p, ns'.map V.int, rfl, .inl ⟨sq_of upd_same, fun l hl => by
    have e3 : Ex H2 (upd H2 p (.lst (ns'.map V.int))) := Ex.new hnew
    have en := asc_of_sorted hp hs hn
    subst en
    exact q l _ (fresh_back (e2.trans e3) hl) ((e2.trans e3).trans (Ex.new hl)) upd_same⟩⟩⟩
end

section
variable {P : Program} {w : World} {K : PySem.W.Frag} {mg : PySem.Str → Option Value} {base : Heap} {cS cL : Addr}

/-! ### cell, draws -/
def sp_cell (K : PySem.W.Frag) : Sp := fun vs H Q _ => ∃ (a : Addr) (ns : List Int) (k : Nat), vs = [.ref a, .int (k : Nat)] ∧ SqL K H a (ns.map V.int) ∧ ∀ (c : Int) H', Ex H H' → Q (.int c) H'
theorem ok_law_cell (T : Txt K mg cS cL) : C8.Cal P w K mg base 1 "_law_cell" (sp_cell K) [] := by
  refine calD T.d_law_cell sc_law_cell (fun vs H Q E h => ?_) fun f cdv A outer s H vs Q E hr h => ?_
  · obtain ⟨a, ns, k, rfl, _⟩ := h
    rfl
  · obtain ⟨a, ns, k, rfl, hs, q⟩ := h
    refine ⟨_, (pss_cons (ps_if (pt_cmpR op_lt (pv 1) (pe_callB (k_len (K := K)) (by rfl) T.z_len PySem.boot_len (pa_cons (pv 0) pa_nil)) (nomark _)) (pss_one (ps_ret (pe_ix (k_ixL (K := K)) (pv 0) (pv 1) (fun _ _ => rfl)))) pss_nil)
      (pss_one (ps_ret pe_int))), ?_⟩
    refine q_when (et_I0 (ev_var rfl) (ev_len (ev_var rfl) hs)) (fun hb H1 e1 => ?_) (fun hb H1 e1 => s_ret ev_c fun H2 e2 => q 0 H2 (e1.trans e2))
    have hk : k < (ns.map V.int).length := by
      have z := of_decide_eq_true hb
      omega
    have hk2 : k < ns.length := by rw [List.length_map] at hk; exact hk
    refine s_ret (Ev.mono e1 (ev_op (ev_var rfl) (ev_var rfl) (rv_ixL (v := .int ns[k]) hs (atI_nat ?_)))) fun H2 e2 => q _ H2 (e1.trans e2)
    rw [List.getElem?_map, List.getElem?_eq_getElem hk2] <;> rfl
def Drawn (ds : List Int) : Prop := ∀ d ∈ ds, 0 ≤ d ∧ d < 4096
def sp_draws : Sp := fun vs H Q _ => ∃ (c : Int) (m : Nat), vs = [.int c, .int (m : Nat)] ∧ m ≤ 1000 ∧ ∀ p ds H', H p = none → Ex H H' → H' p = some (.lst (ds.map V.int)) → ds.length = m → Drawn ds → Q (.ref p) H'
theorem ok_law_draws (T : Txt K mg cS cL) : C8.Cal P w K mg base 1 "_law_draws" sp_draws [] := by
  refine calD T.d_law_draws sc_law_draws (fun vs H Q E h => ?_) fun f cdv A outer s H vs Q E hr h => ?_
  · obtain ⟨c, m, rfl, _⟩ := h
    rfl
  · obtain ⟨c, m, rfl, hm, q⟩ := h
    refine ⟨_, (pss_cons (ps_set (i := 2) sc_law_draws.nd rfl (Or.inl rfl) (pe_lst pa_nil))
      (pss_cons (ps_set (i := 3) sc_law_draws.nd rfl (Or.inl rfl) (pv 0))
      (pss_cons (ps_for PassesOwn.never rfl (pi_range1 (by rfl) T.z_range (pa_cons (pv 1) pa_nil)) (pg_name (i := 4) sc_law_draws.nd rfl (Or.inl rfl))
        (pss_one (ps_if (PW.pt (pw_and (pt_cmpR op_ge (pv 0) (pe_op op_pow pe_int pe_int) (nomark _)) (pw_and1 (pt_cmpR op_gt (pv 3) pe_int (nomark _))))) (pss_cons (ps_expr (pe_bm PySem.F.plainAttrs_list PySem.F.slot_list_append PySem.F.type_list_append mt_append (pv 2) (pa_cons (pe_op op_mod (pe_callTy call_int1 (by rfl) T.z_int (by decide +kernel) (pa_cons (pv 3) pa_nil)) pe_int) pa_nil)))
      (pss_one (ps_set (i := 3) sc_law_draws.nd rfl (Or.inl rfl) (pe_op op_fdiv (pv 3) pe_int)))) (pss_cons (ps_set (i := 5) sc_law_draws.nd rfl (Or.inl rfl) (pe_op op_mod (pe_callTy call_int1 (by rfl) T.z_int (by decide +kernel) (pa_cons (pe_op op_add (pe_op op_mul (pv 0) pe_int) (pe_op op_mul (pe_op op_add (pv 4) pe_int) pe_int)) pa_nil)) pe_int))
      (pss_cons (ps_set (i := 5) sc_law_draws.nd rfl (Or.inl rfl) (pe_op op_mod (pe_callTy call_int1 (by rfl) T.z_int (by decide +kernel) (pa_cons (pe_op op_add (pe_op op_add (pe_op op_mul (pv 5) (pv 5)) (pe_op op_mul (pv 5) pe_int)) (pe_op op_mul (pv 4) pe_int)) pa_nil)) pe_int))
      (pss_cons (ps_set (i := 5) sc_law_draws.nd rfl (Or.inl rfl) (pe_op op_mod (pe_callTy call_int1 (by rfl) T.z_int (by decide +kernel) (pa_cons (pe_op op_add (pe_op op_add (pe_op op_mul (pv 5) (pv 5)) (pv 0)) (pe_op op_mul pe_int (pv 4))) pa_nil)) pe_int))
      (pss_one (ps_expr (pe_bm PySem.F.plainAttrs_list PySem.F.slot_list_append PySem.F.type_list_append mt_append (pv 2) (pa_cons (pe_op op_mod (pe_op op_fdiv (pv 5) pe_int) pe_int) pa_nil))))))))))
      (pss_one (ps_ret (pv 2)))))), ?_⟩
    refine q_asgL (el_lst ea_nil (by decide)) fun p H1 hp e1 h1 => ?_
    refine q_asg (ev_var rfl) fun H2 e2 => ?_
    refine q_forR1 (ea_cons (ev_var rfl) ea_nil) (by omega)
      (fun i σ H' => ∃ (ds : List Int) (left : Int) (x y : Option V), σ = [some (.int c), some (.int (m : Nat)), some (.ref p), some (.int left), x, y] ∧ H' p = some (.lst (ds.map V.int)) ∧ ds.length = i ∧ Drawn ds ∧ Ex H H')
      (fun H3 e3 => ⟨[], c, none, none, rfl, e3 _ _ (e2 _ _ h1), rfl, fun d hd => by simp at hd, (e1.trans e2).trans e3⟩) ?_ ?_
    · rintro i σ H' hi ⟨ds, left, x, y, rfl, hl, hd, hD, hE⟩
      have hz : (ds.map V.int).length < 100000 := by rw [List.length_map]; omega
      have step : ∀ (z : Int) (σ2 : L2.St) (left2 : Int) (y2 : Option V) H3, 0 ≤ z ∧ z < 4096 → Ex H' H3 → σ2 = [some (.int c), some (.int (m : Nat)), some (.ref p), some (.int left2), some (.int (i : Int)), y2] →
          ∃ (ds : List Int) (left : Int) (x y : Option V), σ2 = [some (.int c), some (.int (m : Nat)), some (.ref p), some (.int left), x, y] ∧ (upd H3 p (.lst (ds.map V.int))) p = some (.lst (ds.map V.int)) ∧ ds.length = i + 1 ∧ Drawn ds ∧ Ex H (upd H3 p (.lst (ds.map V.int))) ∧ ds.map V.int = (List.map V.int ds) := fun z σ2 left2 y2 H3 hz e es =>
        ⟨ds ++ [z], left2, _, y2, es, upd_same, by rw [List.length_append, hd] <;> rfl, fun d hm => by
          rcases List.mem_append.mp hm with h | h
          · exact hD d h
          · rw [List.mem_singleton.mp h]; exact hz, Ex.mut (hE.trans e) hp, rfl⟩
      refine s_if (b := decide ((10 : Int) ^ (18 : Int).toNat ≤ c) && decide (0 < left)) (et_and (et_I0 (ev_var rfl) (ev_I ev_c ev_c ⟨by decide, by decide, by decide⟩)) fun _ => et_I0 (ev_var rfl) ev_c) (fun hb H3 e3 => ?_) (fun hb H3 e3 => ?_)
      · refine q_app (e3 _ _ hl) (ev_var rfl) (ev_I (ev_int1 (ev_var rfl)) ev_c (by decide)) hz fun H4 e4 => ?_
        refine s_asg (ev_I (ev_var rfl) ev_c ⟨by decide, by decide⟩) fun H5 e5 => ?_
        have nn : 0 ≤ left % 4096 ∧ left % 4096 < 4096 := ⟨Int.emod_nonneg _ (by decide), Int.emod_lt_of_pos _ (by decide)⟩
        refine ⟨ds ++ [left % 4096], left / 4096, _, y, rfl, ?_, by rw [List.length_append, hd] <;> rfl, fun d hm => ?_, (Ex.mut ((hE.trans e3).trans e4) hp).trans e5⟩
        · rw [List.map_append]
          exact e5 _ _ upd_same
        · rcases List.mem_append.mp hm with h | h
          · exact hD d h
          · rw [List.mem_singleton.mp h]; exact nn
      · refine q_asg (ev_I (ev_int1 (ev_I0 (ev_I (ev_var rfl) ev_c (.inr ⟨by decide, by decide⟩)) (ev_I (ev_I0 (ev_var rfl) ev_c) ev_c (.inr ⟨by decide, by decide⟩)))) ev_c (by decide)) fun H4 e4 => ?_
        generalize hx1 : (c * 48271 + ((i : Int) + 1) * 69621) % 2147483647 = x1
        have b1 : 0 ≤ x1 ∧ x1 < 2147483647 := by
          rw [← hx1]
          exact ⟨Int.emod_nonneg _ (by decide), Int.emod_lt_of_pos _ (by decide)⟩
        refine q_asg (ev_I (ev_int1 (ev_I0 (ev_I0 (ev_I (ev_var rfl) (ev_var rfl) (.inl ⟨by omega, by omega⟩)) (ev_I (ev_var rfl) ev_c (.inr ⟨by decide, by decide⟩))) (ev_I (ev_var rfl) ev_c (.inr ⟨by decide, by decide⟩)))) ev_c (by decide)) fun H5 e5 => ?_
        generalize hx2 : (x1 * x1 + x1 * 16807 + (i : Int) * 7919) % 2147483629 = x2
        have b2 : 0 ≤ x2 ∧ x2 < 2147483629 := by
          rw [← hx2]
          exact ⟨Int.emod_nonneg _ (by decide), Int.emod_lt_of_pos _ (by decide)⟩
        refine q_asg (ev_I (ev_int1 (ev_I0 (ev_I0 (ev_I (ev_var rfl) (ev_var rfl) (.inl ⟨by omega, by omega⟩)) (ev_var rfl)) (ev_I ev_c (ev_var rfl) (.inl ⟨by decide, by decide⟩)))) ev_c (by decide)) fun H6 e6 => ?_
        generalize hx3 : (x2 * x2 + c + 13 * (i : Int)) % 2147483587 = x3
        refine s_app (e6 _ _ (e5 _ _ (e4 _ _ (e3 _ _ hl)))) (ev_var rfl) (ev_I (ev_I (ev_var rfl) ev_c ⟨by decide, by decide⟩) ev_c (by decide)) hz fun H7 e7 => ?_
        have nn : 0 ≤ x3 / 7 % 4096 ∧ x3 / 7 % 4096 < 4096 := ⟨Int.emod_nonneg _ (by decide), Int.emod_lt_of_pos _ (by decide)⟩
        refine ⟨ds ++ [x3 / 7 % 4096], left, _, _, rfl, ?_, by rw [List.length_append, hd] <;> rfl, fun d hm => ?_, Ex.mut (((((hE.trans e3).trans e4).trans e5).trans e6).trans e7) hp⟩
        · rw [List.map_append]
          exact upd_same
        · rcases List.mem_append.mp hm with h | h
          · exact hD d h
          · rw [List.mem_singleton.mp h]; exact nn
    · rintro σ H' ⟨ds, left, x, y, rfl, hl, hd, hD, hE⟩
      exact s_ret (ev_var rfl) fun H3 e3 => q p ds H3 hp (hE.trans e3) (e3 _ _ hl) (by rw [hd]; simp) hD
end
end K75
set_option Elab.async false
set_option linter.all false
set_option maxRecDepth 100000
set_option maxHeartbeats 4000000
/-! walks: clauses made and compared -/
namespace K75
open PySem PySem.Spec PyProof.Rows L2 Evl

/-! ### clauses as data -/
def clD (c : Cl) : PyData := .tuple (c.map .int)
theorem dp_ints {K : PySem.W.Frag} {H : Hp} : ∀ c : List Int, DpAll K H (c.map V.int) (c.map PyData.int)
  | [] => .nil
  | x :: r => .cons (.int x) (dp_ints r)
theorem Cv.dp {K : PySem.W.Frag} {H : Hp} {v : V} {c : Cl} (h : Cv H v c) : Dp K H v (clD c) := by
  obtain ⟨a, rfl, h2⟩ := h
  exact .tup (st_of h2) (dp_ints c)
theorem Cvs.dp {K : PySem.W.Frag} {H : Hp} : ∀ {vs : List V} {cs : List Cl}, Cvs H vs cs → DpAll K H vs (cs.map clD)
  | [], [], _ => .nil
  | [], c :: cs, h => absurd h.len (by simp)
  | v :: vs, [], h => absurd h.len (by simp)
  | v :: vs, c :: cs, h => .cons (Cv.dp (h.at_ 0 v c rfl rfl)) (Cvs.dp ⟨by simpa using h.len, fun i x y h1 h2 => h.at_ (i + 1) x y (by simpa using h1) (by simpa using h2)⟩)
theorem eqv_ints : ∀ c d : List Int, PyData.eqvAll (c.map .int) (d.map .int) = decide (c = d)
  | [], [] => rfl
  | [], y :: d => rfl
  | x :: c, [] => rfl
  | x :: c, y :: d => by
    show (PyData.eqv (.int x) (.int y) && PyData.eqvAll (c.map .int) (d.map .int)) = _
    rw [eqv_ints c d, Bool.eq_iff_iff]
    simp [PyData.eqv]
theorem eqv_cl (c d : Cl) : PyData.eqv (clD c) (clD d) = decide (c = d) := eqv_ints c d
theorem lay_ints : ∀ c : List Int, PyData.canLayAll0 (c.map .int) = true
  | [] => rfl
  | x :: r => by
    show (PyData.canLay0 (.int x) && PyData.canLayAll0 (r.map .int)) = true
    rw [lay_ints r]
    rfl
theorem depth_ints : ∀ c : List Int, PyData.depthAll (c.map .int) = 0
  | [] => rfl
  | x :: r => by
    show max (PyData.depth (.int x)) (PyData.depthAll (r.map .int)) = 0
    rw [depth_ints r]
    rfl
theorem shaped_cl (c : Cl) : SeqAt.shaped (clD c) = true := by
  have h1 : (clD c).canLay0 = true := lay_ints c
  have h2 : (clD c).depth ≤ 64 := by
    show PyData.depthAll (c.map .int) + 1 ≤ 64
    rw [depth_ints]
    decide
  exact Bool.and_eq_true_iff.mpr ⟨h1, decide_eq_true h2⟩
theorem lay_cls : ∀ cs : List Cl, PyData.canLayAll0 (cs.map clD) = true
  | [] => rfl
  | c :: r => by
    show (PyData.canLay0 (clD c) && PyData.canLayAll0 (r.map clD)) = true
    rw [lay_cls r, show (clD c).canLay0 = true from lay_ints c]
    rfl
theorem depth_cls : ∀ cs : List Cl, PyData.depthAll (cs.map clD) ≤ 1
  | [] => Nat.zero_le _
  | c :: r => by
    show max (PyData.depth (clD c)) (PyData.depthAll (r.map clD)) ≤ 1
    have h1 : (clD c).depth = 1 := by
      show PyData.depthAll (c.map .int) + 1 = 1
      rw [depth_ints]
    have := depth_cls r
    omega
theorem shaped_cls (cs : List Cl) : SeqAt.shaped (.list (cs.map clD)) = true ∧ SeqAt.shaped (.tuple (cs.map clD)) = true := by
  have h2 : PyData.depthAll (cs.map clD) + 1 ≤ 64 := by
    have := depth_cls cs
    omega
  exact ⟨Bool.and_eq_true_iff.mpr ⟨lay_cls cs, decide_eq_true h2⟩, Bool.and_eq_true_iff.mpr ⟨lay_cls cs, decide_eq_true h2⟩⟩
theorem any_cls (cs : List Cl) (c : Cl) : (cs.map clD).any (fun z => PyData.eqv z (clD c)) = cs.contains c := by
  rw [List.any_map, List.contains_eq_any_beq]
  congr 1
  funext d
  show PyData.eqv (clD d) (clD c) = (c == d)
  rw [eqv_cl]
  by_cases h : d = c
  · subst h
    rw [decide_eq_true rfl, beq_self_eq_true]
  · rw [decide_eq_false h]
    exact (beq_eq_false_iff_ne.mpr (Ne.symm h)).symm

section
variable {K : PySem.W.Frag} {σ : L2.St} {H : Hp} {ta tb te : TE}
/-- a clause that is there -/
theorem Ev.cv {v : V} {c : Cl} (h : Ev te σ H v) (hc : Cv H v c) : EvP te σ H fun v H' => Cv H' v c := fun H1 e Q q => h H1 e Q fun H2 e2 => q v H2 e2 (hc.t (.ex (e.trans e2)))
theorem EvU.cv {c : Cl} (h : EvU te σ H (c.map V.int)) : EvP te σ H fun v H' => Cv H' v c := fun H1 e Q q => h H1 e Q fun p H2 _ e2 h2 => q _ H2 e2 ⟨p, rfl, h2⟩
/-- c == d, c != d -/
theorem ev_eqC {c d : Cl} (ha : EvP ta σ H fun v H' => Cv H' v c) (hb : EvP tb σ H fun v H' => Cv H' v d) : Ev (tOp (rEqD K) ta tb) σ H (.bl (decide (c = d))) := fun H1 e Q q =>
  ha H1 e _ fun v H2 e2 hv => hb H2 (e.trans e2) _ fun u H3 e3 hu => ⟨clD c, clD d, Cv.dp (hv.t (.ex e3)), Cv.dp hu, shaped_cl c, shaped_cl d, by rw [eqv_cl]; exact q H3 (e2.trans e3)⟩
theorem ev_neC {c d : Cl} (ha : EvP ta σ H fun v H' => Cv H' v c) (hb : EvP tb σ H fun v H' => Cv H' v d) : Ev (tOp (rNeD K) ta tb) σ H (.bl (!decide (c = d))) := fun H1 e Q q =>
  ha H1 e _ fun v H2 e2 hv => hb H2 (e.trans e2) _ fun u H3 e3 hu => ⟨clD c, clD d, Cv.dp (hv.t (.ex e3)), Cv.dp hu, shaped_cl c, shaped_cl d, by rw [eqv_cl]; exact q H3 (e2.trans e3)⟩
/-- c not in a list of clauses, in a tuple of clauses -/
theorem ev_ninL {c : Cl} {cs : List Cl} {a : Addr} {vs : List V} (ha : EvP ta σ H fun v H' => Cv H' v c) (hb : Ev tb σ H (.ref a)) (hl : H a = some (.lst vs)) (hv : Cvs H vs cs) : Ev (tOp (rNotInD K) ta tb) σ H (.bl (!cs.contains c)) := fun H1 e Q q =>
  ha H1 e _ fun v H2 e2 hc => hb H2 (e.trans e2) _ fun H3 e3 => ⟨clD c, cs.map clD, Cv.dp (hc.t (.ex e3)), .lst (sq_of (((e.trans e2).trans e3) a _ hl)) (Cvs.dp (hv.t (.ex ((e.trans e2).trans e3)))), shaped_cl c, (shaped_cls cs).1, by rw [any_cls]; exact q H3 (e2.trans e3)⟩
theorem ev_ninT {c : Cl} {cs : List Cl} {a : Addr} {vs : List V} (ha : EvP ta σ H fun v H' => Cv H' v c) (hb : Ev tb σ H (.ref a)) (hl : H a = some (.tup vs)) (hv : Cvs H vs cs) : Ev (tOp (rInU K) ta tb) σ H (.bl (!cs.contains c)) := fun H1 e Q q =>
  ha H1 e _ fun v H2 e2 hc => hb H2 (e.trans e2) _ fun H3 e3 => ⟨clD c, cs.map clD, Cv.dp (hc.t (.ex e3)), .tup (st_of (((e.trans e2).trans e3) a _ hl)) (Cvs.dp (hv.t (.ex ((e.trans e2).trans e3)))), shaped_cl c, (shaped_cls cs).2, by rw [any_cls]; exact q H3 (e2.trans e3)⟩
/-- an empty tuple written -/
theorem ev_nilC : EvP (tTup tNil) σ H fun v H' => Cv H' v [] := EvU.cv (eu_tup ea_nil (Nat.zero_le _))
/-- a new list's truth -/
theorem et_truL {xs : List V} (h : EvL te σ H xs) : EvT (fun σ H Q => te σ H fun x H' => ∃ k, TruV K x H' k ∧ Q k H') σ H (!xs.isEmpty) := fun H1 e Q q =>
  h H1 e _ fun p H2 _ e2 h2 => ⟨!xs.isEmpty, .inl ⟨xs, sq_of h2, rfl⟩, q H2 e2⟩
/-- tuple(e), e a new list -/
theorem eu_tupL {xs : List V} (h : EvL te σ H xs) : EvU (tCB (rTup K) (tCons te tNil)) σ H xs := fun H1 e Q q => h H1 e _ fun p H2 hp e2 h2 =>
  ⟨p, xs, rfl, .inl ⟨sq_of h2, fun l hl => q l _ (fresh_back e2 hl) (e2.trans (Ex.new hl)) upd_same⟩⟩
theorem eu_tupA {a : Addr} {xs : List V} (h : Ev te σ H (.ref a)) (ha : H a = some (.lst xs)) : EvU (tCB (rTup K) (tCons te tNil)) σ H xs := fun H1 e Q q => h H1 e _ fun H2 e2 =>
  ⟨a, xs, rfl, .inl ⟨sq_of ((e.trans e2) a _ ha), fun l hl => q l _ (fresh_back e2 hl) (e2.trans (Ex.new hl)) upd_same⟩⟩
/-- tuple(sorted(set(e))) -/
theorem eu_setsort {w : World} {ls : List Int} (h : EvP te σ H fun v H' => ∃ a, v = .ref a ∧ H' a = some (.lst (ls.map V.int))) (hz : ls.length < 64) : EvU (tCB (rTup K) (tCons (tCB (rSortedSet w) (tCons (tCB (rSetL K w) (tCons te tNil)) tNil)) tNil)) σ H ((norm ls).map V.int) := fun H1 e Q q =>
  h H1 e _ fun v H2 e2 ⟨a, hv, h2⟩ => ⟨a, ls, by rw [hv], sq_of h2, by omega, fun p c hp hc => by
    have e3 : Ex H2 (upd H2 p (SetO w p (fun j => decide (j ∈ ls)) c)) := Ex.new hp
    refine ⟨p, _, c, rfl, upd_same, by omega, fun ns l hs hm hl hnew => ⟨l, ns.map V.int, rfl, .inl ⟨sq_of upd_same, fun r hr => ?_⟩⟩⟩
    have en : ns = norm ls := asc_uniq hs (asc_norm ls) fun x => by
      rw [hm x, mem_norm]
      exact decide_eq_true_iff
    subst en
    exact q r _ (fresh_back ((e2.trans e3).trans (Ex.new hnew)) hr) (((e2.trans e3).trans (Ex.new hnew)).trans (Ex.new hr)) upd_same⟩
end

/-! ### sorted, with repetitions -/
def insS (x : Int) : List Int → List Int
  | [] => [x]
  | y :: r => if x ≤ y then x :: y :: r else y :: insS x r
def srt : List Int → List Int
  | [] => []
  | x :: r => insS x (srt r)
theorem insS_perm (x : Int) : ∀ l : List Int, (insS x l).Perm (x :: l)
  | [] => List.Perm.refl _
  | y :: r => by
    unfold insS
    split
    · exact List.Perm.refl _
    · exact ((insS_perm x r).cons y).trans (List.Perm.swap x y r)
theorem srt_perm : ∀ l : List Int, (srt l).Perm l
  | [] => List.Perm.refl _
  | x :: r => (insS_perm x (srt r)).trans ((srt_perm r).cons x)
theorem insS_srt (x : Int) : ∀ {l : List Int}, l.Pairwise (· ≤ ·) → (insS x l).Pairwise (· ≤ ·)
  | [], _ => List.pairwise_singleton _ _
  | y :: r, h => by
    obtain ⟨h1, h2⟩ := List.pairwise_cons.mp h
    unfold insS
    split
    · rename_i c
      refine List.pairwise_cons.mpr ⟨fun z hz => ?_, h⟩
      rcases List.mem_cons.mp hz with e | hz
      · rw [e]; exact c
      · have := h1 z hz
        omega
    · refine List.pairwise_cons.mpr ⟨fun z hz => ?_, insS_srt x h2⟩
      rcases List.mem_cons.mp ((insS_perm x r).mem_iff.mp hz) with e | hz
      · omega
      · exact h1 z hz
theorem srt_srt : ∀ l : List Int, (srt l).Pairwise (· ≤ ·)
  | [] => List.Pairwise.nil
  | x :: r => insS_srt x (srt_srt r)
theorem sorted_uniq : ∀ {a b : List Int}, a.Perm b → a.Pairwise (· ≤ ·) → b.Pairwise (· ≤ ·) → a = b
  | [], b, p, _, _ => (List.Perm.eq_nil p.symm).symm
  | x :: a, [], p, _, _ => absurd p.length_eq (by simp)
  | x :: a, y :: b, p, ha, hb => by
    obtain ⟨a1, a2⟩ := List.pairwise_cons.mp ha
    obtain ⟨b1, b2⟩ := List.pairwise_cons.mp hb
    have e : x = y := by
      rcases List.mem_cons.mp (p.mem_iff.mp (List.mem_cons_self (a := x) (l := a))) with e | hx
      · exact e
      · rcases List.mem_cons.mp (p.mem_iff.mpr (List.mem_cons_self (a := y) (l := b))) with e | hy
        · exact e.symm
        · have := a1 y hy
          have := b1 x hx
          omega
    subst e
    rw [sorted_uniq p.cons_inv a2 b2]
theorem el_sorted {K : PySem.W.Frag} {σ : L2.St} {H : Hp} {te : TE} {ls : List Int} (h : EvP te σ H fun v H' => IntsAt H' v ls) : EvL (tCB (rSortedA K) (tCons te tNil)) σ H ((srt ls).map V.int) := fun H1 e Q q =>
  h H1 e _ fun v H2 e2 ⟨a, hv, ha⟩ => ⟨a, ls, by rw [hv], ha.elim (fun z => .inl (sq_of z)) (fun z => .inr (st_of z)), fun ns' p hp hs hnew => by
    have en : ns' = srt ls := sorted_uniq (hp.trans (srt_perm ls).symm) hs (srt_srt ls)
    subst en
    exact q p _ (fresh_back e2 hnew) (e2.trans (Ex.new hnew)) upd_same⟩

section
variable {P : Program} {w : World} {K : PySem.W.Frag} {mg : PySem.Str → Option Value} {base : Heap} {cS cL : Addr}
/-- a clause, or None -/
def Ov (H : Hp) (v : V) : Option Cl → Prop
  | none => v = .non
  | some c => Cv H v c
theorem Ov.t {H H' : Hp} {v : V} {o : Option Cl} (h : Ov H v o) (e : Tst H H') : Ov H' v o := by
  cases o with
  | none => exact h
  | some c => exact Cv.t h e

/-! ### _law_clause_of -/
def sp_clause_of : Sp := fun vs H Q _ => ∃ v ls, vs = [v] ∧ IntsAt H v ls ∧ ls.length ≤ 1000 ∧ ∀ v' H', Ex H H' → Ov H' v' (mkCl ls) → Q v' H'
theorem norm_snoc {l : List Int} {x : Int} (h : ∀ y ∈ l, y ≤ x) : norm (l ++ [x]) = if x ∈ l then norm l else norm l ++ [x] := by
  split
  · rename_i hx
    exact norm_eq fun z => by
      rw [List.mem_append, List.mem_singleton]
      constructor
      · rintro (q | q)
        · exact q
        · rw [q]; exact hx
      · exact .inl
  · rename_i hx
    refine asc_uniq (asc_norm _) ?_ fun z => by rw [mem_norm, List.mem_append, List.mem_append, mem_norm]
    refine List.pairwise_append.mpr ⟨asc_norm l, List.pairwise_singleton _ _, fun a ha b hb => ?_⟩
    rw [List.mem_singleton.mp hb]
    have q := mem_norm.mp ha
    have := h a q
    have : a ≠ x := fun z => hx (by rw [← z]; exact q)
    omega
theorem ok_law_clause_of (T : Txt K mg cS cL) : C8.Cal P w K mg base 1 "_law_clause_of" sp_clause_of [] := by
  refine calD T.d_law_clause_of sc_law_clause_of (fun vs H Q E h => ?_) fun f cdv A outer s H vs Q E hr h => ?_
  · obtain ⟨v, ls, rfl, _⟩ := h
    rfl
  · obtain ⟨v, ls, rfl, ⟨a, rfl, ha⟩, hz, q⟩ := h
    refine ⟨_, (pss_cons (ps_set (i := 1) sc_law_clause_of.nd rfl (Or.inl rfl) (pe_lst pa_nil))
      (pss_cons (ps_for PassesOwn.never rfl (pi_list (pe_callB (k_sortedA (K := K)) (by rfl) T.z_sorted (by decide +kernel) (pa_cons (pv 0) pa_nil))) (pg_name (i := 2) sc_law_clause_of.nd rfl (Or.inl rfl))
        (pss_cons (ps_if (pt_cmpR (k_in (K := K)) (pe_un un_neg (pv 2)) (pv 0) (by rfl)) (pss_one (ps_ret pe_non)) pss_nil)
      (pss_one (ps_if (pt_cmpR (k_nin (K := K)) (pv 2) (pv 1) (by rfl)) (pss_one (ps_expr (pe_bm PySem.F.plainAttrs_list PySem.F.slot_list_append PySem.F.type_list_append mt_append (pv 1) (pa_cons (pv 2) pa_nil)))) pss_nil))))
      (pss_one (ps_ret (pe_callTy (k_tup (K := K)) (by rfl) T.z_tuple (by decide +kernel) (pa_cons (pv 1) pa_nil)))))), ?_⟩
    refine q_asgL (el_lst ea_nil (by decide)) fun p H1 hp e1 h1 => ?_
    have ia : ∀ {σ : L2.St} {H2 : Hp}, Ex H H2 → σ[0]? = some (some (.ref a)) → EvP (tVar 0) σ H2 fun v H' => IntsAt H' v ls := fun e hσ H3 e3 Q q => ⟨_, hσ, q _ _ (Ex.refl _) ⟨a, rfl, ha.imp (fun z => e3 _ _ (e _ _ z)) fun z => e3 _ _ (e _ _ z)⟩⟩
    have sl : (srt ls).length = ls.length := (srt_perm ls).length_eq
    refine q_forNLn (el_sorted (ia e1 rfl)) (fun l i σ H' => ∃ x, σ = [some (.ref a), some (.ref p), x] ∧ H' p = some (.lst ((norm ((srt ls).take i)).map V.int)) ∧ H' l = some (.lst ((srt ls).map V.int)) ∧ (∀ z ∈ (srt ls).take i, -z ∉ ls) ∧ Ex H H' ∧ l ≠ p)
      (fun l H2 hl e2 h2 => ⟨none, rfl, e2 _ _ h1, h2, fun z hz => by simp at hz, e1.trans e2, fun z => by rw [z, h1] at hl; cases hl⟩) (fun l i σ' H' _ ⟨_, _, _, h3, _⟩ => sq_of h3) ?_ ?_
    · rintro l i y σ' H' hi ⟨x, rfl, hp', hl', hn, hE, hne⟩
      rw [List.getElem?_map] at hi
      obtain ⟨z, hz1, rfl⟩ := Option.map_eq_some_iff.mp hi
      have htake : (srt ls).take (i + 1) = (srt ls).take i ++ [z] := by rw [List.take_add_one, hz1] <;> rfl
      have hmem : z ∈ ls := (srt_perm ls).mem_iff.mp (List.mem_of_getElem? hz1)
      have htest : ∀ (u : Int), EvT (tTest (tOp (rIn K false) (tUn (rU fun i => .int (-i)) (tVar 2)) (tVar 0))) ([some (.ref a), some (.ref p), some (V.int z)]) H' (ls.contains (-z)) := fun u => by
        rcases ha with hL | hT
        · exact et_inL (ev_neg (ev_var rfl)) (ev_var rfl) (hE _ _ hL)
        · exact et_inT (ev_neg (ev_var rfl)) (ev_var rfl) (hE _ _ hT)
      refine q_when (htest 0) (fun hb H2 e2 => s_ret ev_c fun H3 e3 => q _ H3 ((hE.trans e2).trans e3) ?_) (fun hb H2 e2 => ?_)
      · have ht : mkCl ls = none := mkCl_none.mpr (taut_iff.mpr ⟨z, hmem, by simpa using hb⟩)
        rw [ht]
        rfl
      · have hb2 : -z ∉ ls := by simpa using hb
        have hnew : ∀ u ∈ (srt ls).take (i + 1), -u ∉ ls := fun u hu => by
          rw [htake] at hu
          rcases List.mem_append.mp hu with c | c
          · exact hn u c
          · rw [List.mem_singleton.mp c]; exact hb2
        have hle : ∀ y ∈ (srt ls).take i, y ≤ z := fun y hy => by
          obtain ⟨j, hj⟩ := List.getElem?_of_mem hy
          have hji : j < i := by
            have := (List.getElem?_eq_some_iff.mp hj).1
            rw [List.length_take] at this
            omega
          rw [List.getElem?_take, if_pos hji] at hj
          obtain ⟨b1, c1⟩ := List.getElem?_eq_some_iff.mp hj
          obtain ⟨b2, c2⟩ := List.getElem?_eq_some_iff.mp hz1
          rw [← c1, ← c2]
          exact List.pairwise_iff_getElem.mp (srt_srt ls) j i b1 b2 hji
        have hs := norm_snoc hle
        rw [← htake] at hs
        refine s_when (et_ninL (ev_var rfl) (ev_var rfl) (e2 _ _ hp')) (fun hc H3 e3 => ?_) (fun hc H3 e3 => ?_)
        · have hc2 : ¬ z ∈ (srt ls).take i := by
            have q1 : z ∉ norm ((srt ls).take i) := by simpa using hc
            exact fun c => q1 (mem_norm.mpr c)
          rw [if_neg hc2] at hs
          refine s_app (e3 _ _ (e2 _ _ hp')) (ev_var rfl) (ev_var rfl) ?_ fun H4 e4 => ?_
          · rw [List.length_map]
            have := norm_len ((srt ls).take i)
            rw [List.length_take] at this
            omega
          · refine ⟨_, rfl, ?_, ?_, hnew, Ex.mut (((hE.trans e2).trans e3).trans e4) hp, hne⟩
            · rw [hs, List.map_append, upd_same] <;> rfl
            · rw [upd_ne hne]
              exact e4 _ _ (e3 _ _ (e2 _ _ hl'))
        · have hc2 : z ∈ (srt ls).take i := by
            have q1 : z ∈ norm ((srt ls).take i) := by simpa using hc
            exact mem_norm.mp q1
          rw [if_pos hc2] at hs
          refine ⟨_, rfl, ?_, e3 _ _ (e2 _ _ hl'), hnew, (hE.trans e2).trans e3, hne⟩
          rw [hs]
          exact e3 _ _ (e2 _ _ hp')
    · rintro l σ' H' ⟨x, rfl, hp', hl', hn, hE, hne⟩
      rw [List.length_map, List.take_length] at hp' hn
      refine s_retU (eu_tupA (ev_var rfl) hp') fun t H2 ht e2 h2 => q _ H2 (hE.trans e2) ?_
      have hno : taut ls = false := by
        cases c : taut ls with
        | false => rfl
        | true =>
          obtain ⟨x, c1, c2⟩ := taut_iff.mp c
          exact absurd c2 (hn x ((srt_perm ls).mem_iff.mpr c1))
      have hmk : mkCl ls = some (norm ls) := mkCl_some.mpr ⟨hno, rfl⟩
      rw [hmk]
      refine ⟨t, rfl, ?_⟩
      rw [h2, norm_eq fun x => (srt_perm ls).mem_iff]

/-! ### made_clause -/
def sp_made_clause : Sp := fun vs H Q _ => ∃ a ls, vs = [.ref a] ∧ H a = some (.lst (ls.map V.int)) ∧ ls.length < 64 ∧ ∀ v' H', Ex H H' → Ov H' v' (mkCl ls) → Q v' H'
theorem ok_made_clause (T : Txt K mg cS cL) : C8.Cal P w K mg base 1 "made_clause" sp_made_clause [] := by
  refine calD T.d_made_clause sc_made_clause (fun vs H Q E h => ?_) fun f cdv A outer s H vs Q E hr h => ?_
  · obtain ⟨a, ls, rfl, _⟩ := h
    rfl
  · obtain ⟨a, ls, rfl, ha, hz, q⟩ := h
    refine ⟨_, (pss_cons (ps_if (pt_truth (pe_lc (own := [("literal", 1)]) (g := gName 1) rfl sc_made_clause.nd (pi_list (pv 0)) (blkOk_by (N := n_made_clause) (sc := defScope s_made_clause) (by decide +kernel)) (fun _ _ _ _ _ => pg_name (i := 1) sc_made_clause.nd rfl (Or.inl rfl)) (fun _ _ _ _ _ => pts_one (pt_cmpR (k_in (K := K)) (pe_un un_neg (pv 1)) (pv 0) (by rfl))) (fun _ _ _ _ _ => (pv 1))) (by intro _; rfl)) (pss_one (ps_ret pe_non)) pss_nil)
      (pss_one (ps_ret (pe_callTy (k_tup (K := K)) (by rfl) T.z_tuple (by decide +kernel) (pa_cons (pe_callB (cr_sortedSet rfl) (by rfl) T.z_sorted (by decide +kernel) (pa_cons (pe_callTy (cr_setL rfl) (by rfl) T.z_set (by decide +kernel) (pa_cons (pv 0) pa_nil)) pa_nil)) pa_nil))))), ?_⟩
    have hsrc : EvL (tLc (iList K (tVar 0)) (gName 1) (tTest (tOp (rIn K false) (tUn (rU fun i => .int (-i)) (tVar 1)) (tVar 0))) (tVar 1) [1]) (L2.start n_made_clause [.ref a]) H (((ls.filter fun x => ls.contains (-x)).map fun x => x).map V.int) :=
      lcI (ls := ls) (fun x => ls.contains (-x)) (fun x => x) (src_list (ev_var rfl) ha) (by omega) (fun x => rfl) (fun l H1 e _ => et_inL (ev_neg (ev_var rfl)) (ev_var rfl) (e _ _ ha)) (fun l H1 e _ _ => ev_var rfl)
    have ht : (!(((ls.filter fun x => ls.contains (-x)).map fun x => x).map V.int).isEmpty) = taut ls := by
      unfold taut
      rw [Bool.eq_iff_iff]
      simp
    refine q_when (et_is (et_truL hsrc) ht) (fun hb H1 e1 => s_ret ev_c fun H2 e2 => q _ H2 (e1.trans e2) ?_) (fun hb H1 e1 => ?_)
    · rw [mkCl_none.mpr hb]
      rfl
    · refine s_retU (eu_setsort (fun H2 e2 Q2 q2 => ⟨_, rfl, q2 _ _ (Ex.refl _) ⟨a, rfl, e2 _ _ (e1 _ _ ha)⟩⟩) hz) fun t H2 ht2 e2 h2 => q _ H2 (e1.trans e2) ?_
      rw [mkCl_some.mpr ⟨hb, rfl⟩]
      exact ⟨t, rfl, h2⟩

/-! ### opposite, ints, is_tuple -/
/-- the negations of the literals -/
def neg (c : Cl) : Cl := norm (c.map fun x => -x)
theorem mem_neg {c : Cl} {x : Int} : x ∈ neg c ↔ -x ∈ c := by
  unfold neg
  rw [mem_norm, List.mem_map]
  constructor
  · rintro ⟨y, h, rfl⟩
    simpa using h
  · intro h
    exact ⟨-x, h, by omega⟩
def sp_opposite : Sp := fun vs H Q _ => ∃ v c, vs = [v] ∧ Cv H v c ∧ c.Nodup ∧ c.length ≤ 1000 ∧ ∀ v' H', Ex H H' → Cv H' v' (neg c) → Q v' H'
theorem ok_law_opposite (T : Txt K mg cS cL) : C8.Cal P w K mg base 1 "_law_opposite" sp_opposite [] := by
  refine calD T.d_law_opposite sc_law_opposite (fun vs H Q E h => ?_) fun f cdv A outer s H vs Q E hr h => ?_
  · obtain ⟨v, c, rfl, _⟩ := h
    rfl
  · obtain ⟨v, c, rfl, ⟨a, rfl, ha⟩, hn, hz, q⟩ := h
    refine ⟨_, (pss_one (ps_ret (pe_callTy (k_tup (K := K)) (by rfl) T.z_tuple (by decide +kernel) (pa_cons (pe_callB (k_sortedA (K := K)) (by rfl) T.z_sorted (by decide +kernel) (pa_cons (pe_lc (own := [("_law_literal", 1)]) (g := gName 1) rfl sc_law_opposite.nd (pi_tup (pv 0)) (blkOk_by (N := n_law_opposite) (sc := defScope s_law_opposite) (by decide +kernel)) (fun _ _ _ _ _ => pg_name (i := 1) sc_law_opposite.nd rfl (Or.inl rfl)) (fun _ _ _ _ _ => pts_nil) (fun _ _ _ _ _ => (pe_un un_neg (pv 1)))) pa_nil)) pa_nil)))), ?_⟩
    have hd : (((c.filter fun _ => true).map fun x => -x)).Nodup := by
      rw [List.filter_eq_self.mpr fun _ _ => rfl]
      exact List.Pairwise.map _ (fun x y h z => h (by omega)) hn
    refine s_retU (eu_tsort (EvL.ints (lcI (ls := c) (fun _ => true) (fun x => -x) (src_tup (ev_var rfl) ha) (by omega) (fun x => rfl) (fun l H1 e _ => et_yes) (fun l H1 e _ _ => ev_neg (ev_var rfl)))) hd) fun t H1 _ e1 h1 => q _ H1 e1 ⟨t, rfl, ?_⟩
    rw [h1, List.filter_eq_self.mpr fun _ _ => rfl] <;> rfl
def sp_ints : Sp := fun vs H Q _ => ∃ v c, vs = [v, .str "tuple"] ∧ Cv H v c ∧ c.length ≤ 1000 ∧ ∀ H', Ex H H' → Q (.bl true) H'
theorem ok_law_ints (T : Txt K mg cS cL) : C8.Cal P w K mg base 2 "_law_ints" sp_ints [] := by
  have G_law_is_int : C8.Cal P w K mg base 1 "_law_is_int" sp_isint [] := ok_law_is_int T
  refine calD T.d_law_ints sc_law_ints (fun vs H Q E h => ?_) fun f cdv A outer s H vs Q E hr h => ?_
  · obtain ⟨v, c, rfl, _⟩ := h
    rfl
  · obtain ⟨v, c, rfl, ⟨a, rfl, ha⟩, hz, q⟩ := h
    refine ⟨_, (pss_cons (ps_if (pt_cmpR op_eq (pv 1) pe_str (nomark _)) (pss_one (ps_if (pt_not (pt_val (pe_callB (k_isi (K := K)) (by rfl) T.z_isinstance (by decide +kernel) (pa_cons (pv 0) (pa_cons (pe_bltn (v := .ty "list") (by rfl) T.z_list (by decide +kernel) rfl) pa_nil))))) (pss_one (ps_ret pe_bl)) pss_nil)) (pss_one (ps_if (pt_not (pt_val (pe_callB (k_isi (K := K)) (by rfl) T.z_isinstance (by decide +kernel) (pa_cons (pv 0) (pa_cons (pe_bltn (v := .ty "tuple") (by rfl) T.z_tuple (by decide +kernel) rfl) pa_nil))))) (pss_one (ps_ret pe_bl)) pss_nil)))
      (pss_cons (ps_for PassesOwn.never rfl (pi_range1 (by rfl) T.z_range (pa_cons (pe_callB (k_len (K := K)) (by rfl) T.z_len PySem.boot_len (pa_cons (pv 0) pa_nil)) pa_nil)) (pg_name (i := 2) sc_law_ints.nd rfl (Or.inl rfl))
        (pss_one (ps_if (pt_not (pt_val (C8.pe_c G_law_is_int hr (by decide) (by rfl) (pa_cons (pe_ix (k_ixT (K := K)) (pv 0) (pv 2) (fun _ _ => rfl)) pa_nil)))) (pss_one (ps_ret pe_bl)) pss_nil)))
      (pss_one (ps_ret pe_bl)))), ?_⟩
    refine q_if (b := false) (et_is (et_test (ev_op (ev_var rfl) ev_c (rv_eq rfl))) (by decide +kernel)) (fun hb => absurd hb (by decide)) fun _ H1 e1 => ?_
    refine s_when (b := false) (et_not (a := true) (et_B (ev_isiT (ev_var rfl) ev_c (e1 _ _ ha) (by decide +kernel)))) (fun hb => absurd hb (by decide)) fun _ H2 e2 => ?_
    refine q_forR1 (n := ((c.length : Nat) : Int)) (ea_cons (ev_is (ev_lenT (ev_var rfl) (e2 _ _ (e1 _ _ ha))) (by rw [List.length_map])) ea_nil) (by omega)
      (fun i σ H' => ∃ x, σ = [some (.ref a), some (.str "tuple"), x] ∧ Ex H H') (fun H3 e3 => ⟨none, rfl, (e1.trans e2).trans e3⟩) ?_ ?_
    · rintro i σ H' hi ⟨x, rfl, hE⟩
      have hi2 : i < c.length := by omega
      refine s_when (b := false) (et_not (a := true) (et_B (ev_isint (i := c[i]) (ev_op (ev_var rfl) (ev_var rfl) (rv_ixT (st_of (hE _ _ ha)) (atI_nat ?_)))))) (fun hb => absurd hb (by decide)) fun _ H3 e3 => ⟨_, rfl, hE.trans e3⟩
      rw [List.getElem?_map, List.getElem?_eq_getElem hi2] <;> rfl
    · rintro σ H' ⟨x, rfl, hE⟩
      exact s_ret ev_c fun H3 e3 => q H3 (hE.trans e3)
theorem ev_lints {σ : L2.St} {H : Hp} {ta tb : TE} {c : Cl} {E : XK} (ha : EvP ta σ H fun v H' => Cv H' v c) (hb : Ev tb σ H (.str "tuple")) (hz : c.length ≤ 1000) : Ev (tCall sp_ints [] E (tCons ta (tCons tb tNil))) σ H (.bl true) := fun H1 e Q q =>
  ha H1 e _ fun v H2 e2 hv => hb H2 (e.trans e2) _ fun H3 e3 => ⟨v, c, rfl, hv.t (.ex e3), hz, fun H4 e4 => q H4 ((e2.trans e3).trans e4)⟩
def sp_is_tuple : Sp := fun vs H Q _ => ∃ v1 v2 c1 c2, vs = [v1, v2] ∧ Cv H v1 c1 ∧ Cv H v2 c2 ∧ c1.length ≤ 1000 ∧ ∀ H', Ex H H' → Q (.bl (decide (c1 = c2))) H'
theorem ok_law_is_tuple (T : Txt K mg cS cL) : C8.Cal P w K mg base 3 "_law_is_tuple" sp_is_tuple [] := by
  have G_law_ints : C8.Cal P w K mg base 2 "_law_ints" sp_ints [] := ok_law_ints T
  refine calD T.d_law_is_tuple sc_law_is_tuple (fun vs H Q E h => ?_) fun f cdv A outer s H vs Q E hr h => ?_
  · obtain ⟨v1, v2, c1, c2, rfl, _⟩ := h
    rfl
  · obtain ⟨v1, v2, c1, c2, rfl, h1, h2, hz, q⟩ := h
    refine ⟨_, (pss_one (ps_ret (pe_and (C8.pe_c G_law_ints hr (by decide) (by rfl) (pa_cons (pv 0) (pa_cons pe_str pa_nil))) (pe_one (pe_cmpR (k_eqD (K := K) hr.units) (pv 0) (pv 1) (nomark _)))))), ?_⟩
    exact s_ret (ev_is (ev_andV (ev_lints (Ev.cv (ev_var rfl) h1) ev_c hz) fun _ => ev_eqC (Ev.cv (ev_var rfl) h1) (Ev.cv (ev_var rfl) h2)) (by rw [Bool.true_and])) q
end
end K75
set_option Elab.async false
set_option linter.all false
set_option maxRecDepth 100000
set_option maxHeartbeats 4000000
/-! walks: the package's resolution -/
namespace K75
open PySem PySem.Spec PyProof.Rows L2 Evl

/-! ### steps as values -/
def Sv (H : Hp) (v : V) : Step → Prop
  | .ax i => ∃ a, v = .ref a ∧ H a = some (.tup [.str "axiom", .int (i : Nat)])
  | .res i j x => ∃ a, v = .ref a ∧ H a = some (.tup [.str "resolve", .int (i : Nat), .int (j : Nat), .int x])
theorem Sv.t {H H' : Hp} {v : V} {s : Step} (h : Sv H v s) (e : Tst H H') : Sv H' v s := by
  cases s with
  | ax i =>
    obtain ⟨a, h1, h2⟩ := h
    exact ⟨a, h1, e a _ h2⟩
  | res i j x =>
    obtain ⟨a, h1, h2⟩ := h
    exact ⟨a, h1, e a _ h2⟩
abbrev Svs (H : Hp) : List V → List Step → Prop := All2 (Sv H)
theorem Svs.t {H H' : Hp} {vs : List V} {ss : List Step} (h : Svs H vs ss) (e : Tst H H') : Svs H' vs ss := h.mono fun _ _ c => c.t e

section
variable {K : PySem.W.Frag} {σ : L2.St} {H : Hp} {ta tb tc te : TE}
theorem el_cat {xs ys : List V} (ha : EvL ta σ H xs) (hb : EvL tb σ H ys) (hz : xs.length + ys.length ≤ 100000) : EvL (tOp rCat ta tb) σ H (xs ++ ys) := fun H1 e Q q =>
  ha H1 e _ fun p H2 hp e2 h2 => hb H2 (e.trans e2) _ fun r H3 hr e3 h3 => ⟨p, r, xs, ys, rfl, rfl, e3 _ _ h2, h3, sz_of hz, fun t ht => q t _ (fresh_back (e2.trans e3) ht) ((e2.trans e3).trans (Ex.new ht)) upd_same⟩
theorem ev_ixT {a : Addr} {xs : List V} {i : Int} {v : V} (ha : Ev ta σ H (.ref a)) (hb : Ev tb σ H (.int i)) (h : H a = some (.tup xs)) (hi : atI xs i = some v) : Ev (tOp (rIxT K) ta tb) σ H v := ev_op ha hb (rv_ixT (st_of h) hi)
theorem ev_ixL {a : Addr} {xs : List V} {i : Int} {v : V} (ha : Ev ta σ H (.ref a)) (hb : Ev tb σ H (.int i)) (h : H a = some (.lst xs)) (hi : atI xs i = some v) : Ev (tOp (rIxL K) ta tb) σ H v := ev_op ha hb (rv_ixL (sq_of h) hi)
theorem et_chain {i j k : Int} {f g : Int → Int → Bool} (ha : Ev ta σ H (.int i)) (hb : Ev tb σ H (.int j)) (hc : Ev tc σ H (.int k)) :
    EvT (tTest (tChain (rI0 fun i j => .bl (f i j)) (rI0 fun i j => .bl (g i j)) ta tb tc)) σ H (f i j && g j k) := fun H1 e Q q =>
  ha H1 e _ fun H2 e2 => hb H2 (e.trans e2) _ fun H3 e3 => ⟨i, j, rfl, rfl, f i j, rfl, by
    cases hf : f i j with
    | true =>
      show tc σ H3 _
      refine hc H3 ((e.trans e2).trans e3) _ fun H4 e4 => ⟨j, k, rfl, rfl, g j k, rfl, ?_⟩
      have z := q H4 ((e2.trans e3).trans e4)
      rw [hf, Bool.true_and] at z
      exact z
    | false =>
      refine ⟨false, rfl, ?_⟩
      have z := q H3 (e2.trans e3)
      rw [hf, Bool.false_and] at z
      exact z⟩
theorem et_isN {x : V} (ha : Ev ta σ H x) : EvT (tTest (tOp (fun x y H Q => y = .non ∧ Q (.bl (decide (x = .non))) H) ta (tC .non))) σ H (decide (x = .non)) := fun H1 e Q q =>
  ha H1 e _ fun H2 e2 => ⟨rfl, _, rfl, q H2 e2⟩
theorem et_notN {x : V} (ha : Ev ta σ H x) : EvT (tTest (tOp (fun x y H Q => y = .non ∧ Q (.bl (!decide (x = .non))) H) ta (tC .non))) σ H (!decide (x = .non)) := fun H1 e Q q =>
  ha H1 e _ fun H2 e2 => ⟨rfl, _, rfl, q H2 e2⟩
theorem et_eqS {x y : PySem.Str} {b : Bool} (ha : Ev ta σ H (.str x)) (hb : Ev tb σ H (.str y)) (h : decide (V.str x = V.str y) = b) : EvT (tTest (tOp rEq ta tb)) σ H b := et_is (et_test (ev_op ha hb (rv_eq rfl))) h
theorem at_int {xs : List V} {j : Nat} {i : Int} {v : V} (h : xs[j]? = some v) (e : i = (j : Nat)) : atI xs i = some v := by
  rw [e]
  exact atI_nat h
theorem at_map {c : List Int} {j : Nat} {x : Int} (h : c[j]? = some x) : (c.map V.int)[j]? = some (.int x) := by
  rw [List.getElem?_map, h] <;> rfl
/-- a tuple made of a list that a call made -/
theorem ep_tupL {cs : List Cl} (h : EvP te σ H fun v H' => Lv H' v cs) : EvP (tCB (rTup K) (tCons te tNil)) σ H fun v H' => Tv H' v cs := fun H1 e Q q => h H1 e _ fun v H2 e2 ⟨a, vs, hv, ha, hc⟩ =>
  ⟨a, vs, by rw [hv], .inl ⟨sq_of ha, fun l hl => q _ _ (e2.trans (Ex.new hl)) ⟨l, vs, rfl, upd_same, hc.t (Tst.new hl)⟩⟩⟩
end

section
variable {P : Program} {w : World} {K : PySem.W.Frag} {mg : PySem.Str → Option Value} {base : Heap} {cS cL : Addr}
theorem filt_id (c : List Int) : (c.map fun x => x) = c := List.map_id' c
/-! ### resolvent -/
def sp_resolvent : Sp := fun vs H Q _ => ∃ v1 v2 x p q, vs = [v1, v2, .int x] ∧ Cv H v1 p ∧ Cv H v2 q ∧ p.length ≤ 30 ∧ q.length ≤ 30 ∧ ∀ v H', Ex H H' → Ov H' v (resv p q x) → Q v H'
theorem ok_resolvent (T : Txt K mg cS cL) : C8.Cal P w K mg base 2 "resolvent" sp_resolvent [] := by
  have G_made_clause : C8.Cal P w K mg base 1 "made_clause" sp_made_clause [] := ok_made_clause T
  refine calD T.d_resolvent sc_resolvent (fun vs H Q E h => ?_) fun f cdv A outer s H vs Q E hr h => ?_
  · obtain ⟨v1, v2, x, p, q, rfl, _⟩ := h
    rfl
  · obtain ⟨v1, v2, x, p, q, rfl, ⟨a, rfl, ha⟩, ⟨b, rfl, hb⟩, hp, hq, k⟩ := h
    refine ⟨_, (pss_cons (ps_if (PW.pt (pw_or (pt_cmpR (k_nin (K := K)) (pv 2) (pv 0) (by rfl)) (pw_or1 (pt_cmpR (k_nin (K := K)) (pe_un un_neg (pv 2)) (pv 1) (by rfl))))) (pss_one (ps_ret pe_non)) pss_nil)
      (pss_one (ps_ret (C8.pe_c G_made_clause hr (by decide) (by rfl) (pa_cons (pe_op op_cat (pe_lc (own := [("a", 3)]) (g := gName 3) rfl sc_resolvent.nd (pi_tup (pv 0)) (blkOk_by (N := n_resolvent) (sc := defScope s_resolvent) (by decide +kernel)) (fun _ _ _ _ _ => pg_name (i := 3) sc_resolvent.nd rfl (Or.inl rfl)) (fun _ _ _ _ _ => pts_one (pt_cmpR op_ne (pv 3) (pv 2) (nomark _))) (fun _ _ _ _ _ => (pv 3))) (pe_lc (own := [("b", 4)]) (g := gName 4) rfl sc_resolvent.nd (pi_tup (pv 1)) (blkOk_by (N := n_resolvent) (sc := defScope s_resolvent) (by decide +kernel)) (fun _ _ _ _ _ => pg_name (i := 4) sc_resolvent.nd rfl (Or.inl rfl)) (fun _ _ _ _ _ => pts_one (pt_cmpR op_ne (pv 4) (pe_un un_neg (pv 2)) (nomark _))) (fun _ _ _ _ _ => (pv 4)))) pa_nil))))), ?_⟩
    refine q_when (et_or (et_ninT (ev_var rfl) (ev_var rfl) ha) fun _ => et_ninT (ev_neg (ev_var rfl)) (ev_var rfl) hb) (fun ht H1 e1 => s_ret ev_c fun H2 e2 => k _ H2 (e1.trans e2) ?_) (fun ht H1 e1 => ?_)
    · have hn : resv p q x = none := by
        unfold resv
        rw [if_neg]
        intro c
        simp [c.1, c.2] at ht
      rw [hn]
      rfl
    · have hy : resv p q x = mkCl (without p x ++ without q (-x)) := by
        unfold resv
        rw [if_pos]
        simpa using ht
      have l1 : (without p x).length ≤ p.length := List.length_filter_le ..
      have l2 : (without q (-x)).length ≤ q.length := List.length_filter_le ..
      have lc : EvL _ _ H1 (((without p x).map V.int) ++ ((without q (-x)).map V.int)) := el_cat
        (by have z := lcI (wi := iTup K (tVar 0)) (t := tTest (tOp rNe (tVar 3) (tVar 2))) (te := tVar 3) (j := 3) (vs := [3]) (σ := L2.start n_resolvent [.ref a, .ref b, .int x]) (H := H1) (ls := p) (fun y => !decide (y = x)) (fun y => y) (src_tup (ev_var rfl) (e1 _ _ ha)) (by omega) (fun x => rfl) (fun l H2 e _ => et_neI (ev_var rfl) (ev_var rfl)) (fun l H2 e _ _ => ev_var rfl)
            rw [filt_id] at z
            exact z)
        (by have z := lcI (wi := iTup K (tVar 1)) (t := tTest (tOp rNe (tVar 4) (tUn (rU fun i => .int (-i)) (tVar 2)))) (te := tVar 4) (j := 4) (vs := [4]) (σ := L2.start n_resolvent [.ref a, .ref b, .int x]) (H := H1) (ls := q) (fun y => !decide (y = -x)) (fun y => y) (src_tup (ev_var rfl) (e1 _ _ hb)) (by omega) (fun x => rfl) (fun l H2 e _ => et_neI (ev_var rfl) (ev_neg (ev_var rfl))) (fun l H2 e _ _ => ev_var rfl)
            rw [filt_id] at z
            exact z) (by rw [List.length_map, List.length_map]; omega)
      rw [← List.map_append] at lc
      refine lc H1 (Ex.refl _) _ fun t H2 ht2 e2 h2 => ⟨t, _, rfl, h2, by rw [List.length_append]; omega, fun v H3 e3 hv => k v H3 ((e1.trans e2).trans e3) ?_⟩
      rw [hy]
      exact hv
/-! ### axiom_clause, resolved_clause, next_clause -/
def sp_axiom_clause : Sp := fun vs H Q _ => ∃ v1 v2 n cs i c, vs = [v1, v2] ∧ Fv H v1 n cs ∧ Sv H v2 (.ax i) ∧ cs[i]? = some c ∧ ∀ v H', Ex H H' → Cv H' v c → Q v H'
theorem ok_axiom_clause (T : Txt K mg cS cL) : C8.Cal P w K mg base 3 "axiom_clause" sp_axiom_clause [] := by
  have G_is_number : C8.Cal P w K mg base 2 "is_number" sp_is_number [] := ok_is_number T
  refine calD T.d_axiom_clause sc_axiom_clause (fun vs H Q E h => ?_) fun f cdv A outer s H vs Q E hr h => ?_
  · obtain ⟨v1, v2, n, cs, i, c, rfl, _⟩ := h
    rfl
  · obtain ⟨v1, v2, n, cs, i, c, rfl, ⟨a, b, vs, rfl, h1, h2, h3⟩, ⟨r, rfl, hs⟩, hc, k⟩ := h
    refine ⟨_, (pss_cons (ps_if (PW.pt (pw_or (pt_cmpR op_ne (pe_callB (k_len (K := K)) (by rfl) T.z_len PySem.boot_len (pa_cons (pv 1) pa_nil)) pe_int (nomark _)) (pw_or (pt_not (pt_val (C8.pe_c G_is_number hr (by decide) (by rfl) (pa_cons (pe_ix (k_ixT (K := K)) (pv 1) pe_int (fun _ _ => rfl)) pa_nil)))) (pw_or1 (pt_cmpR op_ge (pe_ix (k_ixT (K := K)) (pv 1) pe_int (fun _ _ => rfl)) (pe_callB (k_len (K := K)) (by rfl) T.z_len PySem.boot_len (pa_cons (pe_ix (k_ixT (K := K)) (pv 0) pe_int (fun _ _ => rfl)) pa_nil)) (nomark _)))))) (pss_one (ps_ret pe_non)) pss_nil)
      (pss_one (ps_ret (pe_ix (k_ixT (K := K)) (pe_ix (k_ixT (K := K)) (pv 0) pe_int (fun _ _ => rfl)) (pe_ix (k_ixT (K := K)) (pv 1) pe_int (fun _ _ => rfl)) (fun _ _ => rfl))))), ?_⟩
    obtain ⟨u, hu, hcu⟩ := h3.right hc
    have hi : i < vs.length := (List.getElem?_eq_some_iff.mp hu).1
    refine q_when (b := false) (et_is (et_or (et_neI (ev_lenT (ev_var rfl) hs) ev_c) fun _ => et_or (et_not (et_B (ev_isnum (i := (i : Nat)) (ev_ixT (ev_var rfl) ev_c hs rfl)))) fun _ => et_I0 (ev_ixT (ev_var rfl) ev_c hs rfl) (ev_lenT (ev_ixT (ev_var rfl) ev_c h1 rfl) h2)) ?_) (fun z => by cases z) (fun _ H1 e1 => ?_)
    · have z1 : decide ((vs.length : Int) ≤ (i : Int)) = false := decide_eq_false (by omega)
      have z2 : decide ((0 : Int) ≤ (i : Int)) = true := decide_eq_true (by omega)
      rw [z1, z2]
      rfl
    · exact s_ret (Ev.mono e1 (ev_ixT (ev_ixT (ev_var rfl) ev_c h1 rfl) (ev_ixT (ev_var rfl) ev_c hs rfl) h2 (atI_nat hu))) fun H2 e2 => k u H2 (e1.trans e2) (hcu.t (.ex (e1.trans e2)))
def sp_resolved_clause : Sp := fun vs H Q _ => ∃ v1 a v3 n cs dvs ds i j x d, vs = [v1, .ref a, v3] ∧ Fv H v1 n cs ∧ H a = some (.lst dvs) ∧ Cvs H dvs ds ∧ Sv H v3 (.res i j x) ∧ (0 < x ∧ x ≤ n) ∧ (∀ e ∈ ds, e.length ≤ 30) ∧ stepC cs ds (.res i j x) = some d ∧ ∀ v H', Ex H H' → Cv H' v d → Q v H'
theorem ok_resolved_clause (T : Txt K mg cS cL) : C8.Cal P w K mg base 4 "resolved_clause" sp_resolved_clause [] := by
  have G_is_number : C8.Cal P w K mg base 2 "is_number" sp_is_number [] := ok_is_number T
  have G_is_earlier : C8.Cal P w K mg base 3 "is_earlier" sp_is_earlier [] := ok_is_earlier T
  have G_resolvent : C8.Cal P w K mg base 2 "resolvent" sp_resolvent [] := ok_resolvent T
  refine calD T.d_resolved_clause sc_resolved_clause (fun vs H Q E h => ?_) fun f cdv A outer s H vs Q E hr h => ?_
  · obtain ⟨v1, a, v3, n, cs, dvs, ds, i, j, x, d, rfl, _⟩ := h
    rfl
  · obtain ⟨v1, a, v3, n, cs, dvs, ds, i, j, x, d, rfl, ⟨b, b2, vs, rfl, h1, h2, h3⟩, ha, hd, ⟨r, rfl, hs⟩, hx, hz, hst, k⟩ := h
    refine ⟨_, (pss_cons (ps_if (PW.pt (pw_or (pt_cmpR op_ne (pe_callB (k_len (K := K)) (by rfl) T.z_len PySem.boot_len (pa_cons (pv 2) pa_nil)) pe_int (nomark _)) (pw_or (pt_not (pt_val (C8.pe_c G_is_earlier hr (by decide) (by rfl) (pa_cons (pe_ix (k_ixT (K := K)) (pv 2) pe_int (fun _ _ => rfl)) (pa_cons (pe_callB (k_len (K := K)) (by rfl) T.z_len PySem.boot_len (pa_cons (pv 1) pa_nil)) pa_nil))))) (pw_or1 (pt_not (pt_val (C8.pe_c G_is_earlier hr (by decide) (by rfl) (pa_cons (pe_ix (k_ixT (K := K)) (pv 2) pe_int (fun _ _ => rfl)) (pa_cons (pe_callB (k_len (K := K)) (by rfl) T.z_len PySem.boot_len (pa_cons (pv 1) pa_nil)) pa_nil))))))))) (pss_one (ps_ret pe_non)) pss_nil)
      (pss_cons (ps_if (PW.pt (pw_or (pt_not (pt_val (C8.pe_c G_is_number hr (by decide) (by rfl) (pa_cons (pe_ix (k_ixT (K := K)) (pv 2) pe_int (fun _ _ => rfl)) pa_nil)))) (pw_or1 (pt_not (pt_chain op_lt op_le pe_int (pe_ix (k_ixT (K := K)) (pv 2) pe_int (fun _ _ => rfl)) (pe_ix (k_ixT (K := K)) (pv 0) pe_int (fun _ _ => rfl))))))) (pss_one (ps_ret pe_non)) pss_nil)
      (pss_one (ps_ret (C8.pe_c G_resolvent hr (by decide) (by rfl) (pa_cons (pe_ix (k_ixL (K := K)) (pv 1) (pe_ix (k_ixT (K := K)) (pv 2) pe_int (fun _ _ => rfl)) (fun _ _ => rfl)) (pa_cons (pe_ix (k_ixL (K := K)) (pv 1) (pe_ix (k_ixT (K := K)) (pv 2) pe_int (fun _ _ => rfl)) (fun _ _ => rfl)) (pa_cons (pe_ix (k_ixT (K := K)) (pv 2) pe_int (fun _ _ => rfl)) pa_nil)))))))), ?_⟩
    obtain ⟨p, q, hp, hq, m1, m2, hmk⟩ := stepC_res hst
    obtain ⟨u, hu, hcu⟩ := hd.right hp
    obtain ⟨y, hy, hcy⟩ := hd.right hq
    have hi : i < dvs.length := (List.getElem?_eq_some_iff.mp hu).1
    have hj : j < dvs.length := (List.getElem?_eq_some_iff.mp hy).1
    refine q_when (b := false) (et_is (et_or (et_neI (ev_lenT (ev_var rfl) hs) ev_c) fun _ => et_or (et_not (et_B (ev_isear (i := (i : Nat)) (ev_ixT (ev_var rfl) ev_c hs rfl) (ev_lenL (ev_var rfl) ha)))) fun _ => et_not (et_B (ev_isear (i := (j : Nat)) (ev_ixT (ev_var rfl) ev_c hs rfl) (ev_lenL (ev_var rfl) ha)))) ?_) (fun z => by cases z) (fun _ H1 e1 => ?_)
    · have z1 : decide ((i : Int) < (dvs.length : Int)) = true := decide_eq_true (by omega)
      have z2 : decide ((0 : Int) ≤ (i : Int)) = true := decide_eq_true (by omega)
      have z3 : decide ((j : Int) < (dvs.length : Int)) = true := decide_eq_true (by omega)
      have z4 : decide ((0 : Int) ≤ (j : Int)) = true := decide_eq_true (by omega)
      rw [z1, z2, z3, z4]
      rfl
    · have hs1 := e1 _ _ hs
      have g1 := e1 _ _ h1
      refine q_when (b := false) (et_is (et_or (et_not (et_B (ev_isnum (i := x) (ev_ixT (ev_var rfl) ev_c hs1 rfl)))) fun _ => et_not (et_chain ev_c (ev_ixT (ev_var rfl) ev_c hs1 rfl) (ev_ixT (ev_var rfl) ev_c g1 rfl))) ?_) (fun z => by cases z) (fun _ H2 e2 => ?_)
      · rw [decide_eq_true (show (0 : Int) ≤ x by omega), decide_eq_true hx.1, decide_eq_true hx.2]
        rfl
      · have e12 := e1.trans e2
        refine (Ev.mono e12 (ev_ixL (ev_var rfl) (ev_ixT (ev_var rfl) ev_c hs rfl) ha (atI_nat hu))) H2 (Ex.refl _) _ fun H3 e3 => (Ev.mono (e12.trans e3) (ev_ixL (ev_var rfl) (ev_ixT (ev_var rfl) ev_c hs rfl) ha (atI_nat hy))) H3 (Ex.refl _) _ fun H4 e4 => (Ev.mono ((e12.trans e3).trans e4) (ev_ixT (v := .int x) (ev_var rfl) ev_c hs rfl)) H4 (Ex.refl _) _ fun H5 e5 => ?_
        have e15 := ((e12.trans e3).trans e4).trans e5
        refine ⟨u, y, x, p, q, rfl, hcu.t (.ex e15), hcy.t (.ex e15), hz p (List.mem_of_getElem? hp), hz q (List.mem_of_getElem? hq), fun v H6 e6 hv => k v H6 (e15.trans e6) ?_⟩
        have hr2 : resv p q x = some d := by
          unfold resv
          rw [if_pos ⟨m1, m2⟩]
          exact hmk
        rw [hr2] at hv
        exact hv
def sp_next_clause : Sp := fun vs H Q _ => ∃ v1 a v3 n cs dvs ds s d, vs = [v1, .ref a, v3] ∧ Fv H v1 n cs ∧ H a = some (.lst dvs) ∧ Cvs H dvs ds ∧ Sv H v3 s ∧ s.ok n ∧ (∀ e ∈ ds, e.length ≤ 30) ∧ stepC cs ds s = some d ∧ ∀ v H', Ex H H' → Cv H' v d → Q v H'
theorem ok_next_clause (T : Txt K mg cS cL) : C8.Cal P w K mg base 5 "next_clause" sp_next_clause [] := by
  have G_axiom_clause : C8.Cal P w K mg base 3 "axiom_clause" sp_axiom_clause [] := ok_axiom_clause T
  have G_resolved_clause : C8.Cal P w K mg base 4 "resolved_clause" sp_resolved_clause [] := ok_resolved_clause T
  refine calD T.d_next_clause sc_next_clause (fun vs H Q E h => ?_) fun f cdv A outer s H vs Q E hr h => ?_
  · obtain ⟨v1, a, v3, n, cs, dvs, ds, s, d, rfl, _⟩ := h
    rfl
  · obtain ⟨v1, a, v3, n, cs, dvs, ds, s, d, rfl, hf, ha, hd, hs, hx, hz, hst, k⟩ := h
    refine ⟨_, (pss_cons (ps_if (PW.pt (pw_and (pt_cmpR op_gt (pe_callB (k_len (K := K)) (by rfl) T.z_len PySem.boot_len (pa_cons (pv 2) pa_nil)) pe_int (nomark _)) (pw_and1 (pt_cmpR op_eq (pe_ix (k_ixT (K := K)) (pv 2) pe_int (fun _ _ => rfl)) pe_str (nomark _))))) (pss_one (ps_ret (C8.pe_c G_axiom_clause hr (by decide) (by rfl) (pa_cons (pv 0) (pa_cons (pv 2) pa_nil))))) pss_nil)
      (pss_cons (ps_if (PW.pt (pw_and (pt_cmpR op_gt (pe_callB (k_len (K := K)) (by rfl) T.z_len PySem.boot_len (pa_cons (pv 2) pa_nil)) pe_int (nomark _)) (pw_and1 (pt_cmpR op_eq (pe_ix (k_ixT (K := K)) (pv 2) pe_int (fun _ _ => rfl)) pe_str (nomark _))))) (pss_one (ps_ret (C8.pe_c G_resolved_clause hr (by decide) (by rfl) (pa_cons (pv 0) (pa_cons (pv 1) (pa_cons (pv 2) pa_nil)))))) pss_nil)
      (pss_cons (ps_if (PW.pt (pw_and (pt_cmpR op_gt (pe_callB (k_len (K := K)) (by rfl) T.z_len PySem.boot_len (pa_cons (pv 2) pa_nil)) pe_int (nomark _)) (pw_and1 (pt_cmpR op_eq (pe_ix (k_ixT (K := K)) (pv 2) pe_int (fun _ _ => rfl)) pe_str (nomark _))))) pss_never pss_nil)
      (pss_one (ps_ret pe_non))))), ?_⟩
    cases s with
    | ax i =>
      obtain ⟨r, rfl, hr1⟩ := hs
      refine q_when (b := true) (et_is (et_and (et_I0 (ev_lenT (ev_var rfl) hr1) ev_c) fun _ => et_eqS (x := .ofString "axiom") (b := true) (ev_ixT (i := 0) (ev_var rfl) ev_c hr1 rfl) ev_c ?_) ?_) (fun _ H1 e1 => ?_) (fun z => by cases z)
      · decide +kernel
      · rfl
      exact ⟨_, rfl, _, rfl, v1, .ref r, n, cs, i, d, rfl, hf.t (.ex e1), ⟨r, rfl, e1 _ _ hr1⟩, hst, fun v H2 e2 hv => k v H2 (e1.trans e2) hv⟩
    | res i j x =>
      obtain ⟨r, rfl, hr1⟩ := hs
      refine q_when (b := false) (et_is (et_and (et_I0 (ev_lenT (ev_var rfl) hr1) ev_c) fun _ => et_eqS (x := .ofString "resolve") (b := false) (ev_ixT (i := 0) (ev_var rfl) ev_c hr1 rfl) ev_c ?_) ?_) (fun z => by cases z) (fun _ H1 e1 => ?_)
      · decide +kernel
      · rfl
      refine q_when (b := true) (et_is (et_and (et_I0 (ev_lenT (ev_var rfl) (e1 _ _ hr1)) ev_c) fun _ => et_eqS (x := .ofString "resolve") (b := true) (ev_ixT (i := 0) (ev_var rfl) ev_c (e1 _ _ hr1) rfl) ev_c ?_) ?_) (fun _ H2 e2 => ?_) (fun z => by cases z)
      · decide +kernel
      · rfl
      have e12 := e1.trans e2
      exact ⟨_, rfl, _, rfl, _, rfl, v1, a, .ref r, n, cs, dvs, ds, i, j, x, d, rfl, hf.t (.ex e12), e12 _ _ ha, hd.t (.ex e12), ⟨r, rfl, e12 _ _ hr1⟩, hx, hz, hst, fun v H3 e3 hv => k v H3 (e12.trans e3) hv⟩
end
end K75
set_option Elab.async false
set_option linter.all false
set_option maxRecDepth 100000
set_option maxHeartbeats 4000000
/-! words for what makes and changes objects -/
namespace K75
open PySem PySem.Spec PyProof.Rows L2 Evl

/-! ### what stays but for some addresses -/
def Sty (B : Addr → Prop) (H H' : Hp) : Prop := ∀ a o, H a = some o → ¬ B a → H' a = some o
section
variable {B C : Addr → Prop} {H H1 H2 : Hp}
theorem Sty.of (e : Ex H H1) : Sty B H H1 := fun a o h _ => e a o h
theorem Sty.refl : Sty B H H := fun a o h _ => h
theorem Sty.trans (e : Sty B H H1) (f : Sty B H1 H2) : Sty B H H2 := fun a o h n => f a o (e a o h n) n
theorem Sty.put {p : Addr} {o : HO} (hB : B p) : Sty B H (upd H p o) := fun a u h n => by
  rw [upd_ne fun z => n (by rw [z]; exact hB)]
  exact h
theorem Sty.mono (h : ∀ a, B a → C a) (e : Sty B H H1) : Sty C H H1 := fun a o q n => e a o q fun z => n (h a z)
theorem Sty.tst (e : Sty B H H1) (hb : ∀ a, B a → ∃ ys, H a = some (.lst ys)) : Tst H H1 := fun a xs h => e a _ h fun z => by
  obtain ⟨ys, q⟩ := hb a z
  rw [q] at h
  cases h
/-- what was not there need not stay -/
theorem Sty.old (e : Sty C H H1) (h : ∀ a, C a → B a ∨ H a = none) : Sty B H H1 := fun a o q n => e a o q fun z => by
  rcases h a z with y | y
  · exact n y
  · rw [y] at q
    cases q
theorem Sty.ex (e : Sty C H H1) (h : ∀ a, C a → H a = none) : Ex H H1 := fun a o q => e a o q fun z => by
  rw [h a z] at q
  cases q
end

section
variable {K : PySem.W.Frag} {σ : L2.St} {H : Hp} {ta tb te td ty : TE} {D : Ends} {tz tu : TS} {P : V → Hp → Prop}
theorem s_retP (h : EvP te σ H P) (k : ∀ v H1, Ex H H1 → P v H1 → D.rt v H1) : tRet te D σ H := h.go k
theorem s_asgP {i : Nat} (h : EvP te σ H P) (k : ∀ v H1, Ex H H1 → P v H1 → D.nx (σ.set i (some v)) H1) : tAsg te (gName i) D σ H := h.go k
theorem q_asgP {i : Nat} (h : EvP te σ H P) (k : ∀ v H1, Ex H H1 → P v H1 → tz D (σ.set i (some v)) H1) : tSeq (tAsg te (gName i)) tz D σ H := h.go k
theorem s_appP {l : Addr} {xs : List V} (hl : H l = some (.lst xs)) (ha : Ev ta σ H (.ref l)) (h : EvP te σ H P) (hz : xs.length < 100000) (k : ∀ v H1, Ex H H1 → P v H1 → D.nx σ (upd H1 l (.lst (xs ++ [v])))) :
    tDrop (tBM K "list" rAppend ta (tCons te tNil)) D σ H := ha H (Ex.refl H) _ fun H1 e1 =>
  ⟨Or.inl ⟨rfl, xs, sq_of (e1 l _ hl)⟩, h H1 e1 _ fun v H2 e2 hv => ⟨l, xs, v, rfl, rfl, e2 l _ (e1 l _ hl), sz_lt hz, k v H2 (e1.trans e2) hv⟩⟩
theorem q_appP {l : Addr} {xs : List V} (hl : H l = some (.lst xs)) (ha : Ev ta σ H (.ref l)) (h : EvP te σ H P) (hz : xs.length < 100000) (k : ∀ v H1, Ex H H1 → P v H1 → tz D σ (upd H1 l (.lst (xs ++ [v])))) :
    tSeq (tDrop (tBM K "list" rAppend ta (tCons te tNil))) tz D σ H := s_appP (D := { D with nx := tz D }) hl ha h hz k
theorem ev_fld {a C dx : Addr} {fs : List (PySem.Str × V)} {f : PySem.Str} {v : V} (ha : Ev ta σ H (.ref a)) (ho : H a = some (.ins C dx fs)) (c : Cls K C) (n : NoAttr K C f) (l : fs.lookup f = some v) : Ev (tFld K ta f) σ H v := fun H1 e Q q =>
  ha H1 e _ fun H2 e2 => ⟨a, C, dx, fs, v, rfl, e2 _ _ (e _ _ ho), c, n, l, q H2 e2⟩
theorem ep_call {sp : Sp} {dvs vs : List V} {E : XK} {ta : TA} (h : EvA ta σ H vs) (hs : ∀ H1, Ex H H1 → ∀ Q : VK, (∀ v H2, Ex H1 H2 → P v H2 → Q v H2) → ∀ E : XK, sp (vs ++ dvs) H1 Q E) : EvP (tCall sp dvs E ta) σ H P := fun H1 e Q q =>
  h H1 e _ fun H2 e2 => hs H2 (e.trans e2) Q (fun v H3 e3 p => q v H3 (e2.trans e3) p) E
theorem ev_dget {a : Addr} {kvs : List (Key × V)} {i : Int} {v : V} (ha : Ev td σ H (.ref a)) (hb : Ev ty σ H (.int i)) (hd : H a = some (.dK kvs)) (hv : valV kvs (.inl i) = some v) : Ev (tDGet td ty) σ H v := fun H1 e Q q =>
  ha H1 e _ fun H2 e2 => hb H2 (e.trans e2) _ fun H3 e3 => ⟨a, v, rfl, by
    have z := DGet.k (k := (.inl i : Key)) (((e.trans e2).trans e3) _ _ hd)
    rw [hv] at z
    exact z, q H3 (e2.trans e3)⟩
theorem el_if {t : TT} {b : Bool} {xs : List V} (h : EvT t σ H b) (h1 : b = true → EvL ta σ H xs) (h2 : b = false → EvL tb σ H xs) : EvL (tIf t ta tb) σ H xs := fun H1 e Q q =>
  h H1 e _ fun H2 e2 => by
    cases b with
    | true =>
      show ta σ H2 Q
      exact h1 rfl H2 (e.trans e2) Q fun p H3 hp e3 h3 => q p H3 (fresh_back e2 hp) (e2.trans e3) h3
    | false =>
      show tb σ H2 Q
      exact h2 rfl H2 (e.trans e2) Q fun p H3 hp e3 h3 => q p H3 (fresh_back e2 hp) (e2.trans e3) h3
/-- for (i, x) in enumerate(a tuple) -/
theorem s_forE {a : Addr} {xs : List V} {ta : TA} {j1 j2 : Nat} (h : EvA ta σ H [.ref a]) (hx : H a = some (.tup xs)) (Pv : Nat → L2.St → Hp → Prop) (h0 : ∀ H1, Ex H H1 → Pv 0 σ H1)
    (hl : ∀ i σ' H', Pv i σ' H' → H' a = some (.tup xs))
    (hs : ∀ (i : Nat) x σ' H' H'', xs[i]? = some x → Pv i σ' H' → Ex H' H'' → tu { D with nx := Pv (i + 1), ct := Pv (i + 1), bk := D.nx } ((σ'.set j1 (some (.int (i : Int)))).set j2 (some x)) H'')
    (hd : ∀ σ' H', Pv xs.length σ' H' → D.nx σ' H') : tFor (iEnumT K ta) (gTup K 2 (gCons (gName j1) (gCons (gName j2) gNil))) tu D σ H :=
  h H (Ex.refl H) _ fun H1 e => ⟨a, xs, rfl, st_of (e _ _ hx), for_it walk_enumT Pv (h0 H1 e) (fun i σ' H' _ q => st_of (hl i σ' H' q)) (fun i x σ' H' H'' hi p ⟨T, x1, y1, ev, hT, eH, e1, e2⟩ => by
    subst ev eH
    cases e1
    exact ⟨T, [_, y1], rfl, st_of upd_same, rfl, _, _, rfl, _, _, rfl, rfl, hs i y1 σ' H' _ e2 p (Ex.new hT)⟩) hd⟩
theorem q_forE {a : Addr} {xs : List V} {ta : TA} {j1 j2 : Nat} (h : EvA ta σ H [.ref a]) (hx : H a = some (.tup xs)) (Pv : Nat → L2.St → Hp → Prop) (h0 : ∀ H1, Ex H H1 → Pv 0 σ H1)
    (hl : ∀ i σ' H', Pv i σ' H' → H' a = some (.tup xs))
    (hs : ∀ (i : Nat) x σ' H' H'', xs[i]? = some x → Pv i σ' H' → Ex H' H'' → tu { D with nx := Pv (i + 1), ct := Pv (i + 1), bk := tz D } ((σ'.set j1 (some (.int (i : Int)))).set j2 (some x)) H'')
    (hd : ∀ σ' H', Pv xs.length σ' H' → tz D σ' H') : tSeq (tFor (iEnumT K ta) (gTup K 2 (gCons (gName j1) (gCons (gName j2) gNil))) tu) tz D σ H :=
  s_forE (D := { D with nx := tz D }) h hx Pv h0 hl hs hd
/-- d[i] = v -/
theorem s_dput {a : Addr} {kvs : List (Key × V)} {i : Int} {v : V} (hv : Ev te σ H v) (ha : Ev td σ H (.ref a)) (hb : Ev ty σ H (.int i)) (hd : H a = some (.dK kvs)) (hz : kvs.length < 100000)
    (k : ∀ H1, Ex H H1 → D.nx σ (upd H1 a (.dK (putK kvs (.inl i) v)))) : sDPut td ty te D σ H :=
  hv H (Ex.refl H) _ fun H1 e1 => ha H1 e1 _ fun H2 e2 => hb H2 (e1.trans e2) _ fun H3 e3 =>
    ⟨a, _, rfl, DPut.k (k := (.inl i : Key)) (((e1.trans e2).trans e3) _ _ hd) (sz_lt hz), k H3 ((e1.trans e2).trans e3)⟩
theorem q_dput {a : Addr} {kvs : List (Key × V)} {i : Int} {v : V} (hv : Ev te σ H v) (ha : Ev td σ H (.ref a)) (hb : Ev ty σ H (.int i)) (hd : H a = some (.dK kvs)) (hz : kvs.length < 100000)
    (k : ∀ H1, Ex H H1 → tz D σ (upd H1 a (.dK (putK kvs (.inl i) v)))) : tSeq (sDPut td ty te) tz D σ H := s_dput (D := { D with nx := tz D }) hv ha hb hd hz k
/-- i in d -/
theorem et_din {a : Addr} {kvs : List (Key × V)} {i : Int} (hb : Ev ty σ H (.int i)) (ha : Ev td σ H (.ref a)) (hd : H a = some (.dK kvs)) : EvT (tTest (tDIn ty td)) σ H (valV kvs (.inl i)).isSome := fun H1 e Q q =>
  hb H1 e _ fun H2 e2 => ha H2 (e.trans e2) _ fun H3 e3 => ⟨a, _, rfl, DGet.k (k := (.inl i : Key)) (((e.trans e2).trans e3) _ _ hd), _, rfl, q H3 (e2.trans e3)⟩
end
end K75
set_option Elab.async false
set_option linter.all false
set_option maxHeartbeats 4000000
/-! the mathematics, third part: what is used, what is kept -/
namespace K75
def srcs : Step → List Nat
  | .ax _ => []
  | .res i j _ => [i, j]
def Step.map (f : Nat → Nat) : Step → Step
  | .ax i => .ax i
  | .res i j x => .res (f i) (f j) x
def insU (us : List Nat) (x : Nat) : List Nat := if x ∈ us then us else us ++ [x]
theorem mem_insU {us : List Nat} {x y : Nat} : y ∈ insU us x ↔ y ∈ us ∨ y = x := by
  unfold insU
  split
  · rename_i h
    constructor
    · exact .inl
    · rintro (z | rfl)
      · exact z
      · exact h
  · simp
theorem nodup_insU {us : List Nat} {x : Nat} (h : us.Nodup) : (insU us x).Nodup := by
  unfold insU
  split
  · exact h
  · rename_i c
    refine List.nodup_append.mpr ⟨h, by simp, fun a ha b hb => ?_⟩
    rw [List.mem_singleton.mp hb]
    exact fun z => c (by rw [← z]; exact ha)
theorem mem_foldU {l : List Nat} {y : Nat} : ∀ {us : List Nat}, y ∈ l.foldl insU us ↔ y ∈ us ∨ y ∈ l := by
  induction l with
  | nil => simp
  | cons x l ih =>
    intro us
    rw [List.foldl_cons, ih, mem_insU, List.mem_cons, or_assoc]
theorem nodup_foldU {l : List Nat} : ∀ {us : List Nat}, us.Nodup → (l.foldl insU us).Nodup := by
  induction l with
  | nil => exact fun h => h
  | cons x l ih => exact fun h => ih (nodup_insU h)
/-- what the steps before use, after i turns from the last -/
structure Usd (ss : List Step) (last i : Nat) (us : List Nat) : Prop where
  mem : last ∈ us
  le : ∀ u ∈ us, u ≤ last
  nod : us.Nodup
  cl : ∀ u ∈ us, last < u + i → ∀ s, ss[u]? = some s → ∀ v ∈ srcs s, v ∈ us
theorem Usd.start {ss : List Step} {last : Nat} : Usd ss last 0 [last] := ⟨List.mem_singleton.mpr rfl, fun u hu => by rw [List.mem_singleton.mp hu]; exact Nat.le_refl _, by simp, fun u hu h => by
  rw [List.mem_singleton.mp hu] at h
  omega⟩
/-- a step leans on earlier ones -/
theorem Drv.back {n : Int} {cs : List Cl} {ss : List Step} {ds : List Cl} (D : Drv n cs ss ds) {k : Nat} {s : Step} (h : ss[k]? = some s) : ∀ v ∈ srcs s, v < k := by
  obtain ⟨d, h1, h2⟩ := D.get h
  have small : ∀ {j : Nat} {c : Cl}, (ds.take k)[j]? = some c → j < k := fun {j c} hj => by
    have := (List.getElem?_eq_some_iff.mp hj).1
    rw [List.length_take] at this
    omega
  cases s with
  | ax i => exact fun v hv => by simp [srcs] at hv
  | res i j x =>
    obtain ⟨p, q, e1, e2, _⟩ := stepC_res h2
    intro v hv
    rcases List.mem_cons.mp hv with rfl | hv
    · exact small e1
    · rcases List.mem_cons.mp hv with rfl | hv
      · exact small e2
      · cases hv
theorem Usd.yes {n : Int} {cs : List Cl} {ss : List Step} {ds : List Cl} (D : Drv n cs ss ds) {last i : Nat} {us : List Nat} {s : Step} (h : Usd ss last i us) (hi : i ≤ last) (hk : last - i ∈ us) (hs : ss[last - i]? = some s) : Usd ss last (i + 1) ((srcs s).foldl insU us) := by
  have hb := D.back hs
  refine ⟨mem_foldU.mpr (.inl h.mem), fun u hu => ?_, nodup_foldU h.nod, fun u hu hlt t ht v hv => ?_⟩
  · rcases mem_foldU.mp hu with z | z
    · exact h.le u z
    · have := hb u z
      omega
  · rcases mem_foldU.mp hu with z | z
    · by_cases e : u = last - i
      · subst e
        rw [hs] at ht
        cases ht
        exact mem_foldU.mpr (.inr hv)
      · exact mem_foldU.mpr (.inl (h.cl u z (by omega) t ht v hv))
    · have := hb u z
      omega
theorem Usd.no {ss : List Step} {last i : Nat} {us : List Nat} (h : Usd ss last i us) (hi : i ≤ last) (hk : last - i ∉ us) : Usd ss last (i + 1) us := by
  refine ⟨h.mem, h.le, h.nod, fun u hu hlt => h.cl u hu ?_⟩
  have : u ≠ last - i := fun e => hk (by rw [← e]; exact hu)
  omega
/-- the kept steps, at their new places -/
def kept (ss : List Step) (zs : List Nat) : List Step := zs.map fun z => (ss[z]?.getD (.ax 0)).map fun v => zs.idxOf v
def keptC (ds : List Cl) (zs : List Nat) : List Cl := zs.map fun z => ds[z]?.getD []
theorem idx_at : ∀ {zs : List Nat} {j z : Nat}, zs.Nodup → zs[j]? = some z → zs.idxOf z = j
  | [], j, z, _, h => by simp at h
  | y :: r, 0, z, _, h => by
    cases h
    exact List.idxOf_cons_self
  | y :: r, j + 1, z, hn, h => by
    obtain ⟨h1, h2⟩ := List.nodup_cons.mp hn
    have e : r[j]? = some z := h
    have ne : y ≠ z := fun e2 => h1 (by rw [e2]; exact List.mem_of_getElem? e)
    have ih := idx_at h2 e
    rw [List.idxOf_cons]
    have hb : (y == z) = false := by simpa using ne
    rw [hb, ih] <;> rfl
theorem kept_drv {n : Int} {cs : List Cl} {ss : List Step} {ds : List Cl} (D : Drv n cs ss ds) {last : Nat} {us zs : List Nat} (hl : last < ss.length) (h : Usd ss last (last + 1) us) (hz : zs.Pairwise (· < ·)) (hm : ∀ z, z ∈ zs ↔ z ∈ us) :
    Drv n cs (kept ss zs) (keptC ds zs) ∧ (keptC ds zs).getLast? = ds[last]? ∧ (kept ss zs).length ≤ ss.length := by
  have hn : zs.Nodup := hz.imp fun {a b} z => Nat.ne_of_lt z
  have lt : ∀ z ∈ zs, z < ss.length := fun z hz => by
    have := h.le z ((hm z).mp hz)
    omega
  have get : ∀ {k : Nat} {z : Nat}, zs[k]? = some z → ∃ s d, ss[z]? = some s ∧ ds[z]? = some d ∧ stepC cs (ds.take z) s = some d ∧ (kept ss zs)[k]? = some (s.map fun v => zs.idxOf v) ∧ (keptC ds zs)[k]? = some d := fun {k z} e => by
    have l1 := lt z (List.mem_of_getElem? e)
    obtain ⟨d, d1, d2⟩ := D.get (List.getElem?_eq_getElem l1)
    refine ⟨ss[z], d, List.getElem?_eq_getElem l1, d1, d2, ?_, ?_⟩
    · unfold kept
      rw [List.getElem?_map, e, Option.map_some, List.getElem?_eq_getElem l1] <;> rfl
    · unfold keptC
      rw [List.getElem?_map, e, Option.map_some, d1] <;> rfl
  refine ⟨⟨by unfold kept keptC; rw [List.length_map, List.length_map], fun k s hs => ?_, fun s hs => ?_⟩, ?_, ?_⟩
  · have hk : k < zs.length := by
      have := (List.getElem?_eq_some_iff.mp hs).1
      unfold kept at this
      rw [List.length_map] at this
      exact this
    obtain ⟨s0, d, e1, e2, e3, e4, e5⟩ := get (List.getElem?_eq_getElem hk)
    rw [hs] at e4
    cases e4
    rw [e5]
    cases s0 with
    | ax i => exact e3
    | res i j x =>
      obtain ⟨p, q, h1, h2, h3, h4, h5⟩ := stepC_res e3
      have hb := D.back e1
      have hin : ∀ v ∈ srcs (.res i j x), v ∈ zs := fun v hv => by
        have z1 := (hm zs[k]).mp (List.getElem_mem hk)
        exact (hm v).mpr (h.cl _ z1 (by omega) _ e1 v hv)
      have at_ : ∀ (v : Nat) (c : Cl), v ∈ zs → v < zs[k] → (ds.take zs[k])[v]? = some c → ((keptC ds zs).take k)[zs.idxOf v]? = some c := fun v c hv hlt hc => by
        obtain ⟨j, hj⟩ := List.getElem?_of_mem hv
        have ej := idx_at hn hj
        rw [ej]
        have hjk : j < k := by
          apply Classical.byContradiction
          intro y
          have hjl := (List.getElem?_eq_some_iff.mp hj).1
          have ev : zs[j] = v := (List.getElem?_eq_some_iff.mp hj).2
          by_cases e : k = j
          · subst e
            omega
          · have := List.pairwise_iff_getElem.mp hz k j hk hjl (by omega)
            omega
        rw [List.getElem?_take, if_pos hjk]
        obtain ⟨_, d', _, f2, _, _, f5⟩ := get hj
        rw [f5]
        rw [List.getElem?_take, if_pos hlt] at hc
        rw [f2] at hc
        exact hc
      exact stepC_of (at_ i p (hin i (by simp [srcs])) (hb i (by simp [srcs])) h1) (at_ j q (hin j (by simp [srcs])) (hb j (by simp [srcs])) h2) h3 h4 h5
  · obtain ⟨z, hz1, rfl⟩ := List.mem_map.mp hs
    have l1 := lt z hz1
    rw [List.getElem?_eq_getElem l1]
    have o := D.ok ss[z] (List.getElem_mem l1)
    show Step.ok n (Step.map _ ss[z])
    cases e : ss[z] with
    | ax i => trivial
    | res i j x =>
      rw [e] at o
      exact o
  · have hlm : last ∈ zs := (hm last).mpr h.mem
    obtain ⟨j, hj⟩ := List.getElem?_of_mem hlm
    have hjl := (List.getElem?_eq_some_iff.mp hj).1
    have ev : zs[j] = last := (List.getElem?_eq_some_iff.mp hj).2
    have hj2 : j = zs.length - 1 := by
      apply Classical.byContradiction
      intro y
      have hlt : zs.length - 1 < zs.length := by omega
      have z1 := List.pairwise_iff_getElem.mp hz j (zs.length - 1) hjl hlt (by omega)
      have z2 := h.le _ ((hm _).mp (List.getElem_mem hlt))
      omega
    obtain ⟨_, d, _, f2, _, _, f5⟩ := get hj
    have hlen : (keptC ds zs).length = zs.length := List.length_map _
    rw [List.getLast?_eq_getElem?, hlen, ← hj2, f5, f2]
  · have : (kept ss zs).length = zs.length := List.length_map _
    rw [this]
    have z := len_le (m := List.range ss.length) hn fun x hx => List.mem_range.mpr (lt x hx)
    rw [List.length_range] at z
    exact z
end K75
set_option Elab.async false
set_option linter.all false
set_option maxRecDepth 100000
set_option maxHeartbeats 4000000
/-! walks: clauses_of, log_of_steps, sources, moved -/
namespace K75
open PySem PySem.Spec PyProof.Rows L2 Evl

theorem isN_ref {a : Addr} : decide (V.ref a = V.non) = false := decide_eq_false fun z => nomatch z
theorem Cv.notN {H : Hp} {v : V} {c : Cl} (h : Cv H v c) : decide (v = V.non) = false := by
  obtain ⟨a, rfl, _⟩ := h
  exact isN_ref
theorem Sv.tup {H : Hp} {v : V} {s : Step} (h : Sv H v s) : ∃ a, v = .ref a := by
  cases s with
  | ax i => exact ⟨_, h.choose_spec.1⟩
  | res i j x => exact ⟨_, h.choose_spec.1⟩
section
variable {P : Program} {w : World} {K : PySem.W.Frag} {mg : PySem.Str → Option Value} {base : Heap} {cS cL : Addr}
def sp_clauses_of : Sp := fun vs H Q _ => ∃ v1 a svs n cs ss ds, vs = [v1, .ref a] ∧ Fv H v1 n cs ∧ H a = some (.tup svs) ∧ Svs H svs ss ∧ Drv n cs ss ds ∧ ss.length ≤ 10000 ∧ (∀ e ∈ ds, e.length ≤ 30) ∧ ∀ v H', Ex H H' → Lv H' v ds → Q v H'
theorem ok_clauses_of (T : Txt K mg cS cL) : C8.Cal P w K mg base 6 "clauses_of" sp_clauses_of [] := by
  have G_next_clause : C8.Cal P w K mg base 5 "next_clause" sp_next_clause [] := ok_next_clause T
  refine calD T.d_clauses_of sc_clauses_of (fun vs H Q E h => ?_) fun f cdv A outer s H vs Q E hr h => ?_
  · obtain ⟨v1, a, svs, n, cs, ss, ds, rfl, _⟩ := h
    rfl
  · obtain ⟨v1, a, svs, n, cs, ss, ds, rfl, hf, ha, hss, hD, hz, hl, k⟩ := h
    refine ⟨_, (pss_cons (ps_set (i := 2) sc_clauses_of.nd rfl (Or.inl rfl) (pe_lst pa_nil))
      (pss_cons (ps_for PassesOwn.never rfl (pi_enumT (by rfl) T.z_enumerate (pa_cons (pv 1) pa_nil)) (pg_tup rfl (pgs_cons (pg_name (i := 3) sc_clauses_of.nd rfl (Or.inl rfl)) (pgs_cons (pg_name (i := 4) sc_clauses_of.nd rfl (Or.inl rfl)) pgs_nil)))
        (pss_cons (ps_set (i := 5) sc_clauses_of.nd rfl (Or.inl rfl) (C8.pe_c G_next_clause hr (by decide) (by rfl) (pa_cons (pv 0) (pa_cons (pv 2) (pa_cons (pv 4) pa_nil)))))
      (pss_cons (ps_if (pt_cmpR op_isN (pv 5) pe_non (nomark _)) pss_never pss_nil)
      (pss_one (ps_expr (pe_bm PySem.F.plainAttrs_list PySem.F.slot_list_append PySem.F.type_list_append mt_append (pv 2) (pa_cons (pv 5) pa_nil)))))))
      (pss_one (ps_ret (pv 2))))), ?_⟩
    refine q_asgL (el_lst ea_nil (by decide)) fun p H1 hp e1 h1 => ?_
    refine q_forE (ea_cons (ev_var rfl) ea_nil) (e1 _ _ ha) (fun i σ H' => ∃ dvs x y z, σ = [some v1, some (.ref a), some (.ref p), x, y, z] ∧ H' p = some (.lst dvs) ∧ Cvs H' dvs (ds.take i) ∧ Ex H H')
      (fun H2 e2 => ⟨[], none, none, none, rfl, e2 _ _ h1, .nil, e1.trans e2⟩) (fun i σ' H' ⟨dvs, x, y, z, h2, h3, h4, h5⟩ => h5 _ _ ha) ?_ ?_
    · rintro i x σ' H' H'' hx ⟨dvs, x1, y1, z1, rfl, h3, h4, h5⟩ e2
      obtain ⟨s, hs1, hs2⟩ := hss.left hx
      obtain ⟨d, hd1, hd2⟩ := hD.get hs1
      have e02 := h5.trans e2
      have hlen : dvs.length = i := by
        rw [h4.len, List.length_take]
        have := (List.getElem?_eq_some_iff.mp hd1).1
        omega
      have hid := (List.getElem?_eq_some_iff.mp hd1).1
      have hid2 := hD.len
      refine q_asgP (P := fun v H' => Cv H' v d) (ep_call (ea_cons (ev_var rfl) (ea_cons (ev_var rfl) (ea_cons (ev_var rfl) ea_nil))) fun H2 e3 Q q E => ⟨v1, p, x, n, cs, dvs, ds.take i, s, d, rfl, hf.t (.ex (e02.trans e3)), e3 _ _ (e2 _ _ h3), h4.t (.ex (e2.trans e3)), hs2.t (.ex (e02.trans e3)), hD.ok s (List.mem_of_getElem? hs1), fun e he => hl e (List.mem_of_mem_take he), hd2, fun v H' e hv => q v H' e hv⟩) fun v H2 e3 hv => ?_
      refine q_when (b := false) (et_is (et_isN (ev_var rfl)) hv.notN) (fun z => by cases z) fun _ H3 e4 => ?_
      refine s_app (e4 _ _ (e3 _ _ (e2 _ _ h3))) (ev_var rfl) (ev_var rfl) (by omega) fun H4 e5 => ?_
      have ee := ((e2.trans e3).trans e4).trans e5
      have t4 : Tst H4 (upd H4 p (.lst (dvs ++ [v]))) := Tst.lst (ee _ _ h3)
      refine ⟨dvs ++ [v], _, _, _, rfl, upd_same, ?_, Ex.mut (h5.trans ee) hp⟩
      have et : ds.take (i + 1) = ds.take i ++ [d] := by rw [List.take_add_one, hd1] <;> rfl
      rw [et]
      exact ((h4.t (.ex ee)).t t4).snoc ((hv.t (.ex (e4.trans e5))).t t4)
    · rintro σ' H' ⟨dvs, x1, y1, z1, rfl, h3, h4, h5⟩
      refine s_ret (ev_var rfl) fun H2 e2 => k _ H2 (h5.trans e2) ⟨p, dvs, rfl, e2 _ _ h3, ?_⟩
      have el : svs.length = ds.length := by rw [hss.len, hD.len]
      rw [el, List.take_length] at h4
      exact h4.t (.ex e2)
def sp_log_of_steps : Sp := fun vs H Q _ => ∃ v1 a svs n cs ss ds, vs = [v1, .ref a] ∧ Fv H v1 n cs ∧ H a = some (.tup svs) ∧ Svs H svs ss ∧ Drv n cs ss ds ∧ ss.length ≤ 10000 ∧ (∀ e ∈ ds, e.length ≤ 30) ∧ ∀ v H', Ex H H' → Tv H' v ds → Q v H'
theorem ok_log_of_steps (T : Txt K mg cS cL) : C8.Cal P w K mg base 7 "log_of_steps" sp_log_of_steps [] := by
  have G_clauses_of : C8.Cal P w K mg base 6 "clauses_of" sp_clauses_of [] := ok_clauses_of T
  refine calD T.d_log_of_steps sc_log_of_steps (fun vs H Q E h => ?_) fun f cdv A outer s H vs Q E hr h => ?_
  · obtain ⟨v1, a, svs, n, cs, ss, ds, rfl, _⟩ := h
    rfl
  · obtain ⟨v1, a, svs, n, cs, ss, ds, rfl, hf, ha, hss, hD, hz, hl, k⟩ := h
    refine ⟨_, (pss_one (ps_ret (pe_callTy (k_tup (K := K)) (by rfl) T.z_tuple (by decide +kernel) (pa_cons (C8.pe_c G_clauses_of hr (by decide) (by rfl) (pa_cons (pv 0) (pa_cons (pv 1) pa_nil))) pa_nil)))), ?_⟩
    exact s_retP (ep_tupL (ep_call (ea_cons (ev_var rfl) (ea_cons (ev_var rfl) ea_nil)) fun H2 e3 Q q E => ⟨v1, a, svs, n, cs, ss, ds, rfl, hf.t (.ex e3), e3 _ _ ha, hss.t (.ex e3), hD, hz, hl, q⟩)) k
/-! ### sources, moved -/
def sp_sources : Sp := fun vs H Q _ => ∃ v s, vs = [v] ∧ Sv H v s ∧ ∀ p H', H p = none → Ex H H' → H' p = some (.lst ((srcs s).map fun (i : Nat) => V.int (i : Int))) → Q (.ref p) H'
theorem ok_sources (T : Txt K mg cS cL) : C8.Cal P w K mg base 1 "sources" sp_sources [] := by
  refine calD T.d_sources sc_sources (fun vs H Q E h => ?_) fun f cdv A outer s H vs Q E hr h => ?_
  · obtain ⟨v, s, rfl, _⟩ := h
    rfl
  · obtain ⟨v, s, rfl, hs, k⟩ := h
    refine ⟨_, (pss_cons (ps_if (pt_cmpR op_eq (pe_ix (k_ixT (K := K)) (pv 0) pe_int (fun _ _ => rfl)) pe_str (nomark _)) (pss_one (ps_ret (pe_lst pa_nil))) pss_nil)
      (pss_one (ps_ret (pe_ifExp (pt_cmpR op_eq (pe_ix (k_ixT (K := K)) (pv 0) pe_int (fun _ _ => rfl)) pe_str (nomark _)) (pe_lst (pa_cons (pe_ix (k_ixT (K := K)) (pv 0) pe_int (fun _ _ => rfl)) (pa_cons (pe_ix (k_ixT (K := K)) (pv 0) pe_int (fun _ _ => rfl)) pa_nil))) (pe_lst (pa_cons (pe_ix (k_ixT (K := K)) (pv 0) pe_int (fun _ _ => rfl)) pa_nil)))))), ?_⟩
    cases s with
    | ax i =>
      obtain ⟨r, rfl, hr1⟩ := hs
      refine q_when (b := true) (et_eqS (x := .ofString "axiom") (ev_ixT (ev_var rfl) ev_c hr1 rfl) ev_c ?_) (fun _ H1 e1 => ?_) (fun z => by cases z)
      · decide +kernel
      exact s_retL (el_lst ea_nil (by decide)) fun p H2 hp e2 h2 => k p H2 (fresh_back e1 hp) (e1.trans e2) h2
    | res i j x =>
      obtain ⟨r, rfl, hr1⟩ := hs
      refine q_when (b := false) (et_eqS (x := .ofString "resolve") (ev_ixT (ev_var rfl) ev_c hr1 rfl) ev_c ?_) (fun z => by cases z) (fun _ H1 e1 => ?_)
      · decide +kernel
      have h1 := e1 _ _ hr1
      refine s_retL (el_if (b := true) (et_eqS (x := .ofString "resolve") (ev_ixT (ev_var rfl) ev_c h1 rfl) ev_c ?_) (fun _ => el_lst (ea_cons (ev_ixT (ev_var rfl) ev_c h1 rfl) (ea_cons (ev_ixT (ev_var rfl) ev_c h1 rfl) ea_nil)) (by simp)) (fun z => by cases z)) fun p H2 hp e2 h2 => k p H2 (fresh_back e1 hp) (e1.trans e2) h2
      decide +kernel
def sp_moved : Sp := fun vs H Q _ => ∃ v a kvs s f, vs = [v, .ref a] ∧ Sv H v s ∧ H a = some (.dK kvs) ∧ (∀ i ∈ srcs s, valV kvs (.inl ((i : Nat) : Int)) = some (.int ((f i : Nat) : Int))) ∧ ∀ v' H', Ex H H' → Sv H' v' (s.map f) → Q v' H'
theorem ok_moved (T : Txt K mg cS cL) : C8.Cal P w K mg base 1 "moved" sp_moved [] := by
  refine calD T.d_moved sc_moved (fun vs H Q E h => ?_) fun f cdv A outer s H vs Q E hr h => ?_
  · obtain ⟨v, a, kvs, s, g, rfl, _⟩ := h
    rfl
  · obtain ⟨v, a, kvs, s, g, rfl, hs, hd, hg, k⟩ := h
    refine ⟨_, (pss_cons (ps_if (pt_cmpR op_eq (pe_ix (k_ixT (K := K)) (pv 0) pe_int (fun _ _ => rfl)) pe_str (nomark _)) (pss_one (ps_ret (pv 0))) pss_nil)
      (pss_cons (ps_if (pt_cmpR op_eq (pe_ix (k_ixT (K := K)) (pv 0) pe_int (fun _ _ => rfl)) pe_str (nomark _)) (pss_one (ps_ret (pe_tup (pa_cons pe_str (pa_cons (pe_dget (hu_of hr) (pv 1) (pe_ix (k_ixT (K := K)) (pv 0) pe_int (fun _ _ => rfl)) (fun _ _ => rfl)) (pa_cons (pe_dget (hu_of hr) (pv 1) (pe_ix (k_ixT (K := K)) (pv 0) pe_int (fun _ _ => rfl)) (fun _ _ => rfl)) (pa_cons (pe_ix (k_ixT (K := K)) (pv 0) pe_int (fun _ _ => rfl)) pa_nil))))))) pss_nil)
      (pss_one (ps_ret (pe_tup (pa_cons pe_str (pa_cons (pe_dget (hu_of hr) (pv 1) (pe_ix (k_ixT (K := K)) (pv 0) pe_int (fun _ _ => rfl)) (fun _ _ => rfl)) (pa_cons (pe_ix (k_ixT (K := K)) (pv 0) pe_int (fun _ _ => rfl)) pa_nil)))))))), ?_⟩
    cases s with
    | ax i =>
      obtain ⟨r, rfl, hr1⟩ := hs
      refine q_when (b := true) (et_eqS (x := .ofString "axiom") (ev_ixT (ev_var rfl) ev_c hr1 rfl) ev_c ?_) (fun _ H1 e1 => ?_) (fun z => by cases z)
      · decide +kernel
      exact s_ret (ev_var rfl) fun H2 e2 => k _ H2 (e1.trans e2) ⟨r, rfl, (e1.trans e2) _ _ hr1⟩
    | res i j x =>
      obtain ⟨r, rfl, hr1⟩ := hs
      refine q_when (b := false) (et_eqS (x := .ofString "resolve") (ev_ixT (ev_var rfl) ev_c hr1 rfl) ev_c ?_) (fun z => by cases z) (fun _ H1 e1 => ?_)
      · decide +kernel
      have h1 := e1 _ _ hr1
      refine q_when (b := true) (et_eqS (x := .ofString "resolve") (ev_ixT (ev_var rfl) ev_c h1 rfl) ev_c ?_) (fun _ H2 e2 => ?_) (fun z => by cases z)
      · decide +kernel
      have h2 := e2 _ _ h1
      have d2 := (e1.trans e2) _ _ hd
      exact s_retU (eu_tup (ea_cons ev_c (ea_cons (ev_dget (ev_var rfl) (ev_ixT (ev_var rfl) ev_c h2 rfl) d2 (hg i (by simp [srcs]))) (ea_cons (ev_dget (ev_var rfl) (ev_ixT (ev_var rfl) ev_c h2 rfl) d2 (hg j (by simp [srcs]))) (ea_cons (ev_ixT (ev_var rfl) ev_c h2 rfl) ea_nil)))) (by simp)) fun p H3 hp e3 h3 => k _ H3 ((e1.trans e2).trans e3) ⟨p, rfl, h3⟩
end
end K75
set_option Elab.async false
set_option linter.all false
set_option maxRecDepth 100000
set_option maxHeartbeats 4000000
/-! walks: Shortener -/
namespace K75
open PySem PySem.Spec PyProof.Rows L2 Evl

/-! ### objects -/
def fsS (fv : V) (ps pc : Addr) : List (PySem.Str × V) := [("formula", fv), ("steps", .ref ps), ("clauses", .ref pc)]
def fsL (a pl : Addr) : List (PySem.Str × V) := [("writer", .ref a), ("places", .ref pl)]
section
variable {fv v u : V} {ps pc a pl : Addr}
theorem lk1 : List.lookup ("formula" : PySem.Str) (fsS fv ps pc) = some fv := rfl
theorem lk2 : List.lookup ("steps" : PySem.Str) (fsS fv ps pc) = some (.ref ps) := rfl
theorem lk3 : List.lookup ("clauses" : PySem.Str) (fsS fv ps pc) = some (.ref pc) := rfl
theorem lk4 : List.lookup ("add" : PySem.Str) (fsS fv ps pc) = none := rfl
theorem lk5 : List.lookup ("resolve" : PySem.Str) (fsS fv ps pc) = none := rfl
theorem lk6 : List.lookup ("writer" : PySem.Str) (fsL a pl) = some (.ref a) := rfl
theorem lk7 : List.lookup ("places" : PySem.Str) (fsL a pl) = some (.ref pl) := rfl
theorem lk8 : List.lookup ("cause" : PySem.Str) (fsL a pl) = none := rfl
theorem lk9 : List.lookup ("follow" : PySem.Str) (fsL a pl) = none := rfl
theorem lk10 : List.lookup ("taken" : PySem.Str) (fsL a pl) = none := rfl
theorem pf1 : putF "steps" u (putF "formula" v []) = ([("formula", v), ("steps", u)] : List (PySem.Str × V)) := rfl
theorem pf2 {x : V} : putF "clauses" x [("formula", v), ("steps", u)] = ([("formula", v), ("steps", u), ("clauses", x)] : List (PySem.Str × V)) := rfl
theorem pf3 : putF "places" u (putF "writer" v []) = ([("writer", v), ("places", u)] : List (PySem.Str × V)) := rfl
end
/-- a Shortener: its steps and their clauses -/
structure ShAt (H : Hp) (cS a ps pc : Addr) (fv : V) (n : Int) (cs : List Cl) (ss : List Step) (ds : List Cl) : Prop where
  obj : ∃ dx, H a = some (.ins cS dx (fsS fv ps pc))
  fml : Fv H fv n cs
  stp : ∃ svs, H ps = some (.lst svs) ∧ Svs H svs ss
  cla : ∃ dvs, H pc = some (.lst dvs) ∧ Cvs H dvs ds
  ne : ps ≠ pc
theorem ShAt.ex {H H' : Hp} {cS a ps pc : Addr} {fv : V} {n : Int} {cs : List Cl} {ss : List Step} {ds : List Cl} (h : ShAt H cS a ps pc fv n cs ss ds) (e : Ex H H') : ShAt H' cS a ps pc fv n cs ss ds := by
  obtain ⟨⟨dx, h1⟩, h2, ⟨svs, h3, h4⟩, ⟨dvs, h5, h6⟩, h7⟩ := h
  exact ⟨⟨dx, e _ _ h1⟩, h2.t (.ex e), ⟨svs, e _ _ h3, h4.t (.ex e)⟩, ⟨dvs, e _ _ h5, h6.t (.ex e)⟩, h7⟩
/-- the two lists -/
def two (p q : Addr) : Addr → Prop := fun x => x = p ∨ x = q
section
variable {K : PySem.W.Frag} {σ : L2.St} {H : Hp} {ta te : TE} {D : Ends} {tz : TS}
theorem s_fld {a C dx : Addr} {fs : List (PySem.Str × V)} {f : PySem.Str} {v : V} (hv : Ev te σ H v) (ha : Ev ta σ H (.ref a)) (ho : H a = some (.ins C dx fs)) (c : Cls K C) (n : NoAttr K C f) (l : fs.length < 1000)
    (k : ∀ H1, Ex H H1 → D.nx σ (upd H1 a (.ins C dx (putF f v fs)))) : sFld K ta te f D σ H := hv H (Ex.refl H) _ fun H1 e1 => ha H1 e1 _ fun H2 e2 => ⟨a, C, dx, fs, rfl, (e1.trans e2) _ _ ho, c, n, l, k H2 (e1.trans e2)⟩
theorem q_fld {a C dx : Addr} {fs : List (PySem.Str × V)} {f : PySem.Str} {v : V} (hv : Ev te σ H v) (ha : Ev ta σ H (.ref a)) (ho : H a = some (.ins C dx fs)) (c : Cls K C) (n : NoAttr K C f) (l : fs.length < 1000)
    (k : ∀ H1, Ex H H1 → tz D σ (upd H1 a (.ins C dx (putF f v fs)))) : tSeq (sFld K ta te f) tz D σ H := s_fld (D := { D with nx := tz D }) hv ha ho c n l k
theorem s_fldL {a C dx : Addr} {fs : List (PySem.Str × V)} {f : PySem.Str} {xs : List V} (hv : EvL te σ H xs) (ha : Ev ta σ H (.ref a)) (ho : H a = some (.ins C dx fs)) (c : Cls K C) (n : NoAttr K C f) (l : fs.length < 1000)
    (k : ∀ p H1, H p = none → Ex H H1 → H1 p = some (.lst xs) → D.nx σ (upd H1 a (.ins C dx (putF f (.ref p) fs)))) : sFld K ta te f D σ H := hv H (Ex.refl H) _ fun p H1 hp e1 h1 => ha H1 e1 _ fun H2 e2 => ⟨a, C, dx, fs, rfl, (e1.trans e2) _ _ ho, c, n, l, k p H2 hp (e1.trans e2) (e2 _ _ h1)⟩
theorem q_fldL {a C dx : Addr} {fs : List (PySem.Str × V)} {f : PySem.Str} {xs : List V} (hv : EvL te σ H xs) (ha : Ev ta σ H (.ref a)) (ho : H a = some (.ins C dx fs)) (c : Cls K C) (n : NoAttr K C f) (l : fs.length < 1000)
    (k : ∀ p H1, H p = none → Ex H H1 → H1 p = some (.lst xs) → tz D σ (upd H1 a (.ins C dx (putF f (.ref p) fs)))) : tSeq (sFld K ta te f) tz D σ H := s_fldL (D := { D with nx := tz D }) hv ha ho c n l k
end
section
variable {P : Program} {w : World} {K : PySem.W.Frag} {mg : PySem.Str → Option Value} {base : Heap} {cS cL : Addr}
def sp_Shortener (cS : Addr) : Sp := fun vs H Q _ => ∃ a dx fv, vs = [.ref a, fv] ∧ H a = some (.ins cS dx []) ∧ ∀ ps pc H', H ps = none → H pc = none → ps ≠ pc → Sty (fun x => x = a) H H' → H' a = some (.ins cS dx (fsS fv ps pc)) → H' ps = some (.lst []) → H' pc = some (.lst []) → Q .non H'
theorem ok_Shortener (T : Txt K mg cS cL) : C8.Mak P w K mg base 1 "Shortener" cS (sp_Shortener cS) [] := by
  refine makD T.i_Shortener sc_Shortener_init (fun vs H Q E h => ?_) fun f cdv A outer s H vs Q E hr h => ?_
  · obtain ⟨a, dx, fv, rfl, _⟩ := h
    rfl
  · obtain ⟨a, dx, fv, rfl, ha, k⟩ := h
    refine ⟨_, (pss_cons (ps_fld (pv 0) (pv 1) rfl)
      (pss_cons (ps_fld (pv 0) (pe_lst pa_nil) rfl)
      (pss_one (ps_fld (pv 0) (pe_lst pa_nil) rfl)))), ?_⟩
    refine q_fld (ev_var rfl) (ev_var rfl) ha T.c_Shortener T.a_Shortener_formula (by decide) fun H1 e1 => ?_
    refine q_fldL (el_lst ea_nil (by decide)) (ev_var rfl) upd_same T.c_Shortener T.a_Shortener_steps (by simp [putF]) fun ps H2 hps e2 h2 => ?_
    have nps : ps ≠ a := fun z => by
      rw [z, upd_same] at hps
      cases hps
    refine s_fldL (el_lst ea_nil (by decide)) (ev_var rfl) upd_same T.c_Shortener T.a_Shortener_clauses (by rw [pf1]; simp) fun pc H3 hpc e3 h3 => ?_
    have npc : pc ≠ a := fun z => by
      rw [z, upd_same] at hpc
      cases hpc
    have hps3 : H3 ps = some (.lst []) := e3 _ _ (by rw [upd_ne nps]; exact h2)
    have ne : ps ≠ pc := fun z => by
      rw [← z, upd_ne nps, h2] at hpc
      cases hpc
    rw [upd_ne nps] at hps
    rw [upd_ne npc] at hpc
    refine k ps pc _ (fresh_back e1 hps) ?_ ne ?_ ?_ ?_ ?_
    · have z : H1 pc = none := by
        have y := fresh_back e2 hpc
        rw [upd_ne npc] at y
        exact y
      exact fresh_back e1 z
    · exact ((((Sty.of (B := fun x => x = a) e1).trans (Sty.put (by exact rfl))).trans (Sty.of e2)).trans (Sty.put (by exact rfl))).trans ((Sty.of e3).trans (Sty.put (by exact rfl)))
    · rw [upd_same, pf1, pf2] <;> rfl
    · rw [upd_ne nps]
      exact hps3
    · rw [upd_ne npc]
      exact h3
def sp_add (cS : Addr) : Sp := fun vs H Q _ => ∃ a ps pc fv n cs ss ds sv s d, vs = [.ref a, sv] ∧ ShAt H cS a ps pc fv n cs ss ds ∧ Sv H sv s ∧ s.ok n ∧ (∀ e ∈ ds, e.length ≤ 30) ∧ ss.length = ds.length ∧ ds.length ≤ 50000 ∧ stepC cs ds s = some d ∧
  ∀ H', Sty (two ps pc) H H' → ShAt H' cS a ps pc fv n cs (ss ++ [s]) (ds ++ [d]) → Q (.int (ds.length : Nat)) H'
theorem ok_Shortener_add (T : Txt K mg cS cL) : C8.Met P w K mg base 6 cS "add" (sp_add cS) [] := by
  have G_next_clause : C8.Cal P w K mg base 5 "next_clause" sp_next_clause [] := ok_next_clause T
  refine metD T.c_Shortener T.m_Shortener_add sc_Shortener_add (fun vs H Q E h => ?_) fun f cdv A outer s H vs Q E hr h => ?_
  · obtain ⟨a, ps, pc, fv, n, cs, ss, ds, sv, s, d, rfl, _⟩ := h
    rfl
  · obtain ⟨a, ps, pc, fv, n, cs, ss, ds, sv, s, d, rfl, ⟨⟨dx, h1⟩, h2, ⟨svs, h3, h4⟩, ⟨dvs, h5, h6⟩, h7⟩, hs, ho, hl, hz1, hz2, hst, k⟩ := h
    refine ⟨_, (pss_cons (ps_expr (pe_bm PySem.F.plainAttrs_list PySem.F.slot_list_append PySem.F.type_list_append mt_append (k_fld (K := K) (pv 0) rfl) (pa_cons (C8.pe_c G_next_clause hr (by decide) (by rfl) (pa_cons (k_fld (K := K) (pv 0) rfl) (pa_cons (k_fld (K := K) (pv 0) rfl) (pa_cons (pv 1) pa_nil)))) pa_nil)))
      (pss_cons (ps_expr (pe_bm PySem.F.plainAttrs_list PySem.F.slot_list_append PySem.F.type_list_append mt_append (k_fld (K := K) (pv 0) rfl) (pa_cons (pv 1) pa_nil)))
      (pss_one (ps_ret (pe_op op_sub (pe_callB (k_len (K := K)) (by rfl) T.z_len PySem.boot_len (pa_cons (k_fld (K := K) (pv 0) rfl) pa_nil)) pe_int))))), ?_⟩
    have hz3 := h4.len
    have hz4 := h6.len
    refine q_appP (P := fun v H' => Cv H' v d) h5 (ev_fld (ev_var rfl) h1 T.c_Shortener T.a_Shortener_clauses lk3)
      (ep_call (ea_cons (ev_fld (ev_var rfl) h1 T.c_Shortener T.a_Shortener_formula lk1) (ea_cons (ev_fld (ev_var rfl) h1 T.c_Shortener T.a_Shortener_clauses lk3) (ea_cons (ev_var rfl) ea_nil)))
        fun H2 e2 Q q E => ⟨fv, pc, sv, n, cs, dvs, ds, s, d, rfl, h2.t (.ex e2), e2 _ _ h5, h6.t (.ex e2), hs.t (.ex e2), ho, hl, hst, q⟩) (by omega) fun v H1 e1 hv => ?_
    have g5 := e1 _ _ h5
    have t1 : Tst H1 (upd H1 pc (.lst (dvs ++ [v]))) := Tst.lst g5
    have nap : a ≠ pc := fun z => by rw [z, h5] at h1; cases h1
    have naps : a ≠ ps := fun z => by rw [z, h3] at h1; cases h1
    have ha1 : upd H1 pc (.lst (dvs ++ [v])) a = some (.ins cS dx (fsS fv ps pc)) := by
      rw [upd_ne nap]
      exact e1 _ _ h1
    have hp1 : upd H1 pc (.lst (dvs ++ [v])) ps = some (.lst svs) := by
      rw [upd_ne h7]
      exact e1 _ _ h3
    refine q_app hp1 (ev_fld (ev_var rfl) ha1 T.c_Shortener T.a_Shortener_steps lk2) (ev_var rfl) (by omega) fun H2 e2 => ?_
    have hp2 := e2 _ _ hp1
    have t2 : Tst H2 (upd H2 ps (.lst (svs ++ [sv]))) := Tst.lst hp2
    have ha2 : upd H2 ps (.lst (svs ++ [sv])) a = some (.ins cS dx (fsS fv ps pc)) := by
      rw [upd_ne naps]
      exact e2 _ _ ha1
    have tt : Tst H (upd H2 ps (.lst (svs ++ [sv]))) := (((Tst.ex e1).trans t1).trans (.ex e2)).trans t2
    refine s_ret (ev_is (ev_I0 (ev_lenL (ev_fld (ev_var rfl) ha2 T.c_Shortener T.a_Shortener_steps lk2) upd_same) ev_c) ?_) fun H3 e3 => k H3 ?_ ?_
    · rw [List.length_append, hz3, hz1]
      show V.int (((ds.length + 1 : Nat) : Int) - 1) = _
      congr 1
      omega
    · exact ((((Sty.of e1).trans (Sty.put (.inr rfl))).trans (Sty.of e2)).trans (Sty.put (.inl rfl))).trans (Sty.of e3)
    · have t3 := tt.trans (.ex e3)
      refine ⟨⟨dx, e3 _ _ ha2⟩, h2.t t3, ⟨_, e3 _ _ upd_same, (h4.t t3).snoc (hs.t t3)⟩, ⟨dvs ++ [v], e3 _ _ ?_, (h6.t t3).snoc (hv.t (((t1.trans (.ex e2)).trans t2).trans (.ex e3)))⟩, h7⟩
      rw [upd_ne (Ne.symm h7)]
      exact e2 _ _ upd_same
def sp_resolve (cS : Addr) : Sp := fun vs H Q _ => ∃ a ps pc fv n cs ss ds i j x p q, vs = [.ref a, .int ((i : Nat) : Int), .int ((j : Nat) : Int), .int x] ∧ ShAt H cS a ps pc fv n cs ss ds ∧ (0 < x ∧ x ≤ n) ∧ (∀ e ∈ ds, e.length ≤ 30) ∧ ss.length = ds.length ∧ ds.length ≤ 50000 ∧
  ds[i]? = some p ∧ ds[j]? = some q ∧ (x ∉ p → ∀ H', Ex H H' → Q (.int (i : Int)) H') ∧ (x ∈ p → -x ∉ q → ∀ H', Ex H H' → Q (.int (j : Int)) H') ∧
  (x ∈ p → -x ∈ q → ∃ d, stepC cs ds (.res i j x) = some d ∧ ∀ H', Sty (two ps pc) H H' → ShAt H' cS a ps pc fv n cs (ss ++ [.res i j x]) (ds ++ [d]) → Q (.int (ds.length : Nat)) H')
theorem ok_Shortener_resolve (T : Txt K mg cS cL) : C8.Met P w K mg base 7 cS "resolve" (sp_resolve cS) [] := by
  have G_Shortener_add : C8.Met P w K mg base 6 cS "add" (sp_add cS) [] := ok_Shortener_add T
  refine metD T.c_Shortener T.m_Shortener_resolve sc_Shortener_resolve (fun vs H Q E h => ?_) fun f cdv A outer s H vs Q E hr h => ?_
  · obtain ⟨a, ps, pc, fv, n, cs, ss, ds, i, j, x, p, q, rfl, _⟩ := h
    rfl
  · obtain ⟨a, ps, pc, fv, n, cs, ss, ds, i, j, x, p, q, rfl, S, hx, hl, hz1, hz2, hp, hq, k1, k2, k3⟩ := h
    obtain ⟨⟨dx, h1⟩, h2, ⟨svs, h3, h4⟩, ⟨dvs, h5, h6⟩, h7⟩ := id S
    refine ⟨_, (pss_cons (ps_if (pt_cmpR (k_nin (K := K)) (pv 3) (pe_ix (k_ixL (K := K)) (k_fld (K := K) (pv 0) rfl) (pv 1) (fun _ _ => rfl)) (by rfl)) (pss_one (ps_ret (pv 1))) pss_nil)
      (pss_cons (ps_if (pt_cmpR (k_nin (K := K)) (pe_un un_neg (pv 3)) (pe_ix (k_ixL (K := K)) (k_fld (K := K) (pv 0) rfl) (pv 2) (fun _ _ => rfl)) (by rfl)) (pss_one (ps_ret (pv 2))) pss_nil)
      (pss_one (ps_ret (C8.pe_mt G_Shortener_add hr (by decide) (pv 0) (pa_cons (pe_tup (pa_cons pe_str (pa_cons (pv 1) (pa_cons (pv 2) (pa_cons (pv 3) pa_nil))))) pa_nil)))))), ?_⟩
    obtain ⟨u, hu, u2, rfl, hcu⟩ := h6.right hp
    obtain ⟨y, hy, y2, rfl, hcy⟩ := h6.right hq
    refine q_when (et_ninT (ev_var rfl) (ev_ixL (ev_fld (ev_var rfl) h1 T.c_Shortener T.a_Shortener_clauses lk3) (ev_var rfl) h5 (atI_nat hu)) hcu) (fun hb H1 e1 => s_ret (ev_var rfl) fun H2 e2 => k1 ?_ H2 (e1.trans e2)) fun hb H1 e1 => ?_
    · simpa using hb
    have m1 : x ∈ p := by simpa using hb
    refine q_when (et_ninT (ev_neg (ev_var rfl)) (ev_ixL (ev_fld (ev_var rfl) (e1 _ _ h1) T.c_Shortener T.a_Shortener_clauses lk3) (ev_var rfl) (e1 _ _ h5) (atI_nat hy)) (e1 _ _ hcy)) (fun hb H2 e2 => s_ret (ev_var rfl) fun H3 e3 => k2 m1 ?_ H3 ((e1.trans e2).trans e3)) fun hb H2 e2 => ?_
    · simpa using hb
    have m2 : -x ∈ q := by simpa using hb
    obtain ⟨d, hd, k⟩ := k3 m1 m2
    have e12 := e1.trans e2
    refine ⟨_, rfl, a, dx, _, rfl, e12 _ _ h1, lk4, (eu_tup (ea_cons ev_c (ea_cons (ev_var rfl) (ea_cons (ev_var rfl) (ea_cons (ev_var rfl) ea_nil)))) (by simp)) H2 (Ex.refl H2) _ fun t H3 ht e3 h3' => ?_⟩
    have e13 := e12.trans e3
    exact ⟨a, ps, pc, fv, n, cs, ss, ds, .ref t, .res i j x, d, rfl, S.ex e13, ⟨t, rfl, h3'⟩, hx, hl, hz1, hz2, hd, fun H' s' S' => k H' ((Sty.of e13).trans s') S'⟩
end
end K75
set_option Elab.async false
set_option linter.all false
set_option maxRecDepth 100000
set_option maxHeartbeats 4000000
/-! walks: LogFollower: made, cause, taken -/
namespace K75
open PySem PySem.Spec PyProof.Rows L2 Evl

abbrev vN (i : Nat) : V := .int (i : Int)
structure Fol (H : Hp) (cS cL b a ps pc pl : Addr) (fv : V) (n : Int) (cs : List Cl) (ss : List Step) (ds : List Cl) (pls : List Nat) : Prop where
  obj : ∃ dx, H b = some (.ins cL dx (fsL a pl))
  lst : H pl = some (.lst (pls.map vN))
  sh : ShAt H cS a ps pc fv n cs ss ds
  n1 : pl ≠ ps
  n2 : pl ≠ pc
theorem Fol.ex {H H' : Hp} {cS cL b a ps pc pl : Addr} {fv : V} {n : Int} {cs : List Cl} {ss : List Step} {ds : List Cl} {pls : List Nat} (h : Fol H cS cL b a ps pc pl fv n cs ss ds pls) (e : Ex H H') : Fol H' cS cL b a ps pc pl fv n cs ss ds pls := by
  obtain ⟨⟨dx, h1⟩, h2, h3, h4, h5⟩ := h
  exact ⟨⟨dx, e _ _ h1⟩, e _ _ h2, h3.ex e, h4, h5⟩
theorem Fol.keep {H H' : Hp} {cS cL b a ps pc pl : Addr} {fv : V} {n : Int} {cs : List Cl} {ss ss' : List Step} {ds ds' : List Cl} {pls : List Nat} (h : Fol H cS cL b a ps pc pl fv n cs ss ds pls) (e : Sty (two ps pc) H H') (s : ShAt H' cS a ps pc fv n cs ss' ds') : Fol H' cS cL b a ps pc pl fv n cs ss' ds' pls := by
  obtain ⟨⟨dx, h1⟩, h2, h3, h4, h5⟩ := h
  obtain ⟨svs, q1, _⟩ := h3.stp
  obtain ⟨dvs, q2, _⟩ := h3.cla
  refine ⟨⟨dx, e _ _ h1 fun z => ?_⟩, e _ _ h2 fun z => z.elim h4 h5, s, h4, h5⟩
  rcases z with z | z
  · rw [z, q1] at h1
    cases h1
  · rw [z, q2] at h1
    cases h1
theorem lc_yes {te : TE} {σ : L2.St} {H : Hp} {F : VK} {G : Hp → Prop} (h : te σ H F) : tYes σ H fun b H3 => if b = true then te σ H3 F else G H3 := h
theorem q_fldMake {K : PySem.W.Frag} {C : Addr} {sp : Sp} {dvs vs : List V} {E : XK} {t : TA} {ta : TE} {f : PySem.Str} {D : Ends} {tz : TS} {σ : L2.St} {H : Hp} (h : EvA t σ H vs)
    (k : ∀ H1 x dx, Ex H H1 → H1 x = none → H1 dx = none → dx ≠ x → sp (.ref x :: (vs ++ dvs)) (upd (upd H1 dx (.own x)) x (.ins C dx [])) (fun v H2 => v = .non ∧ ta σ H2 fun y H3 => ∃ a C dx fs, y = .ref a ∧ H3 a = some (.ins C dx fs) ∧ Cls K C ∧ NoAttr K C f ∧ fs.length < 1000 ∧
      tz D σ (upd H3 a (.ins C dx (putF f (.ref x) fs)))) E) : tSeq (sFld K ta (tMake C sp dvs E t) f) tz D σ H :=
  h H (Ex.refl H) _ fun H1 e x dx hx hd ne => k H1 x dx e hx hd ne
theorem s_fldR1 {K : PySem.W.Frag} {tr : TA} {ta te : TE} {f : PySem.Str} {D : Ends} {σ : L2.St} {H : Hp} {m j : Nat} {vs : List Nat} (h : EvA tr σ H [vN m]) (hm : m ≤ 40000) (Pv : Addr → Hp → Nat → Hp → Prop)
    (h0 : ∀ Dl H1, Ex H H1 → H1 Dl = none → Pv Dl H1 0 (upd H1 Dl (.lst [])))
    (hs : ∀ Dl H1 i H', Ex H H1 → H1 Dl = none → i < m → Pv Dl H1 i H' → wipe ((wipe σ vs).set j (some (vN i))) vs = wipe σ vs ∧ te ((wipe σ vs).set j (some (vN i))) H' fun y H4 => ∃ acc, H4 Dl = some (.lst acc) ∧ acc.length < sizeLine ∧ Pv Dl H1 (i + 1) (upd H4 Dl (.lst (acc ++ [y]))))
    (hd : ∀ Dl H1 H', Ex H H1 → H1 Dl = none → Pv Dl H1 m H' → ta σ H' fun y H3 => ∃ a C dx fs, y = .ref a ∧ H3 a = some (.ins C dx fs) ∧ Cls K C ∧ NoAttr K C f ∧ fs.length < 1000 ∧ D.nx σ (upd H3 a (.ins C dx (putF f (.ref Dl) fs)))) :
    sFld K ta (tLc (iRng1 tr) (gName j) tYes te vs) f D σ H :=
  h H (Ex.refl H) _ fun H1 e1 => ⟨_, rfl, by omega, by omega, fun Dl hDl => by
    have em : ((m : Nat) : Int).toNat = m := by omega
    refine lc_range (lo := 0) (n := ((m : Nat) : Int).toNat) (Pv Dl H1) (h0 Dl H1 e1 hDl) (fun i H' hi p => ?_) (fun H' p => hd Dl H1 H' e1 hDl (by rw [em] at p; exact p))
    have z := hs Dl H1 i H' e1 hDl (by omega) p
    have e0 : V.int (0 + (i : Int)) = vN i := by rw [Int.zero_add]
    rw [e0]
    exact ⟨z.1, lc_yes z.2⟩⟩
def axs (m : Nat) : List Step := (List.range m).map Step.ax
theorem axs_succ (m : Nat) : axs (m + 1) = axs m ++ [.ax m] := by
  unfold axs
  rw [List.range_succ, List.map_append] <;> rfl
section
variable {P : Program} {w : World} {K : PySem.W.Frag} {mg : PySem.Str → Option Value} {base : Heap} {cS cL : Addr}
def sp_LogFollower (cS cL : Addr) : Sp := fun vs H Q _ => ∃ b dx fv n cs, vs = [.ref b, fv] ∧ H b = some (.ins cL dx []) ∧ Fv H fv n cs ∧ cs.length ≤ 1000 ∧ (∀ c ∈ cs, c.length ≤ 30) ∧
  ∀ a ps pc pl H', H a = none → H ps = none → H pc = none → H pl = none → Sty (fun x => x = b) H H' → Fol H' cS cL b a ps pc pl fv n cs (axs cs.length) cs (List.range cs.length) → Q .non H'
theorem ok_LogFollower (T : Txt K mg cS cL) : C8.Mak P w K mg base 7 "LogFollower" cL (sp_LogFollower cS cL) [] := by
  have G_Shortener : C8.Mak P w K mg base 1 "Shortener" cS (sp_Shortener cS) [] := ok_Shortener T
  have G_Shortener_add : C8.Met P w K mg base 6 cS "add" (sp_add cS) [] := ok_Shortener_add T
  refine makD T.i_LogFollower sc_LogFollower_init (fun vs H Q E h => ?_) fun f cdv A outer s H vs Q E hr h => ?_
  · obtain ⟨b, dx, fv, n, cs, rfl, _⟩ := h
    rfl
  · obtain ⟨b, dx, fv, n, cs, rfl, hb, hf, hz, hl, k⟩ := h
    refine ⟨_, (pss_cons (ps_fld (pv 0) (C8.pe_mk G_Shortener hr (by decide) (by rfl) (pa_cons (pv 1) pa_nil)) rfl)
      (pss_one (ps_fld (pv 0) (pe_lc (own := [("k", 2)]) (g := gName 2) rfl sc_LogFollower_init.nd (pi_range1 (by rfl) T.z_range (pa_cons (pe_callB (k_len (K := K)) (by rfl) T.z_len PySem.boot_len (pa_cons (pe_ix (k_ixT (K := K)) (pv 1) pe_int (fun _ _ => rfl)) pa_nil)) pa_nil)) (blkOk_by (N := n_LogFollower_init) (sc := defScope s_LogFollower_init) (by decide +kernel)) (fun _ _ _ _ _ => pg_name (i := 2) sc_LogFollower_init.nd rfl (Or.inl rfl)) (fun _ _ _ _ _ => pts_nil) (fun _ _ _ _ _ => (C8.pe_mt G_Shortener_add hr (by decide) (k_fld (K := K) (pv 0) rfl) (pa_cons (pe_tup (pa_cons pe_str (pa_cons (pv 2) pa_nil))) pa_nil)))) rfl))), ?_⟩
    refine q_fldMake (ea_cons (ev_var rfl) ea_nil) fun H1 a dxa e1 ha hdx ne => ?_
    have nba : b ≠ a := fun z => by
      have q := e1 _ _ hb
      rw [z, ha] at q
      cases q
    have nbx : b ≠ dxa := fun z => by
      have q := e1 _ _ hb
      rw [z, hdx] at q
      cases q
    refine ⟨a, dxa, fv, rfl, upd_same, fun ps pc H2 hps hpc nps st h2 h3 h4 => ⟨rfl, ?_⟩⟩
    have x1 : Ex H1 (upd (upd H1 dxa (.own a)) a (.ins cS dxa [])) := by
      refine (Ex.new hdx).trans (Ex.new ?_)
      rw [upd_ne (Ne.symm ne)]
      exact ha
    have e2 : Ex H1 H2 := fun p o h => st p o (x1 p o h) fun z => by
      rw [z, ha] at h
      cases h
    have e02 := e1.trans e2
    have hb2 := e02 _ _ hb
    refine ⟨_, rfl, b, cL, dx, [], rfl, hb2, T.c_LogFollower, T.a_LogFollower_writer, by decide, ?_⟩
    -- the writer is in its place
    have nbp : b ≠ ps := fun z => by rw [z, h3] at hb2; cases hb2
    have nbc : b ≠ pc := fun z => by rw [z, h4] at hb2; cases hb2
    generalize hH3 : upd H2 b (.ins cL dx (putF "writer" (.ref a) [])) = H3
    have t3 : Tst H2 H3 := by
      rw [← hH3]
      exact Tst.put hb2 fun xs z => nomatch z
    have hb3 : H3 b = some (.ins cL dx (putF "writer" (.ref a) [])) := by rw [← hH3]; exact upd_same
    have k3 : ∀ p o, H2 p = some o → p ≠ b → H3 p = some o := fun p o h n => by rw [← hH3, upd_ne n]; exact h
    have f3 : Fv H3 fv n cs := hf.t ((Tst.ex e02).trans t3)
    have S0 : ShAt H3 cS a ps pc fv n cs (axs 0) (cs.take 0) := ⟨⟨dxa, k3 _ _ h2 (Ne.symm nba)⟩, f3, ⟨[], k3 _ _ h3 (Ne.symm nbp), .nil⟩, ⟨[], k3 _ _ h4 (Ne.symm nbc), .nil⟩, nps⟩
    obtain ⟨fa, fb, cvs, efv, g1, g2, g3⟩ := id f3
    subst efv
    have hlen := g3.len
    refine s_fldR1 (m := cvs.length) (ea_cons (ev_lenT (ev_ixT (ev_var rfl) ev_c g1 rfl) g2) ea_nil) (by omega) (fun Dl H4 i H' => Sty (fun x => two ps pc x ∨ x = Dl) H4 H' ∧ H' Dl = some (.lst ((List.range i).map vN)) ∧ ShAt H' cS a ps pc (.ref fa) n cs (axs i) (cs.take i)) ?_ ?_ ?_
    · intro Dl H4 e4 hDl
      exact ⟨Sty.put (by exact .inr rfl), upd_same, (S0.ex e4).ex (Ex.new hDl)⟩
    · rintro Dl H4 i H' e4 hDl hi ⟨p1, p2, p3⟩
      have S4 := S0.ex e4
      have b4 := e4 _ _ hb3
      obtain ⟨svs0, s4, _⟩ := S4.stp
      obtain ⟨dvs0, c4, _⟩ := S4.cla
      obtain ⟨dxs, o4⟩ := S4.obj
      have nDb : Dl ≠ b := fun z => by rw [z, b4] at hDl; cases hDl
      have nDs : Dl ≠ ps := fun z => by rw [z, s4] at hDl; cases hDl
      have nDc : Dl ≠ pc := fun z => by rw [z, c4] at hDl; cases hDl
      have nDa : Dl ≠ a := fun z => by rw [z, o4] at hDl; cases hDl
      have hi2 : i < cs.length := by omega
      refine ⟨rfl, ?_⟩
      have hb' : H' b = some (.ins cL dx (putF "writer" (.ref a) [])) := p1 _ _ b4 fun z => by
        rcases z with (z | z) | z
        · exact nbp z
        · exact nbc z
        · exact nDb z.symm
      obtain ⟨dxs', o'⟩ := p3.obj
      refine (ev_fld (v := .ref a) (ev_var rfl) hb' T.c_LogFollower T.a_LogFollower_writer rfl) H' (Ex.refl H') _ fun H5 e5 => ⟨a, dxs', _, rfl, e5 _ _ o', lk4, ?_⟩
      refine (eu_tup (ea_cons ev_c (ea_cons (ev_var rfl) ea_nil)) (by simp)) H5 (Ex.refl H5) _ fun t H6 ht e6 h6 => ?_
      have e56 := e5.trans e6
      refine ⟨a, ps, pc, .ref fa, n, cs, axs i, cs.take i, .ref t, .ax i, cs[i], rfl, p3.ex e56, ⟨t, rfl, h6⟩, trivial, fun e he => hl e (List.mem_of_mem_take he), ?_, ?_, List.getElem?_eq_getElem hi2, fun H7 s7 S7 => ?_⟩
      · rw [axs, List.length_map, List.length_range, List.length_take]
        omega
      · rw [List.length_take]
        omega
      · have hl7 : H7 Dl = some (.lst ((List.range i).map vN)) := s7 _ _ (e56 _ _ p2) fun z => z.elim nDs nDc
        have el : (cs.take i).length = i := by rw [List.length_take]; omega
        refine ⟨_, hl7, sz_lt (by rw [List.length_map, List.length_range]; omega), ?_, ?_, ?_⟩
        · exact ((p1.trans (Sty.of e56)).trans (s7.mono fun a z => .inl z)).trans (Sty.put (by exact .inr rfl))
        · rw [upd_same, el, List.range_succ, List.map_append] <;> rfl
        · have e7 : Sty (fun x => x = Dl) H7 (upd H7 Dl (.lst ((List.range i).map vN ++ [vN (cs.take i).length]))) := Sty.put rfl
          rw [axs_succ, take_snoc (List.getElem?_eq_getElem hi2)]
          obtain ⟨⟨u1, u2⟩, u3, ⟨u4, u5, u6⟩, ⟨u7, u8, u9⟩, u10⟩ := S7
          have tt : Tst H7 (upd H7 Dl (.lst ((List.range i).map vN ++ [vN (cs.take i).length]))) := Tst.lst hl7
          exact ⟨⟨u1, e7 _ _ u2 (Ne.symm nDa)⟩, u3.t tt, ⟨u4, e7 _ _ u5 (Ne.symm nDs), u6.t tt⟩, ⟨u7, e7 _ _ u8 (Ne.symm nDc), u9.t tt⟩, u10⟩
    · rintro Dl H4 H' e4 hDl ⟨p1, p2, p3⟩
      have S4 := S0.ex e4
      have b4 := e4 _ _ hb3
      obtain ⟨svs0, s4, _⟩ := S4.stp
      obtain ⟨dvs0, c4, _⟩ := S4.cla
      obtain ⟨dxs, o4⟩ := S4.obj
      have nDb : Dl ≠ b := fun z => by rw [z, b4] at hDl; cases hDl
      have nDs : Dl ≠ ps := fun z => by rw [z, s4] at hDl; cases hDl
      have nDc : Dl ≠ pc := fun z => by rw [z, c4] at hDl; cases hDl
      have nDa : Dl ≠ a := fun z => by rw [z, o4] at hDl; cases hDl
      have hb' : H' b = some (.ins cL dx (putF "writer" (.ref a) [])) := p1 _ _ b4 fun z => by
        rcases z with (z | z) | z
        · exact nbp z
        · exact nbc z
        · exact nDb z.symm
      refine ⟨_, rfl, b, cL, dx, _, rfl, hb', T.c_LogFollower, T.a_LogFollower_places, by simp [putF], ?_⟩
      rw [hlen] at p2 p3
      rw [List.take_length] at p3
      have hold : ∀ p, H4 p = none → H p = none := fun p h => by
        have z := fresh_back e4 h
        have z2 : p ≠ b := fun y => by rw [y, hb3] at z; cases z
        rw [← hH3, upd_ne z2] at z
        exact fresh_back e02 z
      have olds : ∀ p, p ≠ a → upd (upd H1 dxa (.own a)) a (.ins cS dxa []) p = none → H p = none := fun p n h => by
        rw [upd_ne n] at h
        by_cases y : p = dxa
        · rw [y, upd_same] at h
          cases h
        · rw [upd_ne y] at h
          exact fresh_back e1 h
      have nps2 : ps ≠ a := fun z => by rw [z, upd_same] at hps; cases hps
      have npc2 : pc ≠ a := fun z => by rw [z, upd_same] at hpc; cases hpc
      refine k a ps pc Dl _ (fresh_back e1 ha) (olds ps nps2 hps) (olds pc npc2 hpc) (hold Dl hDl) ?_ ⟨⟨dx, ?_⟩, ?_, ?_, nDs, nDc⟩
      · have sA : Sty (fun x => x = b) H H3 := by
          rw [← hH3]
          exact (Sty.of e02).trans (Sty.put (by exact rfl))
        have sB : Sty (fun x => x = b ∨ (two ps pc x ∨ x = Dl)) H _ := ((sA.mono fun x z => .inl z).trans ((Sty.of e4).trans (p1.mono fun x z => .inr z))).trans (Sty.put (p := b) (o := .ins cL dx (putF "places" (.ref Dl) (putF "writer" (.ref a) []))) (.inl rfl))
        refine sB.old fun x z => ?_
        rcases z with z | (z | z) | z
        · exact .inl z
        · rw [z]; exact .inr (olds ps nps2 hps)
        · rw [z]; exact .inr (olds pc npc2 hpc)
        · rw [z]; exact .inr (hold Dl hDl)
      · rw [upd_same, pf3] <;> rfl
      · rw [upd_ne nDb]
        exact p2
      · have e7 : Sty (fun x => x = b) H' (upd H' b (.ins cL dx (putF "places" (.ref Dl) (putF "writer" (.ref a) [])))) := Sty.put rfl
        obtain ⟨⟨u1, u2⟩, u3, ⟨u4, u5, u6⟩, ⟨u7, u8, u9⟩, u10⟩ := p3
        have tt : Tst H' (upd H' b (.ins cL dx (putF "places" (.ref Dl) (putF "writer" (.ref a) [])))) := Tst.put hb' fun xs z => nomatch z
        exact ⟨⟨u1, e7 _ _ u2 (Ne.symm nba)⟩, u3.t tt, ⟨u4, e7 _ _ u5 (Ne.symm nbp), u6.t tt⟩, ⟨u7, e7 _ _ u8 (Ne.symm nbc), u9.t tt⟩, u10⟩
def sp_cause (cS cL : Addr) : Sp := fun vs H Q _ => ∃ b a ps pc pl fv n cs ss ds pls fo fnd, vs = [.ref b, .ref fo] ∧ Fol H cS cL b a ps pc pl fv n cs ss ds pls ∧ (∀ i ∈ pls, i < ds.length) ∧ (∀ e ∈ ds, e.length ≤ 30) ∧ H fo = some (.lst (fnd.map V.int)) ∧
  (∀ t i p H', H t = none → Ex H H' → i ∈ pls → ds[i]? = some p → rest p fnd = [] → H' t = some (.tup [vN i, .non]) → Q (.ref t) H') ∧
  (∀ t i p l H', H t = none → Ex H H' → i ∈ pls → ds[i]? = some p → rest p fnd = [l] → l ∉ fnd → H' t = some (.tup [vN i, .int l]) → Q (.ref t) H') ∧
  (∀ t H', H t = none → Ex H H' → (∀ i ∈ pls, ∀ p, ds[i]? = some p → rest p fnd ≠ [] ∧ ∀ l, rest p fnd = [l] → l ∈ fnd) → H' t = some (.tup [.int (-1), .non]) → Q (.ref t) H')
theorem ok_LogFollower_cause (T : Txt K mg cS cL) : C8.Met P w K mg base 1 cL "cause" (sp_cause cS cL) [] := by
  refine metD T.c_LogFollower T.m_LogFollower_cause sc_LogFollower_cause (fun vs H Q E h => ?_) fun f cdv A outer s H vs Q E hr h => ?_
  · obtain ⟨b, a, ps, pc, pl, fv, n, cs, ss, ds, pls, fo, fnd, rfl, _⟩ := h
    rfl
  · obtain ⟨b, a, ps, pc, pl, fv, n, cs, ss, ds, pls, fo, fnd, rfl, F, hpl, hl, hfo, k1, k2, k3⟩ := h
    refine ⟨_, (pss_cons (ps_for PassesOwn.never rfl (pi_list (k_fld (K := K) (pv 0) rfl)) (pg_name (i := 2) sc_LogFollower_cause.nd rfl (Or.inl rfl))
        (pss_cons (ps_setLc (i := 3) (own := [("literal", 4)]) (g := gName 4) rfl sc_LogFollower_cause.nd rfl rfl (sw_true rfl rfl rfl (by decide +kernel)) (pi_tup (pe_ix (k_ixL (K := K)) (k_fld (K := K) (k_fld (K := K) (pv 0) rfl) rfl) (pv 2) (fun _ _ => rfl))) (blkOk_by (N := n_LogFollower_cause) (sc := defScope s_LogFollower_cause) (by decide +kernel)) (fun _ _ _ _ _ => pg_name (i := 4) sc_LogFollower_cause.nd rfl (Or.inl rfl)) (fun _ _ _ _ _ => pts_one (pt_cmpR (k_nin (K := K)) (pe_un un_neg (pv 4)) (pv 1) (by rfl))) (fun _ _ _ _ _ => (pv 4)))
      (pss_cons (ps_if (pt_cmpR op_eq (pe_callB (k_len (K := K)) (by rfl) T.z_len PySem.boot_len (pa_cons (pv 3) pa_nil)) pe_int (nomark _)) (pss_one (ps_ret (pe_tup (pa_cons (pv 2) (pa_cons pe_non pa_nil))))) pss_nil)
      (pss_one (ps_if (PW.pt (pw_and (pt_cmpR op_eq (pe_callB (k_len (K := K)) (by rfl) T.z_len PySem.boot_len (pa_cons (pv 3) pa_nil)) pe_int (nomark _)) (pw_and1 (pt_cmpR (k_nin (K := K)) (pe_ix (k_ixL (K := K)) (pv 3) pe_int (fun _ _ => rfl)) (pv 1) (by rfl))))) (pss_one (ps_ret (pe_tup (pa_cons (pv 2) (pa_cons (pe_ix (k_ixL (K := K)) (pv 3) pe_int (fun _ _ => rfl)) pa_nil))))) pss_nil)))))
      (pss_one (ps_ret (pe_tup (pa_cons (pe_un un_neg pe_int) (pa_cons pe_non pa_nil)))))), ?_⟩
    obtain ⟨⟨dx, h1⟩, h2, ⟨⟨dxs, h3⟩, hf, _, ⟨dvs, h4, h5⟩, _⟩, _, _⟩ := id F
    refine q_forL (ev_fld (ev_var rfl) h1 T.c_LogFollower T.a_LogFollower_places lk7) (sq_of h2)
      (fun i σ H' => ∃ x y z, σ = [some (.ref b), some (.ref fo), x, y, z] ∧ Ex H H' ∧ ∀ j ∈ pls.take i, ∀ p, ds[j]? = some p → rest p fnd ≠ [] ∧ ∀ l, rest p fnd = [l] → l ∈ fnd)
      (fun H1 e1 => ⟨none, none, none, rfl, e1, fun j hj => by simp at hj⟩) (fun i σ' H' _ ⟨x, y, z, _, e, _⟩ => sq_of (e _ _ h2)) ?_ ?_
    · rintro i v σ' H' hv ⟨x, y, z, rfl, e, hq⟩
      rw [List.getElem?_map] at hv
      cases hj : pls[i]? with
      | none => rw [hj] at hv; cases hv
      | some j =>
      rw [hj] at hv
      cases hv
      have hjm := List.mem_of_getElem? hj
      have hjl := hpl j hjm
      obtain ⟨u, hu, u2, rfl, hcu⟩ := h5.right (List.getElem?_eq_getElem hjl)
      have hlen := hl ds[j] (List.getElem_mem hjl)
      show (tSeq _ _) _ _ H'
      refine q_asgL (lcI (ls := ds[j]) (fun x => !fnd.contains (-x)) (fun x => x) (src_tup (ev_ixL (ev_fld (ev_fld (ev_var rfl) (e _ _ h1) T.c_LogFollower T.a_LogFollower_writer lk6) (e _ _ h3) T.c_Shortener T.a_Shortener_clauses lk3) (ev_var rfl) (e _ _ h4) (atI_nat hu)) (e _ _ hcu)) (by omega) (fun x => rfl)
        (fun l H2 e2 _ => et_ninL (ev_neg (ev_var rfl)) (ev_var rfl) (e2 _ _ (e _ _ hfo))) (fun l H2 e2 _ _ => ev_var rfl)) fun q H2 hq1 e2 hq2 => ?_
      rw [List.map_id'] at hq2
      have hq3 : H2 q = some (.lst ((rest ds[j] fnd).map V.int)) := hq2
      have lr : (rest ds[j] fnd).length = ((rest ds[j] fnd).map V.int).length := (List.length_map _).symm
      refine q_when (et_eqI (ev_lenL (ev_var rfl) hq3) ev_c) (fun hb H3 e3 => ?_) fun hb H3 e3 => ?_
      · have z := of_decide_eq_true hb
        have rn : rest ds[j] fnd = [] := List.eq_nil_of_length_eq_zero (by omega)
        have e03 := (e.trans e2).trans e3
        exact s_retU (eu_tup (ea_cons (ev_var rfl) (ea_cons ev_c ea_nil)) (by simp)) fun t H4 ht e4 h4 => k1 t j ds[j] H4 (fresh_back e03 ht) (e03.trans e4) hjm (List.getElem?_eq_getElem hjl) rn h4
      · have z := of_decide_eq_false hb
        have rn : rest ds[j] fnd ≠ [] := fun y => z (by rw [y]; rfl)
        have e23 := e2.trans e3
        have step : ∀ (z : Option V) H4, Ex H3 H4 → (∀ l, rest ds[j] fnd = [l] → l ∈ fnd) → ∃ x y z', [some (V.ref b), some (.ref fo), some (vN j), some (.ref q), z] = [some (.ref b), some (.ref fo), x, y, z'] ∧ Ex H H4 ∧ ∀ j ∈ pls.take (i + 1), ∀ p, ds[j]? = some p → rest p fnd ≠ [] ∧ ∀ l, rest p fnd = [l] → l ∈ fnd := fun z H4 e4 hall => by
          refine ⟨_, _, _, rfl, (e.trans e23).trans e4, fun j' hj' p hp => ?_⟩
          rw [take_snoc hj] at hj'
          rcases List.mem_append.mp hj' with y | y
          · exact hq j' y p hp
          · rw [List.mem_singleton.mp y, List.getElem?_eq_getElem hjl] at hp
            cases hp
            exact ⟨rn, hall⟩
        by_cases h1l : ∃ l, rest ds[j] fnd = [l]
        · obtain ⟨l, hl1⟩ := h1l
          have hq4 := e3 _ _ hq3
          rw [hl1] at hq4
          refine s_when (b := true && !fnd.contains l) (et_and (et_is (et_eqI (ev_lenL (ev_var rfl) hq4) ev_c) (by rfl)) fun _ => et_ninL (ev_ixL (ev_var rfl) ev_c hq4 rfl) (ev_var rfl) ((e.trans e23) _ _ hfo)) (fun hb H4 e4 => ?_) fun hb H4 e4 => ?_
          · have ee := (e.trans e23).trans e4
            exact s_retU (eu_tup (ea_cons (ev_var rfl) (ea_cons (ev_ixL (v := .int l) (ev_var rfl) ev_c (e4 _ _ hq4) rfl) ea_nil)) (by simp)) fun t H5 ht e5 h5 => k2 t j ds[j] l H5 (fresh_back ee ht) (ee.trans e5) hjm (List.getElem?_eq_getElem hjl) hl1 (by simpa using hb) h5
          · refine step _ H4 e4 fun l' hl' => ?_
            rw [hl1] at hl'
            cases hl'
            simpa using hb
        · have n1 : (rest ds[j] fnd).length ≠ 1 := fun y => h1l (List.length_eq_one_iff.mp y)
          refine s_when (b := false) (et_is (et_and (b := false) (et_eqI (ev_lenL (ev_var rfl) (e3 _ _ hq3)) ev_c) fun hb => absurd (of_decide_eq_true hb) (by omega)) (Bool.and_false _)) (fun z => by cases z) fun _ H4 e4 => step _ H4 e4 fun l hl => absurd ⟨l, hl⟩ h1l
    · rintro σ' H' ⟨x, y, z, rfl, e, hq⟩
      rw [List.length_map, List.take_length] at hq
      exact s_retU (eu_tup (ea_cons (ev_neg ev_c) (ea_cons ev_c ea_nil)) (by simp)) fun t H2 ht e2 h2 => k3 t H2 (fresh_back e ht) (e.trans e2) hq h2
end
end K75
set_option Elab.async false
set_option linter.all false
set_option maxRecDepth 100000
set_option maxHeartbeats 4000000
/-! walks: LogFollower: taken, follow -/
namespace K75
open PySem PySem.Spec PyProof.Rows L2 Evl

theorem go_meth {C a dx : Addr} {fs : List (PySem.Str × V)} {m : PySem.Str} {sp : Sp} {dvs vs : List V} {E : XK} {ta : TE} {t : TA} {σ : L2.St} {H : Hp} {Q : VK} (ha : Ev ta σ H (.ref a)) (ho : H a = some (.ins C dx fs)) (l : fs.lookup m = none) (h : EvA t σ H vs)
    (k : ∀ H1, Ex H H1 → sp (.ref a :: (vs ++ dvs)) H1 Q E) : tMeth C m sp dvs E ta t σ H Q :=
  ha H (Ex.refl H) _ fun H1 e1 => ⟨a, dx, fs, rfl, e1 _ _ ho, l, h H1 e1 _ fun H2 e2 => k H2 (e1.trans e2)⟩
theorem s_retMeth {C a dx : Addr} {fs : List (PySem.Str × V)} {m : PySem.Str} {sp : Sp} {dvs vs : List V} {E : XK} {ta : TE} {t : TA} {σ : L2.St} {H : Hp} {D : Ends} (ha : Ev ta σ H (.ref a)) (ho : H a = some (.ins C dx fs)) (l : fs.lookup m = none) (h : EvA t σ H vs)
    (k : ∀ H1, Ex H H1 → sp (.ref a :: (vs ++ dvs)) H1 D.rt E) : tRet (tMeth C m sp dvs E ta t) D σ H := go_meth ha ho l h k
theorem s_asgMeth {C a dx : Addr} {fs : List (PySem.Str × V)} {m : PySem.Str} {sp : Sp} {dvs vs : List V} {E : XK} {ta : TE} {t : TA} {σ : L2.St} {H : Hp} {D : Ends} {g : TG} (ha : Ev ta σ H (.ref a)) (ho : H a = some (.ins C dx fs)) (l : fs.lookup m = none) (h : EvA t σ H vs)
    (k : ∀ H1, Ex H H1 → sp (.ref a :: (vs ++ dvs)) H1 (fun x H2 => g x σ H2 D.nx) E) : tAsg (tMeth C m sp dvs E ta t) g D σ H := go_meth ha ho l h k
theorem s_dropMeth {C a dx : Addr} {fs : List (PySem.Str × V)} {m : PySem.Str} {sp : Sp} {dvs vs : List V} {E : XK} {ta : TE} {t : TA} {σ : L2.St} {H : Hp} {D : Ends} (ha : Ev ta σ H (.ref a)) (ho : H a = some (.ins C dx fs)) (l : fs.lookup m = none) (h : EvA t σ H vs)
    (k : ∀ H1, Ex H H1 → sp (.ref a :: (vs ++ dvs)) H1 (fun x H2 => D.nx σ H2) E) : tDrop (tMeth C m sp dvs E ta t) D σ H := go_meth ha ho l h k
theorem s_forRev {K : PySem.W.Frag} {σ : L2.St} {H : Hp} {D : Ends} {tu : TS} {g : TG} {a : Addr} {xs : List V} {ta : TA} (h : EvA ta σ H [.ref a]) (hx : H a = some (.lst xs)) (Pv : Nat → L2.St → Hp → Prop) (h0 : ∀ H1, Ex H H1 → Pv 0 σ H1) (hl : ∀ i σ' H', Pv i σ' H' → H' a = some (.lst xs))
    (hs : ∀ (i : Nat) x σ' H', i < xs.length → xs[xs.length - 1 - i]? = some x → Pv i σ' H' → g x σ' H' fun σ2 H2 => tu { D with nx := Pv (i + 1), ct := Pv (i + 1), bk := D.nx } σ2 H2)
    (hd : ∀ σ' H', Pv xs.length σ' H' → D.nx σ' H') : tFor (iRev K ta) g tu D σ H :=
  h H (Ex.refl H) _ fun H1 e => ⟨a, xs, rfl, sq_of (e _ _ hx), for_it walk_rev Pv (h0 H1 e) (fun i σ' H' _ q => sq_of (hl i σ' H' q)) (fun i x σ' H' H'' hi p ⟨eH, q⟩ => by
    subst eH
    exact hs i x σ' _ hi q p) hd⟩
theorem q_forRev {K : PySem.W.Frag} {σ : L2.St} {H : Hp} {D : Ends} {tu tz : TS} {g : TG} {a : Addr} {xs : List V} {ta : TA} (h : EvA ta σ H [.ref a]) (hx : H a = some (.lst xs)) (Pv : Nat → L2.St → Hp → Prop) (h0 : ∀ H1, Ex H H1 → Pv 0 σ H1) (hl : ∀ i σ' H', Pv i σ' H' → H' a = some (.lst xs))
    (hs : ∀ (i : Nat) x σ' H', i < xs.length → xs[xs.length - 1 - i]? = some x → Pv i σ' H' → g x σ' H' fun σ2 H2 => tu { D with nx := Pv (i + 1), ct := Pv (i + 1), bk := tz D } σ2 H2)
    (hd : ∀ σ' H', Pv xs.length σ' H' → tz D σ' H') : tSeq (tFor (iRev K ta) g tu) tz D σ H := s_forRev (D := { D with nx := tz D }) h hx Pv h0 hl hs hd
section
variable {P : Program} {w : World} {K : PySem.W.Frag} {mg : PySem.Str → Option Value} {base : Heap} {cS cL : Addr}
def sp_taken (cS cL : Addr) : Sp := fun vs H Q _ => ∃ b a ps pc pl fv n cs ss ds pls place reason l p q, vs = [.ref b, vN place, vN reason, .int l] ∧ Fol H cS cL b a ps pc pl fv n cs ss ds pls ∧ (l ≠ 0 ∧ -n ≤ l ∧ l ≤ n) ∧ (∀ e ∈ ds, e.length ≤ 30) ∧ ss.length = ds.length ∧ ds.length ≤ 50000 ∧
  ds[place]? = some p ∧ ds[reason]? = some q ∧ l ∈ q ∧ (-l ∉ p → ∀ H', Ex H H' → Q (vN place) H') ∧
  (-l ∈ p → ∃ d, stepC cs ds (backStep place reason l) = some d ∧ ∀ H', Sty (two ps pc) H H' → ShAt H' cS a ps pc fv n cs (ss ++ [backStep place reason l]) (ds ++ [d]) → Q (vN ds.length) H')
theorem ok_LogFollower_taken (T : Txt K mg cS cL) : C8.Met P w K mg base 8 cL "taken" (sp_taken cS cL) [] := by
  have G_Shortener_resolve : C8.Met P w K mg base 7 cS "resolve" (sp_resolve cS) [] := ok_Shortener_resolve T
  refine metD T.c_LogFollower T.m_LogFollower_taken sc_LogFollower_taken (fun vs H Q E h => ?_) fun f cdv A outer s H vs Q E hr h => ?_
  · obtain ⟨b, a, ps, pc, pl, fv, n, cs, ss, ds, pls, place, reason, l, p, q, rfl, _⟩ := h
    rfl
  · obtain ⟨b, a, ps, pc, pl, fv, n, cs, ss, ds, pls, place, reason, l, p, q, rfl, F, hl, hz, hz1, hz2, hp, hq, hlq, k1, k2⟩ := h
    refine ⟨_, (pss_cons (ps_if (pt_cmpR (k_nin (K := K)) (pe_un un_neg (pv 3)) (pe_ix (k_ixL (K := K)) (k_fld (K := K) (k_fld (K := K) (pv 0) rfl) rfl) (pv 1) (fun _ _ => rfl)) (by rfl)) (pss_one (ps_ret (pv 1))) pss_nil)
      (pss_cons (ps_if (pt_cmpR op_gt (pv 3) pe_int (nomark _)) (pss_one (ps_ret (C8.pe_mt G_Shortener_resolve hr (by decide) (k_fld (K := K) (pv 0) rfl) (pa_cons (pv 2) (pa_cons (pv 1) (pa_cons (pv 3) pa_nil)))))) pss_nil)
      (pss_one (ps_ret (C8.pe_mt G_Shortener_resolve hr (by decide) (k_fld (K := K) (pv 0) rfl) (pa_cons (pv 1) (pa_cons (pv 2) (pa_cons (pe_un un_neg (pv 3)) pa_nil)))))))), ?_⟩
    obtain ⟨⟨dx, h1⟩, h2, S, _, _⟩ := id F
    obtain ⟨⟨dxs, h3⟩, hf, _, ⟨dvs, h4, h5⟩, _⟩ := id S
    obtain ⟨u, hu, u2, rfl, hcu⟩ := h5.right hp
    refine q_when (et_ninT (ev_neg (ev_var rfl)) (ev_ixL (ev_fld (ev_fld (ev_var rfl) h1 T.c_LogFollower T.a_LogFollower_writer lk6) h3 T.c_Shortener T.a_Shortener_clauses lk3) (ev_var rfl) h4 (atI_nat hu)) hcu) (fun hb H1 e1 => s_ret (ev_var rfl) fun H2 e2 => k1 ?_ H2 (e1.trans e2)) fun hb H1 e1 => ?_
    · simpa using hb
    have m1 : -l ∈ p := by simpa using hb
    obtain ⟨d, hd, k⟩ := k2 m1
    by_cases hpos : 0 < l
    · have eb : backStep place reason l = .res reason place l := if_pos hpos
      rw [eb] at hd k
      refine q_when (b := true) (et_is (et_I0 (ev_var rfl) ev_c) (decide_eq_true hpos)) (fun _ H2 e2 => ?_) (fun z => by cases z)
      have e12 := e1.trans e2
      refine s_retMeth (ev_fld (v := .ref a) (ev_var rfl) (e12 _ _ h1) T.c_LogFollower T.a_LogFollower_writer lk6) (e12 _ _ h3) lk5 (ea_cons (ev_var rfl) (ea_cons (ev_var rfl) (ea_cons (ev_var rfl) ea_nil))) fun H4 e4 => ?_
      have e14 := e12.trans e4
      exact ⟨a, ps, pc, fv, n, cs, ss, ds, reason, place, l, q, p, rfl, S.ex e14, ⟨hpos, hl.2.2⟩, hz, hz1, hz2, hq, hp, fun z => absurd hlq z, fun _ z => absurd m1 z, fun _ _ => ⟨d, hd, fun H' s' S' => k H' ((Sty.of e14).trans s') S'⟩⟩
    · have eb : backStep place reason l = .res place reason (-l) := if_neg hpos
      rw [eb] at hd k
      refine q_when (b := false) (et_is (et_I0 (ev_var rfl) ev_c) (decide_eq_false hpos)) (fun z => by cases z) (fun _ H2 e2 => ?_)
      have e12 := e1.trans e2
      refine s_retMeth (ev_fld (v := .ref a) (ev_var rfl) (e12 _ _ h1) T.c_LogFollower T.a_LogFollower_writer lk6) (e12 _ _ h3) lk5 (ea_cons (ev_var rfl) (ea_cons (ev_var rfl) (ea_cons (ev_neg (ev_var rfl)) ea_nil))) fun H4 e4 => ?_
      have e14 := e12.trans e4
      refine ⟨a, ps, pc, fv, n, cs, ss, ds, place, reason, -l, p, q, rfl, S.ex e14, ⟨by omega, by omega⟩, hz, hz1, hz2, hp, hq, fun z => absurd m1 z, fun _ z => absurd ?_ z, fun _ _ => ⟨d, hd, fun H' s' S' => k H' ((Sty.of e14).trans s') S'⟩⟩
      rw [Int.neg_neg]
      exact hlq
/-! ### follow -/
/-- no clause at those places is broken, no unit is outside -/
def ClosedAt (ds : List Cl) (pls : List Nat) (S : List Int) : Prop := ∀ i ∈ pls, ∀ p, ds[i]? = some p → rest p S ≠ [] ∧ ∀ l, rest p S = [l] → l ∈ S
def Found (ds : List Cl) (pls : List Nat) (fnd : List Int) (pv lv : V) : Prop :=
  (∃ i p, i ∈ pls ∧ ds[i]? = some p ∧ rest p fnd = [] ∧ pv = vN i ∧ lv = .non) ∨ ∃ i p l, i ∈ pls ∧ ds[i]? = some p ∧ rest p fnd = [l] ∧ l ∉ fnd ∧ pv = vN i ∧ lv = .int l
theorem ask {E : XK} {σ : L2.St} {H : Hp} {D : Ends} {b a ps pc pl : Addr} {fv : V} {n : Int} {cs : List Cl} {ss : List Step} {ds : List Cl} {pls : List Nat} {fo : Addr} {fnd : List Int} (F : Fol H cS cL b a ps pc pl fv n cs ss ds pls)
    (s0 : σ[0]? = some (some (.ref b))) (s2 : σ[2]? = some (some (.ref fo))) (hfo : H fo = some (.lst (fnd.map V.int))) (hpl : ∀ i ∈ pls, i < ds.length) (hl : ∀ e ∈ ds, e.length ≤ 30) (hR : ¬ ClosedAt ds pls fnd)
    (k : ∀ pv lv H', Ex H H' → Found ds pls fnd pv lv → D.nx ((σ.set 4 (some pv)).set 5 (some lv)) H') :
    tAsg (tMeth cL "cause" (sp_cause cS cL) [] E (tVar 0) (tCons (tVar 2) tNil)) (gTup K 2 (gCons (gName 4) (gCons (gName 5) gNil))) D σ H := by
  obtain ⟨⟨dx, h1⟩, _⟩ := id F
  refine s_asgMeth (ev_var s0) h1 lk8 (ea_cons (ev_var s2) ea_nil) fun H2 e12 => ?_
  refine ⟨b, a, ps, pc, pl, fv, n, cs, ss, ds, pls, fo, fnd, rfl, F.ex e12, hpl, hl, e12 _ _ hfo, ?_, ?_, ?_⟩
  · intro t i p H' ht e3 hi hp hr h
    exact ⟨t, [vN i, .non], rfl, st_of h, rfl, _, _, rfl, _, _, rfl, rfl, k _ _ H' (e12.trans e3) (.inl ⟨i, p, hi, hp, hr, rfl, rfl⟩)⟩
  · intro t i p l H' ht e3 hi hp hr hl h
    exact ⟨t, [vN i, .int l], rfl, st_of h, rfl, _, _, rfl, _, _, rfl, rfl, k _ _ H' (e12.trans e3) (.inr ⟨i, p, l, hi, hp, hr, hl, rfl, rfl⟩)⟩
  · intro t H' ht e3 hc h
    exact absurd hc hR
def three (p q r : Addr) : Addr → Prop := fun x => x = p ∨ x = q ∨ x = r
/-- the pair of a reason -/
def Rv (H : Hp) (v : V) (pr : Int × Nat) : Prop := ∃ t, v = .ref t ∧ H t = some (.tup [.int pr.1, vN pr.2])
theorem Rv.t {H H' : Hp} {v : V} {pr : Int × Nat} (h : Rv H v pr) (e : Tst H H') : Rv H' v pr := by
  obtain ⟨t, h1, h2⟩ := h
  exact ⟨t, h1, e t _ h2⟩
theorem q_while' {σ : L2.St} {H : Hp} {D : Ends} {t : TT} {tu tz : TS} (W : Nat → L2.St → Hp → Prop) (m0 : Nat) (h0 : W m0 σ H)
    (hs : ∀ m σ' H', W m σ' H' → ∃ b, EvT t σ' H' b ∧ (b = true → ∀ H1, Ex H' H1 → tu { D with nx := fun σ2 H2 => ∃ m', m' < m ∧ W m' σ2 H2, ct := fun σ2 H2 => ∃ m', m' < m ∧ W m' σ2 H2, bk := tz D } σ' H1) ∧ (b = false → ∀ H1, Ex H' H1 → tz D σ' H1)) : tSeq (tWhile t tu) tz D σ H :=
  q_while W m0 h0 fun m σ' H' hw => by
    obtain ⟨b, h1, h2, h3⟩ := hs m σ' H' hw
    exact ⟨b, h1, fun hb H1 e => ⟨_, fun _ _ z => z, h2 hb H1 e⟩, h3⟩
def sp_follow (cS cL : Addr) : Sp := fun vs H Q _ => ∃ b a ps pc pl fv n cs ss ds pls v c, vs = [.ref b, v] ∧ Fol H cS cL b a ps pc pl fv n cs ss ds pls ∧ Cv H v c ∧ Clause n c ∧ (0 ≤ n ∧ n ≤ 30) ∧ Drv n cs ss ds ∧ (∀ x ∈ cs, Clause n x) ∧ (∀ i ∈ pls, i < ds.length) ∧ ds.length ≤ 20000 ∧ pls.length ≤ 20000 ∧
  (∀ S, (∀ x ∈ c.map (fun y => -y), x ∈ S) → ¬ ClosedAt ds pls S) ∧
  ∀ ss' es k p H', Sty (three ps pc pl) H H' → Fol H' cS cL b a ps pc pl fv n cs ss' (ds ++ es) (pls ++ [k]) → Drv n cs ss' (ds ++ es) → es.length ≤ n.toNat → (ds ++ es)[k]? = some p → (∀ x ∈ p, x ∈ c) → Q .non H'
theorem ok_LogFollower_follow (T : Txt K mg cS cL) : C8.Met P w K mg base 9 cL "follow" (sp_follow cS cL) [] := by
  have G_LogFollower_cause : C8.Met P w K mg base 1 cL "cause" (sp_cause cS cL) [] := ok_LogFollower_cause T
  have G_LogFollower_taken : C8.Met P w K mg base 8 cL "taken" (sp_taken cS cL) [] := ok_LogFollower_taken T
  refine metD T.c_LogFollower T.m_LogFollower_follow sc_LogFollower_follow (fun vs H Q E h => ?_) fun f cdv A outer s H vs Q E hr h => ?_
  · obtain ⟨b, a, ps, pc, pl, fv, n, cs, ss, ds, pls, v, c, rfl, _⟩ := h
    rfl
  · obtain ⟨b, a, ps, pc, pl, fv, n, cs, ss, ds, pls, v, c, rfl, F, ⟨va, rfl, hc⟩, hcl, hn, hD, hcs, hpl, hz1, hz2, hR, k⟩ := h
    refine ⟨_, (pss_cons (ps_setLc (i := 2) (own := [("literal", 5)]) (g := gName 5) rfl sc_LogFollower_follow.nd rfl rfl (sw_true rfl rfl rfl (by decide +kernel)) (pi_tup (pv 1)) (blkOk_by (N := n_LogFollower_follow) (sc := defScope s_LogFollower_follow) (by decide +kernel)) (fun _ _ _ _ _ => pg_name (i := 5) sc_LogFollower_follow.nd rfl (Or.inl rfl)) (fun _ _ _ _ _ => pts_nil) (fun _ _ _ _ _ => (pe_un un_neg (pv 5))))
      (pss_cons (ps_set (i := 3) sc_LogFollower_follow.nd rfl (Or.inl rfl) (pe_lst pa_nil))
      (pss_cons (ps_asg (C8.pe_mt G_LogFollower_cause hr (by decide) (pv 0) (pa_cons (pv 2) pa_nil)) (pg_tup rfl (pgs_cons (pg_name (i := 4) sc_LogFollower_follow.nd rfl (Or.inl rfl)) (pgs_cons (pg_name (i := 5) sc_LogFollower_follow.nd rfl (Or.inl rfl)) pgs_nil))))
      (pss_cons (ps_while PassesOwn.never (pt_cmpR op_notN (pv 5) pe_non (nomark _)) (pss_cons (ps_expr (pe_bm PySem.F.plainAttrs_list PySem.F.slot_list_append PySem.F.type_list_append mt_append (pv 2) (pa_cons (pv 5) pa_nil)))
      (pss_cons (ps_expr (pe_bm PySem.F.plainAttrs_list PySem.F.slot_list_append PySem.F.type_list_append mt_append (pv 3) (pa_cons (pe_tup (pa_cons (pv 5) (pa_cons (pv 4) pa_nil))) pa_nil)))
      (pss_one (ps_asg (C8.pe_mt G_LogFollower_cause hr (by decide) (pv 0) (pa_cons (pv 2) pa_nil)) (pg_tup rfl (pgs_cons (pg_name (i := 4) sc_LogFollower_follow.nd rfl (Or.inl rfl)) (pgs_cons (pg_name (i := 5) sc_LogFollower_follow.nd rfl (Or.inl rfl)) pgs_nil))))))))
      (pss_cons (ps_for PassesOwn.never rfl (pi_reversed (by rfl) T.z_reversed (pa_cons (pv 3) pa_nil)) (pg_tup rfl (pgs_cons (pg_name (i := 5) sc_LogFollower_follow.nd rfl (Or.inl rfl)) (pgs_cons (pg_name (i := 6) sc_LogFollower_follow.nd rfl (Or.inl rfl)) pgs_nil)))
        (pss_one (ps_set (i := 4) sc_LogFollower_follow.nd rfl (Or.inl rfl) (C8.pe_mt G_LogFollower_taken hr (by decide) (pv 0) (pa_cons (pv 4) (pa_cons (pv 6) (pa_cons (pv 5) pa_nil)))))))
      (pss_one (ps_expr (pe_bm PySem.F.plainAttrs_list PySem.F.slot_list_append PySem.F.type_list_append mt_append (k_fld (K := K) (pv 0) rfl) (pa_cons (pv 4) pa_nil))))))))), ?_⟩
    have hlen : ∀ e ∈ ds, e.length ≤ 30 := fun e he => by
      obtain ⟨i, hi⟩ := List.getElem?_of_mem he
      have := (hD.clause hcs i e hi).len
      omega
    have hcl2 := hcl.len
    refine q_asgL (lcI (ls := c) (fun _ => true) (fun x => -x) (src_tup (ev_var rfl) hc) (by omega) (fun x => rfl) (fun l H2 e2 _ => et_yes) (fun l H2 e2 _ _ => ev_neg (ev_var rfl))) fun fo H1 hfo e1 h1 => ?_
    rw [List.filter_eq_self.mpr fun _ _ => rfl] at h1
    refine q_asgL (el_lst ea_nil (by decide)) fun ro H2 hro e2 h2 => ?_
    have nfr : fo ≠ ro := fun z => by rw [z, hro] at h1; cases h1
    have hro0 : H ro = none := fresh_back e1 hro
    generalize hB : (c.map fun x => -x) = B at h1 hR
    have T0 : Trail n ds B [] [] := by rw [← hB]; exact Trail.nil hcl
    refine ask (D := _) (F.ex (e1.trans e2)) rfl rfl (e2 _ _ h1) hpl hlen (hR B fun x hx => hx) fun pv lv H3 e3 hfd => ?_
    -- the walk up
    let Up : Nat → L2.St → Hp → Prop := fun m σ H' => ∃ (prs : List (Int × Nat)) (rvs : List V) (pv lv : V) (x : Option V), m = n.toNat - (B ++ prs.map Prod.fst).length ∧ σ = [some (.ref b), some (.ref va), some (.ref fo), some (.ref ro), some pv, some lv, x] ∧
      Ex H H' ∧ H' fo = some (.lst ((B ++ prs.map Prod.fst).map V.int)) ∧ H' ro = some (.lst rvs) ∧ All2 (Rv H') rvs prs ∧ Trail n ds B (prs.map Prod.fst) (prs.map Prod.snd) ∧ Found ds pls (B ++ prs.map Prod.fst) pv lv
    refine q_while' Up _ ⟨[], [], pv, lv, none, rfl, rfl, (e1.trans e2).trans e3, ?_, e3 _ _ h2, .nil, T0, ?_⟩ ?_
    · show H3 fo = some (.lst ((B ++ []).map V.int))
      rw [List.append_nil]
      exact e3 _ _ (e2 _ _ h1)
    · show Found ds pls (B ++ []) pv lv
      rw [List.append_nil]
      exact hfd
    · rintro m σ' H' ⟨prs, rvs, pv, lv, x, rfl, rfl, hE, hf', hr', hA, hT, hF⟩
      have hsh := hT.short
      have hrl := hA.len
      rw [List.length_map] at hsh
      rcases hF with ⟨i, p, hi, hp, hrest, rfl, rfl⟩ | ⟨i, p, l, hi, hp, hrest, hnl, rfl, rfl⟩
      · refine ⟨false, et_is (et_notN (ev_var rfl)) (by rfl), fun z => (by cases z), fun _ H4 e4 => ?_⟩
        have hE4 := hE.trans e4
        have F4 := F.ex hE4
        -- the walk back
        have A5 := hA.mono fun v pr z => Rv.t z (.ex e4)
        have r5 := e4 _ _ hr'
        have tst5 : ∀ H', Sty (two ps pc) H4 H' → Tst H4 H' := fun H' s => s.tst fun q z => by
          obtain ⟨svs, q1, _⟩ := F4.sh.stp
          obtain ⟨dvs, q2, _⟩ := F4.sh.cla
          rcases z with z | z
          · exact ⟨svs, by rw [z]; exact q1⟩
          · exact ⟨dvs, by rw [z]; exact q2⟩
        have nrs : ∀ q, two ps pc q → ro ≠ q := fun q z y => by
          obtain ⟨svs, q1, _⟩ := F.sh.stp
          obtain ⟨dvs, q2, _⟩ := F.sh.cla
          rcases z with z | z
          · rw [y, z, q1] at hro0
            cases hro0
          · rw [y, z, q2] at hro0
            cases hro0
        refine q_forRev (ea_cons (ev_var rfl) ea_nil) r5 (fun i σ H' => ∃ ss' es plc q x5 x6, σ = [some (.ref b), some (.ref va), some (.ref fo), some (.ref ro), some (vN plc), x5, x6] ∧ Sty (two ps pc) H4 H' ∧ Fol H' cS cL b a ps pc pl fv n cs ss' (ds ++ es) pls ∧ Drv n cs ss' (ds ++ es) ∧ es.length ≤ i ∧
          (ds ++ es)[plc]? = some q ∧ rest q (B ++ (prs.map Prod.fst).take (prs.length - i)) = []) ?_ ?_ ?_ ?_
        · intro H5 e5
          refine ⟨ss, [], i, p, _, _, rfl, Sty.of e5, ?_, ?_, Nat.le_refl _, ?_, ?_⟩
          · rw [List.append_nil]; exact F4.ex e5
          · rw [List.append_nil]; exact hD
          · rw [List.append_nil]; exact hp
          · rw [Nat.sub_zero]
            have : (prs.map Prod.fst).take prs.length = prs.map Prod.fst := List.take_of_length_le (by rw [List.length_map]; exact Nat.le_refl _)
            rw [this]
            exact hrest
        · rintro j σ H' ⟨ss', es, plc, q, x5, x6, rfl, hS, _⟩
          exact hS _ _ r5 fun z => nrs _ z rfl
        · rintro j x σ H' hj hx ⟨ss', es, plc, q, x5, x6, rfl, hS, hF', hD', hes, hq, hqr⟩
          obtain ⟨pr, hpr, t, rfl, ht⟩ := A5.left hx
          have ht' := tst5 _ hS _ _ ht
          refine ⟨t, _, rfl, st_of ht', rfl, _, _, rfl, _, _, rfl, rfl, ?_⟩
          -- taken
          rw [hrl] at hpr hj
          have hk1 : (prs.map Prod.fst)[prs.length - 1 - j]? = some pr.1 := by rw [List.getElem?_map, hpr] <;> rfl
          have hk2 : (prs.map Prod.snd)[prs.length - 1 - j]? = some pr.2 := by rw [List.getElem?_map, hpr] <;> rfl
          have ej : prs.length - j = prs.length - 1 - j + 1 := by omega
          rw [ej] at hqr
          have hT' : Trail n (ds ++ es) B _ _ := hT.more (es := es)
          obtain ⟨⟨dx, o1⟩, _⟩ := id hF'
          obtain ⟨q2, hq2, hq3⟩ := hT'.why _ _ _ hk1 hk2
          have lr := hT'.rng pr.1 (List.mem_append_right _ (List.mem_of_getElem? hk1))
          have lq : pr.1 ∈ q2 := by
            have : pr.1 ∈ rest q2 (B ++ (prs.map Prod.fst).take (prs.length - 1 - j)) := by rw [hq3]; exact List.mem_singleton.mpr rfl
            exact (mem_rest.mp this).1
          have hlen' : ∀ e ∈ ds ++ es, e.length ≤ 30 := fun e he => by
            obtain ⟨i, hi⟩ := List.getElem?_of_mem he
            have := (hD'.clause hcs i e hi).len
            omega
          have ej2 : prs.length - 1 - j = prs.length - (j + 1) := by omega
          refine s_asgMeth (ev_var (v := .ref b) rfl) o1 lk10 (ea_cons (ev_var rfl) (ea_cons (ev_var rfl) (ea_cons (ev_var rfl) ea_nil))) fun H7 e67 => ?_
          refine ⟨b, a, ps, pc, pl, fv, n, cs, ss', ds ++ es, pls, plc, pr.2, pr.1, q, q2, rfl, hF'.ex e67, lr, hlen', hD'.len, by rw [List.length_append]; omega, hq, hq2, lq, fun hno H8 e8 => ?_, fun hyes => ?_⟩
          · have e68 := e67.trans e8
            refine ⟨ss', es, plc, q, _, _, rfl, hS.trans (Sty.of e68), hF'.ex e68, hD', by omega, hq, ?_⟩
            rw [← ej2]
            exact hT'.back_no hk1 hqr hno
          · obtain ⟨d, hd1, hd2, hd3⟩ := hT'.back hk1 hk2 hq hqr hyes
            refine ⟨d, hd1, fun H8 s8 S8 => ⟨ss' ++ [backStep plc pr.2 pr.1], es ++ [d], (ds ++ es).length, d, _, _, rfl, (hS.trans (Sty.of e67)).trans s8, ?_, ?_, ?_, ?_, ?_⟩⟩
            · rw [← List.append_assoc]
              exact (hF'.ex e67).keep s8 S8
            · rw [← List.append_assoc]
              exact hD'.snoc hd1 hd3
            · rw [List.length_append, List.length_singleton]
              omega
            · rw [← List.append_assoc, List.getElem?_append_right (Nat.le_refl _), Nat.sub_self] <;> rfl
            · rw [← ej2]
              exact hd2
        · rintro σ H' ⟨ss', es, plc, q, x5, x6, rfl, hS, hF', hD', hes, hq, hqr⟩
          rw [hrl, Nat.sub_self, List.take_zero, List.append_nil] at hqr
          obtain ⟨⟨dx, o1⟩, o2, o3, n1, n2⟩ := id hF'
          refine s_app o2 (ev_fld (ev_var rfl) o1 T.c_LogFollower T.a_LogFollower_places lk7) (ev_var rfl) (by rw [List.length_map]; omega) fun H6 e6 => ?_
          have nbl : b ≠ pl := fun z => by rw [z, o2] at o1; cases o1
          have p6 := e6 _ _ o2
          have tt : Tst H6 (upd H6 pl (.lst (pls.map vN ++ [vN plc]))) := Tst.lst p6
          obtain ⟨⟨u1, u2⟩, u3, ⟨u4, u5, u6⟩, ⟨u7, u8, u9⟩, u10⟩ := o3.ex e6
          have nal : a ≠ pl := fun z => by rw [z, p6] at u2; cases u2
          refine k ss' es plc q _ ?_ ⟨⟨dx, ?_⟩, ?_, ⟨⟨u1, ?_⟩, u3.t tt, ⟨u4, ?_, u6.t tt⟩, ⟨u7, ?_, u9.t tt⟩, u10⟩, n1, n2⟩ hD' ?_ hq fun x hx => ?_
          · exact (((Sty.of hE4).trans (hS.mono fun x z => z.elim .inl fun y => .inr (.inl y))).trans (Sty.of e6)).trans (Sty.put (by exact .inr (.inr rfl)))
          · rw [upd_ne nbl]
            exact e6 _ _ o1
          · rw [upd_same, List.map_append] <;> rfl
          · rw [upd_ne nal]
            exact u2
          · rw [upd_ne (Ne.symm n1)]
            exact u5
          · rw [upd_ne (Ne.symm n2)]
            exact u8
          · omega
          · have z := rest_nil.mp hqr x hx
            rw [← hB] at z
            obtain ⟨y, hy, e⟩ := List.mem_map.mp z
            have : y = x := by omega
            rw [← this]
            exact hy
      · refine ⟨true, et_is (et_notN (ev_var rfl)) (by rfl), fun _ H4 e4 => ?_, fun z => (by cases z)⟩
        have hE4 := hE.trans e4
        have hmem := List.mem_of_getElem? hp
        have hT2 := hT.snoc hp hrest hnl (hD.clause hcs i p hp)
        have hsh2 := hT2.short
        rw [List.length_append, List.length_map, List.length_singleton] at hsh2
        refine q_app (e4 _ _ hf') (ev_var rfl) (ev_var rfl) (by rw [List.length_map, List.length_append, List.length_map]; omega) fun H5 e5 => ?_
        have hE5 : Ex H (upd H5 fo (.lst ((B ++ prs.map Prod.fst).map V.int ++ [.int l]))) := Ex.mut (hE4.trans e5) hfo
        have r5 : upd H5 fo (.lst ((B ++ prs.map Prod.fst).map V.int ++ [.int l])) ro = some (.lst rvs) := by
          rw [upd_ne (Ne.symm nfr)]
          exact e5 _ _ (e4 _ _ hr')
        have t5 : Tst H' (upd H5 fo (.lst ((B ++ prs.map Prod.fst).map V.int ++ [.int l]))) := (Tst.ex (e4.trans e5)).trans (Tst.lst (e5 _ _ (e4 _ _ hf')))
        refine q_appU r5 (ev_var rfl) (eu_tup (ea_cons (ev_var rfl) (ea_cons (ev_var rfl) ea_nil)) (by simp)) (by omega) fun tp H6 htp e6 h6 => ?_
        have hE6 : Ex H (upd H6 ro (.lst (rvs ++ [.ref tp]))) := Ex.mut (hE5.trans e6) hro0
        have t6 : Tst H6 (upd H6 ro (.lst (rvs ++ [.ref tp]))) := Tst.lst (e6 _ _ r5)
        have f6 : upd H6 ro (.lst (rvs ++ [.ref tp])) fo = some (.lst ((B ++ prs.map Prod.fst ++ [l]).map V.int)) := by
          rw [upd_ne nfr, List.map_append]
          exact e6 _ _ upd_same
        refine ask (F.ex hE6) rfl rfl f6 hpl hlen (hR _ fun x hx => List.mem_append_left _ (List.mem_append_left _ hx)) fun pv2 lv2 H7 e7 hfd2 => ?_
        have em : (prs ++ [(l, i)]).map Prod.fst = prs.map Prod.fst ++ [l] := by rw [List.map_append] <;> rfl
        have em2 : (prs ++ [(l, i)]).map Prod.snd = prs.map Prod.snd ++ [i] := by rw [List.map_append] <;> rfl
        refine ⟨_, ?_, prs ++ [(l, i)], rvs ++ [.ref tp], pv2, lv2, _, rfl, rfl, hE6.trans e7, ?_, e7 _ _ upd_same, ?_, ?_, ?_⟩
        · rw [em, List.length_append, List.length_append, List.length_append, List.length_map, List.length_singleton]
          omega
        · rw [em, ← List.append_assoc]
          exact e7 _ _ f6
        · have z : All2 (Rv H7) rvs prs := hA.mono fun v pr y => Rv.t y (((t5.trans (.ex e6)).trans t6).trans (.ex e7))
          exact z.snoc ⟨tp, rfl, e7 _ _ (t6 _ _ h6)⟩
        · rw [em, em2]
          exact hT2
        · rw [em, ← List.append_assoc]
          exact hfd2
end
end K75
set_option Elab.async false
set_option linter.all false
set_option maxRecDepth 100000
set_option maxHeartbeats 4000000
/-! walks: pruned_to, steps_of_log -/
namespace K75
open PySem PySem.Spec PyProof.Rows L2 Evl

def kN (u : Nat) : Key := .inl (u : Int)
theorem kN_inj {u v : Nat} : kN u = kN v ↔ u = v := by
  unfold kN
  constructor
  · intro h
    have := Sum.inl.inj h
    omega
  · rintro rfl
    rfl
theorem mem_keys {kvs : List (Key × V)} {us : List Nat} (h : kvs.map (·.1) = us.map kN) {u : Nat} : (kvs.any fun kv => decide (kv.1 = kN u)) = decide (u ∈ us) := by
  rw [Bool.eq_iff_iff, List.any_eq_true]
  simp only [decide_eq_true_eq]
  constructor
  · rintro ⟨kv, h1, h2⟩
    have z : kv.1 ∈ kvs.map (·.1) := List.mem_map.mpr ⟨kv, h1, rfl⟩
    rw [h, h2] at z
    obtain ⟨y, hy, e⟩ := List.mem_map.mp z
    rw [← kN_inj.mp e]
    exact hy
  · intro hu
    have z : kN u ∈ us.map kN := List.mem_map.mpr ⟨u, hu, rfl⟩
    rw [← h] at z
    obtain ⟨kv, h1, h2⟩ := List.mem_map.mp z
    exact ⟨kv, h1, h2⟩
theorem some_keys {kvs : List (Key × V)} {us : List Nat} (h : kvs.map (·.1) = us.map kN) {u : Nat} : (valV kvs (kN u)).isSome = decide (u ∈ us) := by
  rw [← valV_any]
  exact mem_keys h
theorem put_keys {kvs : List (Key × V)} {us : List Nat} (h : kvs.map (·.1) = us.map kN) {u : Nat} {v : V} : (putK kvs (kN u) v).map (·.1) = (insU us u).map kN := by
  unfold putK insU
  rw [mem_keys h]
  by_cases c : u ∈ us
  · rw [if_pos (decide_eq_true c), if_pos c, ← h, List.map_map]
    refine List.map_congr_left fun kv _ => ?_
    show (if kv.1 = kN u then (kv.1, v) else kv).1 = kv.1
    split <;> rfl
  · rw [if_neg (by simpa using c), if_neg c, List.map_append, List.map_append, h] <;> rfl
theorem keys_len {kvs : List (Key × V)} {us : List Nat} (h : kvs.map (·.1) = us.map kN) : kvs.length = us.length := by
  have := congrArg List.length h
  rw [List.length_map, List.length_map] at this
  exact this
theorem putK_le (c : List (Key × V)) (k : Key) (x : V) : (putK c k x).length ≤ c.length + 1 := by
  unfold putK
  split
  · rw [List.length_map]
    omega
  · rw [List.length_append]
    exact Nat.le_refl _
/-- the items, ascending -/
def srtN (us : List Nat) : List Nat := (srt (us.map fun (u : Nat) => (u : Int))).map Int.toNat
theorem srtN_cast (us : List Nat) : (srtN us).map (fun (u : Nat) => (u : Int)) = srt (us.map fun (u : Nat) => (u : Int)) := by
  unfold srtN
  rw [List.map_map]
  conv => rhs; rw [← List.map_id (srt _)]
  refine List.map_congr_left fun x hx => ?_
  have := (srt_perm _).mem_iff.mp hx
  obtain ⟨u, _, rfl⟩ := List.mem_map.mp this
  show ((((u : Nat) : Int).toNat : Nat) : Int) = _
  rw [Int.toNat_natCast] <;> rfl
theorem mem_srtN {us : List Nat} {z : Nat} : z ∈ srtN us ↔ z ∈ us := by
  unfold srtN
  rw [List.mem_map]
  constructor
  · rintro ⟨x, hx, rfl⟩
    obtain ⟨u, hu, rfl⟩ := List.mem_map.mp ((srt_perm _).mem_iff.mp hx)
    rw [Int.toNat_natCast]
    exact hu
  · intro h
    exact ⟨(z : Int), (srt_perm _).mem_iff.mpr (List.mem_map.mpr ⟨z, h, rfl⟩), Int.toNat_natCast z⟩
theorem asc_srtN {us : List Nat} (h : us.Nodup) : (srtN us).Pairwise (· < ·) := by
  have s := srt_srt (us.map fun (u : Nat) => (u : Int))
  have n : (srt (us.map fun (u : Nat) => (u : Int))).Nodup := (srt_perm _).nodup_iff.mpr (List.Pairwise.map _ (fun x y z e => z (by omega)) h)
  have p := s.and n
  rw [← srtN_cast] at p
  have q := List.pairwise_map.mp p
  exact q.imp fun {a b} z => by
    obtain ⟨z1, z2⟩ := z
    omega
section
variable {K : PySem.W.Frag} {σ : L2.St} {H : Hp} {ta tb te td ty : TE} {D : Ends} {tz tu : TS}
/-- {k: v} -/
theorem ep_disp1 {k : Nat} {v : V} (hk : Ev ta σ H (vN k)) (hv : Ev tb σ H v) {Q : VK} (q : ∀ p H1, H p = none → Ex H H1 → H1 p = some (.dK [(kN k, v)]) → Q (.ref p) H1) : tDisp [(ta, tb)] σ H Q := fun p hp =>
  (Ev.mono (Ex.new hp) hk) _ (Ex.refl _) _ fun H1 e1 => (Ev.mono ((Ex.new hp).trans e1) hv) _ (Ex.refl _) _ fun H2 e2 =>
    ⟨e2 _ _ (e1 _ _ upd_same), [(kN k, v)], rfl, by simp, q p _ hp (Ex.mut (((Ex.new hp).trans e1).trans e2) hp) upd_same⟩
theorem q_disp1 {i k : Nat} {v : V} (hk : Ev ta σ H (vN k)) (hv : Ev tb σ H v) (q : ∀ p H1, H p = none → Ex H H1 → H1 p = some (.dK [(kN k, v)]) → tz D (σ.set i (some (.ref p))) H1) : tSeq (tAsg (tDisp [(ta, tb)]) (gName i)) tz D σ H := ep_disp1 (Q := fun x H1 => gName i x σ H1 (tz D)) hk hv q
theorem s_forDown {ta : TA} {j last : Nat} (h : EvA ta σ H [vN last, .int (-1), .int (-1)]) (hz : last ≤ 100000) (Pv : Nat → L2.St → Hp → Prop) (h0 : ∀ H1, Ex H H1 → Pv 0 σ H1)
    (hs : ∀ (i : Nat) σ' H', i ≤ last → Pv i σ' H' → tu { D with nx := Pv (i + 1), ct := Pv (i + 1), bk := D.nx } (σ'.set j (some (vN (last - i)))) H') (hd : ∀ σ' H', Pv (last + 1) σ' H' → D.nx σ' H') : tFor (iRng3 ta) (gName j) tu D σ H :=
  h H (Ex.refl H) _ fun H1 e => ⟨_, _, _, _, rfl, RgC.neg (by omega) (by omega) (by decide) (by decide), by
    have en : ((last : Int) - -1).toNat = last + 1 := by omega
    rw [en]
    refine for_rangeC Pv (h0 H1 e) (fun i σ' H' hi p => ?_) hd
    have ev : V.int ((last : Int) + (i : Nat) * (-1)) = vN (last - i) := by
      show V.int _ = V.int _
      congr 1
      omega
    rw [ev]
    exact hs i σ' H' (by omega) p⟩
theorem q_forDown {ta : TA} {j last : Nat} (h : EvA ta σ H [vN last, .int (-1), .int (-1)]) (hz : last ≤ 100000) (Pv : Nat → L2.St → Hp → Prop) (h0 : ∀ H1, Ex H H1 → Pv 0 σ H1)
    (hs : ∀ (i : Nat) σ' H', i ≤ last → Pv i σ' H' → tu { D with nx := Pv (i + 1), ct := Pv (i + 1), bk := tz D } (σ'.set j (some (vN (last - i)))) H') (hd : ∀ σ' H', Pv (last + 1) σ' H' → tz D σ' H') : tSeq (tFor (iRng3 ta) (gName j) tu) tz D σ H :=
  s_forDown (D := { D with nx := tz D }) h hz Pv h0 hs hd
theorem el_sortedD {u : Addr} {kvs : List (Key × V)} {us : List Nat} (h : Ev te σ H (.ref u)) (hu : H u = some (.dK kvs)) (hk : kvs.map (·.1) = us.map kN) : EvL (tCB rSortedDA (tCons te tNil)) σ H ((srtN us).map vN) := fun H1 e Q q =>
  h H1 e _ fun H2 e2 => ⟨u, kvs, us.map fun (u : Nat) => (u : Int), rfl, .inl ((e.trans e2) _ _ hu), by rw [hk, List.map_map] <;> rfl, fun ys p hp hs hnew => by
    have e3 : ys = srt (us.map fun (u : Nat) => (u : Int)) := sorted_uniq (hp.trans (srt_perm _).symm) hs (srt_srt _)
    have e4 : ys.map V.int = (srtN us).map vN := by
      rw [e3, ← srtN_cast, List.map_map] <;> rfl
    rw [e4]
    exact q p _ (fresh_back e2 hnew) (e2.trans (Ex.new hnew)) upd_same⟩
end
section
variable {P : Program} {w : World} {K : PySem.W.Frag} {mg : PySem.Str → Option Value} {base : Heap} {cS cL : Addr}
def sp_pruned_to : Sp := fun vs H Q _ => ∃ a svs n cs ss ds last, vs = [.ref a, vN last] ∧ H a = some (.lst svs) ∧ Svs H svs ss ∧ Drv n cs ss ds ∧ last < ss.length ∧ ss.length ≤ 20000 ∧
  ∀ t tvs ss' ds' H', H t = none → Ex H H' → H' t = some (.tup tvs) → Svs H' tvs ss' → Drv n cs ss' ds' → ss'.length ≤ ss.length → ds'.getLast? = ds[last]? → Q (.ref t) H'
theorem ok_pruned_to (T : Txt K mg cS cL) : C8.Cal P w K mg base 2 "pruned_to" sp_pruned_to [] := by
  have G_sources : C8.Cal P w K mg base 1 "sources" sp_sources [] := ok_sources T
  have G_moved : C8.Cal P w K mg base 1 "moved" sp_moved [] := ok_moved T
  refine calD T.d_pruned_to sc_pruned_to (fun vs H Q E h => ?_) fun f cdv A outer s H vs Q E hr h => ?_
  · obtain ⟨a, svs, n, cs, ss, ds, last, rfl, _⟩ := h
    rfl
  · obtain ⟨a, svs, n, cs, ss, ds, last, rfl, ha, hss, hD, hlast, hz, k⟩ := h
    refine ⟨_, (pss_cons (ps_set (i := 2) sc_pruned_to.nd rfl (Or.inl rfl) (pe_disp (pps_cons (pv 1) pe_bl pps_nil) (by rfl) (by rfl) (fun z => by cases z) (by decide)))
      (pss_cons (ps_for PassesOwn.never rfl (pi_range3 (by rfl) T.z_range (pa_cons (pv 1) (pa_cons (pe_un un_neg pe_int) (pa_cons (pe_un un_neg pe_int) pa_nil)))) (pg_name (i := 3) sc_pruned_to.nd rfl (Or.inl rfl))
        (pss_one (ps_if (pt_cmp (pc_din (hu_of hr) (pv 3) (pv 2))) (pss_one (ps_for PassesOwn.never rfl (pi_list (C8.pe_c G_sources hr (by decide) (by rfl) (pa_cons (pe_ix (k_ixL (K := K)) (pv 0) (pv 3) (fun _ _ => rfl)) pa_nil))) (pg_name (i := 4) sc_pruned_to.nd rfl (Or.inl rfl))
        (pss_one (ps_dput (hu_of hr) (pv 2) (pv 4) pe_bl rfl)))) pss_nil)))
      (pss_cons (ps_set (i := 5) sc_pruned_to.nd rfl (Or.inl rfl) pe_dnewK)
      (pss_cons (ps_set (i := 6) sc_pruned_to.nd rfl (Or.inl rfl) (pe_lst pa_nil))
      (pss_cons (ps_for PassesOwn.never rfl (pi_list (pe_callB (cr_sortedDA rfl) (by rfl) T.z_sorted (by decide +kernel) (pa_cons (pv 2) pa_nil))) (pg_name (i := 3) sc_pruned_to.nd rfl (Or.inl rfl))
        (pss_cons (ps_dput (hu_of hr) (pv 5) (pv 3) (pe_callB (k_len (K := K)) (by rfl) T.z_len PySem.boot_len (pa_cons (pv 6) pa_nil)) rfl)
      (pss_one (ps_expr (pe_bm PySem.F.plainAttrs_list PySem.F.slot_list_append PySem.F.type_list_append mt_append (pv 6) (pa_cons (C8.pe_c G_moved hr (by decide) (by rfl) (pa_cons (pe_ix (k_ixL (K := K)) (pv 0) (pv 3) (fun _ _ => rfl)) (pa_cons (pv 5) pa_nil))) pa_nil))))))
      (pss_one (ps_ret (pe_callTy (k_tup (K := K)) (by rfl) T.z_tuple (by decide +kernel) (pa_cons (pv 6) pa_nil))))))))), ?_⟩
    refine q_disp1 (k := last) (v := .bl true) (ev_var rfl) ev_c fun u H1 hu e1 h1 => ?_
    refine q_forDown (ea_cons (ev_var rfl) (ea_cons (ev_neg ev_c) (ea_cons (ev_neg ev_c) ea_nil))) (by omega)
      (fun i σ' H' => ∃ us kvs x3 x4, σ' = [some (.ref a), some (vN last), some (.ref u), x3, x4, none, none] ∧ Ex H H' ∧ H' u = some (.dK kvs) ∧ kvs.map (·.1) = us.map kN ∧ Usd ss last i us)
      (fun H2 e2 => ⟨[last], _, none, none, rfl, e1.trans e2, e2 _ _ h1, rfl, Usd.start⟩) ?_ ?_
    · rintro i σ' H' hi ⟨us, kvs, x3, x4, rfl, hE, hku, hkeys, hU⟩
      have hli : last - i < ss.length := by omega
      have hn20 : us.length ≤ 30000 := by
        have z := len_le (m := List.range (last + 1)) hU.nod fun x hx => List.mem_range.mpr (by have := hU.le x hx; omega)
        rw [List.length_range] at z
        omega
      refine s_when (et_din (i := ((last - i : Nat) : Int)) (ev_var rfl) (ev_var rfl) hku) (fun hb H2 e2 => ?_) fun hb H2 e2 => ?_
      · have hmem : last - i ∈ us := by
          have z := some_keys (u := last - i) hkeys
          rw [show (valV kvs (kN (last - i))).isSome = true from hb] at z
          exact of_decide_eq_true z.symm
        obtain ⟨sv, hsv, hs⟩ := hss.right (List.getElem?_eq_getElem hli)
        have hE2 := hE.trans e2
        refine s_forNL (xs := (srcs ss[last - i]).map vN) (fun H3 e3 Q q => (ea_cons (ev_ixL (i := ((last - i : Nat) : Int)) (ev_var rfl) (ev_var rfl) (hE2 _ _ ha) (atI_nat hsv)) ea_nil) H3 e3 _ fun H4 e4 => ⟨sv, _, rfl, hs.t (.ex ((hE2.trans e3).trans e4)), fun p H5 hp e5 h5 => q p H5 (fresh_back e4 hp) (e4.trans e5) h5⟩)
          (fun p j σ' H' => ∃ kvs' x4, σ' = [some (.ref a), some (vN last), some (.ref u), some (vN (last - i)), x4, none, none] ∧ Ex H H' ∧ p ≠ u ∧ H' p = some (.lst ((srcs ss[last - i]).map vN)) ∧ H' u = some (.dK kvs') ∧ kvs'.map (·.1) = (((srcs ss[last - i]).take j).foldl insU us).map kN ∧ kvs'.length ≤ 30000 + j)
          (fun p H3 hp e3 h3 => ⟨kvs, x4, rfl, hE2.trans e3, fun z => (by rw [z, e2 _ _ hku] at hp; cases hp), h3, e3 _ _ (e2 _ _ hku), by rw [List.take_zero]; exact hkeys, by have := keys_len hkeys; omega⟩) (fun p j σ' H' _ ⟨kvs', x4, _, _, _, h, _⟩ => sq_of h) ?_ ?_
        · rintro p j x σ' H3 hx ⟨kvs', x4, rfl, hE3, hpu, hp3, hu3, hk3, hl3⟩
          rw [List.getElem?_map] at hx
          cases hj : (srcs ss[last - i])[j]? with
          | none => rw [hj] at hx; cases hx
          | some y =>
          rw [hj] at hx
          cases hx
          have hj2 : j ≤ 2 := by
            have := (List.getElem?_eq_some_iff.mp hj).1
            have : (srcs ss[last - i]).length ≤ 2 := by
              cases ss[last - i] <;> simp [srcs]
            omega
          refine s_dput (i := (y : Int)) ev_c (ev_var rfl) (ev_var rfl) hu3 (by omega) fun H4 e4 => ⟨_, _, rfl, Ex.mut (hE3.trans e4) hu, hpu, ?_, upd_same, ?_, ?_⟩
          · rw [upd_ne hpu]
            exact e4 _ _ hp3
          · rw [take_snoc hj, List.foldl_append]
            exact put_keys hk3
          · have := putK_le kvs' (.inl (y : Int)) (.bl true)
            omega
        · rintro p σ' H3 ⟨kvs', x4, rfl, hE3, hpu, hp3, hu3, hk3, hl3⟩
          rw [List.length_map, List.take_length] at hk3
          exact ⟨_, kvs', _, _, rfl, hE3, hu3, hk3, hU.yes hD hi hmem (List.getElem?_eq_getElem hli)⟩
      · have hmem : last - i ∉ us := by
          have z := some_keys (u := last - i) hkeys
          rw [show (valV kvs (kN (last - i))).isSome = false from hb] at z
          exact of_decide_eq_false z.symm
        exact ⟨us, kvs, _, _, rfl, hE.trans e2, e2 _ _ hku, hkeys, hU.no hi hmem⟩
    · rintro σ' H' ⟨us, kvs, x3, x4, rfl, hE, hku, hkeys, hU⟩
      obtain ⟨K1, K2, K3⟩ := kept_drv (zs := srtN us) hD hlast hU (asc_srtN hU.nod) (fun z => mem_srtN)
      have hn : (srtN us).Nodup := (asc_srtN hU.nod).imp fun {a b} z => Nat.ne_of_lt z
      have klen : (kept ss (srtN us)).length = (srtN us).length := List.length_map _
      intro d hd
      show tSeq _ _ _ _ _
      refine q_asgL (el_lst ea_nil (by decide)) fun fo H2 hfo e2 h2 => ?_
      have hE1 : Ex H (upd H' d (.dK [])) := hE.trans (Ex.new hd)
      have nd0 : H d = none := fresh_back hE hd
      have nfd : fo ≠ d := fun z => by rw [z, upd_same] at hfo; cases hfo
      have hE2 := hE1.trans e2
      refine q_forNL (el_sortedD (us := us) (ev_var rfl) (e2 _ _ (Ex.new hd _ _ hku)) hkeys)
        (fun p i σ' H' => ∃ dvs fvs x3 x4, σ' = [some (.ref a), some (vN last), some (.ref u), x3, x4, some (.ref d), some (.ref fo)] ∧ Ex H H' ∧ p ≠ d ∧ p ≠ fo ∧ H' p = some (.lst ((srtN us).map vN)) ∧ H' d = some (.dK dvs) ∧ H' fo = some (.lst fvs) ∧ dvs.length ≤ i ∧ fvs.length = i ∧
          (∀ z ∈ (srtN us).take i, valV dvs (.inl (z : Int)) = some (vN ((srtN us).idxOf z))) ∧ Svs H' fvs ((kept ss (srtN us)).take i))
        (fun p H3 hp e3 h3 => ⟨[], [], x3, x4, rfl, hE2.trans e3, fun z => (by rw [z, e2 _ _ upd_same] at hp; cases hp), fun z => (by rw [z, h2] at hp; cases hp), h3, e3 _ _ (e2 _ _ upd_same), e3 _ _ h2, Nat.le_refl _, rfl, fun z hz => (by simp at hz), .nil⟩)
        (fun p j σ' H' _ ⟨dvs, fvs, x3, x4, _, _, _, _, h, _⟩ => sq_of h) ?_ ?_
      · rintro p i x σ' H3 hx ⟨dvs, fvs, x3, x4, rfl, hE3, npd, npf, hp3, hd3, hf3, hl3, hl4, hval, hsv⟩
        rw [List.getElem?_map] at hx
        cases hj : (srtN us)[i]? with
        | none => rw [hj] at hx; cases hx
        | some z =>
        rw [hj] at hx
        cases hx
        have hzl : z < ss.length := by
          have := hU.le z (mem_srtN.mp (List.mem_of_getElem? hj))
          omega
        have hil := (List.getElem?_eq_some_iff.mp hj).1
        obtain ⟨sv, hsv1, hsv2⟩ := hss.right (List.getElem?_eq_getElem hzl)
        refine q_dput (i := (z : Int)) (v := vN i) (ev_is (ev_lenL (ev_var rfl) hf3) (by rw [hl4])) (ev_var rfl) (ev_var rfl) hd3 (by omega) fun H4 e4 => ?_
        have hE4 : Ex H (upd H4 d (.dK (putK dvs (.inl (z : Int)) (vN i)))) := Ex.mut (hE3.trans e4) nd0
        have f4 : upd H4 d (.dK (putK dvs (.inl (z : Int)) (vN i))) fo = some (.lst fvs) := by
          rw [upd_ne nfd]
          exact e4 _ _ hf3
        have t4 : Tst H3 (upd H4 d (.dK (putK dvs (.inl (z : Int)) (vN i)))) := (Tst.ex e4).trans (Tst.put (e4 _ _ hd3) fun xs z => nomatch z)
        have hv4 : ∀ y ∈ (srtN us).take (i + 1), valV (putK dvs (.inl (z : Int)) (vN i)) (.inl (y : Int)) = some (vN ((srtN us).idxOf y)) := fun y hy => by
          rw [valV_put]
          by_cases c : y = z
          · subst c
            rw [if_pos rfl, idx_at hn hj]
          · rw [if_neg fun e => c (by have := Sum.inl.inj e; omega)]
            rw [take_snoc hj] at hy
            rcases List.mem_append.mp hy with q | q
            · exact hval y q
            · exact absurd (List.mem_singleton.mp q) c
        have hsrc : ∀ v ∈ srcs ss[z], v ∈ (srtN us).take (i + 1) := fun v hv => by
          have h1 := hD.back (List.getElem?_eq_getElem hzl) v hv
          have h2 := hU.cl z (mem_srtN.mp (List.mem_of_getElem? hj)) (by omega) _ (List.getElem?_eq_getElem hzl) v hv
          obtain ⟨j, hj2⟩ := List.getElem?_of_mem (mem_srtN.mpr h2)
          obtain ⟨hjl, hje⟩ := List.getElem?_eq_some_iff.mp hj2
          have hie := (List.getElem?_eq_some_iff.mp hj).2
          have hjk : j < i := by
            apply Classical.byContradiction
            intro y
            by_cases e : i = j
            · subst e
              omega
            · have := List.pairwise_iff_getElem.mp (asc_srtN hU.nod) i j hil hjl (by omega)
              omega
          refine List.mem_of_getElem? (i := j) ?_
          rw [List.getElem?_take, if_pos (by omega)]
          exact hj2
        refine s_appP (P := fun v H' => Sv H' v (ss[z].map fun v => (srtN us).idxOf v)) f4 (ev_var rfl) (ep_call (ea_cons (ev_ixL (i := (z : Int)) (ev_var rfl) (ev_var rfl) (hE4 _ _ ha) (atI_nat hsv1)) (ea_cons (ev_var rfl) ea_nil))
          fun H5 e5 Q q E => ⟨sv, d, _, ss[z], fun v => (srtN us).idxOf v, rfl, hsv2.t (.ex (hE4.trans e5)), e5 _ _ upd_same, fun v hv => hv4 v (hsrc v hv), q⟩) (by omega) fun v H5 e5 hv => ?_
        have t5 : Tst H5 (upd H5 fo (.lst (fvs ++ [v]))) := Tst.lst (e5 _ _ f4)
        have nfo0 : H fo = none := fresh_back hE1 hfo
        refine ⟨_, fvs ++ [v], _, _, rfl, Ex.mut (hE4.trans e5) nfo0, npd, npf, ?_, ?_, upd_same, ?_, ?_, hv4, ?_⟩
        · rw [upd_ne npf]
          refine e5 _ _ ?_
          rw [upd_ne npd]
          exact e4 _ _ hp3
        · rw [upd_ne (Ne.symm nfd)]
          exact e5 _ _ upd_same
        · have := putK_le dvs (.inl (z : Int)) (vN i)
          omega
        · rw [List.length_append, hl4] <;> rfl
        · have hk : (kept ss (srtN us))[i]? = some (ss[z].map fun v => (srtN us).idxOf v) := by
            unfold kept
            rw [List.getElem?_map, hj, Option.map_some, List.getElem?_eq_getElem hzl] <;> rfl
          rw [take_snoc hk]
          exact (hsv.t ((t4.trans (.ex e5)).trans t5)).snoc (hv.t t5)
      · rintro p σ' H3 ⟨dvs, fvs, x3, x4, rfl, hE3, npd, npf, hp3, hd3, hf3, hl3, hl4, hval, hsv⟩
        rw [List.length_map, ← klen, List.take_length] at hsv
        exact s_retU (eu_tupA (ev_var rfl) hf3) fun t H4 ht e4 h4 => k t fvs _ _ H4 (fresh_back hE3 ht) (hE3.trans e4) h4 (hsv.t (.ex e4)) K1 K3 K2
end
end K75
set_option Elab.async false
set_option linter.all false
set_option maxRecDepth 100000
set_option maxHeartbeats 4000000
/-! walks: steps_of_log -/
namespace K75
open PySem PySem.Spec PyProof.Rows L2 Evl

theorem closed_of {ds : List Cl} {pls : List Nat} {S : List Int} (h : ClosedAt ds pls S) : Closed (pls.filterMap fun k => ds[k]?) S := fun p hp => by
  obtain ⟨i, hi, e⟩ := List.mem_filterMap.mp hp
  exact h i hi p e
section
variable {K : PySem.W.Frag} {σ : L2.St} {H : Hp} {ta te : TE} {D : Ends} {tz : TS}
theorem q_asgMake {i : Nat} {C : Addr} {sp : Sp} {dvs vs : List V} {E : XK} {t : TA} (h : EvA t σ H vs)
    (k : ∀ H1 x dx, Ex H H1 → H1 x = none → H1 dx = none → dx ≠ x → sp (.ref x :: (vs ++ dvs)) (upd (upd H1 dx (.own x)) x (.ins C dx [])) (fun v H2 => v = .non ∧ tz D (σ.set i (some (.ref x))) H2) E) : tSeq (tAsg (tMake C sp dvs E t) (gName i)) tz D σ H :=
  h H (Ex.refl H) _ fun H1 e x dx hx hd ne => k H1 x dx e hx hd ne
theorem s_retCall {sp : Sp} {dvs vs : List V} {E : XK} {t : TA} (h : EvA t σ H vs) (k : ∀ H1, Ex H H1 → sp (vs ++ dvs) H1 D.rt E) : tRet (tCall sp dvs E t) D σ H := h H (Ex.refl H) _ k
/-- for x in a tuple, the target a name -/
theorem q_forTn {a : Addr} {xs : List V} {tl : TE} {j : Nat} {tu : TS} (h : Ev tl σ H (.ref a)) (hx : H a = some (.tup xs)) (Pv : Nat → L2.St → Hp → Prop) (h0 : ∀ H1, Ex H H1 → Pv 0 σ H1) (hl : ∀ i σ' H', Pv i σ' H' → H' a = some (.tup xs))
    (hs : ∀ i x σ' H', xs[i]? = some x → Pv i σ' H' → tu { D with nx := Pv (i + 1), ct := Pv (i + 1), bk := tz D } (σ'.set j (some x)) H') (hd : ∀ σ' H', Pv xs.length σ' H' → tz D σ' H') : tSeq (tFor (iTup K tl) (gName j) tu) tz D σ H :=
  q_forT h (st_of hx) Pv h0 (fun i σ' H' _ q => st_of (hl i σ' H' q)) hs hd
end
section
variable {P : Program} {w : World} {K : PySem.W.Frag} {mg : PySem.Str → Option Value} {base : Heap} {cS cL : Addr}
def sp_steps_of_log : Sp := fun vs H Q _ => ∃ fv lg lvs n cs log, vs = [fv, .ref lg] ∧ Fv H fv n cs ∧ H lg = some (.tup lvs) ∧ Cvs H lvs log ∧ (0 ≤ n ∧ n ≤ 30) ∧ (∀ c ∈ cs, Clause n c) ∧ (∀ c ∈ log, Clause n c) ∧ cs.length ≤ 1000 ∧ log.length ≤ 500 ∧ GoodL cs log ∧ log.getLast? = some [] ∧
  ∀ t tvs ss' ds' H', H t = none → Ex H H' → H' t = some (.tup tvs) → Svs H' tvs ss' → Drv n cs ss' ds' → ss'.length ≤ cs.length + n.toNat * log.length → ds'.getLast? = some [] → Q (.ref t) H'
theorem ok_steps_of_log (T : Txt K mg cS cL) : C8.Cal P w K mg base 10 "steps_of_log" sp_steps_of_log [] := by
  have G_LogFollower : C8.Mak P w K mg base 7 "LogFollower" cL (sp_LogFollower cS cL) [] := ok_LogFollower T
  have G_LogFollower_follow : C8.Met P w K mg base 9 cL "follow" (sp_follow cS cL) [] := ok_LogFollower_follow T
  have G_pruned_to : C8.Cal P w K mg base 2 "pruned_to" sp_pruned_to [] := ok_pruned_to T
  refine calD T.d_steps_of_log sc_steps_of_log (fun vs H Q E h => ?_) fun f cdv A outer s H vs Q E hr h => ?_
  · obtain ⟨fv, lg, lvs, n, cs, log, rfl, _⟩ := h
    rfl
  · obtain ⟨fv, lg, lvs, n, cs, log, rfl, hf, hlg, hlv, hn, hcs, hlc, hz1, hz2, hG, hlast, k⟩ := h
    refine ⟨_, (pss_cons (ps_set (i := 2) sc_steps_of_log.nd rfl (Or.inl rfl) (C8.pe_mk G_LogFollower hr (by decide) (by rfl) (pa_cons (pv 0) pa_nil)))
      (pss_cons (ps_for PassesOwn.never rfl (pi_tup (pv 1)) (pg_name (i := 3) sc_steps_of_log.nd rfl (Or.inl rfl))
        (pss_one (ps_expr (C8.pe_mt G_LogFollower_follow hr (by decide) (pv 2) (pa_cons (pv 3) pa_nil)))))
      (pss_one (ps_ret (C8.pe_c G_pruned_to hr (by decide) (by rfl) (pa_cons (k_fld (K := K) (k_fld (K := K) (pv 2) rfl) rfl) (pa_cons (pe_ix (k_ixL (K := K)) (k_fld (K := K) (pv 2) rfl) (pe_un un_neg pe_int) (fun _ _ => rfl)) pa_nil))))))), ?_⟩
    refine q_asgMake (ea_cons (ev_var rfl) ea_nil) fun H1 b dx e1 hb hdx ne => ?_
    have x1 : Ex H1 (upd (upd H1 dx (.own b)) b (.ins cL dx [])) := by
      refine (Ex.new hdx).trans (Ex.new ?_)
      rw [upd_ne (Ne.symm ne)]
      exact hb
    have hb0 : H b = none := fresh_back e1 hb
    refine ⟨b, dx, fv, n, cs, rfl, upd_same, hf.t (.ex (e1.trans x1)), hz1, fun c hc => (by have := (hcs c hc).len; omega), fun a ps pc pl H2 ha hps hpc hpl st F => ⟨rfl, ?_⟩⟩
    have new0 : ∀ p, upd (upd H1 dx (.own b)) b (.ins cL dx []) p = none → H p = none := fun p h => fresh_back (e1.trans x1) h
    have hE2 : Ex H H2 := fun p o h => st p o (x1 _ _ (e1 _ _ h)) fun z => by
      rw [z, hb0] at h
      cases h
    have D0 : Drv n cs (axs cs.length) cs := by
      refine ⟨by unfold axs; rw [List.length_map, List.length_range], fun j s hs => ?_, fun s hs => ?_⟩
      · unfold axs at hs
        rw [List.getElem?_map] at hs
        cases hj : (List.range cs.length)[j]? with
        | none => rw [hj] at hs; cases hs
        | some y =>
        rw [hj] at hs
        cases hs
        have hjl := (List.getElem?_eq_some_iff.mp hj).1
        rw [List.length_range] at hjl
        rw [List.getElem?_range hjl] at hj
        cases hj
        rfl
      · unfold axs at hs
        obtain ⟨y, _, rfl⟩ := List.mem_map.mp hs
        trivial
    refine q_forTn (ev_var rfl) (hE2 _ _ hlg) (fun i σ' H' => ∃ ss es ks x, σ' = [some fv, some (.ref lg), some (.ref b), x] ∧ Ex H H' ∧ Fol H' cS cL b a ps pc pl fv n cs ss (cs ++ es) (List.range cs.length ++ ks) ∧ Drv n cs ss (cs ++ es) ∧ es.length ≤ i * n.toNat ∧ ks.length = i ∧
        ∀ (j k : Nat) c, ks[j]? = some k → log[j]? = some c → ∃ p, (cs ++ es)[k]? = some p ∧ ∀ x ∈ p, x ∈ c)
      (fun H3 e3 => ⟨axs cs.length, [], [], none, rfl, hE2.trans e3, ?_, ?_, Nat.zero_le _, rfl, fun j k c h => by simp at h⟩) (fun i σ' H' ⟨ss, es, ks, x, _, hE, _⟩ => hE _ _ hlg) ?_ ?_
    · rw [List.append_nil, List.append_nil]
      exact F.ex e3
    · rw [List.append_nil]
      exact D0
    · rintro i x σ' H' hx ⟨ss, es, ks, x3, rfl, hE, F', D', hes, hks, hsub⟩
      obtain ⟨c, hc1, hc2⟩ := hlv.left hx
      have hil := (List.getElem?_eq_some_iff.mp hc1).1
      have hcc := hlc c (List.mem_of_getElem? hc1)
      obtain ⟨⟨dxb, o1⟩, _⟩ := id F'
      have hmul : i * n.toNat ≤ 500 * 30 := Nat.mul_le_mul (by omega) (by omega)
      have hlt : ∀ q ∈ List.range cs.length ++ ks, q < (cs ++ es).length := fun q hq => by
        rcases List.mem_append.mp hq with z | z
        · have := List.mem_range.mp z
          rw [List.length_append]
          omega
        · obtain ⟨j, hj⟩ := List.getElem?_of_mem z
          have hjl := (List.getElem?_eq_some_iff.mp hj).1
          have hjg : j < log.length := by omega
          obtain ⟨p, hp, _⟩ := hsub j q log[j] hj (List.getElem?_eq_getElem hjg)
          exact (List.getElem?_eq_some_iff.mp hp).1
      refine s_dropMeth (ev_var (v := .ref b) rfl) o1 lk9 (ea_cons (ev_var rfl) ea_nil) fun H3 e3 => ?_
      refine ⟨b, a, ps, pc, pl, fv, n, cs, ss, cs ++ es, List.range cs.length ++ ks, x, c, rfl, F'.ex e3, hc2.t (.ex (hE.trans e3)), hcc, hn, D', hcs, hlt, ?_, ?_, ?_, ?_⟩
      · rw [List.length_append]
        omega
      · rw [List.length_append, List.length_range]
        omega
      · intro S hS hcl
        refine (hG i c hc1).mono (D := (List.range cs.length ++ ks).filterMap fun k => (cs ++ es)[k]?) (fun p hp => ?_) (fun q hq => ?_) (fun x hx => hx) S hS (closed_of hcl)
        · rcases List.mem_append.mp hp with z | z
          · obtain ⟨j, hj⟩ := List.getElem?_of_mem z
            have hjl := (List.getElem?_eq_some_iff.mp hj).1
            refine ⟨asc_nodup (hcs p z).asc, p, List.mem_filterMap.mpr ⟨j, List.mem_append_left _ (List.mem_range.mpr hjl), ?_⟩, fun x hx => hx⟩
            rw [List.getElem?_append_left hjl]
            exact hj
          · obtain ⟨j, hj⟩ := List.getElem?_of_mem z
            have hjl := (List.getElem?_eq_some_iff.mp hj).1
            rw [List.length_take] at hjl
            have hji : j < i := by omega
            rw [List.getElem?_take, if_pos hji] at hj
            have hjk : j < ks.length := by omega
            obtain ⟨q, hq, hs⟩ := hsub j ks[j] p (List.getElem?_eq_getElem hjk) hj
            exact ⟨asc_nodup (hlc p (List.mem_of_getElem? hj)).asc, q, List.mem_filterMap.mpr ⟨ks[j], List.mem_append_right _ (List.getElem_mem hjk), hq⟩, hs⟩
        · obtain ⟨j, _, hj⟩ := List.mem_filterMap.mp hq
          exact asc_nodup (D'.clause hcs j q hj).asc
      · intro ss' es' kk p H4 s4 F4 D4 hl4 hp4 hsub4
        have hE4 : Ex H H4 := fun q o h => s4 q o ((hE.trans e3) _ _ h) fun z => by
          rcases z with z | z | z
          · rw [z, new0 _ hps] at h; cases h
          · rw [z, new0 _ hpc] at h; cases h
          · rw [z, new0 _ hpl] at h; cases h
        refine ⟨ss', es ++ es', ks ++ [kk], _, rfl, hE4, ?_, ?_, ?_, ?_, ?_⟩
        · rw [← List.append_assoc, ← List.append_assoc]
          exact F4
        · rw [← List.append_assoc]
          exact D4
        · rw [List.length_append, Nat.succ_mul]
          omega
        · rw [List.length_append, hks] <;> rfl
        · intro j k' c' hk' hc'
          rw [← List.append_assoc]
          by_cases hj : j < ks.length
          · rw [List.getElem?_append_left hj] at hk'
            obtain ⟨p', hp', hs'⟩ := hsub j k' c' hk' hc'
            refine ⟨p', ?_, hs'⟩
            rw [List.getElem?_append_left (List.getElem?_eq_some_iff.mp hp').1]
            exact hp'
          · have hj2 := (List.getElem?_eq_some_iff.mp hk').1
            rw [List.length_append, List.length_singleton] at hj2
            have ej : j = ks.length := by omega
            subst ej
            rw [List.getElem?_append_right (Nat.le_refl _), Nat.sub_self] at hk'
            cases hk'
            rw [hks, hc1] at hc'
            cases hc'
            exact ⟨p, hp4, hsub4⟩
    · rintro σ' H' ⟨ss, es, ks, x3, rfl, hE, F', D', hes, hks, hsub⟩
      rw [hlv.len] at hes hks
      rw [List.getLast?_eq_getElem?] at hlast
      have hll := (List.getElem?_eq_some_iff.mp hlast).1
      obtain ⟨ks', kk, rfl⟩ : ∃ ks' kk, ks = ks' ++ [kk] := ⟨ks.dropLast, ks.getLast (by intro z; rw [z] at hks; simp at hks; omega), (List.dropLast_concat_getLast _).symm⟩
      have hkk : (ks' ++ [kk])[log.length - 1]? = some kk := by
        rw [List.length_append, List.length_singleton] at hks
        have e0 : log.length - 1 = ks'.length := by omega
        rw [e0, List.getElem?_append_right (Nat.le_refl _), Nat.sub_self] <;> rfl
      obtain ⟨p, hp, hps2⟩ := hsub _ _ _ hkk hlast
      have hp0 : p = [] := List.eq_nil_iff_forall_not_mem.mpr fun x hx => by
        have := hps2 x hx
        cases this
      subst hp0
      obtain ⟨⟨dxb, o1⟩, o2, ⟨⟨dxs, o3⟩, _, ⟨svs, o4, o5⟩, _, _⟩, _, _⟩ := id F'
      have hmul : log.length * n.toNat ≤ 500 * 30 := Nat.mul_le_mul (by omega) (by omega)
      have hlen := D'.len
      have hkl := (List.getElem?_eq_some_iff.mp hp).1
      rw [List.length_append] at hlen
      have hpl2 : (List.range cs.length ++ (ks' ++ [kk])).map vN = (List.range cs.length ++ ks').map vN ++ [vN kk] := by
        rw [← List.append_assoc, List.map_append] <;> rfl
      rw [hpl2] at o2
      refine s_retCall (ea_cons (ev_fld (v := .ref ps) (ev_fld (ev_var rfl) o1 T.c_LogFollower T.a_LogFollower_writer lk6) o3 T.c_Shortener T.a_Shortener_steps lk2) (ea_cons (ev_ixL (i := -1) (ev_fld (ev_var rfl) o1 T.c_LogFollower T.a_LogFollower_places lk7) (ev_neg ev_c) o2 (atI_last _ _)) ea_nil)) fun H3 e3 =>
        ⟨ps, svs, n, cs, ss, cs ++ es, kk, rfl, e3 _ _ o4, o5.t (.ex e3), D', by rw [List.length_append] at hkl; omega, by omega, fun t tvs ss' ds' H4 ht e4 h4 h5 h6 h7 h8 => ?_⟩
      refine k t tvs ss' ds' H4 (fresh_back (hE.trans e3) ht) ((hE.trans e3).trans e4) h4 h5 h6 ?_ (by rw [h8, hp])
      have : n.toNat * log.length = log.length * n.toNat := Nat.mul_comm ..
      omega
end
end K75
set_option Elab.async false
set_option linter.all false
set_option maxHeartbeats 4000000
/-! the mathematics, fourth part: assignments, models -/
namespace K75
def asn0 : Nat → List Cl
  | 0 => [[]]
  | k + 1 => (asn0 k).map (· ++ [1 + (k : Int)]) ++ (asn0 k).map (· ++ [-(1 + (k : Int))])
def asn (n : Int) : List Cl := (asn0 n.toNat).map norm
structure Full (n : Nat) (c : Cl) : Prop where
  len : c.length = n
  nod : c.Nodup
  rng : Rng (n : Int) c
  con : Con c
  all : ∀ v : Int, 1 ≤ v → v ≤ n → v ∈ c ∨ -v ∈ c
theorem Full.snoc {n : Nat} {c : Cl} (h : Full n c) {x : Int} (hx : x = 1 + (n : Int) ∨ x = -(1 + (n : Int))) : Full (n + 1) (c ++ [x]) := by
  have nx : ∀ y ∈ c, y ≠ x ∧ -y ≠ x ∧ y ≠ -x := fun y hy => by
    have := h.rng y hy
    omega
  refine ⟨by rw [List.length_append, h.len] <;> rfl, ?_, fun y hy => ?_, fun y hy z => ?_, fun v h1 h2 => ?_⟩
  · refine List.nodup_append.mpr ⟨h.nod, by simp, fun a ha b hb => ?_⟩
    rw [List.mem_singleton.mp hb]
    exact (nx a ha).1
  · rcases List.mem_append.mp hy with q | q
    · have := h.rng y q
      omega
    · rw [List.mem_singleton.mp q]
      omega
  · rcases List.mem_append.mp hy with q | q
    · rcases List.mem_append.mp z with r | r
      · exact h.con y q r
      · exact (nx y q).2.1 (List.mem_singleton.mp r)
    · rw [List.mem_singleton.mp q] at z
      rcases List.mem_append.mp z with r | r
      · exact (nx _ r).2.1 (Int.neg_neg x)
      · have := List.mem_singleton.mp r
        omega
  · by_cases e : v ≤ n
    · rcases h.all v h1 e with q | q
      · exact .inl (List.mem_append_left _ q)
      · exact .inr (List.mem_append_left _ q)
    · have ev : v = 1 + (n : Int) := by omega
      rcases hx with q | q
      · exact .inl (List.mem_append_right _ (List.mem_singleton.mpr (by omega)))
      · exact .inr (List.mem_append_right _ (List.mem_singleton.mpr (by omega)))
theorem asn0_full : ∀ (n : Nat) (c : Cl), c ∈ asn0 n → Full n c
  | 0, c, h => by
    have e : c = [] := List.mem_singleton.mp h
    subst e
    exact ⟨rfl, by simp, fun x hx => by simp at hx, fun x hx => by simp at hx, fun v h1 h2 => by omega⟩
  | n + 1, c, h => by
    rcases List.mem_append.mp h with q | q
    · obtain ⟨d, hd, rfl⟩ := List.mem_map.mp q
      exact (asn0_full n d hd).snoc (.inl rfl)
    · obtain ⟨d, hd, rfl⟩ := List.mem_map.mp q
      exact (asn0_full n d hd).snoc (.inr rfl)
theorem asn0_len : ∀ n : Nat, (asn0 n).length = 2 ^ n
  | 0 => rfl
  | n + 1 => by
    show ((asn0 n).map _ ++ (asn0 n).map _).length = _
    rw [List.length_append, List.length_map, List.length_map, asn0_len n, Nat.pow_succ]
    omega
theorem asn0_has : ∀ (n : Nat) (S : List Int), Con S → (∀ v : Int, 1 ≤ v → v ≤ n → v ∈ S ∨ -v ∈ S) → ∃ c ∈ asn0 n, ∀ x ∈ c, x ∈ S
  | 0, S, _, _ => ⟨[], List.mem_singleton.mpr rfl, fun x hx => by simp at hx⟩
  | n + 1, S, hc, hS => by
    obtain ⟨c, h1, h2⟩ := asn0_has n S hc fun v a b => hS v a (by omega)
    rcases hS (1 + (n : Int)) (by omega) (by omega) with q | q
    · refine ⟨c ++ [1 + (n : Int)], List.mem_append_left _ (List.mem_map.mpr ⟨c, h1, rfl⟩), fun x hx => ?_⟩
      rcases List.mem_append.mp hx with r | r
      · exact h2 x r
      · rw [List.mem_singleton.mp r]; exact q
    · refine ⟨c ++ [-(1 + (n : Int))], List.mem_append_right _ (List.mem_map.mpr ⟨c, h1, rfl⟩), fun x hx => ?_⟩
      rcases List.mem_append.mp hx with r | r
      · exact h2 x r
      · rw [List.mem_singleton.mp r]; exact q
theorem asn_clause {n : Int} (hn : 0 ≤ n) {c : Cl} (h : c ∈ asn n) : Clause n c ∧ ∀ v : Int, 1 ≤ v → v ≤ n → v ∈ c ∨ -v ∈ c := by
  obtain ⟨d, hd, rfl⟩ := List.mem_map.mp h
  have F := asn0_full _ d hd
  have en : ((n.toNat : Nat) : Int) = n := by omega
  refine ⟨⟨asc_norm d, fun x hx => ?_, fun x hx z => F.con x (mem_norm.mp hx) (mem_norm.mp z)⟩, fun v h1 h2 => ?_⟩
  · have := F.rng x (mem_norm.mp hx)
    omega
  · rw [mem_norm, mem_norm]
    exact F.all v h1 (by omega)
/-- every clause is met -/
def okM (cs : List Cl) (cube : Cl) : Bool := cs.all fun c => decide (hits c cube ≠ [])
def mods (n : Int) (cs : List Cl) : List Cl := (asn n).filter (okM cs)
theorem mem_hits {d c : Cl} {x : Int} : x ∈ hits d c ↔ x ∈ d ∧ x ∈ c := by
  unfold hits
  simp
theorem okM_iff {cs : List Cl} {cube : Cl} : okM cs cube = true ↔ ∀ c ∈ cs, ∃ x ∈ c, x ∈ cube := by
  unfold okM
  rw [List.all_eq_true]
  constructor
  · intro h c hc
    have := of_decide_eq_true (h c hc)
    match e : hits c cube, this with
    | x :: r, _ =>
      have hx : x ∈ hits c cube := by rw [e]; exact List.mem_cons_self ..
      exact ⟨x, (mem_hits.mp hx).1, (mem_hits.mp hx).2⟩
  · intro h c hc
    obtain ⟨x, h1, h2⟩ := h c hc
    refine decide_eq_true fun z => ?_
    have := mem_hits.mpr ⟨h1, h2⟩
    rw [z] at this
    cases this
theorem mods_len {n : Int} (hn : n ≤ 4) (cs : List Cl) : (mods n cs).length ≤ 16 := by
  have h1 : (mods n cs).length ≤ (asn n).length := List.length_filter_le ..
  have h2 : (asn n).length = 2 ^ n.toNat := by
    unfold asn
    rw [List.length_map, asn0_len]
  have h3 : 2 ^ n.toNat ≤ 2 ^ 4 := Nat.pow_le_pow_right (by omega) (by omega)
  have : (2 : Nat) ^ 4 = 16 := rfl
  omega
theorem mods_congr {n : Int} {cs ds : List Cl} (h : ∀ c, c ∈ cs ↔ c ∈ ds) : mods n cs = mods n ds := by
  unfold mods
  refine List.filter_congr fun cube _ => ?_
  rw [Bool.eq_iff_iff, okM_iff, okM_iff]
  constructor
  · exact fun q c hc => q c ((h c).mpr hc)
  · exact fun q c hc => q c ((h c).mp hc)
/-- a row of negated literals of a model takes it away -/
theorem mods_less {n : Int} {cs : List Cl} {cube keep : Cl} (hn : 0 ≤ n) (hc : cube ∈ mods n cs) (hk : ∀ x ∈ keep, x ∈ cube) : (mods n (cs ++ [norm (keep.map fun x => -x)])).length < (mods n cs).length := by
  obtain ⟨h1, h2⟩ := List.mem_filter.mp hc
  have e : mods n (cs ++ [norm (keep.map fun x => -x)]) = (mods n cs).filter fun c => okM [norm (keep.map fun x => -x)] c := by
    unfold mods
    rw [List.filter_filter]
    refine List.filter_congr fun c _ => ?_
    rw [Bool.eq_iff_iff, Bool.and_eq_true, okM_iff, okM_iff, okM_iff]
    constructor
    · intro q
      exact ⟨fun c hc => q c (List.mem_append_right _ hc), fun c hc => q c (List.mem_append_left _ hc)⟩
    · rintro ⟨q1, q2⟩ c hc
      rcases List.mem_append.mp hc with r | r
      · exact q2 c r
      · exact q1 c r
  rw [e]
  refine List.length_filter_lt_length_iff_exists.mpr ⟨cube, hc, fun z => ?_⟩
  obtain ⟨x, hx1, hx2⟩ := okM_iff.mp z _ (List.mem_singleton.mpr rfl)
  obtain ⟨y, hy, rfl⟩ := List.mem_map.mp (mem_norm.mp hx1)
  exact (asn_clause hn h1).1.con y (hk y hy) hx2
theorem row_clause {n : Int} {cube keep : Cl} (hc : Clause n cube) (hk : ∀ x ∈ keep, x ∈ cube) : Clause n (norm (keep.map fun x => -x)) := by
  have m : ∀ x, x ∈ norm (keep.map fun x => -x) → -x ∈ cube := fun x hx => by
    obtain ⟨y, hy, rfl⟩ := List.mem_map.mp (mem_norm.mp hx)
    rw [Int.neg_neg]
    exact hk y hy
  refine ⟨asc_norm _, fun x hx => ?_, fun x hx z => ?_⟩
  · have := hc.rng _ (m x hx)
    omega
  · exact hc.con _ (m x hx) (m _ z)
end K75
set_option Elab.async false
set_option linter.all false
set_option maxRecDepth 100000
set_option maxHeartbeats 4000000
/-! walks of the law: rows, of_rows, formula, rows_same -/
namespace K75
open PySem PySem.Spec PyProof.Rows L2 Evl

/-! ### arguments that tell a property -/
section
variable {K : PySem.W.Frag} {σ : L2.St} {H H' : Hp} {ta tb te : TE} {D : Ends} {tz tu : TS}
def EvQ (ta : TA) (σ : L2.St) (H : Hp) (P : List V → Hp → Prop) : Prop := ∀ H1, Ex H H1 → ∀ Q : List V → Hp → Prop, (∀ vs H2, Ex H1 H2 → P vs H2 → Q vs H2) → ta σ H1 Q
theorem eq_nil : EvQ tNil σ H fun vs _ => vs = [] := fun H1 e Q q => q [] H1 (Ex.refl _) rfl
theorem eq_cons {tr : TA} {P : V → Hp → Prop} {R : List V → Hp → Prop} (h : EvP te σ H P) (hr : EvQ tr σ H R) (mono : ∀ v H1 H2, Ex H1 H2 → P v H1 → P v H2) : EvQ (tCons te tr) σ H fun vs H' => ∃ v r, vs = v :: r ∧ P v H' ∧ R r H' := fun H1 e Q q =>
  h H1 e _ fun v H2 e2 p => hr H2 (e.trans e2) _ fun r H3 e3 p3 => q (v :: r) H3 (e2.trans e3) ⟨v, r, rfl, mono v H2 H3 e3 p, p3⟩
theorem ep_tup {ta : TA} {R : List V → Hp → Prop} (h : EvQ ta σ H R) (hl : ∀ vs H', R vs H' → vs.length ≤ 100000) (mono : ∀ vs H1 H2, Ex H1 H2 → R vs H1 → R vs H2) : EvP (tTup ta) σ H fun v H' => ∃ a vs, v = .ref a ∧ H' a = some (.tup vs) ∧ R vs H' := fun H1 e Q q =>
  h H1 e _ fun vs H2 e2 r => ⟨sz_of (hl vs H2 r), fun p hp => q (.ref p) _ (e2.trans (Ex.new hp)) ⟨p, vs, rfl, upd_same, mono vs _ _ (Ex.new hp) r⟩⟩
theorem ep_callQ {sp : Sp} {dvs : List V} {E : XK} {ta : TA} {R : List V → Hp → Prop} {P : V → Hp → Prop} (h : EvQ ta σ H R) (hs : ∀ vs H1, Ex H H1 → R vs H1 → ∀ Q : VK, (∀ v H2, Ex H1 H2 → P v H2 → Q v H2) → ∀ E : XK, sp (vs ++ dvs) H1 Q E) : EvP (tCall sp dvs E ta) σ H P := fun H1 e Q q =>
  h H1 e _ fun vs H2 e2 r => hs vs H2 (e.trans e2) r Q (fun v H3 e3 p => q v H3 (e2.trans e3) p) E
/-- a new formula of an int and a tuple of clauses -/
theorem ep_form {n : Int} {cs : List Cl} (ha : Ev ta σ H (.int n)) (hb : EvP tb σ H fun v H' => Tv H' v cs) : EvP (tTup (tCons ta (tCons tb tNil))) σ H fun v H' => Fv H' v n cs := by
  refine (ep_tup (eq_cons (Ev.p ha) (eq_cons hb eq_nil fun v H1 H2 e h => h.t (.ex e)) fun v H1 H2 e h => h) (fun vs H' => ?_) fun vs H1 H2 e => ?_).imp ?_
  · rintro ⟨v, r, rfl, h1, v2, r2, rfl, h2, rfl⟩
    show 2 ≤ 100000
    omega
  · rintro ⟨v, r, rfl, h1, v2, r2, rfl, h2, rfl⟩
    exact ⟨v, _, rfl, h1, v2, _, rfl, h2.t (.ex e), rfl⟩
  · rintro v H' e ⟨a, vs, rfl, h1, v1, r, rfl, rfl, v2, r2, rfl, ⟨b, ws, rfl, h2, h3⟩, rfl⟩
    exact ⟨a, b, ws, rfl, h1, h2, h3⟩
theorem ep_formE {n : Int} {R : List Cl → Prop} (ha : Ev ta σ H (.int n)) (hb : EvP tb σ H fun v H' => ∃ cs, Tv H' v cs ∧ R cs) : EvP (tTup (tCons ta (tCons tb tNil))) σ H fun v H' => ∃ cs, Fv H' v n cs ∧ R cs := by
  refine (ep_tup (eq_cons (Ev.p ha) (eq_cons hb eq_nil fun v H1 H2 e ⟨cs, h, r⟩ => ⟨cs, h.t (.ex e), r⟩) fun v H1 H2 e h => h) (fun vs H' => ?_) fun vs H1 H2 e => ?_).imp ?_
  · rintro ⟨v, r, rfl, h1, v2, r2, rfl, h2, rfl⟩
    show 2 ≤ 100000
    omega
  · rintro ⟨v, r, rfl, h1, v2, r2, rfl, ⟨cs, h2, h3⟩, rfl⟩
    exact ⟨v, _, rfl, h1, v2, _, rfl, ⟨cs, h2.t (.ex e), h3⟩, rfl⟩
  · rintro v H' e ⟨a, vs, rfl, h1, v1, r, rfl, rfl, v2, r2, rfl, ⟨cs, ⟨b, ws, rfl, h2, h3⟩, h4⟩, rfl⟩
    exact ⟨cs, ⟨a, b, ws, rfl, h1, h2, h3⟩, h4⟩
/-- tuple(sorted(a list of clauses)) -/
theorem ep_tsortC {p : Addr} {fvs : List V} {fcs : List Cl} (h : Ev te σ H (.ref p)) (hp : H p = some (.lst fvs)) (hC : Cvs H fvs fcs) : EvP (tCB (rTup K) (tCons (tCB (rSortedTI K) (tCons te tNil)) tNil)) σ H fun v H' => ∃ cs, Tv H' v cs ∧ cs.Perm fcs := fun H1 e Q q =>
  h H1 e _ fun H2 e2 => by
    have e12 := e.trans e2
    refine ⟨p, fvs, rfl, sq_of (e12 _ _ hp), fun v hv => ?_, fun ys l hy hl => ?_⟩
    · obtain ⟨c, _, a, h1, h2⟩ := (hC.t (.ex e12)).mem_left hv
      exact ⟨a, c, h1, st_of h2⟩
    · obtain ⟨zs, hz, hA⟩ := hC.perm hy
      have e4 : Ex H2 (upd H2 l (.lst ys)) := Ex.new hl
      refine ⟨l, ys, rfl, .inl ⟨sq_of upd_same, fun r hr => ?_⟩⟩
      have e5 : Ex (upd H2 l (.lst ys)) (upd (upd H2 l (.lst ys)) r (.tup ys)) := Ex.new hr
      exact q _ _ ((e2.trans e4).trans e5) ⟨zs, ⟨r, ys, rfl, upd_same, Cvs.t hA (.ex ((e12.trans e4).trans e5))⟩, hz⟩
theorem at_mod {ds : List Int} (h : 0 < ds.length) (x : Int) : ∃ d, d ∈ ds ∧ atI (ds.map V.int) (x % ((ds.map V.int).length : Int)) = some (.int d) := by
  rw [List.length_map]
  have h1 := Int.emod_nonneg x (show (ds.length : Int) ≠ 0 by omega)
  have h2 := Int.emod_lt_of_pos x (show (0 : Int) < ds.length by omega)
  obtain ⟨j, hj, e⟩ : ∃ j : Nat, j < ds.length ∧ x % (ds.length : Int) = (j : Int) := ⟨(x % (ds.length : Int)).toNat, by omega, by omega⟩
  refine ⟨ds[j], List.getElem_mem hj, ?_⟩
  rw [e]
  refine atI_nat ?_
  rw [List.getElem?_map, List.getElem?_eq_getElem hj] <;> rfl
theorem at_two {α : Type} (x : Int) (a b : α) : ∃ c, atI [a, b] (x % 2) = some c ∧ (c = a ∨ c = b) := by
  rcases Int.emod_two_eq x with e | e
  · exact ⟨a, by rw [e] <;> rfl, .inl rfl⟩
  · exact ⟨b, by rw [e] <;> rfl, .inr rfl⟩
end

section
variable {P : Program} {w : World} {K : PySem.W.Frag} {mg : PySem.Str → Option Value} {base : Heap} {cS cL : Addr}
/-- rows of ints -/
abbrev Rws (H : Hp) (rvs : List V) (lss : List (List Int)) : Prop := All2 (IntsAt H) rvs lss
theorem IntsAt.ex {H H' : Hp} {v : V} {ls : List Int} (h : IntsAt H v ls) (e : Ex H H') : IntsAt H' v ls := by
  obtain ⟨a, h1, h2⟩ := h
  exact ⟨a, h1, h2.imp (fun z => e _ _ z) fun z => e _ _ z⟩
theorem Rws.ex {H H' : Hp} {rvs : List V} {lss : List (List Int)} (h : Rws H rvs lss) (e : Ex H H') : Rws H' rvs lss := h.mono fun _ _ c => c.ex e
theorem IntsAt.put {H : Hp} {v : V} {ls : List Int} {p : Addr} {o : HO} (h : IntsAt H v ls) (hp : v ≠ .ref p) : IntsAt (upd H p o) v ls := by
  obtain ⟨a, rfl, h2⟩ := h
  have ne : a ≠ p := fun z => hp (by rw [z])
  exact ⟨a, rfl, by rw [upd_ne ne]; exact h2⟩
def sp_rows : Sp := fun vs H Q _ => ∃ (d : Addr) (ds : List Int) (at_ : Int) (n : Int) (many : Nat), vs = [.ref d, .int at_, .int n, .int (many : Int), .int 3] ∧ H d = some (.lst (ds.map V.int)) ∧ Drawn ds ∧ 0 < ds.length ∧ (1 ≤ n ∧ n ≤ 1000) ∧ many ≤ 1000 ∧
  ∀ p rvs lss H', H p = none → Ex H H' → H' p = some (.lst rvs) → Rws H' rvs lss → lss.length = many → (∀ ls ∈ lss, ls.length ≤ 3 ∧ ∀ x ∈ ls, x ≠ 0 ∧ -n ≤ x ∧ x ≤ n) → Q (.ref p) H'
theorem ok_law_rows (T : Txt K mg cS cL) : C8.Cal P w K mg base 1 "_law_rows" sp_rows [] := by
  refine calD T.d_law_rows sc_law_rows (fun vs H Q E h => ?_) fun f cdv A outer s H vs Q E hr h => ?_
  · obtain ⟨d, ds, at_, n, many, rfl, _⟩ := h
    rfl
  · obtain ⟨d, ds, at_, n, many, rfl, hd, hD, hpos, hn, hm, k⟩ := h
    refine ⟨_, (pss_cons (ps_set (i := 5) sc_law_rows.nd rfl (Or.inl rfl) (pe_lst pa_nil))
      (pss_cons (ps_for PassesOwn.never rfl (pi_range1 (by rfl) T.z_range (pa_cons (pv 3) pa_nil)) (pg_name (i := 6) sc_law_rows.nd rfl (Or.inl rfl))
        (pss_cons (ps_set (i := 7) sc_law_rows.nd rfl (Or.inl rfl) (pe_lst pa_nil))
      (pss_cons (ps_for PassesOwn.never rfl (pi_range1 (by rfl) T.z_range (pa_cons (pe_op op_mod (pe_ix (k_ixL (K := K)) (pv 0) (pe_op op_mod (pe_op op_add (pv 1) (pe_op op_mul pe_int (pv 6))) (pe_callB (k_len (K := K)) (by rfl) T.z_len PySem.boot_len (pa_cons (pv 0) pa_nil))) (fun _ _ => rfl)) (pe_op op_add (pv 4) pe_int)) pa_nil)) (pg_name (i := 8) sc_law_rows.nd rfl (Or.inl rfl))
        (pss_cons (ps_set (i := 9) sc_law_rows.nd rfl (Or.inl rfl) (pe_op op_add (pe_ix (k_ixL (K := K)) (pv 0) (pe_op op_mod (pe_op op_add (pe_op op_add (pe_op op_add (pv 1) (pe_op op_mul pe_int (pv 6))) pe_int) (pv 8)) (pe_callB (k_len (K := K)) (by rfl) T.z_len PySem.boot_len (pa_cons (pv 0) pa_nil))) (fun _ _ => rfl)) (pe_op op_mul pe_int (pv 6))))
      (pss_cons (ps_set (i := 10) sc_law_rows.nd rfl (Or.inl rfl) (pe_op op_add pe_int (pe_op op_mod (pv 9) (pv 2))))
      (pss_one (ps_expr (pe_bm PySem.F.plainAttrs_list PySem.F.slot_list_append PySem.F.type_list_append mt_append (pv 7) (pa_cons (pe_ix (k_ixL (K := K)) (pe_lst (pa_cons (pv 10) (pa_cons (pe_un un_neg (pv 10)) pa_nil))) (pe_op op_mod (pe_op op_fdiv (pv 9) (pv 2)) pe_int) (fun _ _ => rfl)) pa_nil)))))))
      (pss_one (ps_expr (pe_bm PySem.F.plainAttrs_list PySem.F.slot_list_append PySem.F.type_list_append mt_append (pv 5) (pa_cons (pv 7) pa_nil)))))))
      (pss_one (ps_ret (pv 5))))), ?_⟩
    have hlen : (0 : Int) < ((ds.map V.int).length : Int) := by rw [List.length_map]; omega
    refine q_asgL (el_lst ea_nil (by decide)) fun p H1 hp e1 h1 => ?_
    refine q_forR1 (ea_cons (ev_var rfl) ea_nil) (by omega)
      (fun i σ H' => ∃ (rvs : List V) (lss : List (List Int)) (x6 x7 x8 x9 x10 : Option V), σ = [some (.ref d), some (.int at_), some (.int n), some (.int (many : Int)), some (.int 3), some (.ref p), x6, x7, x8, x9, x10] ∧ Ex H H' ∧ H' p = some (.lst rvs) ∧ Rws H' rvs lss ∧ lss.length = i ∧ (∀ ls ∈ lss, ls.length ≤ 3 ∧ ∀ x ∈ ls, x ≠ 0 ∧ -n ≤ x ∧ x ≤ n) ∧ (∀ v ∈ rvs, v ≠ .ref p))
      (fun H2 e2 => ⟨[], [], none, none, none, none, none, rfl, e1.trans e2, e2 _ _ h1, .nil, rfl, fun ls h => (by simp at h), fun v h => by simp at h⟩) ?_ ?_
    · rintro i σ' H' hi ⟨rvs, lss, x6, x7, x8, x9, x10, rfl, hE, hp', hR, hl, hB, hne⟩
      refine q_asgL (el_lst ea_nil (by decide)) fun q H2 hq e2 h2 => ?_
      have nqp : q ≠ p := fun z => by rw [z, hp'] at hq; cases hq
      have hE2 := hE.trans e2
      obtain ⟨d1, hd1, hat1⟩ := at_mod hpos (at_ + 7 * (i : Int))
      have b1 := hD d1 hd1
      have m1 : 0 ≤ d1 % (3 + 1) ∧ d1 % (3 + 1) < 4 := ⟨Int.emod_nonneg _ (by decide), Int.emod_lt_of_pos _ (by decide)⟩
      refine q_forR1 (n := d1 % (3 + 1)) (ea_cons (ev_I (ev_ixL (ev_var rfl) (ev_I (ev_I0 (ev_var rfl) (ev_I ev_c (ev_var rfl) (.inl ⟨by decide, by decide⟩))) (ev_lenL (ev_var rfl) (hE2 _ _ hd)) hlen) (hE2 _ _ hd) hat1) (ev_I0 (ev_var rfl) ev_c) (by decide)) ea_nil) (by omega)
        (fun j σ H' => ∃ (ls : List Int) (x8 x9 x10 : Option V), σ = [some (.ref d), some (.int at_), some (.int n), some (.int (many : Int)), some (.int 3), some (.ref p), some (.int (i : Int)), some (.ref q), x8, x9, x10] ∧ Ex H H' ∧ H' p = some (.lst rvs) ∧ Rws H' rvs lss ∧ H' q = some (.lst (ls.map V.int)) ∧ ls.length = j ∧ ∀ x ∈ ls, x ≠ 0 ∧ -n ≤ x ∧ x ≤ n)
        (fun H3 e3 => ⟨[], x8, x9, x10, rfl, hE2.trans e3, e3 _ _ (e2 _ _ hp'), hR.ex (e2.trans e3), e3 _ _ h2, rfl, fun x h => by simp at h⟩) ?_ ?_
      · rintro j σ' H3 hj ⟨ls, x8, x9, x10, rfl, hE3, hp3, hR3, hq3, hl3, hB3⟩
        obtain ⟨d2, hd2, hat2⟩ := at_mod hpos (at_ + 7 * (i : Int) + 1 + (j : Int))
        refine q_asg (v := .int (d2 + 31 * (i : Int))) (ev_I0 (ev_ixL (v := .int d2) (ev_var rfl) (ev_I (ev_I0 (ev_I0 (ev_I0 (ev_var rfl) (ev_I ev_c (ev_var rfl) (.inl ⟨by decide, by decide⟩))) ev_c) (ev_var rfl)) (ev_lenL (ev_var rfl) (hE3 _ _ hd)) hlen) (hE3 _ _ hd) hat2) (ev_I ev_c (ev_var rfl) (.inl ⟨by decide, by decide⟩))) fun H4 e4 => ?_
        generalize hdr : d2 + 31 * (i : Int) = dr
        refine q_asg (v := .int (1 + dr % n)) (ev_I0 ev_c (ev_I (ev_var rfl) (ev_var rfl) (by show (0 : Int) < n; omega))) fun H5 e5 => ?_
        have mv := Int.emod_nonneg dr (show n ≠ 0 by omega)
        have mw := Int.emod_lt_of_pos dr (show 0 < n by omega)
        generalize hv : 1 + dr % n = v
        have rv : 1 ≤ v ∧ v ≤ n := by omega
        obtain ⟨c, hc1, hc2⟩ := at_two (dr / n) v (-v)
        have hE35 := (hE3.trans e4).trans e5
        have q5 := e5 _ _ (e4 _ _ hq3)
        have hc3 : atI [V.int v, V.int (-v)] (dr / n % 2) = some (.int c) := by
          rcases Int.emod_two_eq (dr / n) with e | e
          · rw [e] at hc1 ⊢
            have : v = c := Option.some.inj hc1
            rw [← this] <;> rfl
          · rw [e] at hc1 ⊢
            have : -v = c := Option.some.inj hc1
            rw [← this] <;> rfl
        refine s_app (v := .int c) q5 (ev_var rfl) (ev_opL1 (el_lst (ea_cons (ev_var rfl) (ea_cons (ev_neg (ev_var rfl)) ea_nil)) (by simp)) (fun H6 e6 => ev_I (ev_I (ev_var rfl) (ev_var rfl) ⟨by omega, by omega⟩) ev_c (by decide)) fun r H6 h6 e6 => rv_ixL (sq_of h6) hc3) (by rw [List.length_map]; omega) fun H6 e6 => ?_
        have q0 : H q = none := fresh_back hE hq
        have hE6 := hE35.trans e6
        refine ⟨ls ++ [c], _, _, _, rfl, Ex.mut hE6 q0, ?_, ?_, ?_, by rw [List.length_append, hl3] <;> rfl, fun x hx => ?_⟩
        · rw [upd_ne (Ne.symm nqp)]
          exact e6 _ _ (e5 _ _ (e4 _ _ hp3))
        · refine All2.mk hR3.len fun a u y h1 h2 => ?_
          have z := (hR3.at_ a u y h1 h2).ex ((e4.trans e5).trans e6)
          refine z.put fun e => ?_
          have zz := hR.at_ a u y h1 h2
          obtain ⟨b, hb, hb2⟩ := zz
          rw [e] at hb
          cases hb
          rcases hb2 with hb2 | hb2 <;> · rw [hq] at hb2; cases hb2
        · rw [upd_same, List.map_append] <;> rfl
        · rcases List.mem_append.mp hx with h | h
          · exact hB3 x h
          · rw [List.mem_singleton.mp h]
            rcases hc2 with e | e <;> omega
      · rintro σ' H3 ⟨ls, x8, x9, x10, rfl, hE3, hp3, hR3, hq3, hl3, hB3⟩
        have hrl := hR3.len
        refine s_app hp3 (ev_var rfl) (ev_var rfl) (by omega) fun H4 e4 => ?_
        have p0 : H p = none := hp
        refine ⟨rvs ++ [.ref q], lss ++ [ls], _, _, _, _, _, rfl, Ex.mut (hE3.trans e4) p0, upd_same, ?_, by rw [List.length_append, hl] <;> rfl, fun l hl => ?_, fun v hv => ?_⟩
        · refine All2.snoc (All2.mk hR3.len fun a u y h1 h2 => ?_) ?_
          · exact ((hR3.at_ a u y h1 h2).ex e4).put (hne u (List.mem_of_getElem? h1))
          · exact IntsAt.put ⟨q, rfl, .inl (e4 _ _ hq3)⟩ fun z => nqp (V.ref.inj z)
        · rcases List.mem_append.mp hl with h | h
          · exact hB l h
          · rw [List.mem_singleton.mp h]
            exact ⟨by omega, hB3⟩
        · rcases List.mem_append.mp hv with h | h
          · exact hne v h
          · rw [List.mem_singleton.mp h]
            exact fun z => nqp (V.ref.inj z)
    · rintro σ' H' ⟨rvs, lss, x6, x7, x8, x9, x10, rfl, hE, hp', hR, hl, hB, hne⟩
      refine s_ret (ev_var rfl) fun H2 e2 => k p rvs lss H2 hp (hE.trans e2) (e2 _ _ hp') (hR.ex e2) (by omega) hB
def sp_of_rows : Sp := fun vs H Q _ => ∃ n a rvs lss, vs = [.int n, .ref a] ∧ H a = some (.lst rvs) ∧ Rws H rvs lss ∧ (∀ ls ∈ lss, ls.length ≤ 1000) ∧ lss.length ≤ 10000 ∧ ∀ v cs H', Ex H H' → Fv H' v n cs → (∀ c, c ∈ cs ↔ ∃ ls ∈ lss, mkCl ls = some c) → cs.length ≤ lss.length → Q v H'
theorem ok_law_of_rows (T : Txt K mg cS cL) : C8.Cal P w K mg base 2 "_law_of_rows" sp_of_rows [] := by
  have G_law_clause_of : C8.Cal P w K mg base 1 "_law_clause_of" sp_clause_of [] := ok_law_clause_of T
  refine calD T.d_law_of_rows sc_law_of_rows (fun vs H Q E h => ?_) fun f cdv A outer s H vs Q E hr h => ?_
  · obtain ⟨n, a, rvs, lss, rfl, _⟩ := h
    rfl
  · obtain ⟨n, a, rvs, lss, rfl, ha, hR, hz1, hz2, k⟩ := h
    refine ⟨_, (pss_cons (ps_set (i := 2) sc_law_of_rows.nd rfl (Or.inl rfl) (pe_lst pa_nil))
      (pss_cons (ps_for PassesOwn.never rfl (pi_list (pv 1)) (pg_name (i := 3) sc_law_of_rows.nd rfl (Or.inl rfl))
        (pss_cons (ps_set (i := 4) sc_law_of_rows.nd rfl (Or.inl rfl) (C8.pe_c G_law_clause_of hr (by decide) (by rfl) (pa_cons (pv 3) pa_nil)))
      (pss_one (ps_if (PW.pt (pw_and (pt_cmpR op_notN (pv 4) pe_non (nomark _)) (pw_and1 (pt_cmpR (op_notInD (room65 hr)) (pv 4) (pv 2) (by rfl))))) (pss_one (ps_expr (pe_bm PySem.F.plainAttrs_list PySem.F.slot_list_append PySem.F.type_list_append mt_append (pv 2) (pa_cons (pv 4) pa_nil)))) pss_nil))))
      (pss_one (ps_ret (pe_tup (pa_cons (pv 0) (pa_cons (pe_callTy (k_tup (K := K)) (by rfl) T.z_tuple (by decide +kernel) (pa_cons (pe_callB (cr_sortedTI (room2 hr)) (by rfl) T.z_sorted (by decide +kernel) (pa_cons (pv 2) pa_nil)) pa_nil)) pa_nil))))))), ?_⟩
    refine q_asgL (el_lst ea_nil (by decide)) fun p H1 hp e1 h1 => ?_
    refine q_forLn (ev_var rfl) (sq_of (e1 _ _ ha)) (fun i σ H' => ∃ fvs fcs x y, σ = [some (.int n), some (.ref a), some (.ref p), x, y] ∧ Ex H H' ∧ H' p = some (.lst fvs) ∧ Cvs H' fvs fcs ∧ (∀ c, c ∈ fcs ↔ ∃ ls ∈ lss.take i, mkCl ls = some c) ∧ fcs.length ≤ i)
      (fun H2 e2 => ⟨[], [], none, none, rfl, e1.trans e2, e2 _ _ h1, .nil, fun c => (by simp), Nat.le_refl _⟩) (fun i σ' H' _ ⟨fvs, fcs, x, y, _, hE, _⟩ => sq_of (hE _ _ ha)) ?_ ?_
    · rintro i x σ' H' hx ⟨fvs, fcs, x3, y3, rfl, hE, hp', hC, hm, hl⟩
      obtain ⟨ls, hls, hi⟩ := hR.left hx
      have hmem := List.mem_of_getElem? hls
      have ht := take_snoc hls
      have hi2 := (List.getElem?_eq_some_iff.mp hls).1
      have cl := hC.len
      refine q_asgP (P := fun v H' => Ov H' v (mkCl ls)) (ep_call (ea_cons (ev_var rfl) ea_nil) fun H2 e2 Q q E => ⟨x, ls, rfl, hi.ex (hE.trans e2), hz1 ls hmem, q⟩) fun v H2 e2 hv => ?_
      have hE2 := hE.trans e2
      cases hmk : mkCl ls with
      | none =>
        rw [hmk] at hv
        have hv2 : v = .non := hv
        subst hv2
        refine s_when (b := false) (et_is (et_and (b := false) (et_is (et_notN (ev_var rfl)) (by rfl)) fun z => (by cases z)) (by rfl)) (fun z => by cases z) fun _ H3 e3 => ⟨fvs, fcs, _, _, rfl, hE2.trans e3, e3 _ _ (e2 _ _ hp'), hC.t (.ex (e2.trans e3)), fun c => ?_, by omega⟩
        rw [hm, ht]
        constructor
        · rintro ⟨l, h1, h2⟩
          exact ⟨l, List.mem_append_left _ h1, h2⟩
        · rintro ⟨l, h1, h2⟩
          rcases List.mem_append.mp h1 with z | z
          · exact ⟨l, z, h2⟩
          · rw [List.mem_singleton.mp z, hmk] at h2
            cases h2
      | some c =>
        rw [hmk] at hv
        have hv2 : Cv H2 v c := hv
        refine s_when (b := true && !fcs.contains c) (et_and (et_is (et_notN (ev_var rfl)) (by rw [hv2.notN] <;> rfl)) fun _ => et_test (ev_ninL (Ev.cv (ev_var rfl) hv2) (ev_var rfl) (e2 _ _ hp') (hC.t (.ex e2)))) (fun hb H3 e3 => ?_) fun hb H3 e3 => ?_
        · refine s_app (e3 _ _ (e2 _ _ hp')) (ev_var rfl) (ev_var rfl) (by omega) fun H4 e4 => ?_
          have p4 := e4 _ _ (e3 _ _ (e2 _ _ hp'))
          have t4 : Tst H4 (upd H4 p (.lst (fvs ++ [v]))) := Tst.lst p4
          refine ⟨fvs ++ [v], fcs ++ [c], _, _, rfl, Ex.mut ((hE2.trans e3).trans e4) hp, upd_same, ((hC.t (.ex ((e2.trans e3).trans e4))).t t4).snoc ((hv2.t (.ex (e3.trans e4))).t t4), fun d => ?_, by rw [List.length_append]; show _ + 1 ≤ _; omega⟩
          rw [ht, List.mem_append, hm, List.mem_singleton]
          constructor
          · rintro (⟨l, h1, h2⟩ | rfl)
            · exact ⟨l, List.mem_append_left _ h1, h2⟩
            · exact ⟨ls, List.mem_append_right _ (List.mem_singleton.mpr rfl), hmk⟩
          · rintro ⟨l, h1, h2⟩
            rcases List.mem_append.mp h1 with z | z
            · exact .inl ⟨l, z, h2⟩
            · rw [List.mem_singleton.mp z, hmk] at h2
              exact .inr (Option.some.inj h2).symm
        · have hin : c ∈ fcs := by simpa using hb
          refine ⟨fvs, fcs, _, _, rfl, hE2.trans e3, e3 _ _ (e2 _ _ hp'), hC.t (.ex (e2.trans e3)), fun d => ?_, by omega⟩
          rw [hm, ht]
          constructor
          · rintro ⟨l, h1, h2⟩
            exact ⟨l, List.mem_append_left _ h1, h2⟩
          · rintro ⟨l, h1, h2⟩
            rcases List.mem_append.mp h1 with z | z
            · exact ⟨l, z, h2⟩
            · rw [List.mem_singleton.mp z, hmk] at h2
              rw [← Option.some.inj h2]
              exact (hm c).mp hin
    · rintro σ' H' ⟨fvs, fcs, x3, y3, rfl, hE, hp', hC, hm, hl⟩
      have hrl := hR.len
      -- sorted, then a tuple, within a tuple
      refine s_retP (ep_formE (R := fun cs => cs.Perm fcs) (ev_var rfl) (ep_tsortC (ev_var rfl) hp' hC)) fun v H2 e2 ⟨cs, hF, hperm⟩ => k v cs H2 (hE.trans e2) hF (fun c => ?_) ?_
      · rw [hperm.mem_iff, hm, hrl, List.take_length]
      · rw [hperm.length_eq]
        omega
def sp_formula : Sp := fun vs H Q _ => ∃ (c : Int) (most many : Nat), vs = [.int c, .int (most : Int), .int (many : Int)] ∧ (1 ≤ most ∧ most ≤ 1000) ∧ many ≤ 500 ∧ ∀ v n cs H', Ex H H' → Fv H' v n cs → (1 ≤ n ∧ n ≤ most) → (∀ c ∈ cs, Clause n c) → cs.length ≤ many → Q v H'
theorem ok_law_formula (T : Txt K mg cS cL) : C8.Cal P w K mg base 3 "_law_formula" sp_formula [] := by
  have G_law_draws : C8.Cal P w K mg base 1 "_law_draws" sp_draws [] := ok_law_draws T
  have G_law_rows : C8.Cal P w K mg base 1 "_law_rows" sp_rows [] := ok_law_rows T
  have G_law_of_rows : C8.Cal P w K mg base 2 "_law_of_rows" sp_of_rows [] := ok_law_of_rows T
  refine calD T.d_law_formula sc_law_formula (fun vs H Q E h => ?_) fun f cdv A outer s H vs Q E hr h => ?_
  · obtain ⟨c, most, many, rfl, _⟩ := h
    rfl
  · obtain ⟨c, most, many, rfl, hmo, hma, k⟩ := h
    refine ⟨_, (pss_cons (ps_set (i := 3) sc_law_formula.nd rfl (Or.inl rfl) (C8.pe_c G_law_draws hr (by decide) (by rfl) (pa_cons (pv 0) (pa_cons pe_int pa_nil))))
      (pss_cons (ps_set (i := 4) sc_law_formula.nd rfl (Or.inl rfl) (pe_op op_add pe_int (pe_op op_mod (pe_ix (k_ixL (K := K)) (pv 3) pe_int (fun _ _ => rfl)) (pv 1))))
      (pss_one (ps_ret (C8.pe_c G_law_of_rows hr (by decide) (by rfl) (pa_cons (pv 4) (pa_cons (C8.pe_c G_law_rows hr (by decide) (by rfl) (pa_cons (pv 3) (pa_cons pe_int (pa_cons (pv 4) (pa_cons (pe_op op_mod (pe_ix (k_ixL (K := K)) (pv 3) pe_int (fun _ _ => rfl)) (pe_op op_add (pv 2) pe_int)) (pa_cons pe_int pa_nil)))))) pa_nil))))))), ?_⟩
    refine q_asgP (P := fun v H' => ∃ p ds, v = .ref p ∧ H' p = some (.lst (ds.map V.int)) ∧ ds.length = 90 ∧ Drawn ds) (ep_call (ea_cons (ev_var rfl) (ea_cons ev_c ea_nil)) fun H2 e2 Q q E => ⟨c, 90, rfl, by decide, fun p ds H' hp e h1 h2 h3 => q _ H' e ⟨p, ds, rfl, h1, h2, h3⟩⟩) fun v H1 e1 ⟨p, ds, hv, hp, hl, hD⟩ => ?_
    subst hv
    have a0 : atI (ds.map V.int) 0 = some (.int ds[0]) := at_int (j := 0) (by rw [List.getElem?_map, List.getElem?_eq_getElem (by omega)] <;> rfl) rfl
    have a1 : atI (ds.map V.int) 1 = some (.int ds[1]) := at_int (j := 1) (by rw [List.getElem?_map, List.getElem?_eq_getElem (by omega)] <;> rfl) rfl
    refine q_asg (v := .int (1 + ds[0] % (most : Int))) (ev_I0 ev_c (ev_I (ev_ixL (ev_var rfl) ev_c hp a0) (ev_var rfl) (by show (0 : Int) < most; omega))) fun H2 e2 => ?_
    have m1 := Int.emod_nonneg ds[0] (show (most : Int) ≠ 0 by omega)
    have m2 := Int.emod_lt_of_pos ds[0] (show (0 : Int) < most by omega)
    generalize hn : 1 + ds[0] % (most : Int) = n
    have bn : 1 ≤ n ∧ n ≤ most := by omega
    have m3 := Int.emod_nonneg ds[1] (show (many : Int) + 1 ≠ 0 by omega)
    have m4 := Int.emod_lt_of_pos ds[1] (show (0 : Int) < (many : Int) + 1 by omega)
    have hp2 := e2 _ _ hp
    refine s_retP (P := fun v H' => ∃ cs, Fv H' v n cs ∧ (∀ c ∈ cs, Clause n c) ∧ cs.length ≤ many) (ep_callQ (eq_cons (Ev.p (ev_var rfl)) (eq_cons (P := fun v H' => ∃ p rvs lss, v = .ref p ∧ H' p = some (.lst rvs) ∧ Rws H' rvs lss ∧ lss.length ≤ many ∧ ∀ ls ∈ lss, ls.length ≤ 3 ∧ ∀ x ∈ ls, x ≠ 0 ∧ -n ≤ x ∧ x ≤ n)
      (ep_call (ea_cons (ev_var rfl) (ea_cons ev_c (ea_cons (ev_var rfl) (ea_cons (ev_is (w := .int (((ds[1] % ((many : Int) + 1)).toNat : Nat) : Int)) (ev_I (ev_ixL (ev_var rfl) ev_c hp2 a1) (ev_I0 (ev_var rfl) ev_c) (by show (0 : Int) < (many : Int) + 1; omega)) (by congr 1; omega)) (ea_cons ev_c ea_nil)))))
        fun H3 e3 Q q E => ⟨p, ds, 2, n, (ds[1] % ((many : Int) + 1)).toNat, rfl, e3 _ _ hp2, hD, by omega, by omega, by omega, fun p rvs lss H' hp e h1 h2 h3 h4 => q _ H' e ⟨p, rvs, lss, rfl, h1, h2, by omega, h4⟩⟩) eq_nil (fun v H1 H2 e ⟨p, rvs, lss, h1, h2, h3, h4⟩ => ⟨p, rvs, lss, h1, e _ _ h2, h3.ex e, h4⟩)) fun v H1 H2 e h => h)
      fun vs H3 e3 ⟨v1, r1, hvs, hv1, v2, r2, hr1, ⟨p, rvs, lss, hv2, h1, h2, h3, h4⟩, hr2⟩ Q q E => ?_) fun v H3 e3 ⟨cs, h1, h2, h3⟩ => k v n cs H3 ((e1.trans e2).trans e3) h1 bn h2 h3
    subst hvs hv1 hr1 hv2 hr2
    refine ⟨n, p, rvs, lss, rfl, h1, h2, fun ls hls => ?_, by omega, fun v cs H4 e4 hF hm hl => q v H4 e4 ⟨cs, hF, fun c hc => ?_, by omega⟩⟩
    · have := (h4 ls hls).1
      omega
    · obtain ⟨ls, hls, hmk⟩ := (hm c).mp hc
      exact Clause.of_mk hmk (h4 ls hls).2
def sp_rows_same : Sp := fun vs H Q _ => ∃ a b vs1 vs2 cs, vs = [.ref a, .ref b] ∧ H a = some (.tup vs1) ∧ Cvs H vs1 cs ∧ H b = some (.lst vs2) ∧ Cvs H vs2 cs ∧ (∀ c ∈ cs, c.length ≤ 1000) ∧ cs.length ≤ 1000 ∧ ∀ H', Ex H H' → Q (.bl true) H'
theorem ok_law_rows_same (T : Txt K mg cS cL) : C8.Cal P w K mg base 4 "_law_rows_same" sp_rows_same [] := by
  have G_law_is_tuple : C8.Cal P w K mg base 3 "_law_is_tuple" sp_is_tuple [] := ok_law_is_tuple T
  refine calD T.d_law_rows_same sc_law_rows_same (fun vs H Q E h => ?_) fun f cdv A outer s H vs Q E hr h => ?_
  · obtain ⟨a, b, vs1, vs2, cs, rfl, _⟩ := h
    rfl
  · obtain ⟨a, b, vs1, vs2, cs, rfl, ha, hc1, hb, hc2, hz1, hz2, k⟩ := h
    refine ⟨_, (pss_cons (ps_if (pt_cmpR op_ne (pe_callB (k_len (K := K)) (by rfl) T.z_len PySem.boot_len (pa_cons (pv 0) pa_nil)) (pe_callB (k_len (K := K)) (by rfl) T.z_len PySem.boot_len (pa_cons (pv 1) pa_nil)) (nomark _)) (pss_one (ps_ret pe_bl)) pss_nil)
      (pss_cons (ps_for PassesOwn.never rfl (pi_range1 (by rfl) T.z_range (pa_cons (pe_callB (k_len (K := K)) (by rfl) T.z_len PySem.boot_len (pa_cons (pv 1) pa_nil)) pa_nil)) (pg_name (i := 2) sc_law_rows_same.nd rfl (Or.inl rfl))
        (pss_one (ps_if (pt_not (pt_val (C8.pe_c G_law_is_tuple hr (by decide) (by rfl) (pa_cons (pe_ix (k_ixT (K := K)) (pv 0) (pv 2) (fun _ _ => rfl)) (pa_cons (pe_ix (k_ixL (K := K)) (pv 1) (pv 2) (fun _ _ => rfl)) pa_nil))))) (pss_one (ps_ret pe_bl)) pss_nil)))
      (pss_one (ps_ret pe_bl)))), ?_⟩
    have l1 := hc1.len
    have l2 := hc2.len
    refine q_when (b := false) (et_is (et_neI (ev_lenT (ev_var rfl) ha) (ev_lenL (ev_var rfl) hb)) (by rw [l1, l2, decide_eq_true rfl] <;> rfl)) (fun z => by cases z) fun _ H1 e1 => ?_
    refine q_forR1 (ea_cons (ev_lenL (ev_var rfl) (e1 _ _ hb)) ea_nil) (by omega) (fun i σ H' => ∃ x, σ = [some (.ref a), some (.ref b), x] ∧ Ex H H') (fun H2 e2 => ⟨none, rfl, e1.trans e2⟩) ?_ ?_
    · rintro i σ' H' hi ⟨x, rfl, hE⟩
      have hil : i < cs.length := by omega
      obtain ⟨u, hu, hcu⟩ := hc1.right (List.getElem?_eq_getElem hil)
      obtain ⟨y, hy, hcy⟩ := hc2.right (List.getElem?_eq_getElem hil)
      refine s_when (b := false) (et_not (a := true) (et_B (ev_is (ev_call (z := .bl (decide (cs[i] = cs[i]))) (ea_cons (ev_ixT (ev_var rfl) (ev_var rfl) (hE _ _ ha) (atI_nat hu)) (ea_cons (ev_ixL (ev_var rfl) (ev_var rfl) (hE _ _ hb) (atI_nat hy)) ea_nil)) fun H2 e2 Q q E => ⟨u, y, cs[i], cs[i], rfl, hcu.t (.ex (hE.trans e2)), hcy.t (.ex (hE.trans e2)), hz1 _ (List.getElem_mem hil), q⟩) (by rw [decide_eq_true rfl])))) (fun z => by cases z) fun _ H2 e2 => ⟨_, rfl, hE.trans e2⟩
    · rintro σ' H' ⟨x, rfl, hE⟩
      exact s_ret ev_c fun H2 e2 => k H2 (hE.trans e2)
end
end K75
set_option Elab.async false
set_option linter.all false
set_option maxRecDepth 100000
set_option maxHeartbeats 4000000
/-! walks of the law: assignments, models, hopeless -/
namespace K75
open PySem PySem.Spec PyProof.Rows L2 Evl

/-- a new list of clauses -/
def LvN (H H' : Hp) (v : V) (cs : List Cl) : Prop := ∃ a vs, v = .ref a ∧ H a = none ∧ H' a = some (.lst vs) ∧ Cvs H' vs cs
theorem LvN.lv {H H' : Hp} {v : V} {cs : List Cl} (h : LvN H H' v cs) : Lv H' v cs := by
  obtain ⟨a, vs, h1, _, h2, h3⟩ := h
  exact ⟨a, vs, h1, h2, h3⟩
theorem LvN.ex {H H1 H2 : Hp} {v : V} {cs : List Cl} (h : LvN H H1 v cs) (e : Ex H1 H2) : LvN H H2 v cs := by
  obtain ⟨a, vs, h1, h0, h2, h3⟩ := h
  exact ⟨a, vs, h1, h0, e _ _ h2, h3.t (.ex e)⟩
theorem LvN.back {H H1 H2 : Hp} {v : V} {cs : List Cl} (h : LvN H1 H2 v cs) (e : Ex H H1) : LvN H H2 v cs := by
  obtain ⟨a, vs, h1, h0, h2, h3⟩ := h
  exact ⟨a, vs, h1, fresh_back e h0, h2, h3⟩
section
variable {K : PySem.W.Frag} {σ : L2.St} {H H' : Hp} {ta tb te tl : TE} {D : Ends} {tz tu : TS} {xs : List V}
/-- [e for x in clauses] -/
theorem lcC {wi : TI} {j : Nat} {vs : List Nat} {cs : List Cl} (g : Cl → Cl) (hs : Src wi σ H xs) (hc : Cvs H xs cs) (hz : xs.length ≤ 40000) (hw : ∀ x, wipe ((wipe σ vs).set j (some x)) vs = wipe σ vs)
    (he : ∀ (x : V) (c : Cl) H1, Ex H H1 → c ∈ cs → Cv H1 x c → EvP te ((wipe σ vs).set j (some x)) H1 fun y H' => Cv H' y (g c)) : EvP (tLc wi (gName j) tYes te vs) σ H fun v H' => LvN H H' v (cs.map g) := fun H1 e Q q => by
  refine lcP (p := fun _ => true) (R := fun x y H' => ∃ c, c ∈ cs ∧ Cv H' x c ∧ Cv H' y (g c)) (fun x y H1 H2 t ⟨c, h0, h1, h2⟩ => ⟨c, h0, h1.t t, h2.t t⟩) hs hz hw (fun x H1 e hx => et_yes) (fun x H1 e hx _ => ?_) H1 e Q fun l ys H2 hl e2 h2 hM => ?_
  · obtain ⟨c, hcm, hcx⟩ := hc.mem_left hx
    intro H2 e2 Q q
    exact he x c H1 e hcm (hcx.t (.ex e)) H2 e2 Q fun v H3 e3 h3 => q v H3 e3 ⟨c, hcm, hcx.t (.ex ((e.trans e2).trans e3)), h3⟩
  · unfold Made at hM
    rw [List.filter_eq_self.mpr fun _ _ => rfl] at hM
    refine q _ H2 e2 ⟨l, ys, rfl, fresh_back e hl, h2, All2.mk ?_ fun i x y h1 h3 => ?_⟩
    · rw [List.length_map, ← hc.len, hM.len]
    · rw [List.getElem?_map] at h3
      cases hcc : cs[i]? with
      | none => rw [hcc] at h3; cases h3
      | some c =>
      rw [hcc] at h3
      cases h3
      obtain ⟨u, hu, c', _, hc1, hc2⟩ := hM.right h1
      have := (hc.at_ i u c hu hcc).t (.ex (e.trans e2))
      rw [Cv.inj this hc1]
      exact hc2
theorem ep_cat {cs ds : List Cl} (ha : EvP ta σ H fun v H' => LvN H H' v cs) (hb : EvP tb σ H fun v H' => LvN H H' v ds) (hz : cs.length + ds.length ≤ 100000) : EvP (tOp rCat ta tb) σ H fun v H' => LvN H H' v (cs ++ ds) := fun H1 e Q q =>
  ha H1 e _ fun v H2 e2 ⟨a, xs, hv, ha0, ha1, ha2⟩ => hb H2 (e.trans e2) _ fun u H3 e3 ⟨b, ys, hu, hb0, hb1, hb2⟩ =>
    ⟨a, b, xs, ys, hv, hu, e3 _ _ ha1, hb1, sz_of (by rw [ha2.len, hb2.len]; exact hz), fun t ht => q _ _ ((e2.trans e3).trans (Ex.new ht)) ⟨t, xs ++ ys, rfl, fresh_back ((e.trans e2).trans e3) ht, upd_same, (ha2.t (.ex (e3.trans (Ex.new ht)))).append (hb2.t (.ex (Ex.new ht)))⟩⟩
/-- c + (x,) -/
theorem ep_catC {c d : Cl} (ha : EvP ta σ H fun v H' => Cv H' v c) (hb : EvU tb σ H (d.map V.int)) (hz : c.length + d.length ≤ 100000) : EvP (tOp (rCatA K) ta tb) σ H fun v H' => Cv H' v (c ++ d) := fun H1 e Q q =>
  ha H1 e _ fun v H2 e2 ⟨a, hv, h1⟩ => hb H2 (e.trans e2) _ fun b H3 hb0 e3 h3 =>
    ⟨a, b, _, _, hv, rfl, st_of (e3 _ _ h1), st_of h3, sz_of (by rw [List.length_map, List.length_map]; exact hz), fun h => q _ H3 (e2.trans e3) ⟨b, rfl, by rw [List.map_eq_nil_iff.mp h]; exact h3⟩,
      fun _ h => q _ H3 (e2.trans e3) ⟨a, hv ▸ rfl, by rw [List.map_eq_nil_iff.mp h, List.append_nil]; exact e3 _ _ h1⟩, fun _ _ t ht => q _ _ ((e2.trans e3).trans (Ex.new ht)) ⟨t, rfl, by rw [upd_same, List.map_append]⟩⟩
/-- for x in a new list of clauses -/
theorem s_forLv {cs : List Cl} {j : Nat} (h : EvP tl σ H fun v H' => LvN H H' v cs) (Pv : Addr → List V → Nat → L2.St → Hp → Prop) (h0 : ∀ a xs H1, H a = none → Ex H H1 → H1 a = some (.lst xs) → Cvs H1 xs cs → Pv a xs 0 σ H1)
    (hl : ∀ a xs i σ' H', Pv a xs i σ' H' → H' a = some (.lst xs))
    (hs : ∀ a xs (i : Nat) x σ' H', xs[i]? = some x → Pv a xs i σ' H' → tu { D with nx := Pv a xs (i + 1), ct := Pv a xs (i + 1), bk := D.nx } (σ'.set j (some x)) H')
    (hd : ∀ a xs σ' H', xs.length = cs.length → Pv a xs cs.length σ' H' → D.nx σ' H') : tFor (iList K tl) (gName j) tu D σ H :=
  h H (Ex.refl H) _ fun v H1 e ⟨a, xs, hv, h1, h2, h3⟩ => ⟨a, hv, ⟨xs, sq_of h2⟩, for_list (Pv a xs) (h0 a xs H1 h1 e h2 h3) (fun i σ' H' _ q => sq_of (hl a xs i σ' H' q)) (fun i x σ' H' hx p => hs a xs i x σ' H' hx p) (fun σ' H' p => hd a xs σ' H' h3.len (by rw [← h3.len]; exact p))⟩
theorem q_forLv {cs : List Cl} {j : Nat} (h : EvP tl σ H fun v H' => LvN H H' v cs) (Pv : Addr → List V → Nat → L2.St → Hp → Prop) (h0 : ∀ a xs H1, H a = none → Ex H H1 → H1 a = some (.lst xs) → Cvs H1 xs cs → Pv a xs 0 σ H1)
    (hl : ∀ a xs i σ' H', Pv a xs i σ' H' → H' a = some (.lst xs))
    (hs : ∀ a xs (i : Nat) x σ' H', xs[i]? = some x → Pv a xs i σ' H' → tu { D with nx := Pv a xs (i + 1), ct := Pv a xs (i + 1), bk := tz D } (σ'.set j (some x)) H')
    (hd : ∀ a xs σ' H', xs.length = cs.length → Pv a xs cs.length σ' H' → tz D σ' H') : tSeq (tFor (iList K tl) (gName j) tu) tz D σ H :=
  s_forLv (D := { D with nx := tz D }) h Pv h0 hl hs hd
/-- list(a tuple) -/
theorem el_listT {p : Addr} {xs : List V} (ha : Ev ta σ H (.ref p)) (h : H p = some (.tup xs)) : EvL (tCB (rListS K) (tCons ta tNil)) σ H xs := fun H1 e Q q =>
  ha H1 e _ fun H2 e2 => ⟨p, xs, rfl, .inr (st_of ((e.trans e2) _ _ h)), fun l hl => q l _ (fresh_back e2 hl) (e2.trans (Ex.new hl)) upd_same⟩
theorem ep_lst1 {c : Cl} (h : EvU te σ H (c.map V.int)) : EvP (tLst (tCons te tNil)) σ H fun v H' => LvN H H' v [c] := fun H1 e Q q => h H1 e _ fun t H2 ht e2 h2 =>
  ⟨sz_of (by simp), fun l hl => q _ _ (e2.trans (Ex.new hl)) ⟨l, _, rfl, fresh_back (e.trans e2) hl, upd_same, All2.one ⟨t, rfl, Ex.new hl _ _ h2⟩⟩⟩
/-- [e for x in ints] -/
theorem lcAll {wi : TI} {j : Nat} {vs : List Nat} {ls : List Int} (g : Int → Int) (hs : Src wi σ H (ls.map V.int)) (hz : ls.length ≤ 40000) (hw : ∀ x, wipe ((wipe σ vs).set j (some x)) vs = wipe σ vs)
    (he : ∀ (l : Int) H1, Ex H H1 → l ∈ ls → Ev te ((wipe σ vs).set j (some (.int l))) H1 (.int (g l))) : EvL (tLc wi (gName j) tYes te vs) σ H ((ls.map g).map V.int) := by
  have z := lcI (t := tYes) (fun _ => true) g hs hz hw (fun l H1 e _ => et_yes) (fun l H1 e hl _ => he l H1 e hl)
  rw [List.filter_eq_self.mpr fun _ _ => rfl] at z
  exact z
theorem EvU.tv {xs : List V} {cs : List Cl} (h : EvU te σ H xs) (hc : Cvs H xs cs) : EvP te σ H fun v H' => Tv H' v cs := fun H1 e Q q => h H1 e Q fun p H2 _ e2 h2 => q _ H2 e2 ⟨p, xs, rfl, h2, hc.t (.ex (e.trans e2))⟩
theorem ev_abs {i : Int} (ha : Ev ta σ H (.int i)) : Ev (tCB (fun xs H Q => ∃ i, xs = [.int i] ∧ Q (.int (if i < 0 then -i else i)) H) (tCons ta tNil)) σ H (.int (if i < 0 then -i else i)) := fun H1 e Q q =>
  ha H1 e _ fun H2 e2 => ⟨i, rfl, q H2 e2⟩
end

section
variable {P : Program} {w : World} {K : PySem.W.Frag} {mg : PySem.Str → Option Value} {base : Heap} {cS cL : Addr}
def sp_assignments : Sp := fun vs H Q _ => ∃ n : Int, vs = [.int n] ∧ (0 ≤ n ∧ n ≤ 4) ∧ ∀ v H', Ex H H' → LvN H H' v (asn n) → Q v H'
theorem ok_law_assignments (T : Txt K mg cS cL) : C8.Cal P w K mg base 1 "_law_assignments" sp_assignments [] := by
  refine calD T.d_law_assignments sc_law_assignments (fun vs H Q E h => ?_) fun f cdv A outer s H vs Q E hr h => ?_
  · obtain ⟨n, rfl, _⟩ := h
    rfl
  · obtain ⟨n, rfl, hn, k⟩ := h
    refine ⟨_, (pss_cons (ps_set (i := 1) sc_law_assignments.nd rfl (Or.inl rfl) (pe_lst (pa_cons (pe_tup pa_nil) pa_nil)))
      (pss_cons (ps_for PassesOwn.never rfl (pi_range2 (by rfl) T.z_range (pa_cons pe_int (pa_cons (pe_op op_add (pv 0) pe_int) pa_nil))) (pg_name (i := 2) sc_law_assignments.nd rfl (Or.inr rfl))
        (pss_one (ps_set (i := 1) sc_law_assignments.nd rfl (Or.inl rfl) (pe_op op_cat (pe_lc (own := [("_law_cube", 3)]) (g := gName 3) rfl sc_law_assignments.nd (pi_list (pv 1)) (blkOk_by (N := n_law_assignments) (sc := defScope s_law_assignments) (by decide +kernel)) (fun _ _ _ _ _ => pg_name (i := 3) sc_law_assignments.nd rfl (Or.inl rfl)) (fun _ _ _ _ _ => pts_nil) (fun _ _ _ _ _ => (pe_op (k_catA (K := K)) (pv 3) (pe_tup (pa_cons (pv 2) pa_nil))))) (pe_lc (own := [("_law_cube", 3)]) (g := gName 3) rfl sc_law_assignments.nd (pi_list (pv 1)) (blkOk_by (N := n_law_assignments) (sc := defScope s_law_assignments) (by decide +kernel)) (fun _ _ _ _ _ => pg_name (i := 3) sc_law_assignments.nd rfl (Or.inl rfl)) (fun _ _ _ _ _ => pts_nil) (fun _ _ _ _ _ => (pe_op (k_catA (K := K)) (pv 3) (pe_tup (pa_cons (pe_un un_neg (pv 2)) pa_nil)))))))))
      (pss_one (ps_ret (pe_lc (own := [("_law_cube", 3)]) (g := gName 3) rfl sc_law_assignments.nd (pi_list (pv 1)) (blkOk_by (N := n_law_assignments) (sc := defScope s_law_assignments) (by decide +kernel)) (fun _ _ _ _ _ => pg_name (i := 3) sc_law_assignments.nd rfl (Or.inl rfl)) (fun _ _ _ _ _ => pts_nil) (fun _ _ _ _ _ => (pe_callTy (k_tup (K := K)) (by rfl) T.z_tuple (by decide +kernel) (pa_cons (pe_callB (k_sortedA (K := K)) (by rfl) T.z_sorted (by decide +kernel) (pa_cons (pv 3) pa_nil)) pa_nil)))))))), ?_⟩
    have hz : ∀ i, i ≤ 4 → (asn0 i).length ≤ 16 := fun i hi => by
      rw [asn0_len]
      have : 2 ^ i ≤ 2 ^ 4 := Nat.pow_le_pow_right (by omega) hi
      omega
    refine q_asgP (P := fun v H' => LvN H H' v (asn0 0)) (ep_lst1 (eu_tup ea_nil (by simp))) fun v H1 e1 hv => ?_
    refine q_forR2 (ea_cons ev_c (ea_cons (ev_I0 (ev_var rfl) ev_c) ea_nil)) (by omega) (fun i σ H' => ∃ v x y, σ = [some (.int n), some v, x, y] ∧ Ex H H' ∧ LvN H H' v (asn0 i)) (fun H2 e2 => ⟨v, none, none, rfl, e1.trans e2, hv.ex e2⟩) ?_ ?_
    · rintro i σ' H' hi ⟨v, x, y, rfl, hE, a, xs, rfl, ha0, ha1, hc⟩
      have hl := hc.len
      have hz1 := hz i (by omega)
      have hz2 : ∀ c ∈ asn0 i, c.length ≤ 4 := fun c hc => by rw [(asn0_full i c hc).len]; omega
      refine s_asgP (P := fun v H2 => LvN H' H2 v (asn0 (i + 1))) (ep_cat (lcC (fun c => c ++ [1 + (i : Int)]) (src_list (ev_var rfl) ha1) hc (by omega) (fun x => rfl) (fun x c H2 e2 hcm hcx => ep_catC (d := [1 + (i : Int)]) (Ev.cv (ev_var rfl) hcx) (eu_tup (ea_cons (ev_var rfl) ea_nil) (by simp)) (by have := hz2 c hcm; simp; omega)))
        (lcC (fun c => c ++ [-(1 + (i : Int))]) (src_list (ev_var rfl) ha1) hc (by omega) (fun x => rfl) (fun x c H2 e2 hcm hcx => ep_catC (d := [-(1 + (i : Int))]) (Ev.cv (ev_var rfl) hcx) (eu_tup (ea_cons (ev_neg (ev_var rfl)) ea_nil) (by simp)) (by have := hz2 c hcm; simp; omega))) (by rw [List.length_map, List.length_map]; omega)) fun v H2 e2 hv => ⟨v, _, _, rfl, hE.trans e2, hv.back hE⟩
    · rintro σ' H' ⟨v, x, y, rfl, hE, a, xs, rfl, ha0, ha1, hc⟩
      have en : (n + 1 - 1).toNat = n.toNat := by omega
      rw [en] at hc
      have hz1 := hz n.toNat (by omega)
      have hl := hc.len
      exact s_retP (lcC norm (src_list (ev_var rfl) ha1) hc (by omega) (fun x => rfl) (fun x c H2 e2 hcm ⟨t, ht1, ht2⟩ => by
        subst ht1
        exact EvU.cv (eu_tsort (Ev.intsT (ev_var rfl) ht2) (asn0_full _ c hcm).nod))) fun v H2 e2 hv => k v H2 (hE.trans e2) (hv.back hE)
noncomputable def unmet (H : Hp) (cs : List Cl) (cube : Cl) (v : V) : Bool := @decide (∃ c ∈ cs, Cv H v c ∧ hits c cube = []) (Classical.propDecidable _)
theorem unmet_of {H : Hp} {cs : List Cl} {cube c : Cl} {v : V} (hc : c ∈ cs) (hv : Cv H v c) : unmet H cs cube v = !decide (hits c cube ≠ []) := by
  unfold unmet
  by_cases e : hits c cube = []
  · rw [@decide_eq_true _ (Classical.propDecidable _) (⟨c, hc, hv, e⟩ : ∃ c ∈ cs, Cv H v c ∧ hits c cube = []), decide_eq_false (fun z => z e)] <;> rfl
  · rw [decide_eq_true (show hits c cube ≠ [] from e)]
    refine @decide_eq_false _ (Classical.propDecidable _) ?_
    rintro ⟨d, _, h1, h2⟩
    rw [Cv.inj h1 hv] at h2
    exact e h2
theorem unmet_len {H : Hp} {cs : List Cl} {cube : Cl} {vs : List V} (h : Cvs H vs cs) : decide (((vs.filter (unmet H cs cube)).length : Int) = 0) = okM cs cube := by
  rw [Bool.eq_iff_iff, decide_eq_true_eq]
  have e1 : ((vs.filter (unmet H cs cube)).length : Int) = 0 ↔ vs.filter (unmet H cs cube) = [] := by
    rw [List.eq_nil_iff_length_eq_zero]
    omega
  rw [e1, List.filter_eq_nil_iff]
  unfold okM
  rw [List.all_eq_true]
  constructor
  · intro q c hc
    obtain ⟨i, hi⟩ := List.getElem?_of_mem hc
    obtain ⟨v, hv1, hv2⟩ := h.right hi
    have z := q v (List.mem_of_getElem? hv1)
    rw [unmet_of hc hv2] at z
    simpa using z
  · intro q v hv
    obtain ⟨c, hc, hv2⟩ := h.mem_left hv
    have z := q c hc
    rw [unmet_of hc hv2, z]
    decide
def sp_models : Sp := fun vs H Q _ => ∃ v n cs, vs = [v] ∧ Fv H v n cs ∧ (0 ≤ n ∧ n ≤ 4) ∧ cs.length ≤ 1000 ∧ (∀ c ∈ cs, c.length ≤ 1000) ∧ ∀ v H', Ex H H' → LvN H H' v (mods n cs) → Q v H'
theorem ok_law_models (T : Txt K mg cS cL) : C8.Cal P w K mg base 2 "_law_models" sp_models [] := by
  have G_law_assignments : C8.Cal P w K mg base 1 "_law_assignments" sp_assignments [] := ok_law_assignments T
  have G_law_meets : C8.Cal P w K mg base 1 "_law_meets" sp_meets [] := ok_law_meets T
  refine calD T.d_law_models sc_law_models (fun vs H Q E h => ?_) fun f cdv A outer s H vs Q E hr h => ?_
  · obtain ⟨v, n, cs, rfl, _⟩ := h
    rfl
  · obtain ⟨v, n, cs, rfl, ⟨fa, fb, cvs, rfl, h1, h2, h3⟩, hn, hz1, hz2, k⟩ := h
    refine ⟨_, (pss_cons (ps_set (i := 1) sc_law_models.nd rfl (Or.inl rfl) (pe_lst pa_nil))
      (pss_cons (ps_for PassesOwn.never rfl (pi_list (C8.pe_c G_law_assignments hr (by decide) (by rfl) (pa_cons (pe_ix (k_ixT (K := K)) (pv 0) pe_int (fun _ _ => rfl)) pa_nil))) (pg_name (i := 2) sc_law_models.nd rfl (Or.inr rfl))
        (pss_one (ps_if (pt_cmpR op_eq (pe_callB (k_len (K := K)) (by rfl) T.z_len PySem.boot_len (pa_cons (pe_lc (own := [("_law_clause", 3)]) (g := gName 3) rfl sc_law_models.nd (pi_tup (pe_ix (k_ixT (K := K)) (pv 0) pe_int (fun _ _ => rfl))) (blkOk_by (N := n_law_models) (sc := defScope s_law_models) (by decide +kernel)) (fun _ _ _ _ _ => pg_name (i := 3) sc_law_models.nd rfl (Or.inl rfl)) (fun _ _ _ _ _ => pts_one (pt_not (pt_val (C8.pe_c G_law_meets hr (by decide) (by rfl) (pa_cons (pv 2) (pa_cons (pv 3) pa_nil)))))) (fun _ _ _ _ _ => (pv 3))) pa_nil)) pe_int (nomark _)) (pss_one (ps_expr (pe_bm PySem.F.plainAttrs_list PySem.F.slot_list_append PySem.F.type_list_append mt_append (pv 1) (pa_cons (pv 2) pa_nil)))) pss_nil)))
      (pss_one (ps_ret (pv 1))))), ?_⟩
    have hl3 := h3.len
    refine q_asgL (el_lst ea_nil (by decide)) fun p H1 hp e1 hp1 => ?_
    refine q_forLv (cs := asn n) (ep_call (ea_cons (ev_ixT (v := .int n) (ev_var rfl) ev_c (e1 _ _ h1) rfl) ea_nil) fun H2 e2 Q q E => ⟨n, rfl, hn, fun v H' e hv => q v H' e (hv.back e2)⟩)
      (fun a xs i σ H' => ∃ fvs x y, σ = [some (.ref fa), some (.ref p), x, y] ∧ Ex H H' ∧ a ≠ p ∧ H' a = some (.lst xs) ∧ Cvs H' xs (asn n) ∧ H' p = some (.lst fvs) ∧ Cvs H' fvs (((asn n).take i).filter (okM cs)) ∧ fvs.length ≤ i)
      (fun a xs H2 ha e2 ha2 hx => ⟨[], none, none, rfl, e1.trans e2, fun z => (by rw [z, hp1] at ha; cases ha), ha2, hx, e2 _ _ hp1, .nil, Nat.le_refl _⟩) (fun a xs i σ' H' ⟨fvs, x, y, _, _, _, h, _⟩ => h) ?_ ?_
    · rintro a xs i x σ' H' hx ⟨fvs, x2, x3, rfl, hE, hap, ha, hxs, hp', hf, hfl⟩
      obtain ⟨cube, hcu, hcx⟩ := hxs.left hx
      obtain ⟨hC, _⟩ := asn_clause hn.1 (List.mem_of_getElem? hcu)
      have hCl := hC.len
      have h3' := h3.t (.ex hE)
      have ht := take_snoc hcu
      have hil := (List.getElem?_eq_some_iff.mp hcu).1
      have hal : (asn n).length ≤ 16 := by
        unfold asn
        rw [List.length_map, asn0_len]
        have : 2 ^ n.toNat ≤ 2 ^ 4 := Nat.pow_le_pow_right (by omega) (by omega)
        omega
      refine s_when (et_is (et_eqI (ev_lenN (lcV (xs := cvs) (unmet H' cs cube) (src_tup (ev_ixT (ev_var rfl) ev_c (hE _ _ h1) rfl) (hE _ _ h2)) (by omega) (fun x => rfl) (fun y H2 e2 hy => ?_) (fun y H2 e2 _ _ => ev_var rfl))) ev_c) (unmet_len h3')) (fun hb H2 e2 => ?_) fun hb H2 e2 => ?_
      · obtain ⟨c, hc, hyc⟩ := h3'.mem_left hy
        rw [unmet_of hc hyc]
        exact et_not (et_B (ev_call (ea_cons (ev_var rfl) (ea_cons (ev_var rfl) ea_nil)) fun H3 e3 Q q E => ⟨x, y, cube, c, rfl, hcx.t (.ex (e2.trans e3)), hyc.t (.ex (e2.trans e3)), hz2 c hc, q⟩))
      · refine s_app (e2 _ _ hp') (ev_var rfl) (ev_var rfl) (by omega) fun H3 e3 => ?_
        have p3 := e3 _ _ (e2 _ _ hp')
        have t3 : Tst H3 (upd H3 p (.lst (fvs ++ [x]))) := Tst.lst p3
        have tt : Tst H' (upd H3 p (.lst (fvs ++ [x]))) := (Tst.ex (e2.trans e3)).trans t3
        refine ⟨fvs ++ [x], _, _, rfl, Ex.mut ((hE.trans e2).trans e3) hp, hap, ?_, hxs.t tt, upd_same, ?_, by rw [List.length_append]; show _ + 1 ≤ _; omega⟩
        · rw [upd_ne hap]
          exact e3 _ _ (e2 _ _ ha)
        · rw [ht, List.filter_append, List.filter_cons, if_pos hb]
          exact (hf.t tt).snoc (hcx.t tt)
      · refine ⟨fvs, _, _, rfl, hE.trans e2, hap, e2 _ _ ha, hxs.t (.ex e2), e2 _ _ hp', ?_, by omega⟩
        rw [ht, List.filter_append, List.filter_cons, if_neg (by rw [hb]; decide)]
        show Cvs _ _ (_ ++ [])
        rw [List.append_nil]
        exact hf.t (.ex e2)
    · rintro a xs σ' H' hxl ⟨fvs, x2, x3, rfl, hE, hap, ha, hxs, hp', hf, hfl⟩
      rw [List.take_length] at hf
      exact s_ret (ev_var rfl) fun H2 e2 => k _ H2 (hE.trans e2) ⟨p, fvs, rfl, hp, e2 _ _ hp', hf.t (.ex e2)⟩
def sp_hopeless : Sp := fun vs H Q _ => ∃ (c : Int), vs = [.int c, .int 4, .int 6] ∧ ∀ v n cs H', Ex H H' → Fv H' v n cs → (1 ≤ n ∧ n ≤ 4) → (∀ c ∈ cs, Clause n c) → cs.length ≤ 22 → mods n cs = [] → Q v H'
theorem ok_law_hopeless (T : Txt K mg cS cL) : C8.Cal P w K mg base 4 "_law_hopeless" sp_hopeless [] := by
  have G_law_formula : C8.Cal P w K mg base 3 "_law_formula" sp_formula [] := ok_law_formula T
  have G_law_draws : C8.Cal P w K mg base 1 "_law_draws" sp_draws [] := ok_law_draws T
  have G_law_models : C8.Cal P w K mg base 2 "_law_models" sp_models [] := ok_law_models T
  have G_law_of_rows : C8.Cal P w K mg base 2 "_law_of_rows" sp_of_rows [] := ok_law_of_rows T
  refine calD T.d_law_hopeless sc_law_hopeless (fun vs H Q E h => ?_) fun f cdv A outer s H vs Q E hr h => ?_
  · obtain ⟨c, rfl, _⟩ := h
    rfl
  · obtain ⟨c, rfl, k⟩ := h
    refine ⟨_, (pss_cons (ps_asg (C8.pe_c G_law_formula hr (by decide) (by rfl) (pa_cons (pv 0) (pa_cons (pv 1) (pa_cons (pv 2) pa_nil)))) (pg_tup rfl (pgs_cons (pg_name (i := 3) sc_law_hopeless.nd rfl (Or.inl rfl)) (pgs_cons (pg_name (i := 4) sc_law_hopeless.nd rfl (Or.inl rfl)) pgs_nil))))
      (pss_cons (ps_set (i := 5) sc_law_hopeless.nd rfl (Or.inl rfl) (pe_callTy (k_lst (K := K)) (by rfl) T.z_list (by decide +kernel) (pa_cons (pv 4) pa_nil)))
      (pss_cons (ps_set (i := 6) sc_law_hopeless.nd rfl (Or.inr rfl) (C8.pe_c G_law_draws hr (by decide) (by rfl) (pa_cons (pe_op op_add (pv 0) pe_int) (pa_cons pe_int pa_nil))))
      (pss_cut (ps_for PassesOwn.never rfl (pi_range1 (by rfl) T.z_range (pa_cons pe_int pa_nil)) (pg_name (i := 7) sc_law_hopeless.nd rfl (Or.inr rfl))
        (pss_cons (ps_set (i := 8) sc_law_hopeless.nd rfl (Or.inl rfl) (C8.pe_c G_law_models hr (by decide) (by rfl) (pa_cons (pe_tup (pa_cons (pv 3) (pa_cons (pe_callTy (k_tup (K := K)) (by rfl) T.z_tuple (by decide +kernel) (pa_cons (pv 5) pa_nil)) pa_nil))) pa_nil)))
      (pss_cons (ps_if (pt_cmpR op_eq (pe_callB (k_len (K := K)) (by rfl) T.z_len PySem.boot_len (pa_cons (pv 8) pa_nil)) pe_int (nomark _)) (pss_one ps_break) pss_nil)
      (pss_cons (ps_set (i := 9) sc_law_hopeless.nd rfl (Or.inl rfl) (pe_ix (k_ixL (K := K)) (pv 8) (pe_op op_mod (pe_ix (k_ixL (K := K)) (pv 6) (pv 7) (fun _ _ => rfl)) (pe_callB (k_len (K := K)) (by rfl) T.z_len PySem.boot_len (pa_cons (pv 8) pa_nil))) (fun _ _ => rfl)))
      (pss_cons (ps_setLc (i := 10) (own := [("_law_literal", 11)]) (g := gName 11) rfl sc_law_hopeless.nd rfl rfl (sw_true rfl rfl rfl (by decide +kernel)) (pi_tup (pv 9)) (blkOk_by (N := n_law_hopeless) (sc := defScope s_law_hopeless) (by decide +kernel)) (fun _ _ _ _ _ => pg_name (i := 11) sc_law_hopeless.nd rfl (Or.inl rfl)) (fun _ _ _ _ _ => pts_one (pt_cmpR op_gt (pe_op op_mod (pe_op op_fdiv (pe_ix (k_ixL (K := K)) (pv 6) (pe_op op_add pe_int (pv 7)) (fun _ _ => rfl)) (pe_op op_add pe_int (pe_callB k_abs (by rfl) T.z_abs (by decide +kernel) (pa_cons (pv 11) pa_nil)))) pe_int) pe_int (nomark _))) (fun _ _ _ _ _ => (pv 11)))
      (pss_one (ps_expr (pe_bm PySem.F.plainAttrs_list PySem.F.slot_list_append PySem.F.type_list_append mt_append (pv 5) (pa_cons (pe_callTy (k_tup (K := K)) (by rfl) T.z_tuple (by decide +kernel) (pa_cons (pe_callB (k_sortedA (K := K)) (by rfl) T.z_sorted (by decide +kernel) (pa_cons (pe_lc (own := [("_law_literal", 11)]) (g := gName 11) rfl sc_law_hopeless.nd (pi_list (pv 10)) (blkOk_by (N := n_law_hopeless) (sc := defScope s_law_hopeless) (by decide +kernel)) (fun _ _ _ _ _ => pg_name (i := 11) sc_law_hopeless.nd rfl (Or.inl rfl)) (fun _ _ _ _ _ => pts_nil) (fun _ _ _ _ _ => (pe_un un_neg (pv 11)))) pa_nil)) pa_nil)) pa_nil)))))))))
      (pss_one (ps_ret (C8.pe_c G_law_of_rows hr (by decide) (by rfl) (pa_cons (pv 3) (pa_cons (pv 5) pa_nil))))))))), ?_⟩
    -- n, clauses = formula(..)
    refine (ep_call (P := fun v H' => ∃ n cs, Fv H' v n cs ∧ (1 ≤ n ∧ n ≤ 4) ∧ (∀ c ∈ cs, Clause n c) ∧ cs.length ≤ 6) (ea_cons (ev_var rfl) (ea_cons (ev_var rfl) (ea_cons (ev_var rfl) ea_nil))) fun H2 e2 Q q E => ⟨c, 4, 6, rfl, by decide, by decide, fun v n cs H' e h1 h2 h3 h4 => q v H' e ⟨n, cs, h1, by omega, h3, h4⟩⟩).go fun v H1 e1 ⟨n, cs, ⟨fa, fb, cvs, hv, h1, h2, h3⟩, hn, hcs, hl⟩ => ⟨fa, _, hv, st_of h1, rfl, _, _, rfl, _, _, rfl, rfl, ?_⟩
    show tSeq _ _ _ _ _
    refine q_asgL (el_listT (ev_var rfl) h2) fun ro H2 hro e2 hr2 => ?_
    refine q_asgP (P := fun v H' => ∃ p ds, v = .ref p ∧ H' p = some (.lst (ds.map V.int)) ∧ H2 p = none ∧ ds.length = 40 ∧ Drawn ds) (ep_call (ea_cons (ev_I0 (ev_var rfl) ev_c) (ea_cons ev_c ea_nil)) fun H3 e3 Q q E => ⟨c + 77, 40, rfl, by decide, fun p ds H' hp e h1 h2 h3 => q _ H' e ⟨p, ds, rfl, h1, fresh_back e3 hp, h2, h3⟩⟩) fun v3 H3 e3 ⟨dr, ds, hv3, hd, hd0, hdl, hD⟩ => ?_
    subst hv3
    have hE3 := (e1.trans e2).trans e3
    have ro0 : H ro = none := fresh_back e1 hro
    have ndr : dr ≠ ro := fun z => by rw [z, hr2] at hd0; cases hd0
    refine q_cut (M := fun σ H' => ∃ rvs rows x7 x8 x9 x10 x11, σ = [some (.int c), some (.int 4), some (.int 6), some (.int n), some (.ref fb), some (.ref ro), some (.ref dr), x7, x8, x9, x10, x11] ∧ Ex H H' ∧ H' ro = some (.lst rvs) ∧ Cvs H' rvs rows ∧ (∀ c ∈ rows, Clause n c) ∧ rows.length ≤ 22 ∧ mods n rows = []) ?_ ?_
    · refine s_forR1 (ea_cons ev_c ea_nil) (by decide) (fun i σ H' => ∃ rvs rows x7 x8 x9 x10 x11, σ = [some (.int c), some (.int 4), some (.int 6), some (.int n), some (.ref fb), some (.ref ro), some (.ref dr), x7, x8, x9, x10, x11] ∧ Ex H H' ∧ H' ro = some (.lst rvs) ∧ Cvs H' rvs rows ∧ H' dr = some (.lst (ds.map V.int)) ∧ (∀ c ∈ rows, Clause n c) ∧ rows.length ≤ 6 + i ∧ (mods n rows).length ≤ 16 - i)
        (fun H4 e4 => ⟨cvs, cs, _, _, _, _, _, rfl, hE3.trans e4, e4 _ _ (e3 _ _ hr2), h3.t (.ex ((e2.trans e3).trans e4)), e4 _ _ hd, hcs, by omega, mods_len hn.2 cs⟩) ?_ ?_
      · rintro i σ' H' hi ⟨rvs, rows, x7, x8, x9, x10, x11, rfl, hE, hro', hC, hdr, hcl, hrl, hml⟩
        have hcl2 := hC.len
        refine q_asgP (P := fun v H2 => LvN H' H2 v (mods n rows)) (ep_callQ (eq_cons (ep_form (n := n) (cs := rows) (ev_var rfl) (EvU.tv (eu_tupA (ev_var rfl) hro') hC)) eq_nil fun v H1 H2 e h => h.t (.ex e)) fun vs H4 e4 ⟨v, r, hvs, hF, hr⟩ Q q E => ?_) fun v H4 e4 hv => ?_
        · subst hvs hr
          exact ⟨v, n, rows, rfl, hF, by omega, by omega, fun c hc => (by have := (hcl c hc).len; omega), fun v H' e h => q v H' e (h.back e4)⟩
        obtain ⟨ma, mvs, rfl, hma0, hma, hmc⟩ := hv
        have hml2 := hmc.len
        refine q_when (et_eqI (ev_lenL (ev_var rfl) hma) ev_c) (fun hb H5 e5 => ?_) fun hb H5 e5 => ?_
        · have z := of_decide_eq_true hb
          refine ⟨rvs, rows, _, _, _, _, _, rfl, (hE.trans e4).trans e5, e5 _ _ (e4 _ _ hro'), hC.t (.ex (e4.trans e5)), hcl, by omega, ?_⟩
          exact List.eq_nil_of_length_eq_zero (by omega)
        · have z := of_decide_eq_false hb
          have mpos : 0 < mvs.length := by omega
          have e45 := e4.trans e5
          have hil : i < ds.length := by omega
          have aI : atI (ds.map V.int) (i : Int) = some (.int ds[i]) := atI_nat (by rw [List.getElem?_map, List.getElem?_eq_getElem hil] <;> rfl)
          have hjl : 20 + i < ds.length := by omega
          have aJ : atI (ds.map V.int) (20 + (i : Int)) = some (.int ds[20 + i]) := at_int (j := 20 + i) (by rw [List.getElem?_map, List.getElem?_eq_getElem hjl] <;> rfl) (by omega)
          have g1 := Int.emod_nonneg ds[i] (show (mvs.length : Int) ≠ 0 by omega)
          have g2 := Int.emod_lt_of_pos ds[i] (show (0 : Int) < mvs.length by omega)
          obtain ⟨j, hj, ej⟩ : ∃ j : Nat, j < mvs.length ∧ ds[i] % (mvs.length : Int) = (j : Int) := ⟨(ds[i] % (mvs.length : Int)).toNat, by omega, by omega⟩
          obtain ⟨cube, hcu, hcx⟩ := hmc.left (List.getElem?_eq_getElem hj)
          have hcm := List.mem_of_getElem? hcu
          obtain ⟨hcC, _⟩ := asn_clause (by omega) (List.mem_filter.mp hcm).1
          have hcl5 := hcC.len
          obtain ⟨qa, hqa, hqt⟩ := hcx
          refine q_asg (v := mvs[j]) (ev_ixL (ev_var rfl) (ev_I (ev_ixL (ev_var rfl) (ev_var rfl) (e45 _ _ hdr) aI) (ev_lenL (ev_var rfl) (e5 _ _ hma)) (by show (0 : Int) < mvs.length; omega)) (e5 _ _ hma) (by rw [ej]; exact atI_nat (List.getElem?_eq_getElem hj))) fun H6 e6 => ?_
          rw [hqa]
          have e46 := e45.trans e6
          refine q_asgL (lcI (ls := cube) (fun l => decide (0 < (ds[20 + i] / (1 + if l < 0 then -l else l)) % 3)) (fun l => l) (src_tup (ev_var rfl) (e6 _ _ (e5 _ _ hqt))) (by omega) (fun x => rfl)
            (fun l H7 e7 hl => et_I0 (ev_I (ev_I (ev_ixL (ev_var rfl) (ev_I0 ev_c (ev_var rfl)) (e7 _ _ (e46 _ _ hdr)) aJ) (ev_I0 ev_c (ev_abs (ev_var rfl))) (by have := hcC.rng l hl; split <;> exact ⟨by omega, by omega⟩)) ev_c (by decide)) ev_c) (fun l H7 e7 _ _ => ev_var rfl)) fun kp H7 hkp e7 hk7 => ?_
          rw [List.map_id'] at hk7
          generalize hkeep : cube.filter (fun l => decide (0 < (ds[20 + i] / (1 + if l < 0 then -l else l)) % 3)) = keep at hk7
          have hsub : ∀ x ∈ keep, x ∈ cube := fun x hx => by
            rw [← hkeep] at hx
            exact (List.mem_filter.mp hx).1
          have hkn : keep.Nodup := by
            rw [← hkeep]
            exact List.Pairwise.sublist List.filter_sublist (asc_nodup hcC.asc)
          have hkl : keep.length ≤ cube.length := by
            rw [← hkeep]
            exact List.length_filter_le ..
          have e47 := e46.trans e7
          refine s_appP (P := fun v H' => Cv H' v (norm (keep.map fun x => -x))) (e47 _ _ hro') (ev_var rfl) (EvU.cv (eu_tsort (EvL.ints (lcAll (ls := keep) (fun x => -x) (src_list (ev_var rfl) hk7) (by omega) (fun x => rfl) (fun l H1 e _ => ev_neg (ev_var rfl)))) (List.Pairwise.map _ (fun x y h z => h (by omega)) hkn))) (by omega) fun v H8 e8 hv8 => ?_
          · have e48 := e47.trans e8
            have r8 := e48 _ _ hro'
            have t8 : Tst H8 (upd H8 ro (.lst (rvs ++ [v]))) := Tst.lst r8
            refine ⟨rvs ++ [v], rows ++ [norm (keep.map fun x => -x)], _, _, _, _, _, rfl, Ex.mut (hE.trans e48) ro0, upd_same, ((hC.t (.ex e48)).t t8).snoc (hv8.t t8), ?_, fun c hc => ?_, by rw [List.length_append]; show _ + 1 ≤ _; omega, ?_⟩
            · rw [upd_ne ndr]
              exact e48 _ _ hdr
            · rcases List.mem_append.mp hc with q | q
              · exact hcl c q
              · rw [List.mem_singleton.mp q]
                exact row_clause hcC hsub
            · have := mods_less (n := n) (by omega) hcm hsub
              omega
      · rintro σ' H' ⟨rvs, rows, x7, x8, x9, x10, x11, rfl, hE, hro', hC, hdr, hcl, hrl, hml⟩
        have e16 : (16 : Int).toNat = 16 := rfl
        rw [e16] at hrl hml
        exact ⟨rvs, rows, _, _, _, _, _, rfl, hE, hro', hC, hcl, by omega, List.eq_nil_of_length_eq_zero (by omega)⟩
    · rintro σ' H' ⟨rvs, rows, x7, x8, x9, x10, x11, rfl, hE, hro', hC, hcl, hrl, hml⟩
      refine s_retP (P := fun v H2 => ∃ cs', Fv H2 v n cs' ∧ (∀ c, c ∈ cs' ↔ ∃ ls ∈ rows, mkCl ls = some c) ∧ cs'.length ≤ rows.length) (ep_call (ea_cons (ev_var rfl) (ea_cons (ev_var rfl) ea_nil)) fun H2 e2 Q q E => ⟨n, ro, rvs, rows, rfl, e2 _ _ hro', All2.mk hC.len fun i x y h1 h2 => ?_, fun ls hls => ?_, by omega, fun v cs H' e h1 h2 h3 => q v H' e ⟨cs, h1, h2, h3⟩⟩) fun v H2 e2 ⟨cs', h1, h2, h3⟩ => ?_
      · obtain ⟨a, g1, g2⟩ := hC.at_ i x y h1 h2
        exact ⟨a, g1, .inr (e2 _ _ g2)⟩
      · have := (hcl ls hls).len
        omega
      · have hm : ∀ c, c ∈ cs' ↔ c ∈ rows := fun c => by
          rw [h2]
          constructor
          · rintro ⟨ls, q1, q2⟩
            rw [mk_clause (hcl ls q1)] at q2
            rw [← Option.some.inj q2]
            exact q1
          · exact fun q => ⟨c, q, mk_clause (hcl c q)⟩
        exact k v n cs' H2 (hE.trans e2) h1 hn (fun c hc => hcl c ((hm c).mp hc)) (by omega) (by rw [mods_congr hm]; exact hml)
end
end K75
set_option Elab.async false
set_option linter.all false
set_option maxHeartbeats 4000000
/-! the mathematics, fifth part: trees, broken clauses, propagation -/
namespace K75
inductive Tre where
  | leaf (k : Nat)
  | ask (v : Int) (l h : Tre)
def Tre.size : Tre → Nat
  | .leaf _ => 1
  | .ask _ l h => l.size + h.size + 1
def Tre.height : Tre → Nat
  | .leaf _ => 0
  | .ask _ l h => max l.height h.height + 1
/-- every leaf's clause is broken there -/
def Right (n : Int) (cs : List Cl) : Cl → Tre → Prop
  | cube, .leaf k => ∃ c, cs[k]? = some c ∧ ∀ x ∈ c, -x ∈ cube
  | cube, .ask v l h => (1 ≤ v ∧ v ≤ n) ∧ v ∉ cube ∧ -v ∉ cube ∧ Right n cs (norm (cube ++ [-v])) l ∧ Right n cs (norm (cube ++ [v])) h
theorem Clause.snoc {n : Int} {c : Cl} {x : Int} (h : Clause n c) (hx : x ≠ 0 ∧ -n ≤ x ∧ x ≤ n) (h1 : x ∉ c) (h2 : -x ∉ c) : Clause n (norm (c ++ [x])) ∧ (norm (c ++ [x])).length = c.length + 1 := by
  have hn : (c ++ [x]).Nodup := by
    refine List.nodup_append.mpr ⟨asc_nodup h.asc, by simp, fun a ha b hb => ?_⟩
    rw [List.mem_singleton.mp hb]
    exact fun z => h1 (by rw [← z]; exact ha)
  refine ⟨⟨asc_norm _, fun y hy => ?_, fun y hy z => ?_⟩, ?_⟩
  · rcases List.mem_append.mp (mem_norm.mp hy) with q | q
    · exact h.rng y q
    · rw [List.mem_singleton.mp q]
      exact hx
  · rcases List.mem_append.mp (mem_norm.mp hy) with q | q
    · rcases List.mem_append.mp (mem_norm.mp z) with r | r
      · exact h.con y q r
      · have := List.mem_singleton.mp r
        exact h2 (by rw [← this, Int.neg_neg]; exact q)
    · have e := List.mem_singleton.mp q
      subst e
      rcases List.mem_append.mp (mem_norm.mp z) with r | r
      · exact h2 r
      · have := List.mem_singleton.mp r
        omega
  · have l1 := len_le (m := norm (c ++ [x])) hn fun y hy => mem_norm.mpr hy
    have l2 := len_le (m := c ++ [x]) (asc_nodup (asc_norm (c ++ [x]))) fun y hy => mem_norm.mp hy
    rw [List.length_append, List.length_singleton] at l1 l2
    omega
/-- a cube that covers all variables is as long as they are -/
theorem cover_len {n : Int} {c : Cl} (hn : 0 ≤ n) (h : Clause n c) (hc : ∀ v : Int, 1 ≤ v → v ≤ n → v ∈ c ∨ -v ∈ c) : (c.length : Int) = n := by
  have h1 := h.len
  have h2 : ((List.range n.toNat).map (· + 1)).Nodup := by
    refine List.Pairwise.map _ (fun a b z => ?_) List.nodup_range
    exact fun e => z (by omega)
  have h3 := len_le (m := c.map Int.natAbs) h2 fun x hx => by
    obtain ⟨i, hi, rfl⟩ := List.mem_map.mp hx
    have hi2 := List.mem_range.mp hi
    rcases hc ((i : Int) + 1) (by omega) (by omega) with q | q
    · exact List.mem_map.mpr ⟨_, q, by omega⟩
    · exact List.mem_map.mpr ⟨_, q, by omega⟩
  rw [List.length_map, List.length_map, List.length_range] at h3
  omega
/-- a cube as long as the variables covers them all -/
theorem len_cover {n : Int} {c : Cl} (hn : 0 ≤ n) (h : Clause n c) (hl : (c.length : Int) = n) : ∀ v : Int, 1 ≤ v → v ≤ n → v ∈ c ∨ -v ∈ c := fun v h1 h2 => by
  apply Classical.byContradiction
  intro z
  have z1 : v ∉ c := fun y => z (.inl y)
  have z2 : -v ∉ c := fun y => z (.inr y)
  obtain ⟨q1, q2⟩ := h.snoc (x := v) (by omega) z1 z2
  have := q1.len
  omega
/-- no model: a covering cube breaks a clause -/
theorem cover_breaks {n : Int} {cs : List Cl} {c : Cl} (hn : 0 ≤ n) (hm : mods n cs = []) (hcs : ∀ c ∈ cs, Clause n c) (h : Clause n c) (hc : ∀ v : Int, 1 ≤ v → v ≤ n → v ∈ c ∨ -v ∈ c) : ∃ p ∈ cs, ∀ x ∈ p, -x ∈ c := by
  have en : ((n.toNat : Nat) : Int) = n := by omega
  obtain ⟨d, hd1, hd2⟩ := asn0_has n.toNat c h.con fun v a b => hc v a (by omega)
  have F := asn0_full _ d hd1
  have hno : norm d ∉ mods n cs := by rw [hm]; exact fun z => by cases z
  have hb : okM cs (norm d) ≠ true := fun z => hno (List.mem_filter.mpr ⟨List.mem_map.mpr ⟨d, hd1, rfl⟩, z⟩)
  rw [Ne, okM_iff] at hb
  apply Classical.byContradiction
  intro hall
  refine hb fun p hp => ?_
  apply Classical.byContradiction
  intro hx
  refine hall ⟨p, hp, fun x hxp => ?_⟩
  have r := (hcs p hp).rng x hxp
  have nx : x ∉ d := fun y => hx ⟨x, hxp, mem_norm.mpr y⟩
  have key : x ∈ d ∨ -x ∈ d := by
    by_cases e : 0 < x
    · exact F.all x (by omega) (by omega)
    · rcases F.all (-x) (by omega) (by omega) with q | q
      · exact .inr q
      · rw [Int.neg_neg] at q
        exact .inl q
  rcases key with q | q
  · exact absurd q nx
  · exact hd2 _ q
/-- the resolvent of a tree's node -/
theorem node_res {n : Int} {cube c1 c2 : Cl} {v : Int} (hc : Clause n cube) (h1 : ∀ x ∈ c1, -x ∈ norm (cube ++ [-v])) (h2 : ∀ x ∈ c2, -x ∈ norm (cube ++ [v])) :
    ∃ d, mkCl (without c1 v ++ without c2 (-v)) = some d ∧ ∀ x ∈ d, -x ∈ cube := by
  have key : ∀ x ∈ without c1 v ++ without c2 (-v), -x ∈ cube := fun x hx => by
    rcases List.mem_append.mp hx with q | q
    · obtain ⟨a, b⟩ := mem_without.mp q
      rcases List.mem_append.mp (mem_norm.mp (h1 x a)) with r | r
      · exact r
      · have := List.mem_singleton.mp r
        omega
    · obtain ⟨a, b⟩ := mem_without.mp q
      rcases List.mem_append.mp (mem_norm.mp (h2 x a)) with r | r
      · exact r
      · have := List.mem_singleton.mp r
        omega
  have nt : taut (without c1 v ++ without c2 (-v)) = false := by
    cases e : taut (without c1 v ++ without c2 (-v)) with
    | false => rfl
    | true =>
      obtain ⟨x, a, b⟩ := taut_iff.mp e
      have z1 := key x a
      have z2 := key _ b
      rw [Int.neg_neg] at z2
      exact absurd z1 (hc.con x z2)
  exact ⟨_, mkCl_some.mpr ⟨nt, rfl⟩, fun x hx => key x (mem_norm.mp hx)⟩
theorem node_sub {cube c : Cl} {v : Int} (h : ∀ x ∈ c, -x ∈ norm (cube ++ [-v])) (hv : v ∉ c) : ∀ x ∈ c, -x ∈ cube := fun x hx => by
  rcases List.mem_append.mp (mem_norm.mp (h x hx)) with r | r
  · exact r
  · have := List.mem_singleton.mp r
    have e : x = v := by omega
    rw [e] at hx
    exact absurd hx hv
theorem Drv.take {n : Int} {cs : List Cl} {ss : List Step} {ds : List Cl} (D : Drv n cs ss ds) (k : Nat) : Drv n cs (ss.take k) (ds.take k) := by
  refine ⟨by rw [List.length_take, List.length_take, D.len], fun j s hs => ?_, fun s hs => D.ok s (List.mem_of_mem_take hs)⟩
  have hj : j < k := by
    have := (List.getElem?_eq_some_iff.mp hs).1
    rw [List.length_take] at this
    omega
  rw [List.getElem?_take, if_pos hj] at hs ⊢
  rw [List.take_take, Nat.min_eq_left (Nat.le_of_lt hj)]
  exact D.step j s hs

/-! ### unit propagation -/
/-- S is in every closed set above B -/
def Below (C : List Cl) (B S : List Int) : Prop := ∀ T, (∀ x ∈ B, x ∈ T) → Closed C T → ∀ x ∈ S, x ∈ T
theorem Below.self {C : List Cl} {B : List Int} : Below C B B := fun T h _ => h
theorem Below.snoc {C : List Cl} {B S : List Int} {p : Cl} {l : Int} (h : Below C B S) (hp : p ∈ C) (hn : p.Nodup) (hr : rest p S = [l]) : Below C B (S ++ [l]) := fun T hT hcl x hx => by
  have hS := h T hT hcl
  rcases List.mem_append.mp hx with q | q
  · exact hS x q
  · rw [List.mem_singleton.mp q]
    obtain ⟨c1, c2⟩ := hcl p hp
    refine c2 l (sub_single (nodup_rest hn) (fun y hy => ?_) c1)
    have := rest_sub (d := p) (e := p) (c := T) (b := S) (fun _ z => z) hS y hy
    rw [hr] at this
    exact this
theorem Below.broken {C : List Cl} {B S : List Int} {p : Cl} (h : Below C B S) (hp : p ∈ C) (hr : rest p S = []) : Refutes C B := fun T hT hcl => by
  refine (hcl p hp).1 (rest_nil.mpr fun x hx => h T hT hcl _ (rest_nil.mp hr x hx))
theorem Below.closed {C : List Cl} {B S : List Int} (hb : ∀ x ∈ B, x ∈ S) (hc : Closed C S) : ¬ Refutes C B := fun h => h S hb hc
/-- clauses of a derivation refute at once -/
theorem drv_good {n : Int} {cs : List Cl} {ss : List Step} {ds : List Cl} (D : Drv n cs ss ds) (hcs : ∀ c ∈ cs, Clause n c) : ∀ i c, ds[i]? = some c → Refutes (cs ++ ds.take i) (c.map fun x => -x) := fun i c hc => by
  have hi := (List.getElem?_eq_some_iff.mp hc).1
  have hil : i < ss.length := by rw [D.len]; exact hi
  have st := D.step i ss[i] (List.getElem?_eq_getElem hil)
  rw [hc] at st
  have mem : ∀ x, x ∈ c ↔ -x ∈ c.map fun x => -x := fun x => by
    rw [List.mem_map]
    constructor
    · exact fun h => ⟨x, h, rfl⟩
    · rintro ⟨y, h, e⟩
      have : y = x := by omega
      rw [← this]
      exact h
  cases hs : ss[i] with
  | ax j =>
    rw [hs] at st
    exact Below.broken Below.self (List.mem_append_left _ (List.mem_of_getElem? st)) (rest_nil.mpr fun x hx => (mem x).mp hx)
  | res a b v =>
    rw [hs] at st
    obtain ⟨p, q, h1, h2, h3, h4, h5⟩ := stepC_res st
    obtain ⟨_, hmk⟩ := mkCl_some.mp h5
    have dcl := D.clause hcs
    have hp : Clause n p := by
      have : a < i := by
        have := (List.getElem?_eq_some_iff.mp h1).1
        rw [List.length_take] at this
        omega
      rw [List.getElem?_take, if_pos this] at h1
      exact dcl a p h1
    -- the first parent: only v is left
    intro T hT hcl
    have hin : ∀ x, x ∈ without p v ++ without q (-v) → -x ∈ T := fun x hx => hT _ ((mem x).mp (by rw [hmk]; exact mem_norm.mpr hx))
    have r1 : ∀ x ∈ rest p T, x ∈ [v] := fun x hx => by
      obtain ⟨m1, m2⟩ := mem_rest.mp hx
      apply Classical.byContradiction
      intro z
      exact m2 (hin x (List.mem_append_left _ (mem_without.mpr ⟨m1, fun y => z (List.mem_singleton.mpr y)⟩)))
    obtain ⟨c1, c2⟩ := hcl p (List.mem_append_right _ (List.mem_of_getElem? h1))
    have vT : v ∈ T := c2 v (sub_single (nodup_rest (asc_nodup hp.asc)) r1 c1)
    obtain ⟨d1, _⟩ := hcl q (List.mem_append_right _ (List.mem_of_getElem? h2))
    refine d1 (rest_nil.mpr fun x hx => ?_)
    by_cases e : x = -v
    · rw [e, Int.neg_neg]
      exact vT
    · exact hin x (List.mem_append_right _ (mem_without.mpr ⟨hx, e⟩))
end K75
set_option Elab.async false
set_option linter.all false
set_option maxRecDepth 100000
set_option maxHeartbeats 4000000
/-! walks of the law: tree, tree_steps, made_steps -/
namespace K75
open PySem PySem.Spec PyProof.Rows L2 Evl

def TreV (H : Hp) : V → Tre → Prop
  | v, .leaf k => ∃ a, v = .ref a ∧ H a = some (.tup [.str "leaf", .int (k : Nat)])
  | v, .ask x l h => ∃ a vl vh, v = .ref a ∧ H a = some (.tup [.str "ask", .int x, vl, vh]) ∧ TreV H vl l ∧ TreV H vh h
theorem TreV.t {H H' : Hp} (e : Tst H H') : ∀ {t : Tre} {v : V}, TreV H v t → TreV H' v t
  | .leaf k, v, ⟨a, h1, h2⟩ => ⟨a, h1, e a _ h2⟩
  | .ask x l h, v, ⟨a, vl, vh, h1, h2, h3, h4⟩ => ⟨a, vl, vh, h1, e a _ h2, TreV.t e h3, TreV.t e h4⟩
/-- 1 .. n -/
def vars (n : Int) : List Int := (List.range n.toNat).map fun (i : Nat) => 1 + (i : Int)
theorem mem_vars {n v : Int} : v ∈ vars n ↔ 1 ≤ v ∧ v ≤ n := by
  unfold vars
  rw [List.mem_map]
  constructor
  · rintro ⟨i, hi, rfl⟩
    have := List.mem_range.mp hi
    omega
  · intro h
    exact ⟨(v - 1).toNat, List.mem_range.mpr (by omega), by omega⟩
section
variable {K : PySem.W.Frag} {σ : L2.St} {H H' : Hp} {ta tb te tl : TE} {D : Ends} {tz tu : TS} {xs : List V}
theorem src_rng2 {tr : TA} {n : Int} (h : EvA tr σ H [.int 1, .int (n + 1)]) (hn : 0 ≤ n ∧ n ≤ 100000) : Src (iRng2 tr) σ H ((vars n).map V.int) := fun H1 e R q => h H1 e _ fun H2 e2 =>
  ⟨1, n + 1, rfl, by omega, q _ H2 e2 (by
    have e1 : (n + 1 - 1).toNat = ((vars n).map V.int).length := by
      unfold vars
      rw [List.length_map, List.length_map, List.length_range]
      omega
    rw [← e1]
    refine (walk_range (lo := 1) (n := (n + 1 - 1).toNat)).mono (fun _ _ => trivial) fun i H3 x H4 hi _ ⟨y1, y2⟩ => ⟨y1, ?_⟩
    rw [y2]
    unfold vars
    have hi2 : i < n.toNat := by omega
    rw [List.getElem?_map, List.getElem?_map, List.getElem?_range hi2] <;> rfl)⟩
theorem EvP.ints {c : List Int} (h : EvP te σ H fun v H' => Cv H' v c) : EvP te σ H fun v H' => IntsAt H' v c := h.imp fun v H' _ ⟨a, h1, h2⟩ => ⟨a, h1, .inr h2⟩
end
section
variable {P : Program} {w : World} {K : PySem.W.Frag} {mg : PySem.Str → Option Value} {base : Heap} {cS cL : Addr}
def sp_tree (d : Nat) : Sp := fun vs H Q _ => ∃ (fv cv : V) (dr : Addr) (at_ n : Int) (cs : List Cl) (cube : Cl) (ds : List Int), vs = [fv, cv, .ref dr, .int at_] ∧ Fv H fv n cs ∧ Cv H cv cube ∧ Clause n cube ∧ (0 ≤ n ∧ n ≤ 30) ∧ n < cube.length + d ∧ H dr = some (.lst (ds.map V.int)) ∧ 0 < ds.length ∧ (∀ c ∈ cs, Clause n c) ∧ cs.length ≤ 1000 ∧ mods n cs = [] ∧
  ∀ v t H', Ex H H' → TreV H' v t → Right n cs cube t → t.size + 1 ≤ 2 ^ d → t.height + 1 ≤ d → Q v H'
theorem ok_law_tree (T : Txt K mg cS cL) : ∀ d : Nat, C8.Cal P w K mg base (d + 1) "_law_tree" (sp_tree d) []
  | 0 => by
    refine calD T.d_law_tree sc_law_tree (fun vs H Q E h => ?_) fun f cdv A outer s H vs Q E hr h => ?_
    · obtain ⟨fv, cv, dr, at_, n, cs, cube, ds, rfl, _⟩ := h
      rfl
    · obtain ⟨fv, cv, dr, at_, n, cs, cube, ds, rfl, _, _, hc, hn, hl, _⟩ := h
      have := hc.len
      omega
  | d + 1 => by
    have G_law_tree : C8.Cal P w K mg base (d + 1) "_law_tree" (sp_tree d) [] := ok_law_tree T d
    have G_law_breaks : C8.Cal P w K mg base 1 "_law_breaks" sp_breaks [] := ok_law_breaks T
    refine calD T.d_law_tree sc_law_tree (fun vs H Q E h => ?_) fun f cdv A outer s H vs Q E hr h => ?_
    · obtain ⟨fv, cv, dr, at_, n, cs, cube, ds, rfl, _⟩ := h
      rfl
    · obtain ⟨fv, cv, dr, at_, n, cs, cube, ds, rfl, hF, ⟨ca, rfl, hca⟩, hc, hn, hl, hdr, hdp, hcs, hz, hm, k⟩ := h
      refine ⟨_, (pss_cons (ps_for PassesOwn.never rfl (pi_range1 (by rfl) T.z_range (pa_cons (pe_callB (k_len (K := K)) (by rfl) T.z_len PySem.boot_len (pa_cons (pe_ix (k_ixT (K := K)) (pv 0) pe_int (fun _ _ => rfl)) pa_nil)) pa_nil)) (pg_name (i := 4) sc_law_tree.nd rfl (Or.inl rfl))
        (pss_one (ps_if (pt_val (C8.pe_c G_law_breaks hr (by omega) (by rfl) (pa_cons (pv 1) (pa_cons (pe_ix (k_ixT (K := K)) (pe_ix (k_ixT (K := K)) (pv 0) pe_int (fun _ _ => rfl)) (pv 4) (fun _ _ => rfl)) pa_nil)))) (pss_one (ps_if (PW.pt (pw_or (pt_cmpR op_gt (pe_op op_mod (pe_ix (k_ixL (K := K)) (pv 2) (pe_op op_mod (pv 3) (pe_callB (k_len (K := K)) (by rfl) T.z_len PySem.boot_len (pa_cons (pv 2) pa_nil))) (fun _ _ => rfl)) pe_int) pe_int (nomark _)) (pw_or1 (pt_cmpR op_eq (pe_callB (k_len (K := K)) (by rfl) T.z_len PySem.boot_len (pa_cons (pv 1) pa_nil)) (pe_ix (k_ixT (K := K)) (pv 0) pe_int (fun _ _ => rfl)) (nomark _))))) (pss_one (ps_ret (pe_tup (pa_cons pe_str (pa_cons (pv 4) pa_nil))))) pss_nil)) pss_nil)))
      (pss_cons (ps_setLc (i := 5) (own := [("_law_v", 6)]) (g := gName 6) rfl sc_law_tree.nd rfl rfl (sw_true rfl rfl rfl (by decide +kernel)) (pi_range2 (by rfl) T.z_range (pa_cons pe_int (pa_cons (pe_op op_add (pe_ix (k_ixT (K := K)) (pv 0) pe_int (fun _ _ => rfl)) pe_int) pa_nil))) (blkOk_by (N := n_law_tree) (sc := defScope s_law_tree) (by decide +kernel)) (fun _ _ _ _ _ => pg_name (i := 6) sc_law_tree.nd rfl (Or.inl rfl)) (fun _ _ _ _ _ => pts_one (PW.pt (pw_and (pt_cmpR (k_nin (K := K)) (pv 6) (pv 1) (by rfl)) (pw_and1 (pt_cmpR (k_nin (K := K)) (pe_un un_neg (pv 6)) (pv 1) (by rfl)))))) (fun _ _ _ _ _ => (pv 6)))
      (pss_cons (ps_if (pt_cmpR op_eq (pe_callB (k_len (K := K)) (by rfl) T.z_len PySem.boot_len (pa_cons (pv 5) pa_nil)) pe_int (nomark _)) (pss_one (ps_ret (pe_tup (pa_cons pe_str (pa_cons pe_int pa_nil))))) pss_nil)
      (pss_cons (ps_set (i := 6) sc_law_tree.nd rfl (Or.inl rfl) (pe_ix (k_ixL (K := K)) (pv 5) (pe_op op_mod (pe_ix (k_ixL (K := K)) (pv 2) (pe_op op_mod (pe_op op_add (pv 3) pe_int) (pe_callB (k_len (K := K)) (by rfl) T.z_len PySem.boot_len (pa_cons (pv 2) pa_nil))) (fun _ _ => rfl)) (pe_callB (k_len (K := K)) (by rfl) T.z_len PySem.boot_len (pa_cons (pv 5) pa_nil))) (fun _ _ => rfl)))
      (pss_cons (ps_set (i := 7) sc_law_tree.nd rfl (Or.inl rfl) (C8.pe_c G_law_tree hr (by omega) (by rfl) (pa_cons (pv 0) (pa_cons (pe_callTy (k_tup (K := K)) (by rfl) T.z_tuple (by decide +kernel) (pa_cons (pe_callB (k_sortedA (K := K)) (by rfl) T.z_sorted (by decide +kernel) (pa_cons (pe_op (k_catA (K := K)) (pv 1) (pe_tup (pa_cons (pe_un un_neg (pv 6)) pa_nil))) pa_nil)) pa_nil)) (pa_cons (pv 2) (pa_cons (pe_op op_add (pe_op op_mul pe_int (pv 3)) pe_int) pa_nil))))))
      (pss_cons (ps_set (i := 8) sc_law_tree.nd rfl (Or.inl rfl) (C8.pe_c G_law_tree hr (by omega) (by rfl) (pa_cons (pv 0) (pa_cons (pe_callTy (k_tup (K := K)) (by rfl) T.z_tuple (by decide +kernel) (pa_cons (pe_callB (k_sortedA (K := K)) (by rfl) T.z_sorted (by decide +kernel) (pa_cons (pe_op (k_catA (K := K)) (pv 1) (pe_tup (pa_cons (pv 6) pa_nil))) pa_nil)) pa_nil)) (pa_cons (pv 2) (pa_cons (pe_op op_add (pe_op op_mul pe_int (pv 3)) pe_int) pa_nil))))))
      (pss_one (ps_ret (pe_tup (pa_cons pe_str (pa_cons (pv 6) (pa_cons (pv 7) (pa_cons (pv 8) pa_nil))))))))))))), ?_⟩
      obtain ⟨fa, fb, cvs, rfl, f1, f2, f3⟩ := id hF
      have f3l := f3.len
      have hcl := hc.len
      have hlen : (0 : Int) < ((ds.map V.int).length : Int) := by rw [List.length_map]; omega
      have p1 : 2 ≤ 2 ^ (d + 1) := by
        have := Nat.one_le_two_pow (n := d)
        rw [Nat.pow_succ]
        omega
      refine q_forR1 (ea_cons (ev_lenT (ev_ixT (ev_var rfl) ev_c f1 rfl) f2) ea_nil) (by omega)
        (fun i σ H' => ∃ x4, σ = [some (.ref fa), some (.ref ca), some (.ref dr), some (.int at_), x4, none, none, none, none] ∧ Ex H H' ∧ ((cube.length : Int) = n → ∀ j c, j < i → cs[j]? = some c → ¬ ∀ x ∈ c, -x ∈ cube))
        (fun H1 e1 => ⟨none, rfl, e1, fun _ j c hj => by omega⟩) ?_ ?_
      · rintro i σ' H' hi ⟨x4, rfl, hE, hq⟩
        have hil : i < cs.length := by omega
        obtain ⟨u, hu, hcu⟩ := f3.right (List.getElem?_eq_getElem hil)
        have hci := hcs cs[i] (List.getElem_mem hil)
        have hcil := hci.len
        refine s_when (b := decide (rest cs[i] cube = [])) (et_B (ev_call (ea_cons (ev_var rfl) (ea_cons (ev_ixT (ev_ixT (ev_var rfl) ev_c (hE _ _ f1) rfl) (ev_var rfl) (hE _ _ f2) (atI_nat hu)) ea_nil)) fun H2 e2 Q q E => ⟨_, u, cube, cs[i], rfl, ⟨ca, rfl, (hE.trans e2) _ _ hca⟩, hcu.t (.ex (hE.trans e2)), by omega, q⟩)) (fun hb H2 e2 => ?_) fun hb H2 e2 => ?_
        · have hbr := rest_nil.mp (of_decide_eq_true hb)
          obtain ⟨d1, hd1, hat⟩ := at_mod hdp at_
          have hE2 := hE.trans e2
          refine s_when (b := decide (0 < d1 % 3) || decide ((cube.length : Int) = n)) (et_or (et_I0 (ev_I (ev_ixL (v := .int d1) (ev_var rfl) (ev_I (ev_var rfl) (ev_lenL (ev_var rfl) (hE2 _ _ hdr)) hlen) (hE2 _ _ hdr) hat) ev_c (by decide)) ev_c) fun _ => et_is (et_eqI (ev_lenT (ev_var rfl) (hE2 _ _ hca)) (ev_ixT (v := .int n) (ev_var rfl) ev_c (hE2 _ _ f1) rfl)) (by rw [List.length_map])) (fun hb2 H3 e3 => ?_) fun hb2 H3 e3 => ?_
          · exact s_retU (eu_tup (ea_cons ev_c (ea_cons (ev_var rfl) ea_nil)) (by simp)) fun t H4 ht e4 h4 => k _ (.leaf i) H4 ((hE2.trans e3).trans e4) ⟨t, rfl, h4⟩ ⟨cs[i], List.getElem?_eq_getElem hil, hbr⟩ p1 (by show 0 + 1 ≤ _; omega)
          · rw [Bool.or_eq_false_iff] at hb2
            have nl := of_decide_eq_false hb2.2
            exact ⟨_, rfl, hE2.trans e3, fun z => absurd z nl⟩
        · have hbr : ¬ ∀ x ∈ cs[i], -x ∈ cube := fun z => of_decide_eq_false hb (rest_nil.mpr z)
          refine ⟨_, rfl, hE.trans e2, fun hl j c hj hcj => ?_⟩
          by_cases e : j < i
          · exact hq hl j c e hcj
          · have e2 : j = i := by omega
            subst e2
            rw [List.getElem?_eq_getElem hil] at hcj
            cases hcj
            exact hbr
      · rintro σ' H' ⟨x4, rfl, hE, hq⟩
        have em : ((cvs.length : Nat) : Int).toNat = cs.length := by omega
        rw [em] at hq
        -- not all are covered
        have nl : (cube.length : Int) ≠ n := fun z => by
          obtain ⟨p, hp, hb⟩ := cover_breaks hn.1 hm hcs hc (len_cover hn.1 hc z)
          obtain ⟨j, hj⟩ := List.getElem?_of_mem hp
          exact hq z j p (List.getElem?_eq_some_iff.mp hj).1 hj hb
        refine q_asgL (lcI (ls := vars n) (fun v => !cube.contains v && !cube.contains (-v)) (fun v => v) (src_rng2 (ea_cons ev_c (ea_cons (ev_I0 (ev_ixT (v := .int n) (ev_var rfl) ev_c (hE _ _ f1) rfl) ev_c) ea_nil)) (by omega)) (by unfold vars; rw [List.length_map, List.length_range]; omega) (fun x => rfl)
          (fun l H2 e2 _ => et_and (et_ninT (ev_var rfl) (ev_var rfl) (e2 _ _ (hE _ _ hca))) fun _ => et_ninT (ev_neg (ev_var rfl)) (ev_var rfl) (e2 _ _ (hE _ _ hca))) (fun l H2 e2 _ _ => ev_var rfl)) fun fp H2 hfp e2 hf2 => ?_
        rw [List.map_id'] at hf2
        generalize hfree : (vars n).filter (fun v => !cube.contains v && !cube.contains (-v)) = free at hf2
        have hfm : ∀ v ∈ free, (1 ≤ v ∧ v ≤ n) ∧ v ∉ cube ∧ -v ∉ cube := fun v hv => by
          rw [← hfree] at hv
          obtain ⟨a, b⟩ := List.mem_filter.mp hv
          rw [Bool.and_eq_true] at b
          exact ⟨mem_vars.mp a, by simpa using b.1, by simpa using b.2⟩
        have hfe : free ≠ [] := fun z => nl (cover_len hn.1 hc fun v a b => by
          apply Classical.byContradiction
          intro y
          have : v ∈ free := by
            rw [← hfree]
            refine List.mem_filter.mpr ⟨mem_vars.mpr ⟨a, b⟩, ?_⟩
            rw [Bool.and_eq_true]
            exact ⟨by simpa using fun q => y (.inl q), by simpa using fun q => y (.inr q)⟩
          rw [z] at this
          cases this)
        have hfl : 0 < free.length := List.length_pos_iff.mpr hfe
        have hE2 := hE.trans e2
        refine q_when (b := false) (et_is (et_eqI (ev_lenL (ev_var rfl) hf2) ev_c) (decide_eq_false (by rw [List.length_map]; omega))) (fun z => by cases z) fun _ H3 e3 => ?_
        have hE3 := hE2.trans e3
        obtain ⟨d1, hd1, hat⟩ := at_mod hdp (at_ + 1)
        obtain ⟨v, hv, hat2⟩ := at_mod hfl d1
        obtain ⟨hv1, hv2, hv3⟩ := hfm v hv
        refine q_asg (v := .int v) (ev_ixL (ev_var rfl) (ev_I (ev_ixL (v := .int d1) (ev_var rfl) (ev_I (ev_I0 (ev_var rfl) ev_c) (ev_lenL (ev_var rfl) (hE3 _ _ hdr)) hlen) (hE3 _ _ hdr) hat) (ev_lenL (ev_var rfl) (e3 _ _ hf2)) (by show (0 : Int) < _; rw [List.length_map]; omega)) (e3 _ _ hf2) hat2) fun H4 e4 => ?_
        have hE4 := hE3.trans e4
        obtain ⟨qL1, qL2⟩ := hc.snoc (x := -v) (by omega) hv3 (by rw [Int.neg_neg]; exact hv2)
        obtain ⟨qH1, qH2⟩ := hc.snoc (x := v) (by omega) hv2 hv3
        have ndL : (cube ++ [-v]).Nodup := List.nodup_append.mpr ⟨asc_nodup hc.asc, by simp, fun a ha b hb => by rw [List.mem_singleton.mp hb]; exact fun z => hv3 (by rw [← z]; exact ha)⟩
        have ndH : (cube ++ [v]).Nodup := List.nodup_append.mpr ⟨asc_nodup hc.asc, by simp, fun a ha b hb => by rw [List.mem_singleton.mp hb]; exact fun z => hv2 (by rw [← z]; exact ha)⟩
        have sub : ∀ {σ : L2.St} {H4 : Hp} {x : Int} {tb : TE} {tat : TE} {tdr : TE} {atv : Int} {E : XK} {i0 : Nat}, Ex H H4 → Clause n (norm (cube ++ [x])) → (norm (cube ++ [x])).length = cube.length + 1 → (cube ++ [x]).Nodup → σ[0]? = some (some (.ref fa)) → σ[1]? = some (some (.ref ca)) → EvU tb σ H4 ([x].map V.int) → Ev tdr σ H4 (.ref dr) → Ev tat σ H4 (.int atv) →
            EvP (tCall (sp_tree d) [] E (tCons (tVar 0) (tCons (tCB (rTup K) (tCons (tCB (rSortedA K) (tCons (tOp (rCatA K) (tVar 1) tb) tNil)) tNil)) (tCons tdr (tCons tat tNil))))) σ H4 fun v H' => ∃ t, TreV H' v t ∧ Right n cs (norm (cube ++ [x])) t ∧ t.size + 1 ≤ 2 ^ d ∧ t.height + 1 ≤ d := by
          intro σ H4 x tb tat tdr atv E i0 e hc1 hc2 hnd s0 s1 hb hdr2 hat2
          refine ep_callQ (eq_cons (Ev.p (ev_var s0)) (eq_cons (EvU.cv (eu_tsort (EvP.ints (ep_catC (Ev.cv (ev_var s1) ⟨ca, rfl, e _ _ hca⟩) hb (by simp; omega))) hnd)) (eq_cons (Ev.p hdr2) (eq_cons (Ev.p hat2) eq_nil fun _ _ _ _ h => h) fun _ _ _ _ h => h) fun v H1 H2 e h => h.t (.ex e)) fun _ _ _ _ h => h) fun vs H5 e5 hvs Q q E => ?_
          obtain ⟨v1, r1, rfl, rfl, v2, r2, rfl, hv2, v3, r3, rfl, rfl, v4, r4, rfl, rfl, rfl⟩ := hvs
          exact ⟨_, v2, dr, atv, n, cs, norm (cube ++ [x]), ds, rfl, hF.t (.ex (e.trans e5)), hv2, hc1, hn, by rw [hc2]; omega, (e.trans e5) _ _ hdr, hdp, hcs, hz, hm, fun v t H' e h1 h2 h3 h4 => q v H' e ⟨t, h1, h2, h3, h4⟩⟩
        refine q_asgP (sub (i0 := 0) hE4 qL1 qL2 ndL rfl rfl (eu_tup (ea_cons (ev_neg (ev_var rfl)) ea_nil) (by simp)) (ev_var rfl) (ev_I0 (ev_I ev_c (ev_var rfl) (.inl ⟨by decide, by decide⟩)) ev_c)) fun lv H5 e5 ⟨lt, l1, l2, l3, l4⟩ => ?_
        have hE5 := hE4.trans e5
        refine q_asgP (sub (i0 := 0) hE5 qH1 qH2 ndH rfl rfl (eu_tup (ea_cons (ev_var rfl) ea_nil) (by simp)) (ev_var rfl) (ev_I0 (ev_I ev_c (ev_var rfl) (.inl ⟨by decide, by decide⟩)) ev_c)) fun hv H6 e6 ⟨ht, h1, h2, h3, h4⟩ => ?_
        refine s_retU (eu_tup (ea_cons ev_c (ea_cons (ev_var rfl) (ea_cons (ev_var rfl) (ea_cons (ev_var rfl) ea_nil)))) (by simp)) fun t H7 ht7 e7 h7 => k _ (.ask v lt ht) H7 ((hE5.trans e6).trans e7) ⟨t, lv, hv, rfl, h7, TreV.t (.ex (e6.trans e7)) l1, TreV.t (.ex e7) h1⟩ ⟨hv1, hv2, hv3, l2, h2⟩ ?_ ?_
        · show lt.size + ht.size + 1 + 1 ≤ _
          rw [Nat.pow_succ]
          omega
        · show max lt.height ht.height + 1 + 1 ≤ _
          omega
end
end K75
set_option Elab.async false
set_option linter.all false
set_option maxRecDepth 100000
set_option maxHeartbeats 4000000
/-! walks of the law: tree_steps, made_steps -/
namespace K75
open PySem PySem.Spec PyProof.Rows L2 Evl

structure Acc (H : Hp) (ps pc : Addr) (ss : List Step) (ds : List Cl) : Prop where
  stp : ∃ svs, H ps = some (.lst svs) ∧ Svs H svs ss
  cla : ∃ dvs, H pc = some (.lst dvs) ∧ Cvs H dvs ds
theorem Acc.ex {H H' : Hp} {ps pc : Addr} {ss : List Step} {ds : List Cl} (A : Acc H ps pc ss ds) (e : Ex H H') : Acc H' ps pc ss ds := by
  obtain ⟨⟨svs, h1, h2⟩, ⟨dvs, h3, h4⟩⟩ := A
  exact ⟨⟨svs, e _ _ h1, h2.t (.ex e)⟩, ⟨dvs, e _ _ h3, h4.t (.ex e)⟩⟩
theorem Acc.tst {H H' : Hp} {ps pc : Addr} {ss : List Step} {ds : List Cl} (A : Acc H ps pc ss ds) (e : Sty (two ps pc) H H') : Tst H H' := e.tst fun x z => by
  obtain ⟨⟨svs, h1, h2⟩, ⟨dvs, h3, h4⟩⟩ := A
  rcases z with z | z
  · exact ⟨svs, by rw [z]; exact h1⟩
  · exact ⟨dvs, by rw [z]; exact h3⟩
theorem acc_push {H H1 H2 : Hp} {ps pc : Addr} {svs dvs : List V} {ss : List Step} {ds : List Cl} {sv cv : V} {s : Step} {c : Cl} (ne : ps ≠ pc) (h1 : H ps = some (.lst svs)) (h2 : Svs H svs ss) (h3 : H pc = some (.lst dvs)) (h4 : Cvs H dvs ds)
    (e1 : Ex H H1) (hs : Sv H1 sv s) (e2 : Ex (upd H1 ps (.lst (svs ++ [sv]))) H2) (hc : Cv H2 cv c) : Acc (upd H2 pc (.lst (dvs ++ [cv]))) ps pc (ss ++ [s]) (ds ++ [c]) ∧ Sty (two ps pc) H (upd H2 pc (.lst (dvs ++ [cv]))) ∧ upd H2 pc (.lst (dvs ++ [cv])) ps = some (.lst (svs ++ [sv])) := by
  have t1 : Tst H1 (upd H1 ps (.lst (svs ++ [sv]))) := Tst.lst (e1 _ _ h1)
  have c2 : H2 pc = some (.lst dvs) := e2 _ _ (by rw [upd_ne (Ne.symm ne)]; exact e1 _ _ h3)
  have t2 : Tst H2 (upd H2 pc (.lst (dvs ++ [cv]))) := Tst.lst c2
  have tt : Tst H1 (upd H2 pc (.lst (dvs ++ [cv]))) := (t1.trans (.ex e2)).trans t2
  have p2 : upd H2 pc (.lst (dvs ++ [cv])) ps = some (.lst (svs ++ [sv])) := by
    rw [upd_ne ne]
    exact e2 _ _ upd_same
  refine ⟨⟨⟨_, p2, ?_⟩, ⟨_, upd_same, ?_⟩⟩, ?_, p2⟩
  · exact (h2.t ((Tst.ex e1).trans tt)).snoc (hs.t tt)
  · exact (h4.t ((Tst.ex e1).trans tt)).snoc (hc.t t2)
  · exact (((Sty.of e1).trans (Sty.put (by exact .inl rfl))).trans (Sty.of e2)).trans (Sty.put (by exact .inr rfl))
section
variable {K : PySem.W.Frag} {σ : L2.St} {H H' : Hp} {ta tb te tl : TE} {D : Ends} {tz tu : TS} {xs : List V}
theorem q_asgCall {i : Nat} {sp : Sp} {dvs vs : List V} {E : XK} {t : TA} (h : EvA t σ H vs) (k : ∀ H1, Ex H H1 → sp (vs ++ dvs) H1 (fun v H2 => tz D (σ.set i (some v)) H2) E) : tSeq (tAsg (tCall sp dvs E t) (gName i)) tz D σ H := h H (Ex.refl H) _ k
theorem q_asgCallQ {i : Nat} {sp : Sp} {dvs : List V} {E : XK} {t : TA} {R : List V → Hp → Prop} (h : EvQ t σ H R) (k : ∀ vs H1, Ex H H1 → R vs H1 → sp (vs ++ dvs) H1 (fun v H2 => tz D (σ.set i (some v)) H2) E) : tSeq (tAsg (tCall sp dvs E t) (gName i)) tz D σ H := h H (Ex.refl H) _ k
theorem EvL.p {ys : List V} (h : EvL te σ H ys) : EvP te σ H fun v H' => ∃ p, v = .ref p ∧ H p = none ∧ H' p = some (.lst ys) := fun H1 e Q q => h H1 e Q fun p H2 hp e2 h2 => q _ H2 e2 ⟨p, rfl, fresh_back e hp, h2⟩
theorem cut_take (xs : List V) (k : Nat) : cutV xs none (some (k : Int)) = xs.take k := by
  have h1 : HT.sIx xs.length 0 none = 0 := rfl
  have h2 : HT.sIx xs.length xs.length (some (k : Int)) = min k xs.length := by
    unfold HT.sIx
    simp only []
    split
    · omega
    · omega
  unfold cutV
  rw [h1, h2, List.drop_zero, Nat.sub_zero]
  by_cases h : k ≤ xs.length
  · rw [Nat.min_eq_left h]
  · rw [Nat.min_eq_right (by omega), List.take_length, List.take_of_length_le (by omega)]
end
section
variable {P : Program} {w : World} {K : PySem.W.Frag} {mg : PySem.Str → Option Value} {base : Heap} {cS cL : Addr}
def sp_ts (d : Nat) : Sp := fun vs H Q _ => ∃ (fv tv : V) (ps pc : Addr) (n : Int) (cs : List Cl) (cube : Cl) (t : Tre) (ss : List Step) (ds : List Cl), vs = [fv, tv, .ref ps, .ref pc] ∧ Fv H fv n cs ∧ TreV H tv t ∧ t.height < d ∧ Clause n cube ∧ Right n cs cube t ∧ ps ≠ pc ∧ Acc H ps pc ss ds ∧ Drv n cs ss ds ∧ (∀ c ∈ cs, Clause n c) ∧ (0 ≤ n ∧ n ≤ 30) ∧ ss.length + t.size ≤ 10000 ∧
  ∀ H' es fs (i : Nat) c, Sty (two ps pc) H H' → Acc H' ps pc (ss ++ es) (ds ++ fs) → Drv n cs (ss ++ es) (ds ++ fs) → es.length ≤ t.size → (ds ++ fs)[i]? = some c → (∀ x ∈ c, -x ∈ cube) → Q (vN i) H'
theorem ok_law_tree_steps (T : Txt K mg cS cL) : ∀ d : Nat, C8.Cal P w K mg base (d + 1) "_law_tree_steps" (sp_ts d) []
  | 0 => by
    refine calD T.d_law_tree_steps sc_law_tree_steps (fun vs H Q E h => ?_) fun f cdv A outer s H vs Q E hr h => ?_
    · obtain ⟨fv, tv, ps, pc, n, cs, cube, t, ss, ds, rfl, _⟩ := h
      rfl
    · obtain ⟨fv, tv, ps, pc, n, cs, cube, t, ss, ds, rfl, _, _, h, _⟩ := h
      omega
  | d + 1 => by
    have G_law_tree_steps : C8.Cal P w K mg base (d + 1) "_law_tree_steps" (sp_ts d) [] := ok_law_tree_steps T d
    have G_law_clause_of : C8.Cal P w K mg base 1 "_law_clause_of" sp_clause_of [] := ok_law_clause_of T
    refine calD T.d_law_tree_steps sc_law_tree_steps (fun vs H Q E h => ?_) fun f cdv A outer s H vs Q E hr h => ?_
    · obtain ⟨fv, tv, ps, pc, n, cs, cube, t, ss, ds, rfl, _⟩ := h
      rfl
    · obtain ⟨fv, tv, ps, pc, n, cs, cube, t, ss, ds, rfl, hF, hT, hh, hc, hR, ne, A0, D0, hcs, hn, hz, k⟩ := h
      refine ⟨_, (pss_cons (ps_if (pt_cmpR op_eq (pe_ix (k_ixT (K := K)) (pv 1) pe_int (fun _ _ => rfl)) pe_str (nomark _)) (pss_cons (ps_expr (pe_bm PySem.F.plainAttrs_list PySem.F.slot_list_append PySem.F.type_list_append mt_append (pv 2) (pa_cons (pe_tup (pa_cons pe_str (pa_cons (pe_ix (k_ixT (K := K)) (pv 1) pe_int (fun _ _ => rfl)) pa_nil))) pa_nil)))
      (pss_cons (ps_expr (pe_bm PySem.F.plainAttrs_list PySem.F.slot_list_append PySem.F.type_list_append mt_append (pv 3) (pa_cons (pe_ix (k_ixT (K := K)) (pe_ix (k_ixT (K := K)) (pv 0) pe_int (fun _ _ => rfl)) (pe_ix (k_ixT (K := K)) (pv 1) pe_int (fun _ _ => rfl)) (fun _ _ => rfl)) pa_nil)))
      (pss_one (ps_ret (pe_op op_sub (pe_callB (k_len (K := K)) (by rfl) T.z_len PySem.boot_len (pa_cons (pv 2) pa_nil)) pe_int))))) pss_nil)
      (pss_cons (ps_set (i := 4) sc_law_tree_steps.nd rfl (Or.inl rfl) (C8.pe_c G_law_tree_steps hr (by omega) (by rfl) (pa_cons (pv 0) (pa_cons (pe_ix (k_ixT (K := K)) (pv 1) pe_int (fun _ _ => rfl)) (pa_cons (pv 2) (pa_cons (pv 3) pa_nil))))))
      (pss_cons (ps_if (pt_cmpR (k_nin (K := K)) (pe_ix (k_ixT (K := K)) (pv 1) pe_int (fun _ _ => rfl)) (pe_ix (k_ixL (K := K)) (pv 3) (pv 4) (fun _ _ => rfl)) (by rfl)) (pss_one (ps_ret (pv 4))) pss_nil)
      (pss_cons (ps_set (i := 5) sc_law_tree_steps.nd rfl (Or.inl rfl) (C8.pe_c G_law_tree_steps hr (by omega) (by rfl) (pa_cons (pv 0) (pa_cons (pe_ix (k_ixT (K := K)) (pv 1) pe_int (fun _ _ => rfl)) (pa_cons (pv 2) (pa_cons (pv 3) pa_nil))))))
      (pss_cons (ps_if (pt_cmpR (k_nin (K := K)) (pe_un un_neg (pe_ix (k_ixT (K := K)) (pv 1) pe_int (fun _ _ => rfl))) (pe_ix (k_ixL (K := K)) (pv 3) (pv 5) (fun _ _ => rfl)) (by rfl)) (pss_one (ps_ret (pv 5))) pss_nil)
      (pss_cons (ps_expr (pe_bm PySem.F.plainAttrs_list PySem.F.slot_list_append PySem.F.type_list_append mt_append (pv 2) (pa_cons (pe_tup (pa_cons pe_str (pa_cons (pv 4) (pa_cons (pv 5) (pa_cons (pe_ix (k_ixT (K := K)) (pv 1) pe_int (fun _ _ => rfl)) pa_nil))))) pa_nil)))
      (pss_cons (ps_set (i := 6) sc_law_tree_steps.nd rfl (Or.inl rfl) (pe_op op_cat (pe_lc (own := [("_law_literal", 7)]) (g := gName 7) rfl sc_law_tree_steps.nd (pi_tup (pe_ix (k_ixL (K := K)) (pv 3) (pv 4) (fun _ _ => rfl))) (blkOk_by (N := n_law_tree_steps) (sc := defScope s_law_tree_steps) (by decide +kernel)) (fun _ _ _ _ _ => pg_name (i := 7) sc_law_tree_steps.nd rfl (Or.inl rfl)) (fun _ _ _ _ _ => pts_one (pt_cmpR op_ne (pv 7) (pe_ix (k_ixT (K := K)) (pv 1) pe_int (fun _ _ => rfl)) (nomark _))) (fun _ _ _ _ _ => (pv 7))) (pe_lc (own := [("_law_literal", 7)]) (g := gName 7) rfl sc_law_tree_steps.nd (pi_tup (pe_ix (k_ixL (K := K)) (pv 3) (pv 5) (fun _ _ => rfl))) (blkOk_by (N := n_law_tree_steps) (sc := defScope s_law_tree_steps) (by decide +kernel)) (fun _ _ _ _ _ => pg_name (i := 7) sc_law_tree_steps.nd rfl (Or.inl rfl)) (fun _ _ _ _ _ => pts_one (pt_cmpR op_ne (pv 7) (pe_un un_neg (pe_ix (k_ixT (K := K)) (pv 1) pe_int (fun _ _ => rfl))) (nomark _))) (fun _ _ _ _ _ => (pv 7)))))
      (pss_cons (ps_expr (pe_bm PySem.F.plainAttrs_list PySem.F.slot_list_append PySem.F.type_list_append mt_append (pv 3) (pa_cons (C8.pe_c G_law_clause_of hr (by omega) (by rfl) (pa_cons (pv 6) pa_nil)) pa_nil)))
      (pss_one (ps_ret (pe_op op_sub (pe_callB (k_len (K := K)) (by rfl) T.z_len PySem.boot_len (pa_cons (pv 2) pa_nil)) pe_int))))))))))), ?_⟩
      have hlen := D0.len
      obtain ⟨⟨svs, a1, a2⟩, ⟨dvs, a3, a4⟩⟩ := id A0
      have l2 := a2.len
      have l4 := a4.len
      cases t with
      | leaf kk =>
        obtain ⟨ta, rfl, ht⟩ := hT
        obtain ⟨c, hc1, hc2⟩ := hR
        obtain ⟨fa, fb, cvs, rfl, f1, f2, f3⟩ := id hF
        obtain ⟨u, hu, hcu⟩ := f3.right hc1
        have hz2 : ss.length + 1 ≤ 10000 := hz
        refine q_when (b := true) (et_eqS (x := .ofString "leaf") (ev_ixT (ev_var rfl) ev_c ht rfl) ev_c ?_) (fun _ H1 e1 => ?_) (fun z => by cases z)
        · decide +kernel
        refine q_appU (e1 _ _ a1) (ev_var rfl) (eu_tup (ea_cons ev_c (ea_cons (ev_ixT (ev_var rfl) ev_c (e1 _ _ ht) rfl) ea_nil)) (by simp)) (by omega) fun tp H2 htp e2 h2 => ?_
        have e12 := e1.trans e2
        have t2 : Tst H2 (upd H2 ps (.lst (svs ++ [.ref tp]))) := Tst.lst (e12 _ _ a1)
        have c2 : upd H2 ps (.lst (svs ++ [.ref tp])) pc = some (.lst dvs) := by
          rw [upd_ne (Ne.symm ne)]
          exact e12 _ _ a3
        refine q_app c2 (ev_var rfl) (ev_ixT (v := u) (ev_ixT (ev_var rfl) ev_c (t2 _ _ (e12 _ _ f1)) rfl) (ev_ixT (ev_var rfl) ev_c (t2 _ _ (e12 _ _ ht)) rfl) (t2 _ _ (e12 _ _ f2)) (atI_nat hu)) (by omega) fun H3 e3 => ?_
        obtain ⟨A3, S3, P3⟩ := acc_push ne a1 a2 a3 a4 e12 (s := .ax kk) ⟨tp, rfl, h2⟩ e3 (hcu.t (((Tst.ex e12).trans t2).trans (.ex e3)))
        refine s_ret (ev_is (ev_I0 (ev_lenL (ev_var rfl) P3) ev_c) ?_) fun H4 e4 => k H4 [.ax kk] [c] ds.length c (S3.trans (Sty.of e4)) (A3.ex e4) (D0.snoc hc1 trivial) (Nat.le_refl _) ?_ hc2
        · rw [List.length_append, l2, hlen]
          show V.int (((ds.length + 1 : Nat) : Int) - 1) = _
          congr 1
          omega
        · rw [List.getElem?_append_right (Nat.le_refl _), Nat.sub_self] <;> rfl
      | ask v lt ht =>
        obtain ⟨ta, vl, vh, rfl, t1, tl, th⟩ := hT
        obtain ⟨hv1, hv2, hv3, rl, rh⟩ := hR
        have hz2 : ss.length + (lt.size + ht.size + 1) ≤ 10000 := hz
        have hh2 : max lt.height ht.height + 1 < d + 1 := hh
        obtain ⟨qL1, qL2⟩ := hc.snoc (x := -v) (by omega) hv3 (by rw [Int.neg_neg]; exact hv2)
        obtain ⟨qH1, qH2⟩ := hc.snoc (x := v) (by omega) hv2 hv3
        refine q_when (b := false) (et_eqS (x := .ofString "ask") (ev_ixT (ev_var rfl) ev_c t1 rfl) ev_c ?_) (fun z => by cases z) (fun _ H1 e1 => ?_)
        · decide +kernel
        refine q_asgCall (ea_cons (ev_var rfl) (ea_cons (ev_ixT (ev_var rfl) ev_c (e1 _ _ t1) rfl) (ea_cons (ev_var rfl) (ea_cons (ev_var rfl) ea_nil)))) fun H2 e2 => ?_
        have e12 := e1.trans e2
        refine ⟨fv, vl, ps, pc, n, cs, norm (cube ++ [-v]), lt, ss, ds, rfl, hF.t (.ex e12), TreV.t (.ex e12) tl, by omega, qL1, rl, ne, A0.ex e12, D0, hcs, hn, by omega, fun H3 es fs i c s3 A3 D3 hes hi hb => ?_⟩
        have s03 : Sty (two ps pc) H H3 := (Sty.of e12).trans s3
        have T3 : Tst H H3 := A0.tst s03
        have hsz : (norm (cube ++ [-v])).length = cube.length + 1 := qL2
        obtain ⟨⟨svs3, b1, b2⟩, ⟨dvs3, b3, b4⟩⟩ := id A3
        obtain ⟨u, hu, ua, rfl, hcu⟩ := b4.right hi
        refine q_when (et_ninT (ev_ixT (v := .int v) (ev_var rfl) ev_c (T3 _ _ t1) rfl) (ev_ixL (ev_var rfl) (ev_var rfl) b3 (atI_nat hu)) hcu) (fun hb2 H4 e4 => ?_) (fun hb2 H4 e4 => ?_)
        · refine s_ret (ev_var rfl) fun H5 e5 => k H5 es fs i c ((s03.trans (Sty.of e4)).trans (Sty.of e5)) (A3.ex (e4.trans e5)) D3 ?_ hi (node_sub hb (by simpa using hb2))
          show _ ≤ lt.size + ht.size + 1
          omega
        have m1 : v ∈ c := by simpa using hb2
        have T4 : Tst H H4 := T3.trans (.ex e4)
        refine q_asgCall (ea_cons (ev_var rfl) (ea_cons (ev_ixT (ev_var rfl) ev_c (T4 _ _ t1) rfl) (ea_cons (ev_var rfl) (ea_cons (ev_var rfl) ea_nil)))) fun H5 e5 => ?_
        have e45 := e4.trans e5
        have T5 : Tst H H5 := T3.trans (.ex e45)
        refine ⟨fv, vh, ps, pc, n, cs, norm (cube ++ [v]), ht, ss ++ es, ds ++ fs, rfl, hF.t T5, TreV.t T5 th, by omega, qH1, rh, ne, A3.ex e45, D3, hcs, hn, by rw [List.length_append]; omega, fun H6 es2 fs2 j c2 s6 A6 D6 hes2 hj hbj => ?_⟩
        have s06 : Sty (two ps pc) H H6 := (s03.trans (Sty.of e45)).trans s6
        have T6 : Tst H H6 := A0.tst s06
        obtain ⟨⟨svs6, b61, b62⟩, ⟨dvs6, b63, b64⟩⟩ := id A6
        obtain ⟨u2, hu2, u2a, rfl, hcu2⟩ := b64.right hj
        have hi6 : (ds ++ fs ++ fs2)[i]? = some c := by
          rw [List.getElem?_append_left (List.getElem?_eq_some_iff.mp hi).1]
          exact hi
        obtain ⟨u1, hu1, u1a, rfl, hcu1⟩ := b64.right hi6
        refine q_when (et_ninT (ev_neg (ev_ixT (v := .int v) (ev_var rfl) ev_c (T6 _ _ t1) rfl)) (ev_ixL (ev_var rfl) (ev_var rfl) b63 (atI_nat hu2)) hcu2) (fun hb3 H7 e7 => ?_) (fun hb3 H7 e7 => ?_)
        · refine s_ret (ev_var rfl) fun H8 e8 => k H8 (es ++ es2) (fs ++ fs2) j c2 ((s06.trans (Sty.of e7)).trans (Sty.of e8)) ?_ ?_ ?_ ?_ (node_sub (v := -v) (by rw [Int.neg_neg]; exact hbj) (by simpa using hb3))
          · rw [← List.append_assoc, ← List.append_assoc]
            exact A6.ex (e7.trans e8)
          · rw [← List.append_assoc, ← List.append_assoc]
            exact D6
          · show _ ≤ lt.size + ht.size + 1
            rw [List.length_append]
            omega
          · rw [← List.append_assoc]
            exact hj
        have m2 : -v ∈ c2 := by simpa using hb3
        have T7 : Tst H H7 := T6.trans (.ex e7)
        have l62 := b62.len
        have l64 := b64.len
        have l6 := D6.len
        have l6s : (ss ++ es ++ es2).length ≤ ss.length + lt.size + ht.size := by
          rw [List.length_append, List.length_append]
          omega
        obtain ⟨dd, hdd, hdb⟩ := node_res hc hb hbj
        have stc : stepC cs (ds ++ fs ++ fs2) (.res i j v) = some dd := stepC_of hi6 hj m1 m2 hdd
        refine q_appU (e7 _ _ b61) (ev_var rfl) (eu_tup (ea_cons ev_c (ea_cons (ev_var rfl) (ea_cons (ev_var rfl) (ea_cons (ev_ixT (v := .int v) (ev_var rfl) ev_c (T7 _ _ t1) rfl) ea_nil)))) (by simp)) (by omega) fun tp H8 htp e8 h8 => ?_
        have e78 := e7.trans e8
        have p8 := e78 _ _ b61
        have t8 : Tst H8 (upd H8 ps (.lst (svs6 ++ [.ref tp]))) := Tst.lst p8
        have c8 : upd H8 ps (.lst (svs6 ++ [.ref tp])) pc = some (.lst dvs6) := by
          rw [upd_ne (Ne.symm ne)]
          exact e78 _ _ b63
        have T68 : Tst H6 (upd H8 ps (.lst (svs6 ++ [.ref tp]))) := (Tst.ex e78).trans t8
        have T8 : Tst H (upd H8 ps (.lst (svs6 ++ [.ref tp]))) := T6.trans T68
        generalize hG : upd H8 ps (.lst (svs6 ++ [.ref tp])) = G at c8 T68 T8 t8
        have cl1 := (D6.clause hcs i c hi6).len
        have cl2 := (D6.clause hcs j c2 hj).len
        have w1 : (without c v).length ≤ c.length := List.length_filter_le ..
        have w2 : (without c2 (-v)).length ≤ c2.length := List.length_filter_le ..
        have lc : EvL _ _ G (((without c v).map V.int) ++ ((without c2 (-v)).map V.int)) := el_cat
          (by have z := lcI (wi := iTup K (tOp (rIxL K) (tVar 3) (tVar 4))) (t := tTest (tOp rNe (tVar 7) (tOp (rIxT K) (tVar 1) (tC (.int 1))))) (te := tVar 7) (j := 7) (vs := [7]) (σ := [some fv, some (.ref ta), some (.ref ps), some (.ref pc), some (vN i), some (vN j), none, none]) (H := G) (ls := c) (fun y => !decide (y = v)) (fun y => y) (src_tup (ev_ixL (ev_var rfl) (ev_var rfl) c8 (atI_nat hu1)) (T68 _ _ hcu1)) (by omega) (fun x => rfl) (fun l H2 e _ => et_neI (ev_var rfl) (ev_ixT (v := .int v) (ev_var rfl) ev_c (e _ _ (T8 _ _ t1)) rfl)) (fun l H2 e _ _ => ev_var rfl)
              rw [filt_id] at z
              exact z)
          (by have z := lcI (wi := iTup K (tOp (rIxL K) (tVar 3) (tVar 5))) (t := tTest (tOp rNe (tVar 7) (tUn (rU fun i => .int (-i)) (tOp (rIxT K) (tVar 1) (tC (.int 1)))))) (te := tVar 7) (j := 7) (vs := [7]) (σ := [some fv, some (.ref ta), some (.ref ps), some (.ref pc), some (vN i), some (vN j), none, none]) (H := G) (ls := c2) (fun y => !decide (y = -v)) (fun y => y) (src_tup (ev_ixL (ev_var rfl) (ev_var rfl) c8 (atI_nat hu2)) (T68 _ _ hcu2)) (by omega) (fun x => rfl) (fun l H2 e _ => et_neI (ev_var rfl) (ev_neg (ev_ixT (v := .int v) (ev_var rfl) ev_c (e _ _ (T8 _ _ t1)) rfl))) (fun l H2 e _ _ => ev_var rfl)
              rw [filt_id] at z
              exact z) (by rw [List.length_map, List.length_map]; omega)
        rw [← List.map_append] at lc
        refine q_asgL lc fun rp H9 hrp e9 h9 => ?_
        refine q_appP (P := fun v' H' => Cv H' v' dd) (e9 _ _ c8) (ev_var rfl) (ep_call (ea_cons (ev_var rfl) ea_nil) fun H10 e10 Q q E => ⟨_, without c v ++ without c2 (-v), rfl, ⟨rp, rfl, .inl (e10 _ _ h9)⟩, by rw [List.length_append]; omega, fun v' H' e hv' => q v' H' e (by rw [hdd] at hv'; exact hv')⟩) (by omega) fun cv H10 e10 hcv => ?_
        have e910 : Ex (upd H8 ps (.lst (svs6 ++ [.ref tp]))) H10 := by
          rw [hG]
          exact e9.trans e10
        obtain ⟨A11, S11, P11⟩ := acc_push ne b61 b62 b63 b64 e78 (s := .res i j v) ⟨tp, rfl, h8⟩ e910 hcv
        refine s_ret (ev_is (ev_I0 (ev_lenL (ev_var rfl) P11) ev_c) ?_) fun H12 e12 => k H12 (es ++ es2 ++ [.res i j v]) (fs ++ fs2 ++ [dd]) (ds ++ fs ++ fs2).length dd ((s06.trans S11).trans (Sty.of e12)) ?_ ?_ ?_ ?_ hdb
        · rw [List.length_append, l62, l6]
          show V.int ((((ds ++ fs ++ fs2).length + 1 : Nat) : Int) - 1) = _
          congr 1
          omega
        · have z := A11.ex e12
          rw [List.append_assoc, List.append_assoc, List.append_assoc, List.append_assoc] at z
          rw [List.append_assoc, List.append_assoc]
          exact z
        · have z := D6.snoc stc ⟨by omega, hv1.2⟩
          rw [List.append_assoc, List.append_assoc, List.append_assoc, List.append_assoc] at z
          rw [List.append_assoc, List.append_assoc]
          exact z
        · show _ ≤ lt.size + ht.size + 1
          rw [List.length_append, List.length_append, List.length_singleton]
          omega
        · rw [← List.append_assoc, ← List.append_assoc, List.getElem?_append_right (Nat.le_refl _), Nat.sub_self] <;> rfl
def sp_made_steps : Sp := fun vs H Q _ => ∃ (fv : V) (dr : Addr) (n : Int) (cs : List Cl) (ds : List Int), vs = [fv, .ref dr] ∧ Fv H fv n cs ∧ (0 ≤ n ∧ n ≤ 4) ∧ H dr = some (.lst (ds.map V.int)) ∧ 0 < ds.length ∧ (∀ c ∈ cs, Clause n c) ∧ cs.length ≤ 1000 ∧ mods n cs = [] ∧
  ∀ p svs ss cds H', H p = none → Ex H H' → H' p = some (.lst svs) → Svs H' svs ss → Drv n cs ss cds → cds.getLast? = some [] → ss.length ≤ 31 → Q (.ref p) H'
theorem ok_law_made_steps (T : Txt K mg cS cL) : C8.Cal P w K mg base 7 "_law_made_steps" sp_made_steps [] := by
  have G_law_tree_steps : C8.Cal P w K mg base 6 "_law_tree_steps" (sp_ts 5) [] := ok_law_tree_steps T 5
  have G_law_tree : C8.Cal P w K mg base 6 "_law_tree" (sp_tree 5) [] := ok_law_tree T 5
  refine calD T.d_law_made_steps sc_law_made_steps (fun vs H Q E h => ?_) fun f cdv A outer s H vs Q E hr h => ?_
  · obtain ⟨fv, dr, n, cs, ds, rfl, _⟩ := h
    rfl
  · obtain ⟨fv, dr, n, cs, ds, rfl, hF, hn, hdr, hdl, hcs, hz, hm, k⟩ := h
    refine ⟨_, (pss_cons (ps_set (i := 2) sc_law_made_steps.nd rfl (Or.inl rfl) (pe_lst pa_nil))
      (pss_cons (ps_set (i := 3) sc_law_made_steps.nd rfl (Or.inl rfl) (C8.pe_c G_law_tree_steps hr (by decide) (by rfl) (pa_cons (pv 0) (pa_cons (C8.pe_c G_law_tree hr (by decide) (by rfl) (pa_cons (pv 0) (pa_cons (pe_tup pa_nil) (pa_cons (pv 1) (pa_cons pe_int pa_nil))))) (pa_cons (pv 2) (pa_cons (pe_lst pa_nil) pa_nil))))))
      (pss_one (ps_ret (pe_slice sl_list (pv 2) po_none (po_some (pe_op op_add (pv 3) pe_int))))))), ?_⟩
    have c0 : Clause n [] := ⟨List.Pairwise.nil, fun x hx => (by cases hx), fun x hx => by cases hx⟩
    refine q_asgL (el_lst ea_nil (by decide)) fun p H1 hp e1 h1 => ?_
    refine q_asgCallQ (eq_cons (Ev.p (ev_var rfl)) (eq_cons (P := fun v H' => ∃ t, TreV H' v t ∧ Right n cs [] t ∧ t.size + 1 ≤ 32 ∧ t.height + 1 ≤ 5) (ep_callQ (eq_cons (Ev.p (ev_var rfl)) (eq_cons ev_nilC (eq_cons (Ev.p (ev_var rfl)) (eq_cons (Ev.p ev_c) eq_nil fun _ _ _ _ h => h) fun _ _ _ _ h => h) fun v H1 H2 e h => h.t (.ex e)) fun _ _ _ _ h => h) fun vs H2 e2 hvs Q q E => ?_)
      (eq_cons (Ev.p (ev_var rfl)) (eq_cons (EvL.p (el_lst ea_nil (by decide))) eq_nil fun v H2 H3 e ⟨p, a, b, c⟩ => ⟨p, a, b, e _ _ c⟩) fun _ _ _ _ h => h) fun v H2 H3 e ⟨t, a, b⟩ => ⟨t, TreV.t (.ex e) a, b⟩) fun _ _ _ _ h => h) fun vs H2 e2 hvs => ?_
    · obtain ⟨v1, r1, rfl, rfl, v2, r2, rfl, hv2, v3, r3, rfl, rfl, v4, r4, rfl, rfl, rfl⟩ := hvs
      exact ⟨_, v2, dr, 0, n, cs, [], ds, rfl, hF.t (.ex (e1.trans e2)), hv2, c0, by omega, by show n < (0 : Int) + 5; omega, (e1.trans e2) _ _ hdr, hdl, hcs, hz, hm, fun v t H' e a b c d => q v H' e ⟨t, a, b, c, d⟩⟩
    · obtain ⟨v1, r1, rfl, rfl, v2, r2, rfl, ⟨t, ht1, ht2, ht3, ht4⟩, v3, r3, rfl, rfl, v4, r4, rfl, ⟨pc, rfl, hpc, hpc2⟩, rfl⟩ := hvs
      have npc : p ≠ pc := fun z => by rw [← z, h1] at hpc; cases hpc
      have e12 := e1.trans e2
      refine ⟨_, v2, p, pc, n, cs, [], t, [], [], rfl, hF.t (.ex e12), ht1, by omega, c0, ht2, npc, ⟨⟨[], e2 _ _ h1, .nil⟩, ⟨[], hpc2, .nil⟩⟩, Drv.nil, hcs, by omega, by show 0 + t.size ≤ 10000; omega, fun H3 es fs i c s3 A3 D3 hes hi hb => ?_⟩
      have hc0 : c = [] := List.eq_nil_iff_forall_not_mem.mpr fun x hx => by
        have := hb x hx
        cases this
      subst hc0
      rw [List.nil_append] at A3 D3
      rw [List.nil_append] at D3 hi A3
      have hE3 : Ex H H3 := fun x o h => s3 x o (e12 _ _ h) fun z => by
        rcases z with z | z
        · rw [z, hp] at h
          cases h
        · have h5 := e1 _ _ h
          rw [z, hpc] at h5
          cases h5
      obtain ⟨⟨svs, b1, b2⟩, _⟩ := A3
      have il := (List.getElem?_eq_some_iff.mp hi).1
      have il2 := D3.len
      refine s_retL (el_sl (ev_var rfl) eo_none (eo_some (ev_is (w := .int ((i + 1 : Nat) : Int)) (ev_I0 (ev_var rfl) ev_c) (by congr 1))) (sq_of b1)) fun q H4 hq e4 h4 => ?_
      rw [cut_take] at h4
      refine k q (svs.take (i + 1)) (es.take (i + 1)) (fs.take (i + 1)) H4 (fresh_back hE3 hq) (hE3.trans e4) h4 (All2.take (b2.t (.ex e4)) (i + 1)) (D3.take (i + 1)) ?_ ?_
      · rw [List.getLast?_eq_getElem?, List.length_take]
        have : min (i + 1) fs.length - 1 = i := by omega
        rw [this, List.getElem?_take, if_pos (Nat.lt_succ_self i)]
        exact hi
      · rw [List.length_take]
        omega
end
end K75
set_option Elab.async false
set_option linter.all false
set_option maxRecDepth 100000
set_option maxHeartbeats 4000000
/-! walks of the law: steps, one, read -/
namespace K75
open PySem PySem.Spec PyProof.Rows L2 Evl

section
variable {K : PySem.W.Frag} {σ : L2.St} {H H' : Hp} {ta tb te tl tn : TE} {D : Ends} {tz tu : TS} {xs : List V}
/-- i in range(n), i not in range(n) -/
theorem et_inR {i j : Int} (ha : Ev ta σ H (.int i)) (hb : Ev tn σ H (.int j)) :
    EvT (tTest (tOp (fun x y H Q => ∃ i a lo hi, x = V.int i ∧ y = V.ref a ∧ H a = some (.rng lo hi) ∧ Q (.bl (decide (lo ≤ i ∧ i < hi))) H) ta (tCB (fun vs H Q => ∃ j, vs = [V.int j] ∧ ∀ p, H p = none → Q (.ref p) (upd H p (.rng 0 j))) (tCons tn tNil)))) σ H (decide (0 ≤ i ∧ i < j)) := fun H1 e Q q =>
  ha H1 e _ fun H2 e2 => hb H2 (e.trans e2) _ fun H3 e3 => ⟨j, rfl, fun p hp => ⟨i, p, 0, j, rfl, rfl, upd_same, _, rfl, q _ ((e2.trans e3).trans (Ex.new hp))⟩⟩
theorem et_ninR {i j : Int} (ha : Ev ta σ H (.int i)) (hb : Ev tn σ H (.int j)) :
    EvT (tTest (tOp (fun x y H Q => ∃ i a lo hi, x = V.int i ∧ y = V.ref a ∧ H a = some (.rng lo hi) ∧ Q (.bl (!decide (lo ≤ i ∧ i < hi))) H) ta (tCB (fun vs H Q => ∃ j, vs = [V.int j] ∧ ∀ p, H p = none → Q (.ref p) (upd H p (.rng 0 j))) (tCons tn tNil)))) σ H (!decide (0 ≤ i ∧ i < j)) := fun H1 e Q q =>
  ha H1 e _ fun H2 e2 => hb H2 (e.trans e2) _ fun H3 e3 => ⟨j, rfl, fun p hp => ⟨i, p, 0, j, rfl, rfl, upd_same, _, rfl, q _ ((e2.trans e3).trans (Ex.new hp))⟩⟩
/-- step[1:] of a resolution -/
theorem ep_cut1 {r : Addr} {s : V} {c : List Int} (h : Ev te σ H (.ref r)) (hr : H r = some (.tup (s :: c.map V.int))) : EvP (tSl (rSlA K) te (tPart (tC (.int 1))) tNoPart) σ H fun v H' => Cv H' v c := fun H1 e Q q =>
  h H1 e _ fun H2 e2 => by
    have h2 := (e.trans e2) _ _ hr
    refine ⟨1, rfl, r, _, rfl, st_of h2, fun z => ?_, fun _ p hp => ?_⟩
    · have z1 : HT.sIx (s :: c.map V.int).length 0 (some 1) = min 1 (c.map V.int).length.succ := HT.sIx_nat _ _ 1
      have := z.1
      rw [z1] at this
      omega
    · have z1 : HT.sIx (s :: c.map V.int).length 0 (some 1) = 1 := by
        have := HT.sIx_nat (s :: c.map V.int).length 0 1
        rw [show ((1 : Nat) : Int) = 1 from rfl] at this
        rw [this, List.length_cons]
        omega
      have z2 : cutV (s :: c.map V.int) (some 1) none = c.map V.int := by
        unfold cutV
        rw [z1, HT.sIx_none, List.length_cons, List.drop_succ_cons, List.drop_zero]
        exact List.take_of_length_le (by omega)
      refine q _ _ (e2.trans (Ex.new hp)) ⟨p, rfl, ?_⟩
      rw [upd_same, z2]
/-- the literals of a resolvent -/
theorem el_res {j : Nat} {c1 c2 : Cl} {v : Int} {tv1 tv2 t1 t2 : TE} {vs : List Nat} {a1 a2 : Addr} (h1 : Ev t1 σ H (.ref a1)) (h2 : Ev t2 σ H (.ref a2)) (g1 : H a1 = some (.tup (c1.map V.int))) (g2 : H a2 = some (.tup (c2.map V.int))) (hz : c1.length ≤ 1000) (hz2 : c2.length ≤ 1000)
    (hw : ∀ x, wipe ((wipe σ vs).set j (some x)) vs = wipe σ vs) (hj : ∀ x : V, ((wipe σ vs).set j (some x))[j]? = some (some x))
    (e1 : ∀ (l : Int) H1, Ex H H1 → Ev tv1 ((wipe σ vs).set j (some (.int l))) H1 (.int v)) (e2 : ∀ (l : Int) H1, Ex H H1 → Ev tv2 ((wipe σ vs).set j (some (.int l))) H1 (.int (-v))) :
    EvL (tOp rCat (tLc (iTup K t1) (gName j) (tTest (tOp rNe (tVar j) tv1)) (tVar j) vs) (tLc (iTup K t2) (gName j) (tTest (tOp rNe (tVar j) tv2)) (tVar j) vs)) σ H ((without c1 v ++ without c2 (-v)).map V.int) := by
  rw [List.map_append]
  have w1 : (without c1 v).length ≤ c1.length := List.length_filter_le ..
  have w2 : (without c2 (-v)).length ≤ c2.length := List.length_filter_le ..
  refine el_cat ?_ ?_ (by rw [List.length_map, List.length_map]; omega)
  · have z := lcI (t := tTest (tOp rNe (tVar j) tv1)) (te := tVar j) (j := j) (vs := vs) (fun y => !decide (y = v)) (fun y => y) (src_tup (K := K) h1 g1) (by omega) hw (fun l H2 e _ => et_neI (ev_var (hj _)) (e1 l H2 e)) (fun l H2 e _ _ => ev_var (hj _))
    rw [filt_id] at z
    exact z
  · have z := lcI (t := tTest (tOp rNe (tVar j) tv2)) (te := tVar j) (j := j) (vs := vs) (fun y => !decide (y = -v)) (fun y => y) (src_tup (K := K) h2 g2) (by omega) hw (fun l H2 e _ => et_neI (ev_var (hj _)) (e2 l H2 e)) (fun l H2 e _ _ => ev_var (hj _))
    rw [filt_id] at z
    exact z
theorem et_eqSb {x y : PySem.Str} (b : Bool) (ha : Ev ta σ H (.str x)) (hb : Ev tb σ H (.str y)) (h : decide (x = y) = b) : EvT (tTest (tOp rEq ta tb)) σ H b := by
  refine et_eqS ha hb ?_
  rw [← h]
  exact decide_eq_decide.mpr ⟨fun z => V.str.inj z, fun z => by rw [z]⟩
end
section
variable {P : Program} {w : World} {K : PySem.W.Frag} {mg : PySem.Str → Option Value} {base : Heap} {cS cL : Addr}
def sp_steps : Sp := fun vs H Q _ => ∃ (fv : V) (a : Addr) (n : Int) (cs : List Cl) (svs : List V) (ss : List Step) (ds : List Cl), vs = [fv, .ref a] ∧ Fv H fv n cs ∧ H a = some (.lst svs) ∧ Svs H svs ss ∧ Drv n cs ss ds ∧ (∀ c ∈ cs, Clause n c) ∧ (0 ≤ n ∧ n ≤ 30) ∧ ss.length ≤ 10000 ∧ ∀ v H', Ex H H' → LvN H H' v ds → Q v H'
theorem ok_law_steps (T : Txt K mg cS cL) : C8.Cal P w K mg base 3 "_law_steps" sp_steps [] := by
  have G_law_is_int : C8.Cal P w K mg base 1 "_law_is_int" sp_isint [] := ok_law_is_int T
  have G_law_ints : C8.Cal P w K mg base 2 "_law_ints" sp_ints [] := ok_law_ints T
  have G_law_clause_of : C8.Cal P w K mg base 1 "_law_clause_of" sp_clause_of [] := ok_law_clause_of T
  refine calD T.d_law_steps sc_law_steps (fun vs H Q E h => ?_) fun f cdv A outer s H vs Q E hr h => ?_
  · obtain ⟨fv, a, n, cs, svs, ss, ds, rfl, _⟩ := h
    rfl
  · obtain ⟨fv, a, n, cs, svs, ss, ds, rfl, ⟨fa, fb, cvs, rfl, f1, f2, f3⟩, ha, hS, hD, hcs, hn, hz, k⟩ := h
    refine ⟨_, (pss_cons (ps_set (i := 2) sc_law_steps.nd rfl (Or.inl rfl) (pe_lst pa_nil))
      (pss_cons (ps_for PassesOwn.never rfl (pi_range1 (by rfl) T.z_range (pa_cons (pe_callB (k_len (K := K)) (by rfl) T.z_len PySem.boot_len (pa_cons (pv 1) pa_nil)) pa_nil)) (pg_name (i := 3) sc_law_steps.nd rfl (Or.inl rfl))
        (pss_cons (ps_set (i := 4) sc_law_steps.nd rfl (Or.inr rfl) (pe_ix (k_ixL (K := K)) (pv 1) (pv 3) (fun _ _ => rfl)))
      (pss_one (ps_if (PW.pt (pw_and (pt_cmpR op_eq (pe_callB (k_len (K := K)) (by rfl) T.z_len PySem.boot_len (pa_cons (pv 4) pa_nil)) pe_int (nomark _)) (pw_and (pt_cmpR op_eq (pe_ix (k_ixT (K := K)) (pv 4) pe_int (fun _ _ => rfl)) pe_str (nomark _)) (pw_and (pt_val (C8.pe_c G_law_is_int hr (by decide) (by rfl) (pa_cons (pe_ix (k_ixT (K := K)) (pv 4) pe_int (fun _ _ => rfl)) pa_nil))) (pw_and (pt_cmpR op_le pe_int (pe_ix (k_ixT (K := K)) (pv 4) pe_int (fun _ _ => rfl)) (nomark _)) (pw_and1 (pt_cmpR op_lt (pe_ix (k_ixT (K := K)) (pv 4) pe_int (fun _ _ => rfl)) (pe_callB (k_len (K := K)) (by rfl) T.z_len PySem.boot_len (pa_cons (pe_ix (k_ixT (K := K)) (pv 0) pe_int (fun _ _ => rfl)) pa_nil)) (nomark _)))))))) (pss_one (ps_expr (pe_bm PySem.F.plainAttrs_list PySem.F.slot_list_append PySem.F.type_list_append mt_append (pv 2) (pa_cons (pe_ix (k_ixT (K := K)) (pe_ix (k_ixT (K := K)) (pv 0) pe_int (fun _ _ => rfl)) (pe_ix (k_ixT (K := K)) (pv 4) pe_int (fun _ _ => rfl)) (fun _ _ => rfl)) pa_nil)))) (pss_one (ps_if (PW.pt (pw_and (pt_cmpR op_eq (pe_callB (k_len (K := K)) (by rfl) T.z_len PySem.boot_len (pa_cons (pv 4) pa_nil)) pe_int (nomark _)) (pw_and (pt_cmpR op_eq (pe_ix (k_ixT (K := K)) (pv 4) pe_int (fun _ _ => rfl)) pe_str (nomark _)) (pw_and (pt_val (C8.pe_c G_law_ints hr (by decide) (by rfl) (pa_cons (pe_slice sl_tupA (pv 4) (po_some pe_int) po_none) (pa_cons pe_str pa_nil)))) (pw_and (pt_cmpR op_in_rng (pe_ix (k_ixT (K := K)) (pv 4) pe_int (fun _ _ => rfl)) (pe_callTy cr_range1 (by rfl) T.z_range (by decide +kernel) (pa_cons (pv 3) pa_nil)) (by rfl)) (pw_and1 (pt_cmpR op_in_rng (pe_ix (k_ixT (K := K)) (pv 4) pe_int (fun _ _ => rfl)) (pe_callTy cr_range1 (by rfl) T.z_range (by decide +kernel) (pa_cons (pv 3) pa_nil)) (by rfl)))))))) (pss_cons (ps_set (i := 5) sc_law_steps.nd rfl (Or.inl rfl) (pe_ix (k_ixL (K := K)) (pv 2) (pe_ix (k_ixT (K := K)) (pv 4) pe_int (fun _ _ => rfl)) (fun _ _ => rfl)))
      (pss_cons (ps_set (i := 6) sc_law_steps.nd rfl (Or.inl rfl) (pe_ix (k_ixL (K := K)) (pv 2) (pe_ix (k_ixT (K := K)) (pv 4) pe_int (fun _ _ => rfl)) (fun _ _ => rfl)))
      (pss_cons (ps_if (PW.pt (pw_or (pt_cmpR (k_nin (K := K)) (pe_ix (k_ixT (K := K)) (pv 4) pe_int (fun _ _ => rfl)) (pv 5) (by rfl)) (pw_or1 (pt_cmpR (k_nin (K := K)) (pe_un un_neg (pe_ix (k_ixT (K := K)) (pv 4) pe_int (fun _ _ => rfl))) (pv 6) (by rfl))))) (pss_one (ps_ret pe_non)) pss_nil)
      (pss_cons (ps_set (i := 7) sc_law_steps.nd rfl (Or.inl rfl) (C8.pe_c G_law_clause_of hr (by decide) (by rfl) (pa_cons (pe_op op_cat (pe_lc (own := [("_law_x", 8)]) (g := gName 8) rfl sc_law_steps.nd (pi_tup (pv 5)) (blkOk_by (N := n_law_steps) (sc := defScope s_law_steps) (by decide +kernel)) (fun _ _ _ _ _ => pg_name (i := 8) sc_law_steps.nd rfl (Or.inl rfl)) (fun _ _ _ _ _ => pts_one (pt_cmpR op_ne (pv 8) (pe_ix (k_ixT (K := K)) (pv 4) pe_int (fun _ _ => rfl)) (nomark _))) (fun _ _ _ _ _ => (pv 8))) (pe_lc (own := [("_law_x", 8)]) (g := gName 8) rfl sc_law_steps.nd (pi_tup (pv 6)) (blkOk_by (N := n_law_steps) (sc := defScope s_law_steps) (by decide +kernel)) (fun _ _ _ _ _ => pg_name (i := 8) sc_law_steps.nd rfl (Or.inl rfl)) (fun _ _ _ _ _ => pts_one (pt_cmpR op_ne (pv 8) (pe_un un_neg (pe_ix (k_ixT (K := K)) (pv 4) pe_int (fun _ _ => rfl))) (nomark _))) (fun _ _ _ _ _ => (pv 8)))) pa_nil)))
      (pss_cons (ps_if (pt_cmpR op_isN (pv 7) pe_non (nomark _)) (pss_one (ps_ret pe_non)) pss_nil)
      (pss_one (ps_expr (pe_bm PySem.F.plainAttrs_list PySem.F.slot_list_append PySem.F.type_list_append mt_append (pv 2) (pa_cons (pv 7) pa_nil))))))))) (pss_one (ps_ret pe_non))))))))
      (pss_one (ps_ret (pv 2))))), ?_⟩
    have l3 := f3.len
    have lS := hS.len
    have lD := hD.len
    refine q_asgL (el_lst ea_nil (by decide)) fun p H1 hp e1 h1 => ?_
    refine q_forR1 (ea_cons (ev_lenL (ev_var rfl) (e1 _ _ ha)) ea_nil) (by omega)
      (fun i σ H' => ∃ (dvs : List V) (x3 x4 x5 x6 x7 : Option V), σ = [some (.ref fa), some (.ref a), some (.ref p), x3, x4, x5, x6, x7, none] ∧ Ex H H' ∧ H' p = some (.lst dvs) ∧ Cvs H' dvs (ds.take i))
      (fun H2 e2 => ⟨[], none, none, none, none, none, rfl, e1.trans e2, e2 _ _ h1, .nil⟩) ?_ ?_
    · rintro i σ' H' hi ⟨dvs, x3, x4, x5, x6, x7, rfl, hE, hp', hC⟩
      have hil : i < ss.length := by omega
      have hid : i < ds.length := by omega
      obtain ⟨sv, hsv1, hsv2⟩ := hS.right (List.getElem?_eq_getElem hil)
      have st := hD.step i ss[i] (List.getElem?_eq_getElem hil)
      have ok := hD.ok ss[i] (List.getElem_mem hil)
      rw [List.getElem?_eq_getElem hid] at st
      have hdcl : ∀ (j : Nat) d, (ds.take i)[j]? = some d → d.length ≤ 30 := fun j d hj => by
        rw [List.getElem?_take] at hj
        split at hj
        · have := (hD.clause hcs j d hj).len
          omega
        · cases hj
      have hdl : dvs.length = i := by
        rw [hC.len, List.length_take]
        omega
      have ht := take_snoc (List.getElem?_eq_getElem hid)
      -- one more clause
      have push : ∀ {cv : V} {H3 : Hp}, Ex H' H3 → Cv H3 cv ds[i] → Ex H (upd H3 p (.lst (dvs ++ [cv]))) ∧ Cvs (upd H3 p (.lst (dvs ++ [cv]))) (dvs ++ [cv]) (ds.take (i + 1)) := fun {cv H3} e hcv => by
        have t3 : Tst H3 (upd H3 p (.lst (dvs ++ [cv]))) := Tst.lst (e _ _ hp')
        refine ⟨Ex.mut (hE.trans e) hp, ?_⟩
        rw [ht]
        exact (hC.t ((Tst.ex e).trans t3)).snoc (hcv.t t3)
      refine q_asg (v := sv) (ev_ixL (i := (i : Int)) (ev_var rfl) (ev_var rfl) (hE _ _ ha) (atI_nat hsv1)) fun H2 e2 => ?_
      have hE2 := hE.trans e2
      have hsv := hsv2.t (.ex hE2)
      cases hs : ss[i] with
      | ax j =>
        rw [hs] at st hsv
        obtain ⟨r, rfl, hr1⟩ := hsv
        have hcj : cs[j]? = some ds[i] := st
        obtain ⟨u, hu, hcu⟩ := f3.right hcj
        have hjl := (List.getElem?_eq_some_iff.mp hcj).1
        refine s_if (b := true) (et_is (et_and (et_eqI (ev_lenT (ev_var rfl) hr1) ev_c) fun _ => et_and (et_eqSb (x := .ofString "axiom") true (ev_ixT (i := 0) (ev_var rfl) ev_c hr1 rfl) ev_c (by decide +kernel)) fun _ => et_and (et_B (ev_isint (i := (j : Nat)) (ev_ixT (ev_var rfl) ev_c hr1 rfl))) fun _ => et_and (et_I0 ev_c (ev_ixT (v := vN j) (ev_var rfl) ev_c hr1 rfl)) fun _ => et_I0 (ev_ixT (v := vN j) (ev_var rfl) ev_c hr1 rfl) (ev_lenT (ev_ixT (ev_var rfl) ev_c (hE2 _ _ f1) rfl) (hE2 _ _ f2))) ?_) (fun _ H3 e3 => ?_) fun z => by cases z
        · rw [decide_eq_true (show (0 : Int) ≤ (j : Int) by omega), decide_eq_true (show (j : Int) < (cvs.length : Int) by omega)]
          rfl
        · have hE3 := hE2.trans e3
          refine s_app (e3 _ _ (e2 _ _ hp')) (ev_var rfl) (ev_ixT (v := u) (ev_ixT (ev_var rfl) ev_c (hE3 _ _ f1) rfl) (ev_ixT (v := vN j) (ev_var rfl) ev_c (e3 _ _ hr1) rfl) (hE3 _ _ f2) (atI_nat hu)) (by omega) fun H4 e4 => ?_
          obtain ⟨q1, q2⟩ := push ((e2.trans e3).trans e4) (hcu.t (.ex (hE3.trans e4)))
          exact ⟨_, _, _, _, _, _, rfl, q1, upd_same, q2⟩
      | res i1 j1 x =>
        rw [hs] at st hsv ok
        obtain ⟨r, rfl, hr1⟩ := hsv
        obtain ⟨c1, c2, g1, g2, m1, m2, hmk⟩ := stepC_res st
        obtain ⟨u1, hu1, u1a, rfl, hc1⟩ := hC.right g1
        obtain ⟨u2, hu2, u2a, rfl, hc2⟩ := hC.right g2
        have hi1 := (List.getElem?_eq_some_iff.mp hu1).1
        have hi2 := (List.getElem?_eq_some_iff.mp hu2).1
        have z1 := hdcl _ _ g1
        have z2 := hdcl _ _ g2
        have hr1' : H2 r = some (.tup (.str "resolve" :: ([(i1 : Int), (j1 : Int), x]).map V.int)) := hr1
        refine s_if (b := false) (et_is (et_and (b := false) (et_eqI (ev_lenT (ev_var rfl) hr1) ev_c) fun z => (by cases z)) rfl) (fun z => by cases z) (fun _ H3 e3 => ?_)
        have h3 := e3 _ _ hr1
        refine s_if (b := true) (et_is (et_and (et_eqI (ev_lenT (ev_var rfl) h3) ev_c) fun _ => et_and (et_eqSb (x := .ofString "resolve") true (ev_ixT (i := 0) (ev_var rfl) ev_c h3 rfl) ev_c (by decide +kernel)) fun _ => et_and (et_B (ev_lints (ep_cut1 (ev_var rfl) (e3 _ _ hr1')) ev_c (by simp))) fun _ => et_and (et_inR (ev_ixT (v := vN i1) (ev_var rfl) ev_c h3 rfl) (ev_var rfl)) fun _ => et_inR (ev_ixT (v := vN j1) (ev_var rfl) ev_c h3 rfl) (ev_var rfl)) ?_) (fun _ H4 e4 => ?_) fun z => by cases z
        · rw [decide_eq_true (show (0 : Int) ≤ (i1 : Int) ∧ (i1 : Int) < (i : Int) by omega), decide_eq_true (show (0 : Int) ≤ (j1 : Int) ∧ (j1 : Int) < (i : Int) by omega)]
          rfl
        · have e24 := (e2.trans e3).trans e4
          have h4 := e4 _ _ h3
          refine q_asg (v := .ref u1a) (ev_ixL (i := (i1 : Int)) (ev_var rfl) (ev_ixT (v := vN i1) (ev_var rfl) ev_c h4 rfl) (e24 _ _ hp') (atI_nat hu1)) fun H5 e5 => ?_
          refine q_asg (v := .ref u2a) (ev_ixL (i := (j1 : Int)) (ev_var rfl) (ev_ixT (v := vN j1) (ev_var rfl) ev_c (e5 _ _ h4) rfl) (e5 _ _ (e24 _ _ hp')) (atI_nat hu2)) fun H6 e6 => ?_
          have e26 := (e24.trans e5).trans e6
          have h6 := e6 _ _ (e5 _ _ h4)
          refine q_when (b := false) (et_is (et_or (et_ninT (ev_ixT (v := .int x) (ev_var rfl) ev_c h6 rfl) (ev_var rfl) (e26 _ _ hc1)) fun _ => et_ninT (ev_neg (ev_ixT (v := .int x) (ev_var rfl) ev_c h6 rfl)) (ev_var rfl) (e26 _ _ hc2)) ?_) (fun z => by cases z) fun _ H7 e7 => ?_
          · have a1 : c1.contains x = true := by simpa using m1
            have a2 : c2.contains (-x) = true := by simpa using m2
            rw [a1, a2]
            rfl
          have e27 := e26.trans e7
          have h7 := e7 _ _ h6
          refine q_asgP (P := fun v H' => Cv H' v ds[i]) (fun H8 e8 Q q => el_res (v := x) (ev_var rfl) (ev_var rfl) (e27 _ _ hc1) (e27 _ _ hc2) (by omega) (by omega) (fun x => rfl) (fun x => rfl) (fun l H9 e9 => ev_ixT (v := .int x) (ev_var rfl) ev_c (e9 _ _ h7) rfl) (fun l H9 e9 => ev_neg (ev_ixT (v := .int x) (ev_var rfl) ev_c (e9 _ _ h7) rfl)) H8 e8 _ fun t H9 ht e9 h9 =>
            ⟨_, without c1 x ++ without c2 (-x), rfl, ⟨t, rfl, .inl h9⟩, by
              have w1 : (without c1 x).length ≤ c1.length := List.length_filter_le ..
              have w2 : (without c2 (-x)).length ≤ c2.length := List.length_filter_le ..
              rw [List.length_append]
              omega, fun v' H10 e10 hv' => q v' H10 (e9.trans e10) (by rw [hmk] at hv'; exact hv')⟩) fun cv H8 e8 hcv => ?_
          refine q_when (b := false) (et_is (et_isN (ev_var rfl)) hcv.notN) (fun z => by cases z) fun _ H9 e9 => ?_
          refine s_app (e9 _ _ (e8 _ _ (e27 _ _ hp'))) (ev_var rfl) (ev_var rfl) (by omega) fun H10 e10 => ?_
          obtain ⟨q1, q2⟩ := push (((e27.trans e8).trans e9).trans e10) (hcv.t (.ex (e9.trans e10)))
          exact ⟨_, _, _, _, _, _, rfl, q1, upd_same, q2⟩
    · rintro σ' H' ⟨dvs, x3, x4, x5, x6, x7, rfl, hE, hp', hC⟩
      have em : ((svs.length : Nat) : Int).toNat = ds.length := by omega
      rw [em, List.take_length] at hC
      exact s_ret (ev_var rfl) fun H2 e2 => k _ H2 (hE.trans e2) ⟨p, dvs, rfl, hp, e2 _ _ hp', hC.t (.ex e2)⟩
def sp_one : Sp := fun vs H Q _ => ∃ (fv sv : V) (a : Addr) (n : Int) (cs : List Cl) (dvs : List V) (ds : List Cl) (s : Step) (d : Cl), vs = [fv, .ref a, sv] ∧ Fv H fv n cs ∧ H a = some (.lst dvs) ∧ Cvs H dvs ds ∧ Sv H sv s ∧ stepC cs ds s = some d ∧ (∀ e ∈ ds, e.length ≤ 30) ∧ ∀ v H', Ex H H' → Cv H' v d → Q v H'
theorem ok_law_one (T : Txt K mg cS cL) : C8.Cal P w K mg base 3 "_law_one" sp_one [] := by
  have G_law_is_int : C8.Cal P w K mg base 1 "_law_is_int" sp_isint [] := ok_law_is_int T
  have G_law_ints : C8.Cal P w K mg base 2 "_law_ints" sp_ints [] := ok_law_ints T
  have G_law_clause_of : C8.Cal P w K mg base 1 "_law_clause_of" sp_clause_of [] := ok_law_clause_of T
  refine calD T.d_law_one sc_law_one (fun vs H Q E h => ?_) fun f cdv A outer s H vs Q E hr h => ?_
  · obtain ⟨fv, sv, a, n, cs, dvs, ds, s, d, rfl, _⟩ := h
    rfl
  · obtain ⟨fv, sv, a, n, cs, dvs, ds, s, d, rfl, ⟨fa, fb, cvs, rfl, f1, f2, f3⟩, ha, hC, hsv, st, hz, k⟩ := h
    refine ⟨_, (pss_cons (ps_if (PW.pt (pw_and (pt_cmpR op_eq (pe_callB (k_len (K := K)) (by rfl) T.z_len PySem.boot_len (pa_cons (pv 2) pa_nil)) pe_int (nomark _)) (pw_and (pt_cmpR op_eq (pe_ix (k_ixT (K := K)) (pv 2) pe_int (fun _ _ => rfl)) pe_str (nomark _)) (pw_and (pt_val (C8.pe_c G_law_is_int hr (by decide) (by rfl) (pa_cons (pe_ix (k_ixT (K := K)) (pv 2) pe_int (fun _ _ => rfl)) pa_nil))) (pw_and1 (pt_cmpR op_in_rng (pe_ix (k_ixT (K := K)) (pv 2) pe_int (fun _ _ => rfl)) (pe_callTy cr_range1 (by rfl) T.z_range (by decide +kernel) (pa_cons (pe_callB (k_len (K := K)) (by rfl) T.z_len PySem.boot_len (pa_cons (pe_ix (k_ixT (K := K)) (pv 0) pe_int (fun _ _ => rfl)) pa_nil)) pa_nil)) (by rfl))))))) (pss_one (ps_ret (pe_ix (k_ixT (K := K)) (pe_ix (k_ixT (K := K)) (pv 0) pe_int (fun _ _ => rfl)) (pe_ix (k_ixT (K := K)) (pv 2) pe_int (fun _ _ => rfl)) (fun _ _ => rfl)))) pss_nil)
      (pss_cons (ps_if (PW.pt (pw_or (pt_cmpR op_ne (pe_callB (k_len (K := K)) (by rfl) T.z_len PySem.boot_len (pa_cons (pv 2) pa_nil)) pe_int (nomark _)) (pw_or (pt_cmpR op_ne (pe_ix (k_ixT (K := K)) (pv 2) pe_int (fun _ _ => rfl)) pe_str (nomark _)) (pw_or1 (pt_not (pt_val (C8.pe_c G_law_ints hr (by decide) (by rfl) (pa_cons (pe_slice sl_tupA (pv 2) (po_some pe_int) po_none) (pa_cons pe_str pa_nil))))))))) (pss_one (ps_ret pe_non)) pss_nil)
      (pss_cons (ps_if (PW.pt (pw_or (pt_cmpR op_notin_rng (pe_ix (k_ixT (K := K)) (pv 2) pe_int (fun _ _ => rfl)) (pe_callTy cr_range1 (by rfl) T.z_range (by decide +kernel) (pa_cons (pe_callB (k_len (K := K)) (by rfl) T.z_len PySem.boot_len (pa_cons (pv 1) pa_nil)) pa_nil)) (by rfl)) (pw_or1 (pt_cmpR op_notin_rng (pe_ix (k_ixT (K := K)) (pv 2) pe_int (fun _ _ => rfl)) (pe_callTy cr_range1 (by rfl) T.z_range (by decide +kernel) (pa_cons (pe_callB (k_len (K := K)) (by rfl) T.z_len PySem.boot_len (pa_cons (pv 1) pa_nil)) pa_nil)) (by rfl))))) (pss_one (ps_ret pe_non)) pss_nil)
      (pss_cons (ps_set (i := 3) sc_law_one.nd rfl (Or.inl rfl) (pe_ix (k_ixL (K := K)) (pv 1) (pe_ix (k_ixT (K := K)) (pv 2) pe_int (fun _ _ => rfl)) (fun _ _ => rfl)))
      (pss_cons (ps_set (i := 4) sc_law_one.nd rfl (Or.inl rfl) (pe_ix (k_ixL (K := K)) (pv 1) (pe_ix (k_ixT (K := K)) (pv 2) pe_int (fun _ _ => rfl)) (fun _ _ => rfl)))
      (pss_cons (ps_if (PW.pt (pw_or (pt_cmpR (k_nin (K := K)) (pe_ix (k_ixT (K := K)) (pv 2) pe_int (fun _ _ => rfl)) (pv 3) (by rfl)) (pw_or1 (pt_cmpR (k_nin (K := K)) (pe_un un_neg (pe_ix (k_ixT (K := K)) (pv 2) pe_int (fun _ _ => rfl))) (pv 4) (by rfl))))) (pss_one (ps_ret pe_non)) pss_nil)
      (pss_one (ps_ret (C8.pe_c G_law_clause_of hr (by decide) (by rfl) (pa_cons (pe_op op_cat (pe_lc (own := [("_law_x", 5)]) (g := gName 5) rfl sc_law_one.nd (pi_tup (pv 3)) (blkOk_by (N := n_law_one) (sc := defScope s_law_one) (by decide +kernel)) (fun _ _ _ _ _ => pg_name (i := 5) sc_law_one.nd rfl (Or.inl rfl)) (fun _ _ _ _ _ => pts_one (pt_cmpR op_ne (pv 5) (pe_ix (k_ixT (K := K)) (pv 2) pe_int (fun _ _ => rfl)) (nomark _))) (fun _ _ _ _ _ => (pv 5))) (pe_lc (own := [("_law_x", 5)]) (g := gName 5) rfl sc_law_one.nd (pi_tup (pv 4)) (blkOk_by (N := n_law_one) (sc := defScope s_law_one) (by decide +kernel)) (fun _ _ _ _ _ => pg_name (i := 5) sc_law_one.nd rfl (Or.inl rfl)) (fun _ _ _ _ _ => pts_one (pt_cmpR op_ne (pv 5) (pe_un un_neg (pe_ix (k_ixT (K := K)) (pv 2) pe_int (fun _ _ => rfl))) (nomark _))) (fun _ _ _ _ _ => (pv 5)))) pa_nil)))))))))), ?_⟩
    have l3 := f3.len
    have lC := hC.len
    cases s with
    | ax j =>
      obtain ⟨r, rfl, hr1⟩ := hsv
      obtain ⟨u, hu, hcu⟩ := f3.right st
      have hjl := (List.getElem?_eq_some_iff.mp hu).1
      refine q_when (b := true) (et_is (et_and (et_eqI (ev_lenT (ev_var rfl) hr1) ev_c) fun _ => et_and (et_eqSb (x := .ofString "axiom") true (ev_ixT (i := 0) (ev_var rfl) ev_c hr1 rfl) ev_c (by decide +kernel)) fun _ => et_and (et_B (ev_isint (i := (j : Nat)) (ev_ixT (ev_var rfl) ev_c hr1 rfl))) fun _ => et_inR (ev_ixT (v := vN j) (ev_var rfl) ev_c hr1 rfl) (ev_lenT (ev_ixT (ev_var rfl) ev_c f1 rfl) f2)) ?_) (fun _ H3 e3 => ?_) fun z => by cases z
      · rw [decide_eq_true (show (0 : Int) ≤ (j : Int) ∧ (j : Int) < (cvs.length : Int) by omega)]
        rfl
      · exact s_ret (ev_ixT (v := u) (ev_ixT (ev_var rfl) ev_c (e3 _ _ f1) rfl) (ev_ixT (i := (1 : Int)) (v := vN j) (ev_var rfl) ev_c (e3 _ _ hr1) rfl) (e3 _ _ f2) (atI_nat hu)) fun H4 e4 => k u H4 (e3.trans e4) (hcu.t (.ex (e3.trans e4)))
    | res i1 j1 x =>
      obtain ⟨r, rfl, hr1⟩ := hsv
      obtain ⟨c1, c2, g1, g2, m1, m2, hmk⟩ := stepC_res st
      obtain ⟨u1, hu1, u1a, rfl, hc1⟩ := hC.right g1
      obtain ⟨u2, hu2, u2a, rfl, hc2⟩ := hC.right g2
      have hi1 := (List.getElem?_eq_some_iff.mp hu1).1
      have hi2 := (List.getElem?_eq_some_iff.mp hu2).1
      have z1 := hz c1 (List.mem_of_getElem? g1)
      have z2 := hz c2 (List.mem_of_getElem? g2)
      have hr1' : H r = some (.tup (.str "resolve" :: ([(i1 : Int), (j1 : Int), x]).map V.int)) := hr1
      refine q_when (b := false) (et_is (et_and (b := false) (et_eqI (ev_lenT (ev_var rfl) hr1) ev_c) fun z => (by cases z)) rfl) (fun z => by cases z) (fun _ H3 e3 => ?_)
      have h3 := e3 _ _ hr1
      refine q_when (b := false) (et_is (et_or (et_neI (ev_lenT (ev_var rfl) h3) ev_c) fun _ => et_or (et_test (ev_op (x := .str "resolve") (ev_ixT (i := 0) (ev_var rfl) ev_c h3 rfl) ev_c (rv_ne rfl))) fun _ => et_not (et_B (ev_lints (ep_cut1 (ev_var rfl) (e3 _ _ hr1')) ev_c (by simp)))) (by simp)) (fun z => by cases z) (fun _ H4 e4 => ?_)
      have h4 := e4 _ _ h3
      have e34 := e3.trans e4
      refine q_when (b := false) (et_is (et_or (et_ninR (ev_ixT (v := vN i1) (ev_var rfl) ev_c h4 rfl) (ev_lenL (ev_var rfl) (e34 _ _ ha))) fun _ => et_ninR (ev_ixT (v := vN j1) (ev_var rfl) ev_c h4 rfl) (ev_lenL (ev_var rfl) (e34 _ _ ha))) ?_) (fun z => by cases z) (fun _ H4' e4' => ?_)
      · rw [decide_eq_true (show (0 : Int) ≤ (i1 : Int) ∧ (i1 : Int) < (dvs.length : Int) by omega), decide_eq_true (show (0 : Int) ≤ (j1 : Int) ∧ (j1 : Int) < (dvs.length : Int) by omega)]
        rfl
      have e24 := e34.trans e4'
      have h4' := e4' _ _ h4
      refine q_asg (v := .ref u1a) (ev_ixL (i := (i1 : Int)) (ev_var rfl) (ev_ixT (v := vN i1) (ev_var rfl) ev_c h4' rfl) (e24 _ _ ha) (atI_nat hu1)) fun H5 e5 => ?_
      refine q_asg (v := .ref u2a) (ev_ixL (i := (j1 : Int)) (ev_var rfl) (ev_ixT (v := vN j1) (ev_var rfl) ev_c (e5 _ _ h4') rfl) (e5 _ _ (e24 _ _ ha)) (atI_nat hu2)) fun H6 e6 => ?_
      have e26 := (e24.trans e5).trans e6
      have h6 := e6 _ _ (e5 _ _ h4')
      refine q_when (b := false) (et_is (et_or (et_ninT (ev_ixT (v := .int x) (ev_var rfl) ev_c h6 rfl) (ev_var rfl) (e26 _ _ hc1)) fun _ => et_ninT (ev_neg (ev_ixT (v := .int x) (ev_var rfl) ev_c h6 rfl)) (ev_var rfl) (e26 _ _ hc2)) ?_) (fun z => by cases z) fun _ H7 e7 => ?_
      · have a1 : c1.contains x = true := by simpa using m1
        have a2 : c2.contains (-x) = true := by simpa using m2
        rw [a1, a2]
        rfl
      have e27 := e26.trans e7
      have h7 := e7 _ _ h6
      refine s_retP (P := fun v H' => Cv H' v d) (fun H8 e8 Q q => el_res (v := x) (ev_var rfl) (ev_var rfl) (e27 _ _ hc1) (e27 _ _ hc2) (by omega) (by omega) (fun x => rfl) (fun x => rfl) (fun l H9 e9 => ev_ixT (v := .int x) (ev_var rfl) ev_c (e9 _ _ h7) rfl) (fun l H9 e9 => ev_neg (ev_ixT (v := .int x) (ev_var rfl) ev_c (e9 _ _ h7) rfl)) H8 e8 _ fun t H9 ht e9 h9 =>
        ⟨_, without c1 x ++ without c2 (-x), rfl, ⟨t, rfl, .inl h9⟩, by
          have w1 : (without c1 x).length ≤ c1.length := List.length_filter_le ..
          have w2 : (without c2 (-x)).length ≤ c2.length := List.length_filter_le ..
          rw [List.length_append]
          omega, fun v' H10 e10 hv' => q v' H10 (e9.trans e10) (by rw [hmk] at hv'; exact hv')⟩) fun cv H8 e8 hcv => k cv H8 (e27.trans e8) hcv
def sp_read : Sp := fun vs H Q _ => ∃ (fv : V) (a : Addr) (n : Int) (cs : List Cl) (svs : List V) (ss : List Step) (ds : List Cl), vs = [fv, .ref a] ∧ Fv H fv n cs ∧ H a = some (.tup svs) ∧ Svs H svs ss ∧ Drv n cs ss ds ∧ (∀ c ∈ cs, Clause n c) ∧ (0 ≤ n ∧ n ≤ 30) ∧ ss.length ≤ 10000 ∧ ∀ v H', Ex H H' → LvN H H' v ds → Q v H'
theorem ok_law_read (T : Txt K mg cS cL) : C8.Cal P w K mg base 4 "_law_read" sp_read [] := by
  have G_law_is_int : C8.Cal P w K mg base 1 "_law_is_int" sp_isint [] := ok_law_is_int T
  have G_law_one : C8.Cal P w K mg base 3 "_law_one" sp_one [] := ok_law_one T
  have G_law_clause_of : C8.Cal P w K mg base 1 "_law_clause_of" sp_clause_of [] := ok_law_clause_of T
  refine calD T.d_law_read sc_law_read (fun vs H Q E h => ?_) fun f cdv A outer s H vs Q E hr h => ?_
  · obtain ⟨fv, a, n, cs, svs, ss, ds, rfl, _⟩ := h
    rfl
  · obtain ⟨fv, a, n, cs, svs, ss, ds, rfl, hF, ha, hS, hD, hcs, hn, hz, k⟩ := h
    refine ⟨_, (pss_cons (ps_set (i := 2) sc_law_read.nd rfl (Or.inl rfl) (pe_lst pa_nil))
      (pss_cons (ps_for PassesOwn.never rfl (pi_range1 (by rfl) T.z_range (pa_cons (pe_callB (k_len (K := K)) (by rfl) T.z_len PySem.boot_len (pa_cons (pv 1) pa_nil)) pa_nil)) (pg_name (i := 3) sc_law_read.nd rfl (Or.inl rfl))
        (pss_cons (ps_set (i := 4) sc_law_read.nd rfl (Or.inr rfl) (pe_ix (k_ixT (K := K)) (pv 1) (pv 3) (fun _ _ => rfl)))
      (pss_one (ps_if (PW.pt (pw_and (pt_cmpR op_eq (pe_callB (k_len (K := K)) (by rfl) T.z_len PySem.boot_len (pa_cons (pv 4) pa_nil)) pe_int (nomark _)) (pw_and (pt_cmpR op_eq (pe_ix (k_ixT (K := K)) (pv 4) pe_int (fun _ _ => rfl)) pe_str (nomark _)) (pw_and (pt_val (C8.pe_c G_law_is_int hr (by decide) (by rfl) (pa_cons (pe_ix (k_ixT (K := K)) (pv 4) pe_int (fun _ _ => rfl)) pa_nil))) (pw_and1 (pt_cmpR op_in_rng (pe_ix (k_ixT (K := K)) (pv 4) pe_int (fun _ _ => rfl)) (pe_callTy cr_range1 (by rfl) T.z_range (by decide +kernel) (pa_cons (pv 3) pa_nil)) (by rfl))))))) (pss_cons (ps_if (PW.pt (pw_or (pt_cmpR op_gt (pe_callB (k_len (K := K)) (by rfl) T.z_len PySem.boot_len (pa_cons (pe_lc (own := [("_law_x", 6)]) (g := gName 6) rfl sc_law_read.nd (pi_tup (pe_ix (k_ixL (K := K)) (pv 2) (pe_ix (k_ixT (K := K)) (pv 4) pe_int (fun _ _ => rfl)) (fun _ _ => rfl))) (blkOk_by (N := n_law_read) (sc := defScope s_law_read) (by decide +kernel)) (fun _ _ _ _ _ => pg_name (i := 6) sc_law_read.nd rfl (Or.inl rfl)) (fun _ _ _ _ _ => pts_one (pt_cmpR (k_nin (K := K)) (pv 6) (pe_ix (k_ixT (K := K)) (pv 4) pe_int (fun _ _ => rfl)) (by rfl))) (fun _ _ _ _ _ => (pv 6))) pa_nil)) pe_int (nomark _)) (pw_or1 (pt_cmpR (k_neD (K := K) hr.units) (C8.pe_c G_law_clause_of hr (by decide) (by rfl) (pa_cons (pe_callTy (k_lst (K := K)) (by rfl) T.z_list (by decide +kernel) (pa_cons (pe_ix (k_ixT (K := K)) (pv 4) pe_int (fun _ _ => rfl)) pa_nil)) pa_nil)) (pe_ix (k_ixT (K := K)) (pv 4) pe_int (fun _ _ => rfl)) (nomark _))))) (pss_one (ps_ret pe_non)) pss_nil)
      (pss_one (ps_expr (pe_bm PySem.F.plainAttrs_list PySem.F.slot_list_append PySem.F.type_list_append mt_append (pv 2) (pa_cons (pe_ix (k_ixT (K := K)) (pv 4) pe_int (fun _ _ => rfl)) pa_nil))))) (pss_cons (ps_set (i := 5) sc_law_read.nd rfl (Or.inl rfl) (C8.pe_c G_law_one hr (by decide) (by rfl) (pa_cons (pv 0) (pa_cons (pv 2) (pa_cons (pv 4) pa_nil)))))
      (pss_cons (ps_if (pt_cmpR op_isN (pv 5) pe_non (nomark _)) (pss_one (ps_ret pe_non)) pss_nil)
      (pss_one (ps_expr (pe_bm PySem.F.plainAttrs_list PySem.F.slot_list_append PySem.F.type_list_append mt_append (pv 2) (pa_cons (pv 5) pa_nil))))))))))
      (pss_one (ps_ret (pv 2))))), ?_⟩
    have lS := hS.len
    have lD := hD.len
    refine q_asgL (el_lst ea_nil (by decide)) fun p H1 hp e1 h1 => ?_
    refine q_forR1 (ea_cons (ev_lenT (ev_var rfl) (e1 _ _ ha)) ea_nil) (by omega)
      (fun i σ H' => ∃ (dvs : List V) (x3 x4 x5 : Option V), σ = [some fv, some (.ref a), some (.ref p), x3, x4, x5, none] ∧ Ex H H' ∧ H' p = some (.lst dvs) ∧ Cvs H' dvs (ds.take i))
      (fun H2 e2 => ⟨[], none, none, none, rfl, e1.trans e2, e2 _ _ h1, .nil⟩) ?_ ?_
    · rintro i σ' H' hi ⟨dvs, x3, x4, x5, rfl, hE, hp', hC⟩
      have hil : i < ss.length := by omega
      have hid : i < ds.length := by omega
      obtain ⟨sv, hsv1, hsv2⟩ := hS.right (List.getElem?_eq_getElem hil)
      have st := hD.step i ss[i] (List.getElem?_eq_getElem hil)
      rw [List.getElem?_eq_getElem hid] at st
      have hdl : dvs.length = i := by
        rw [hC.len, List.length_take]
        omega
      have ht := take_snoc (List.getElem?_eq_getElem hid)
      refine q_asg (v := sv) (ev_ixT (i := (i : Int)) (ev_var rfl) (ev_var rfl) (hE _ _ ha) (atI_nat hsv1)) fun H2 e2 => ?_
      have hE2 := hE.trans e2
      have hsv := hsv2.t (.ex hE2)
      have hlen : ∃ (r : Addr) (ws : List V), sv = .ref r ∧ H2 r = some (.tup ws) ∧ ((ws.length : Int) = 3) = False := by
        cases hs : ss[i] with
        | ax j =>
          rw [hs] at hsv
          obtain ⟨r, h1, h2⟩ := hsv
          exact ⟨r, _, h1, h2, by simp⟩
        | res i1 j1 x =>
          rw [hs] at hsv
          obtain ⟨r, h1, h2⟩ := hsv
          exact ⟨r, _, h1, h2, by simp⟩
      obtain ⟨r, ws, rfl, hr1, h3⟩ := hlen
      refine s_if (b := false) (et_is (et_and (b := false) (et_eqI (ev_lenT (ev_var rfl) hr1) ev_c) fun z => absurd (of_decide_eq_true z) (by rw [h3]; exact id)) (Bool.and_false _)) (fun z => by cases z) (fun _ H3 e3 => ?_)
      have e23 := e2.trans e3
      refine q_asgP (P := fun v H' => Cv H' v ds[i]) (ep_call (ea_cons (ev_var rfl) (ea_cons (ev_var rfl) (ea_cons (ev_var rfl) ea_nil))) fun H4 e4 Q q E => ⟨fv, .ref r, p, n, cs, dvs, ds.take i, ss[i], ds[i], rfl, hF.t (.ex ((hE.trans e23).trans e4)), (e23.trans e4) _ _ hp', hC.t (.ex (e23.trans e4)), hsv.t (.ex (e3.trans e4)), st, fun e he => ?_, q⟩) fun cv H4 e4 hcv => ?_
      · obtain ⟨j, hj⟩ := List.getElem?_of_mem (List.mem_of_mem_take he)
        have := (hD.clause hcs j e hj).len
        omega
      refine q_when (b := false) (et_is (et_isN (ev_var rfl)) hcv.notN) (fun z => by cases z) fun _ H5 e5 => ?_
      refine s_app (e5 _ _ (e4 _ _ (e23 _ _ hp'))) (ev_var rfl) (ev_var rfl) (by omega) fun H6 e6 => ?_
      have ee := ((e23.trans e4).trans e5).trans e6
      have t6 : Tst H6 (upd H6 p (.lst (dvs ++ [cv]))) := Tst.lst (ee _ _ hp')
      refine ⟨_, _, _, _, rfl, Ex.mut (hE.trans ee) hp, upd_same, ?_⟩
      rw [ht]
      exact (hC.t ((Tst.ex ee).trans t6)).snoc (hcv.t ((Tst.ex (e5.trans e6)).trans t6))
    · rintro σ' H' ⟨dvs, x3, x4, x5, rfl, hE, hp', hC⟩
      have em : ((svs.length : Nat) : Int).toNat = ds.length := by omega
      rw [em, List.take_length] at hC
      exact s_ret (ev_var rfl) fun H2 e2 => k _ H2 (hE.trans e2) ⟨p, dvs, rfl, hp, e2 _ _ hp', hC.t (.ex e2)⟩
end
end K75
set_option Elab.async false
set_option linter.all false
set_option maxRecDepth 100000
set_option maxHeartbeats 4000000
/-! walks of the law: pushed, at_once, good_log -/
namespace K75
open PySem PySem.Spec PyProof.Rows L2 Evl

section
variable {K : PySem.W.Frag} {σ : L2.St} {H H' : Hp} {ta tb te tl tn : TE} {D : Ends} {tz tu : TS} {xs : List V}
theorem el_catV {ys : List V} {m : Addr} (ha : EvL ta σ H xs) (hb : Ev tb σ H (.ref m)) (hm : H m = some (.lst ys)) (hz : xs.length + ys.length ≤ 100000) : EvL (tOp rCat ta tb) σ H (xs ++ ys) := fun H1 e Q q =>
  ha H1 e _ fun p H2 hp e2 h2 => hb H2 (e.trans e2) _ fun H3 e3 => ⟨p, m, xs, ys, rfl, rfl, e3 _ _ h2, ((e.trans e2).trans e3) _ _ hm, sz_of hz, fun t ht => q t _ (fresh_back (e2.trans e3) ht) ((e2.trans e3).trans (Ex.new ht)) upd_same⟩
/-- list(a list or tuple that an expression gives) -/
theorem el_listP (h : EvP te σ H fun v H' => ∃ a, v = .ref a ∧ (H' a = some (.lst xs) ∨ H' a = some (.tup xs))) : EvL (tCB (rListS K) (tCons te tNil)) σ H xs := fun H1 e Q q =>
  h H1 e _ fun v H2 e2 ⟨a, hv, ha⟩ => ⟨a, xs, by rw [hv], ha.imp (fun z => sq_of z) (fun z => st_of z), fun l hl => q l _ (fresh_back e2 hl) (e2.trans (Ex.new hl)) upd_same⟩
theorem s_unless {R : Bool → Prop} (h : EvP te σ H fun v _ => ∃ b, v = .bl b ∧ R b) (h1 : R false → ∀ H1, Ex H H1 → tu D σ H1) (h2 : R true → ∀ H1, Ex H H1 → D.nx σ H1) : tIfS (tNot (tB te)) tu tNext D σ H :=
  h.go fun v H1 e ⟨b, hv, hb⟩ => ⟨b, hv, by
    cases b with
    | true => exact h2 hb H1 e
    | false => exact h1 hb H1 e⟩
theorem ep_cutL {a : Addr} {k : Nat} (h : Ev te σ H (.ref a)) (hk : Ev tn σ H (vN k)) (ha : H a = some (.lst xs)) : EvP (tSl (rSlL K) te tNoPart (tPart tn)) σ H fun v H' => ∃ a, v = .ref a ∧ (H' a = some (.lst (xs.take k)) ∨ H' a = some (.tup (xs.take k))) := fun H1 e Q q => by
  refine el_sl h eo_none (eo_some hk) (sq_of ha) H1 e Q fun p H2 hp e2 h2 => q _ H2 e2 ⟨p, rfl, .inl ?_⟩
  rw [h2, cut_take]
theorem ep_cutT {a : Addr} {k : Nat} (h : Ev te σ H (.ref a)) (hk : Ev tn σ H (vN k)) (ha : H a = some (.tup xs)) : EvP (tSl (rSlA K) te tNoPart (tPart tn)) σ H fun v H' => ∃ a, v = .ref a ∧ (H' a = some (.lst (xs.take k)) ∨ H' a = some (.tup (xs.take k))) := fun H1 e Q q =>
  h H1 e _ fun H2 e2 => hk H2 (e.trans e2) _ fun H3 e3 => by
    have h3 := ((e.trans e2).trans e3) _ _ ha
    refine ⟨(k : Int), rfl, a, xs, rfl, st_of h3, fun z => ?_, fun _ p hp => ?_⟩
    · have z2 := z.2
      rw [HT.sIx_nat] at z2
      refine q _ H3 (e2.trans e3) ⟨a, rfl, .inr ?_⟩
      rw [List.take_of_length_le (by omega)]
      exact h3
    · refine q _ _ ((e2.trans e3).trans (Ex.new hp)) ⟨p, rfl, .inr ?_⟩
      rw [upd_same, cut_take]
end
theorem neg_clause {n : Int} {c : Cl} (h : Clause n c) : Clause n (neg c) := row_clause h fun _ z => z
section
variable {P : Program} {w : World} {K : PySem.W.Frag} {mg : PySem.Str → Option Value} {base : Heap} {cS cL : Addr}
/-- what is known of the next literal after some clauses -/
def Nxt (C : List Cl) (S : List Int) (j : Nat) (x : V) : Prop := (x = .non ∧ ∀ p ∈ C.take j, rest p S ≠ [] ∧ ∀ l, rest p S = [l] → l ∈ S) ∨ ∃ l p, x = .int l ∧ p ∈ C ∧ rest p S = [l] ∧ l ∉ S
def sp_pushed : Sp := fun vs H Q _ => ∃ (fv cv : V) (mo : Addr) (n : Int) (cs more : List Cl) (mvs : List V) (cube : Cl), vs = [fv, .ref mo, cv] ∧ Fv H fv n cs ∧ H mo = some (.lst mvs) ∧ Cvs H mvs more ∧ Cv H cv cube ∧ Clause n cube ∧ (∀ c ∈ cs ++ more, Clause n c) ∧ (cs ++ more).length ≤ 1000 ∧ (0 ≤ n ∧ n ≤ 30) ∧
  (Refutes (cs ++ more) cube → ∀ H', Ex H H' → Q .non H') ∧ (¬ Refutes (cs ++ more) cube → ∀ a H', Ex H H' → Q (.ref a) H')
theorem ok_law_pushed (T : Txt K mg cS cL) : C8.Cal P w K mg base 1 "_law_pushed" sp_pushed [] := by
  refine calD T.d_law_pushed sc_law_pushed (fun vs H Q E h => ?_) fun f cdv A outer s H vs Q E hr h => ?_
  · obtain ⟨fv, cv, mo, n, cs, more, mvs, cube, rfl, _⟩ := h
    rfl
  · obtain ⟨fv, cv, mo, n, cs, more, mvs, cube, rfl, ⟨fa, fb, cvs, rfl, f1, f2, f3⟩, hmo, hmc, ⟨ca, rfl, hca⟩, hc, hcs, hz, hn, k1, k2⟩ := h
    refine ⟨_, (pss_cons (ps_set (i := 3) sc_law_pushed.nd rfl (Or.inr rfl) (pe_callTy (k_lst (K := K)) (by rfl) T.z_list (by decide +kernel) (pa_cons (pv 2) pa_nil)))
      (pss_cons (ps_for PassesOwn.never rfl (pi_range1 (by rfl) T.z_range (pa_cons pe_int pa_nil)) (pg_name (i := 4) sc_law_pushed.nd rfl (Or.inl rfl))
        (pss_cons (ps_set (i := 5) sc_law_pushed.nd rfl (Or.inl rfl) pe_non)
      (pss_cons (ps_for PassesOwn.never rfl (pi_list (pe_op op_cat (pe_callTy (k_lst (K := K)) (by rfl) T.z_list (by decide +kernel) (pa_cons (pe_ix (k_ixT (K := K)) (pv 0) pe_int (fun _ _ => rfl)) pa_nil)) (pv 1))) (pg_name (i := 6) sc_law_pushed.nd rfl (Or.inl rfl))
        (pss_cons (ps_setLc (i := 7) (own := [("_law_literal", 8)]) (g := gName 8) rfl sc_law_pushed.nd rfl rfl (sw_true rfl rfl rfl (by decide +kernel)) (pi_tup (pv 6)) (blkOk_by (N := n_law_pushed) (sc := defScope s_law_pushed) (by decide +kernel)) (fun _ _ _ _ _ => pg_name (i := 8) sc_law_pushed.nd rfl (Or.inl rfl)) (fun _ _ _ _ _ => pts_one (pt_cmpR (k_nin (K := K)) (pe_un un_neg (pv 8)) (pv 3) (by rfl))) (fun _ _ _ _ _ => (pv 8)))
      (pss_cons (ps_if (pt_cmpR op_eq (pe_callB (k_len (K := K)) (by rfl) T.z_len PySem.boot_len (pa_cons (pv 7) pa_nil)) pe_int (nomark _)) (pss_one (ps_ret pe_non)) pss_nil)
      (pss_one (ps_if (PW.pt (pw_and (pt_cmpR op_eq (pe_callB (k_len (K := K)) (by rfl) T.z_len PySem.boot_len (pa_cons (pv 7) pa_nil)) pe_int (nomark _)) (pw_and1 (pt_cmpR (k_nin (K := K)) (pe_ix (k_ixL (K := K)) (pv 7) pe_int (fun _ _ => rfl)) (pv 3) (by rfl))))) (pss_one (ps_set (i := 5) sc_law_pushed.nd rfl (Or.inl rfl) (pe_ix (k_ixL (K := K)) (pv 7) pe_int (fun _ _ => rfl)))) pss_nil)))))
      (pss_cons (ps_if (pt_cmpR op_isN (pv 5) pe_non (nomark _)) (pss_one (ps_ret (pe_callTy (k_tup (K := K)) (by rfl) T.z_tuple (by decide +kernel) (pa_cons (pe_callB (k_sortedA (K := K)) (by rfl) T.z_sorted (by decide +kernel) (pa_cons (pv 3) pa_nil)) pa_nil)))) pss_nil)
      (pss_one (ps_expr (pe_bm PySem.F.plainAttrs_list PySem.F.slot_list_append PySem.F.type_list_append mt_append (pv 3) (pa_cons (pv 5) pa_nil))))))))
      (pss_one (ps_ret pe_non)))), ?_⟩
    generalize hC : cs ++ more = C at hcs hz k1 k2
    have hAll : Cvs H (cvs ++ mvs) C := by rw [← hC]; exact f3.append hmc
    have hAl := hAll.len
    refine q_asgL (el_listT (ev_var rfl) hca) fun fo H1 hfo e1 h1 => ?_
    refine q_forR1 (ea_cons ev_c ea_nil) (by decide)
      (fun i σ H' => ∃ (S : List Int) (x4 x5 x6 x7 : Option V), σ = [some (.ref fa), some (.ref mo), some (.ref ca), some (.ref fo), x4, x5, x6, x7, none] ∧ Ex H H' ∧ H' fo = some (.lst (S.map V.int)) ∧ S.length = cube.length + i ∧ Below C cube S ∧ S.Nodup ∧ Con S ∧ Rng n S ∧ ∀ x ∈ cube, x ∈ S)
      (fun H2 e2 => ⟨cube, none, none, none, none, rfl, e1.trans e2, e2 _ _ h1, rfl, Below.self, asc_nodup hc.asc, hc.con, hc.rng, fun x hx => hx⟩) ?_ ?_
    · rintro i σ' H' hi ⟨S, x4, x5, x6, x7, rfl, hE, hS, hSl, hB, hSn, hSc, hSr, hsub⟩
      have hSlen := con_len hSn hSc hSr
      refine q_asg ev_c fun H2 e2 => ?_
      have hE2 := hE.trans e2
      refine q_forNLn (el_catV (el_listT (ev_ixT (ev_var rfl) ev_c (hE2 _ _ f1) rfl) (hE2 _ _ f2)) (ev_var rfl) (hE2 _ _ hmo) (by rw [← List.length_append]; omega))
        (fun l j σ H' => ∃ (x5 : V) (x6 x7 : Option V), σ = [some (.ref fa), some (.ref mo), some (.ref ca), some (.ref fo), some (.int (i : Int)), some x5, x6, x7, none] ∧ Ex H2 H' ∧ H' l = some (.lst (cvs ++ mvs)) ∧ Nxt C S j x5)
        (fun l H3 hl e3 h3 => ⟨.non, _, _, rfl, e3, h3, .inl ⟨rfl, fun p hp => by simp at hp⟩⟩) (fun l j σ' H' _ ⟨x5, x6, x7, _, _, h, _⟩ => sq_of h) ?_ ?_
      · rintro l j v σ' H3 hv ⟨x5, x6, x7, rfl, e3, hl3, hN⟩
        obtain ⟨p, hp, pa, rfl, hpa⟩ := hAll.left hv
        have hpm := List.mem_of_getElem? hp
        have hpl := (hcs p hpm).len
        have ht := take_snoc hp
        have hE3 := hE2.trans e3
        refine q_asgL (lcI (ls := p) (fun x => !S.contains (-x)) (fun x => x) (src_tup (ev_var rfl) (hE3 _ _ hpa)) (by omega) (fun x => rfl) (fun l H4 e4 _ => et_ninL (ev_neg (ev_var rfl)) (ev_var rfl) (e4 _ _ (e3 _ _ (e2 _ _ hS)))) (fun l H4 e4 _ _ => ev_var rfl)) fun q H4 hq e4 hq2 => ?_
        rw [List.map_id'] at hq2
        have hq3 : H4 q = some (.lst ((rest p S).map V.int)) := hq2
        have lr : (rest p S).length = ((rest p S).map V.int).length := (List.length_map _).symm
        refine q_when (et_eqI (ev_lenL (ev_var rfl) hq3) ev_c) (fun hb H5 e5 => ?_) fun hb H5 e5 => ?_
        · have z := of_decide_eq_true hb
          have rn : rest p S = [] := List.eq_nil_of_length_eq_zero (by omega)
          exact s_ret ev_c fun H6 e6 => k1 (hB.broken hpm rn) H6 (((hE3.trans e4).trans e5).trans e6)
        · have z := of_decide_eq_false hb
          have rn : rest p S ≠ [] := fun y => z (by rw [y]; rfl)
          have keep : ∀ (x5 : V), (∀ l, rest p S = [l] → l ∈ S) → Nxt C S j x5 → Nxt C S (j + 1) x5 := fun x5 hall hN => by
            rcases hN with ⟨e, h⟩ | h
            · refine .inl ⟨e, fun p' hp' => ?_⟩
              rw [ht] at hp'
              rcases List.mem_append.mp hp' with y | y
              · exact h p' y
              · rw [List.mem_singleton.mp y]
                exact ⟨rn, hall⟩
            · exact .inr h
          by_cases h1l : ∃ l, rest p S = [l]
          · obtain ⟨u, hu⟩ := h1l
            have hq4 := e5 _ _ hq3
            rw [hu] at hq4
            refine s_when (b := true && !S.contains u) (et_and (et_is (et_eqI (ev_lenL (ev_var rfl) hq4) ev_c) (by rfl)) fun _ => et_ninL (ev_ixL (ev_var rfl) ev_c hq4 rfl) (ev_var rfl) (e5 _ _ (e4 _ _ (e3 _ _ (e2 _ _ hS))))) (fun hb H6 e6 => ?_) fun hb H6 e6 => ?_
            · refine s_asg (ev_ixL (v := .int u) (ev_var rfl) ev_c (e6 _ _ hq4) rfl) fun H7 e7 => ⟨_, _, _, rfl, (((e3.trans e4).trans e5).trans e6).trans e7, e7 _ _ (e6 _ _ (e5 _ _ (e4 _ _ hl3))), .inr ⟨u, p, rfl, hpm, hu, by simpa using hb⟩⟩
            · refine ⟨_, _, _, rfl, ((e3.trans e4).trans e5).trans e6, e6 _ _ (e5 _ _ (e4 _ _ hl3)), keep _ (fun l hl => ?_) hN⟩
              rw [hu] at hl
              cases hl
              simpa using hb
          · have n1 : (rest p S).length ≠ 1 := fun y => h1l (List.length_eq_one_iff.mp y)
            refine s_when (b := false) (et_is (et_and (b := false) (et_eqI (ev_lenL (ev_var rfl) (e5 _ _ hq3)) ev_c) fun hb => absurd (of_decide_eq_true hb) (by omega)) (Bool.and_false _)) (fun z => by cases z) fun _ H6 e6 =>
              ⟨_, _, _, rfl, ((e3.trans e4).trans e5).trans e6, e6 _ _ (e5 _ _ (e4 _ _ hl3)), keep _ (fun l hl => absurd ⟨l, hl⟩ h1l) hN⟩
      · rintro l σ' H3 ⟨x5, x6, x7, rfl, e3, hl3, hN⟩
        rw [hAl, Nxt, List.take_length] at hN
        have hE3 := hE2.trans e3
        have hS3 := e3 _ _ (e2 _ _ hS)
        rcases hN with ⟨rfl, h⟩ | ⟨u, p, rfl, hp, hu, hnu⟩
        · refine q_when (b := true) (et_is (et_isN (ev_var rfl)) rfl) (fun _ H4 e4 => ?_) fun z => by cases z
          exact s_retU (eu_tsort (fun H5 e5 Q q => ⟨_, rfl, q _ _ (Ex.refl _) ⟨fo, rfl, .inl (e5 _ _ (e4 _ _ hS3))⟩⟩) hSn) fun t H5 ht e5 h5 => k2 (Below.closed hsub h) t H5 ((hE3.trans e4).trans e5)
        · refine q_when (b := false) (et_is (et_isN (ev_var rfl)) rfl) (fun z => by cases z) fun _ H4 e4 => ?_
          refine s_app (e4 _ _ hS3) (ev_var rfl) (ev_var rfl) (by rw [List.length_map]; omega) fun H5 e5 => ?_
          have hpc := hcs p hp
          have T0 : Trail n C S [] [] := ⟨rfl, by rw [List.append_nil]; exact hSn, by rw [List.append_nil]; exact hSc, by rw [List.append_nil]; exact hSr, fun k l r e => by simp at e⟩
          obtain ⟨jp, hjp⟩ := List.getElem?_of_mem hp
          have T1 := T0.snoc (r := jp) (l := u) hjp (by rw [List.append_nil]; exact hu) (by rw [List.append_nil]; exact hnu) hpc
          refine ⟨S ++ [u], _, _, _, _, rfl, Ex.mut ((hE3.trans e4).trans e5) hfo, ?_, by rw [List.length_append, hSl] <;> rfl, hB.snoc hp (asc_nodup hpc.asc) hu, T1.nod, T1.con, T1.rng, fun x hx => List.mem_append_left _ (hsub x hx)⟩
          rw [upd_same, List.map_append] <;> rfl
    · rintro σ' H' ⟨S, x4, x5, x6, x7, rfl, hE, hS, hSl, hB, hSn, hSc, hSr, hsub⟩
      have := con_len hSn hSc hSr
      have e60 : (60 : Int).toNat = 60 := rfl
      omega
def sp_at_once : Sp := fun vs H Q _ => ∃ (fv cv : V) (mo : Addr) (n : Int) (cs more : List Cl) (mvs : List V) (c : Cl), vs = [fv, .ref mo, cv] ∧ Fv H fv n cs ∧ H mo = some (.lst mvs) ∧ Cvs H mvs more ∧ Cv H cv c ∧ Clause n c ∧ (∀ c ∈ cs ++ more, Clause n c) ∧ (cs ++ more).length ≤ 1000 ∧ (0 ≤ n ∧ n ≤ 30) ∧
  ∀ b : Bool, (b = true ↔ Refutes (cs ++ more) (c.map fun x => -x)) → ∀ H', Ex H H' → Q (.bl b) H'
theorem ok_law_at_once (T : Txt K mg cS cL) : C8.Cal P w K mg base 2 "_law_at_once" sp_at_once [] := by
  have G_law_pushed : C8.Cal P w K mg base 1 "_law_pushed" sp_pushed [] := ok_law_pushed T
  have G_law_opposite : C8.Cal P w K mg base 1 "_law_opposite" sp_opposite [] := ok_law_opposite T
  refine calD T.d_law_at_once sc_law_at_once (fun vs H Q E h => ?_) fun f cdv A outer s H vs Q E hr h => ?_
  · obtain ⟨fv, cv, mo, n, cs, more, mvs, c, rfl, _⟩ := h
    rfl
  · obtain ⟨fv, cv, mo, n, cs, more, mvs, c, rfl, hF, hmo, hmc, hcv, hc, hcs, hz, hn, k⟩ := h
    refine ⟨_, (pss_one (ps_ret (pe_cmpR op_isN (C8.pe_c G_law_pushed hr (by decide) (by rfl) (pa_cons (pv 0) (pa_cons (pv 1) (pa_cons (C8.pe_c G_law_opposite hr (by decide) (by rfl) (pa_cons (pv 2) pa_nil)) pa_nil)))) pe_non (nomark _)))), ?_⟩
    have hlen := hc.len
    have mem : ∀ x, x ∈ neg c ↔ x ∈ c.map fun x => -x := fun x => mem_norm
    have hiff : Refutes (cs ++ more) (neg c) ↔ Refutes (cs ++ more) (c.map fun x => -x) := ⟨fun h T hT => h T fun x hx => hT x ((mem x).mp hx), fun h T hT => h T fun x hx => hT x ((mem x).mpr hx)⟩
    have hp : EvP (tCall sp_pushed [] C8.E0 (tCons (tVar 0) (tCons (tVar 1) (tCons (tCall sp_opposite [] C8.E0 (tCons (tVar 2) tNil)) tNil)))) (L2.start n_law_at_once [fv, .ref mo, cv]) H fun v H' => (v = .non ∧ Refutes (cs ++ more) (neg c)) ∨ ((∃ a, v = .ref a) ∧ ¬ Refutes (cs ++ more) (neg c)) :=
      ep_callQ (eq_cons (Ev.p (ev_var rfl)) (eq_cons (Ev.p (ev_var rfl)) (eq_cons (P := fun v H' => Cv H' v (neg c)) (ep_call (ea_cons (ev_var rfl) ea_nil) fun H2 e2 Q q E => ⟨cv, c, rfl, hcv.t (.ex e2), asc_nodup hc.asc, by omega, q⟩) eq_nil fun v H1 H2 e h => h.t (.ex e)) fun _ _ _ _ h => h) fun _ _ _ _ h => h) fun vs H2 e2 hvs Q q E => by
        obtain ⟨v1, r1, rfl, rfl, v2, r2, rfl, rfl, v3, r3, rfl, hv3, rfl⟩ := hvs
        exact ⟨_, v3, mo, n, cs, more, mvs, neg c, rfl, hF.t (.ex e2), e2 _ _ hmo, hmc.t (.ex e2), hv3, neg_clause hc, hcs, hz, hn, fun h H' e => q _ H' e (.inl ⟨rfl, h⟩), fun h a H' e => q _ H' e (.inr ⟨⟨a, rfl⟩, h⟩)⟩
    refine hp H (Ex.refl H) _ fun v H1 e1 hv => ⟨rfl, ?_⟩
    rcases hv with ⟨rfl, h⟩ | ⟨⟨a, rfl⟩, h⟩
    · exact k _ (by rw [decide_eq_true rfl]; exact ⟨fun _ => hiff.mp h, fun _ => rfl⟩) H1 e1
    · exact k _ (by rw [isN_ref]; exact ⟨fun z => (by cases z), fun z => absurd (hiff.mpr z) h⟩) H1 e1
def sp_good_log : Sp := fun vs H Q _ => ∃ (fv : V) (lg : Addr) (n : Int) (cs log : List Cl) (lvs : List V), vs = [fv, .ref lg] ∧ Fv H fv n cs ∧ (H lg = some (.lst lvs) ∨ H lg = some (.tup lvs)) ∧ Cvs H lvs log ∧ (∀ c ∈ cs, Clause n c) ∧ (∀ c ∈ log, Clause n c) ∧ cs.length + log.length ≤ 1000 ∧ (0 ≤ n ∧ n ≤ 30) ∧
  ∀ b : Bool, (b = true ↔ GoodL cs log ∧ log.getLast? = some []) → ∀ H', Ex H H' → Q (.bl b) H'
theorem ok_law_good_log (T : Txt K mg cS cL) : C8.Cal P w K mg base 3 "_law_good_log" sp_good_log [] := by
  have G_law_at_once : C8.Cal P w K mg base 2 "_law_at_once" sp_at_once [] := ok_law_at_once T
  refine calD T.d_law_good_log sc_law_good_log (fun vs H Q E h => ?_) fun f cdv A outer s H vs Q E hr h => ?_
  · obtain ⟨fv, lg, n, cs, log, lvs, rfl, _⟩ := h
    rfl
  · obtain ⟨fv, lg, n, cs, log, lvs, rfl, hF, hlg, hL, hcs, hlc, hz, hn, k⟩ := h
    obtain ⟨fa, fb, cvs, rfl, f1, f2, f3⟩ := id hF
    have lL := hL.len
    rcases hlg with ha | ha
    · refine ⟨_, (pss_cons (ps_if (PW.pt (pw_or (pt_cmpR op_eq (pe_callB (k_len (K := K)) (by rfl) T.z_len PySem.boot_len (pa_cons (pv 1) pa_nil)) pe_int (nomark _)) (pw_or1 (pt_cmpR (k_neD (K := K) hr.units) (pe_ix (k_ixL (K := K)) (pv 1) (pe_un un_neg pe_int) (fun _ _ => rfl)) (pe_tup pa_nil) (nomark _))))) (pss_one (ps_ret pe_bl)) pss_nil)
      (pss_cons (ps_for PassesOwn.never rfl (pi_range1 (by rfl) T.z_range (pa_cons (pe_callB (k_len (K := K)) (by rfl) T.z_len PySem.boot_len (pa_cons (pv 1) pa_nil)) pa_nil)) (pg_name (i := 2) sc_law_good_log.nd rfl (Or.inl rfl))
        (pss_cons (ps_for PassesOwn.never rfl (pi_range1 (by rfl) T.z_range (pa_cons (pe_callB (k_len (K := K)) (by rfl) T.z_len PySem.boot_len (pa_cons (pe_ix (k_ixL (K := K)) (pv 1) (pv 2) (fun _ _ => rfl)) pa_nil)) pa_nil)) (pg_name (i := 3) sc_law_good_log.nd rfl (Or.inl rfl))
        (pss_cons (ps_set (i := 4) sc_law_good_log.nd rfl (Or.inl rfl) (pe_ix (k_ixT (K := K)) (pe_ix (k_ixL (K := K)) (pv 1) (pv 2) (fun _ _ => rfl)) (pv 3) (fun _ _ => rfl)))
      (pss_one (ps_if (PW.pt (pw_or (pt_cmpR op_lt (pe_callB k_abs (by rfl) T.z_abs (by decide +kernel) (pa_cons (pv 4) pa_nil)) pe_int (nomark _)) (pw_or (pt_cmpR op_gt (pe_callB k_abs (by rfl) T.z_abs (by decide +kernel) (pa_cons (pv 4) pa_nil)) (pe_ix (k_ixT (K := K)) (pv 0) pe_int (fun _ _ => rfl)) (nomark _)) (pw_or (pt_cmpR (k_in (K := K)) (pe_un un_neg (pv 4)) (pe_ix (k_ixL (K := K)) (pv 1) (pv 2) (fun _ _ => rfl)) (by rfl)) (pw_or1 (PW.pt (pw_and (pt_cmpR op_gt (pv 3) pe_int (nomark _)) (pw_and1 (pt_cmpR op_ge (pe_ix (k_ixT (K := K)) (pe_ix (k_ixL (K := K)) (pv 1) (pv 2) (fun _ _ => rfl)) (pe_op op_sub (pv 3) pe_int) (fun _ _ => rfl)) (pv 4) (nomark _)))))))))) (pss_one (ps_ret pe_bl)) pss_nil))))
      (pss_one (ps_if (pt_not (pt_val (C8.pe_c G_law_at_once hr (by decide) (by rfl) (pa_cons (pv 0) (pa_cons (pe_callTy (k_lst (K := K)) (by rfl) T.z_list (by decide +kernel) (pa_cons (pe_slice sl_list (pv 1) po_none (po_some (pv 2))) pa_nil)) (pa_cons (pe_ix (k_ixL (K := K)) (pv 1) (pv 2) (fun _ _ => rfl)) pa_nil)))))) (pss_one (ps_ret pe_bl)) pss_nil))))
      (pss_one (ps_ret pe_bl)))), ?_⟩
      by_cases he : log = []
      · have l0 : lvs.length = 0 := by rw [lL, he]; rfl
        refine q_when (b := true) (et_is (et_or (b := false) (et_eqI (ev_lenL (ev_var rfl) ha) ev_c) fun z => absurd (of_decide_eq_false z) (by intro y; exact y (by omega))) (by rw [decide_eq_true (by omega)] <;> rfl)) (fun _ H1 e1 => ?_) fun z => by cases z
        refine s_ret ev_c fun H2 e2 => k false ⟨fun z => (by cases z), fun z => ?_⟩ H2 (e1.trans e2)
        rw [he] at z
        cases z.2
      · have hpos : 0 < log.length := List.length_pos_iff.mpr he
        obtain ⟨lc, hlast⟩ : ∃ c, log.getLast? = some c := ⟨log.getLast he, List.getLast?_eq_some_getLast he⟩
        have hgl : log[log.length - 1]? = some lc := by rw [← List.getLast?_eq_getElem?]; exact hlast
        obtain ⟨u, hu, hcu⟩ := hL.right hgl
        have hsplit : atI lvs (-1) = some u := by
          have hne : lvs ≠ [] := fun z => by rw [z] at lL; simp at lL; omega
          have e1 : lvs.getLast hne = u := by
            rw [List.getLast_eq_getElem]
            have := (List.getElem?_eq_some_iff.mp hu).2
            have e2 : lvs.length - 1 = log.length - 1 := by omega
            simp only [e2]
            exact this
          rw [← List.dropLast_concat_getLast hne, e1]
          exact atI_last _ _
        refine q_when (b := !decide (lc = [])) (et_is (et_or (et_eqI (ev_lenL (ev_var rfl) ha) ev_c) fun _ => et_test (ev_neC (Ev.cv (ev_ixL (i := -1) (ev_var rfl) (ev_neg ev_c) ha hsplit) hcu) ev_nilC)) (by rw [decide_eq_false (by omega), Bool.false_or])) (fun hb H1 e1 => ?_) fun hb H1 e1 => ?_
        · have hne : lc ≠ [] := by simpa using hb
          refine s_ret ev_c fun H2 e2 => k false ⟨fun z => (by cases z), fun z => ?_⟩ H2 (e1.trans e2)
          rw [hlast] at z
          exact absurd (Option.some.inj z.2) hne
        have hlc0 : lc = [] := by simpa using hb
        subst hlc0
        refine q_forR1 (ea_cons (ev_lenL (ev_var rfl) (e1 _ _ ha)) ea_nil) (by omega)
          (fun i σ H' => ∃ (x2 x3 x4 : Option V), σ = [some (.ref fa), some (.ref lg), x2, x3, x4] ∧ Ex H H' ∧ ∀ j c, j < i → log[j]? = some c → Refutes (cs ++ log.take j) (c.map fun x => -x))
          (fun H2 e2 => ⟨none, none, none, rfl, e1.trans e2, fun j c hj => by omega⟩) ?_ ?_
        · rintro i σ' H' hi ⟨x2, x3, x4, rfl, hE, hR⟩
          have hil : i < log.length := by omega
          obtain ⟨w1, hw1, wa, rfl, hwc⟩ := hL.right (List.getElem?_eq_getElem hil)
          have hci := hlc log[i] (List.getElem_mem hil)
          have hcl := hci.len
          have ix : ∀ {σ : L2.St} {H2 : Hp}, Ex H H2 → σ[1]? = some (some (.ref lg)) → σ[2]? = some (some (vN i)) → Ev (tOp (rIxL K) (tVar 1) (tVar 2)) σ H2 (.ref wa) := fun e s1 s2 => ev_ixL (i := (i : Int)) (ev_var s1) (ev_var s2) (e _ _ ha) (atI_nat hw1)
          refine q_forR1 (ea_cons (ev_lenT (ix hE rfl rfl) (hE _ _ hwc)) ea_nil) (by rw [List.length_map]; omega)
            (fun j σ H' => ∃ (x3 x4 : Option V), σ = [some (.ref fa), some (.ref lg), some (vN i), x3, x4] ∧ Ex H H')
            (fun H2 e2 => ⟨x3, x4, rfl, hE.trans e2⟩) ?_ ?_
          · rintro j σ' H2 hj ⟨x3, x4, rfl, hE2⟩
            rw [List.length_map] at hj
            have hjl : j < log[i].length := by omega
            have hlm := List.getElem_mem hjl
            have hrg := hci.rng _ hlm
            refine q_asg (v := .int log[i][j]) (ev_ixT (i := (j : Int)) (ix hE2 rfl rfl) (ev_var rfl) (hE2 _ _ hwc) (atI_nat (at_map (List.getElem?_eq_getElem hjl)))) fun H3 e3 => ?_
            have hE3 := hE2.trans e3
            refine s_when (b := false) (et_is (et_or (a := false) (et_is (et_I0 (ev_abs (ev_var rfl)) ev_c) (decide_eq_false (by split <;> omega))) fun _ => et_or (a := false) (et_is (et_I0 (ev_abs (ev_var rfl)) (ev_ixT (v := .int n) (ev_var rfl) ev_c (hE3 _ _ f1) rfl)) (decide_eq_false (by split <;> omega))) fun _ => et_or (a := false) (et_is (et_inT (ev_neg (ev_var rfl)) (ix hE3 rfl rfl) (hE3 _ _ hwc)) (by simpa using hci.con _ hlm)) fun _ => et_and (b := false) (et_I0 (ev_var rfl) ev_c) fun hj0 => ?_) (by simp)) (fun z => by cases z) fun _ H4 e4 => ⟨_, _, rfl, hE3.trans e4⟩
            have hj1 : 0 < j := by have := of_decide_eq_true hj0; omega
            have hjp : j - 1 < log[i].length := by omega
            refine et_is (et_I0 (ev_ixT (v := .int log[i][j - 1]) (ix hE3 rfl rfl) (ev_I0 (ev_var rfl) ev_c) (hE3 _ _ hwc) (at_int (j := j - 1) (at_map (List.getElem?_eq_getElem hjp)) (by omega))) (ev_var rfl)) (decide_eq_false ?_)
            have := List.pairwise_iff_getElem.mp hci.asc (j - 1) j hjp hjl (by omega)
            omega
          · rintro σ' H2 ⟨x3, x4, rfl, hE2⟩
            have hcall : EvP (tCall sp_at_once [] C8.E0 (tCons (tVar 0) (tCons (tCB (rListS K) (tCons (tSl (rSlL K) (tVar 1) tNoPart (tPart (tVar 2))) tNil)) (tCons (tOp (rIxL K) (tVar 1) (tVar 2)) tNil)))) [some (.ref fa), some (.ref lg), some (vN i), x3, x4] H2 fun v H' => ∃ b : Bool, v = .bl b ∧ (b = true ↔ Refutes (cs ++ log.take i) (log[i].map fun x => -x)) :=
              ep_callQ (eq_cons (Ev.p (ev_var rfl)) (eq_cons (EvL.p (el_listP (ep_cutL (ev_var rfl) (ev_var rfl) (hE2 _ _ ha)))) (eq_cons (Ev.p (ix hE2 rfl rfl)) eq_nil fun _ _ _ _ h => h) fun v H1 H2 e ⟨p, a, b, c⟩ => ⟨p, a, b, e _ _ c⟩) fun _ _ _ _ h => h) fun vs H3 e3 hvs Q q E => by
                obtain ⟨v1, r1, rfl, rfl, v2, r2, rfl, ⟨mo, rfl, hmo0, hmo⟩, v3, r3, rfl, rfl, rfl⟩ := hvs
                exact ⟨_, _, mo, n, cs, log.take i, lvs.take i, log[i], rfl, hF.t (.ex (hE2.trans e3)), hmo, All2.take (hL.t (.ex (hE2.trans e3))) i, ⟨wa, rfl, (hE2.trans e3) _ _ hwc⟩, hci, fun c hc => (by
                  rcases List.mem_append.mp hc with z | z
                  · exact hcs c z
                  · exact hlc c (List.mem_of_mem_take z)), by rw [List.length_append, List.length_take]; omega, hn, fun b hb H' e => q _ H' e ⟨b, rfl, hb⟩⟩
            refine s_unless hcall (fun hb H3 e3 => ?_) fun hb H3 e3 => ?_
            · refine s_ret ev_c fun H4 e4 => k false ⟨fun z => (by cases z), fun z => ?_⟩ H4 ((hE2.trans e3).trans e4)
              exact hb.mpr (z.1 i log[i] (List.getElem?_eq_getElem hil))
            · have href := hb.mp rfl
              refine ⟨_, _, _, rfl, hE2.trans e3, fun j c hj hc => ?_⟩
              by_cases e : j < i
              · exact hR j c e hc
              · have ej : j = i := by omega
                subst ej
                rw [List.getElem?_eq_getElem hil] at hc
                cases hc
                exact href
        · rintro σ' H' ⟨x2, x3, x4, rfl, hE, hR⟩
          refine s_ret ev_c fun H2 e2 => k true ⟨fun _ => ⟨fun i c hc => hR i c ?_ hc, hlast⟩, fun _ => rfl⟩ H2 (hE.trans e2)
          have := (List.getElem?_eq_some_iff.mp hc).1
          omega
    · refine ⟨_, (pss_cons (ps_if (PW.pt (pw_or (pt_cmpR op_eq (pe_callB (k_len (K := K)) (by rfl) T.z_len PySem.boot_len (pa_cons (pv 1) pa_nil)) pe_int (nomark _)) (pw_or1 (pt_cmpR (k_neD (K := K) hr.units) (pe_ix (k_ixT (K := K)) (pv 1) (pe_un un_neg pe_int) (fun _ _ => rfl)) (pe_tup pa_nil) (nomark _))))) (pss_one (ps_ret pe_bl)) pss_nil)
      (pss_cons (ps_for PassesOwn.never rfl (pi_range1 (by rfl) T.z_range (pa_cons (pe_callB (k_len (K := K)) (by rfl) T.z_len PySem.boot_len (pa_cons (pv 1) pa_nil)) pa_nil)) (pg_name (i := 2) sc_law_good_log.nd rfl (Or.inl rfl))
        (pss_cons (ps_for PassesOwn.never rfl (pi_range1 (by rfl) T.z_range (pa_cons (pe_callB (k_len (K := K)) (by rfl) T.z_len PySem.boot_len (pa_cons (pe_ix (k_ixT (K := K)) (pv 1) (pv 2) (fun _ _ => rfl)) pa_nil)) pa_nil)) (pg_name (i := 3) sc_law_good_log.nd rfl (Or.inl rfl))
        (pss_cons (ps_set (i := 4) sc_law_good_log.nd rfl (Or.inl rfl) (pe_ix (k_ixT (K := K)) (pe_ix (k_ixT (K := K)) (pv 1) (pv 2) (fun _ _ => rfl)) (pv 3) (fun _ _ => rfl)))
      (pss_one (ps_if (PW.pt (pw_or (pt_cmpR op_lt (pe_callB k_abs (by rfl) T.z_abs (by decide +kernel) (pa_cons (pv 4) pa_nil)) pe_int (nomark _)) (pw_or (pt_cmpR op_gt (pe_callB k_abs (by rfl) T.z_abs (by decide +kernel) (pa_cons (pv 4) pa_nil)) (pe_ix (k_ixT (K := K)) (pv 0) pe_int (fun _ _ => rfl)) (nomark _)) (pw_or (pt_cmpR (k_in (K := K)) (pe_un un_neg (pv 4)) (pe_ix (k_ixT (K := K)) (pv 1) (pv 2) (fun _ _ => rfl)) (by rfl)) (pw_or1 (PW.pt (pw_and (pt_cmpR op_gt (pv 3) pe_int (nomark _)) (pw_and1 (pt_cmpR op_ge (pe_ix (k_ixT (K := K)) (pe_ix (k_ixT (K := K)) (pv 1) (pv 2) (fun _ _ => rfl)) (pe_op op_sub (pv 3) pe_int) (fun _ _ => rfl)) (pv 4) (nomark _)))))))))) (pss_one (ps_ret pe_bl)) pss_nil))))
      (pss_one (ps_if (pt_not (pt_val (C8.pe_c G_law_at_once hr (by decide) (by rfl) (pa_cons (pv 0) (pa_cons (pe_callTy (k_lst (K := K)) (by rfl) T.z_list (by decide +kernel) (pa_cons (pe_slice sl_tupA (pv 1) po_none (po_some (pv 2))) pa_nil)) (pa_cons (pe_ix (k_ixT (K := K)) (pv 1) (pv 2) (fun _ _ => rfl)) pa_nil)))))) (pss_one (ps_ret pe_bl)) pss_nil))))
      (pss_one (ps_ret pe_bl)))), ?_⟩
      by_cases he : log = []
      · have l0 : lvs.length = 0 := by rw [lL, he]; rfl
        refine q_when (b := true) (et_is (et_or (b := false) (et_eqI (ev_lenT (ev_var rfl) ha) ev_c) fun z => absurd (of_decide_eq_false z) (by intro y; exact y (by omega))) (by rw [decide_eq_true (by omega)] <;> rfl)) (fun _ H1 e1 => ?_) fun z => by cases z
        refine s_ret ev_c fun H2 e2 => k false ⟨fun z => (by cases z), fun z => ?_⟩ H2 (e1.trans e2)
        rw [he] at z
        cases z.2
      · have hpos : 0 < log.length := List.length_pos_iff.mpr he
        obtain ⟨lc, hlast⟩ : ∃ c, log.getLast? = some c := ⟨log.getLast he, List.getLast?_eq_some_getLast he⟩
        have hgl : log[log.length - 1]? = some lc := by rw [← List.getLast?_eq_getElem?]; exact hlast
        obtain ⟨u, hu, hcu⟩ := hL.right hgl
        have hsplit : atI lvs (-1) = some u := by
          have hne : lvs ≠ [] := fun z => by rw [z] at lL; simp at lL; omega
          have e1 : lvs.getLast hne = u := by
            rw [List.getLast_eq_getElem]
            have := (List.getElem?_eq_some_iff.mp hu).2
            have e2 : lvs.length - 1 = log.length - 1 := by omega
            simp only [e2]
            exact this
          rw [← List.dropLast_concat_getLast hne, e1]
          exact atI_last _ _
        refine q_when (b := !decide (lc = [])) (et_is (et_or (et_eqI (ev_lenT (ev_var rfl) ha) ev_c) fun _ => et_test (ev_neC (Ev.cv (ev_ixT (i := -1) (ev_var rfl) (ev_neg ev_c) ha hsplit) hcu) ev_nilC)) (by rw [decide_eq_false (by omega), Bool.false_or])) (fun hb H1 e1 => ?_) fun hb H1 e1 => ?_
        · have hne : lc ≠ [] := by simpa using hb
          refine s_ret ev_c fun H2 e2 => k false ⟨fun z => (by cases z), fun z => ?_⟩ H2 (e1.trans e2)
          rw [hlast] at z
          exact absurd (Option.some.inj z.2) hne
        have hlc0 : lc = [] := by simpa using hb
        subst hlc0
        refine q_forR1 (ea_cons (ev_lenT (ev_var rfl) (e1 _ _ ha)) ea_nil) (by omega)
          (fun i σ H' => ∃ (x2 x3 x4 : Option V), σ = [some (.ref fa), some (.ref lg), x2, x3, x4] ∧ Ex H H' ∧ ∀ j c, j < i → log[j]? = some c → Refutes (cs ++ log.take j) (c.map fun x => -x))
          (fun H2 e2 => ⟨none, none, none, rfl, e1.trans e2, fun j c hj => by omega⟩) ?_ ?_
        · rintro i σ' H' hi ⟨x2, x3, x4, rfl, hE, hR⟩
          have hil : i < log.length := by omega
          obtain ⟨w1, hw1, wa, rfl, hwc⟩ := hL.right (List.getElem?_eq_getElem hil)
          have hci := hlc log[i] (List.getElem_mem hil)
          have hcl := hci.len
          have ix : ∀ {σ : L2.St} {H2 : Hp}, Ex H H2 → σ[1]? = some (some (.ref lg)) → σ[2]? = some (some (vN i)) → Ev (tOp (rIxT K) (tVar 1) (tVar 2)) σ H2 (.ref wa) := fun e s1 s2 => ev_ixT (i := (i : Int)) (ev_var s1) (ev_var s2) (e _ _ ha) (atI_nat hw1)
          refine q_forR1 (ea_cons (ev_lenT (ix hE rfl rfl) (hE _ _ hwc)) ea_nil) (by rw [List.length_map]; omega)
            (fun j σ H' => ∃ (x3 x4 : Option V), σ = [some (.ref fa), some (.ref lg), some (vN i), x3, x4] ∧ Ex H H')
            (fun H2 e2 => ⟨x3, x4, rfl, hE.trans e2⟩) ?_ ?_
          · rintro j σ' H2 hj ⟨x3, x4, rfl, hE2⟩
            rw [List.length_map] at hj
            have hjl : j < log[i].length := by omega
            have hlm := List.getElem_mem hjl
            have hrg := hci.rng _ hlm
            refine q_asg (v := .int log[i][j]) (ev_ixT (i := (j : Int)) (ix hE2 rfl rfl) (ev_var rfl) (hE2 _ _ hwc) (atI_nat (at_map (List.getElem?_eq_getElem hjl)))) fun H3 e3 => ?_
            have hE3 := hE2.trans e3
            refine s_when (b := false) (et_is (et_or (a := false) (et_is (et_I0 (ev_abs (ev_var rfl)) ev_c) (decide_eq_false (by split <;> omega))) fun _ => et_or (a := false) (et_is (et_I0 (ev_abs (ev_var rfl)) (ev_ixT (v := .int n) (ev_var rfl) ev_c (hE3 _ _ f1) rfl)) (decide_eq_false (by split <;> omega))) fun _ => et_or (a := false) (et_is (et_inT (ev_neg (ev_var rfl)) (ix hE3 rfl rfl) (hE3 _ _ hwc)) (by simpa using hci.con _ hlm)) fun _ => et_and (b := false) (et_I0 (ev_var rfl) ev_c) fun hj0 => ?_) (by simp)) (fun z => by cases z) fun _ H4 e4 => ⟨_, _, rfl, hE3.trans e4⟩
            have hj1 : 0 < j := by have := of_decide_eq_true hj0; omega
            have hjp : j - 1 < log[i].length := by omega
            refine et_is (et_I0 (ev_ixT (v := .int log[i][j - 1]) (ix hE3 rfl rfl) (ev_I0 (ev_var rfl) ev_c) (hE3 _ _ hwc) (at_int (j := j - 1) (at_map (List.getElem?_eq_getElem hjp)) (by omega))) (ev_var rfl)) (decide_eq_false ?_)
            have := List.pairwise_iff_getElem.mp hci.asc (j - 1) j hjp hjl (by omega)
            omega
          · rintro σ' H2 ⟨x3, x4, rfl, hE2⟩
            have hcall : EvP (tCall sp_at_once [] C8.E0 (tCons (tVar 0) (tCons (tCB (rListS K) (tCons (tSl (rSlA K) (tVar 1) tNoPart (tPart (tVar 2))) tNil)) (tCons (tOp (rIxT K) (tVar 1) (tVar 2)) tNil)))) [some (.ref fa), some (.ref lg), some (vN i), x3, x4] H2 fun v H' => ∃ b : Bool, v = .bl b ∧ (b = true ↔ Refutes (cs ++ log.take i) (log[i].map fun x => -x)) :=
              ep_callQ (eq_cons (Ev.p (ev_var rfl)) (eq_cons (EvL.p (el_listP (ep_cutT (ev_var rfl) (ev_var rfl) (hE2 _ _ ha)))) (eq_cons (Ev.p (ix hE2 rfl rfl)) eq_nil fun _ _ _ _ h => h) fun v H1 H2 e ⟨p, a, b, c⟩ => ⟨p, a, b, e _ _ c⟩) fun _ _ _ _ h => h) fun vs H3 e3 hvs Q q E => by
                obtain ⟨v1, r1, rfl, rfl, v2, r2, rfl, ⟨mo, rfl, hmo0, hmo⟩, v3, r3, rfl, rfl, rfl⟩ := hvs
                exact ⟨_, _, mo, n, cs, log.take i, lvs.take i, log[i], rfl, hF.t (.ex (hE2.trans e3)), hmo, All2.take (hL.t (.ex (hE2.trans e3))) i, ⟨wa, rfl, (hE2.trans e3) _ _ hwc⟩, hci, fun c hc => (by
                  rcases List.mem_append.mp hc with z | z
                  · exact hcs c z
                  · exact hlc c (List.mem_of_mem_take z)), by rw [List.length_append, List.length_take]; omega, hn, fun b hb H' e => q _ H' e ⟨b, rfl, hb⟩⟩
            refine s_unless hcall (fun hb H3 e3 => ?_) fun hb H3 e3 => ?_
            · refine s_ret ev_c fun H4 e4 => k false ⟨fun z => (by cases z), fun z => ?_⟩ H4 ((hE2.trans e3).trans e4)
              exact hb.mpr (z.1 i log[i] (List.getElem?_eq_getElem hil))
            · have href := hb.mp rfl
              refine ⟨_, _, _, rfl, hE2.trans e3, fun j c hj hc => ?_⟩
              by_cases e : j < i
              · exact hR j c e hc
              · have ej : j = i := by omega
                subst ej
                rw [List.getElem?_eq_getElem hil] at hc
                cases hc
                exact href
        · rintro σ' H' ⟨x2, x3, x4, rfl, hE, hR⟩
          refine s_ret ev_c fun H2 e2 => k true ⟨fun _ => ⟨fun i c hc => hR i c ?_ hc, hlast⟩, fun _ => rfl⟩ H2 (hE.trans e2)
          have := (List.getElem?_eq_some_iff.mp hc).1
          omega
end
end K75
set_option Elab.async false
set_option linter.all false
set_option maxRecDepth 100000
set_option maxHeartbeats 4000000
/-! walks of the law: law -/
namespace K75
open PySem PySem.Spec PyProof.Rows L2 Evl

section
variable {K : PySem.W.Frag} {σ : L2.St} {H H' : Hp} {ta tb te tl tn : TE} {D : Ends} {tz tu : TS} {xs : List V}
noncomputable def keepV (H : Hp) (cs : List Cl) (q : Cl → Bool) (v : V) : Bool := @decide (∃ c ∈ cs, Cv H v c ∧ q c = true) (Classical.propDecidable _)
theorem keepV_of {H : Hp} {cs : List Cl} {q : Cl → Bool} {c : Cl} {v : V} (hc : c ∈ cs) (hv : Cv H v c) : keepV H cs q v = q c := by
  unfold keepV
  cases e : q c with
  | true => exact @decide_eq_true _ (Classical.propDecidable _) ⟨c, hc, hv, e⟩
  | false =>
    refine @decide_eq_false _ (Classical.propDecidable _) ?_
    rintro ⟨d, _, h1, h2⟩
    rw [Cv.inj h1 hv, e] at h2
    cases h2
theorem keepV_all {H : Hp} {q : Cl → Bool} (cs : List Cl) : ∀ {vs : List V} {ds : List Cl}, (∀ c ∈ ds, c ∈ cs) → Cvs H vs ds → Cvs H (vs.filter (keepV H cs q)) (ds.filter q)
  | [], [], _, _ => .nil
  | [], d :: ds, _, h => by have := h.len; simp at this
  | v :: vs, [], _, h => by have := h.len; simp at this
  | v :: vs, d :: ds, hm, h => by
    have h0 : Cv H v d := h.at_ 0 v d rfl rfl
    have hr : Cvs H vs ds := ⟨by have := h.len; simpa using this, fun i x y h1 h2 => h.at_ (i + 1) x y h1 h2⟩
    have ih := keepV_all (q := q) cs (fun c hc => hm c (List.mem_cons_of_mem _ hc)) hr
    have e := keepV_of (q := q) (hm d (List.mem_cons_self ..)) h0
    cases c : q d with
    | true =>
      rw [List.filter_cons, List.filter_cons, if_pos (by rw [e, c]), if_pos c]
      exact (All2.one h0).append ih
    | false =>
      rw [List.filter_cons, List.filter_cons, if_neg (by rw [e, c]; decide), if_neg (by rw [c]; decide)]
      exact ih
/-- [x for x in clauses if ..] -/
theorem lcF {wi : TI} {j : Nat} {vs : List Nat} {t : TT} {cs : List Cl} (q : Cl → Bool) (hs : Src wi σ H xs) (hc : Cvs H xs cs) (hz : xs.length ≤ 40000) (hw : ∀ x, wipe ((wipe σ vs).set j (some x)) vs = wipe σ vs) (hj : ∀ x : V, ((wipe σ vs).set j (some x))[j]? = some (some x))
    (ht : ∀ (x : V) (c : Cl) H1, Ex H H1 → c ∈ cs → Cv H1 x c → EvT t ((wipe σ vs).set j (some x)) H1 (q c)) : EvP (tLc wi (gName j) t (tVar j) vs) σ H fun v H' => LvN H H' v (cs.filter q) := fun H1 e Q k =>
  lcV (keepV H cs q) hs hz hw (fun x H2 e2 hx => by
    obtain ⟨c, hcm, hcx⟩ := hc.mem_left hx
    rw [keepV_of hcm hcx]
    exact ht x c H2 e2 hcm (hcx.t (.ex e2))) (fun x H2 e2 hx _ => ev_var (hj x)) H1 e Q fun p H2 hp e2 h2 => k _ H2 e2 ⟨p, _, rfl, fresh_back e hp, h2, Cvs.t (keepV_all cs (fun _ z => z) hc) (.ex (e.trans e2))⟩
theorem ev_notNV {x : V} (ha : Ev ta σ H x) : Ev (tOp (fun x y H Q => y = .non ∧ Q (.bl (!decide (x = .non))) H) ta (tC .non)) σ H (.bl (!decide (x = .non))) := fun H1 e Q q =>
  ha H1 e _ fun H2 e2 => ⟨rfl, q H2 e2⟩
theorem EvU.p {ys : List V} (h : EvU te σ H ys) : EvP te σ H fun v H' => ∃ p, v = .ref p ∧ H p = none ∧ H' p = some (.tup ys) := fun H1 e Q q => h H1 e Q fun p H2 hp e2 h2 => q _ H2 e2 ⟨p, rfl, fresh_back e hp, h2⟩
theorem EvL.lvn {ys : List V} {cs : List Cl} (h : EvL te σ H ys) (hc : Cvs H ys cs) : EvP te σ H fun v H' => LvN H H' v cs := fun H1 e Q q => h H1 e Q fun p H2 hp e2 h2 => q _ H2 e2 ⟨p, ys, rfl, fresh_back e hp, h2, hc.t (.ex (e.trans e2))⟩
theorem cut_drop (xs : List V) (k : Nat) : cutV xs (some (k : Int)) none = xs.drop k := by
  unfold cutV
  rw [HT.sIx_nat, HT.sIx_none]
  by_cases h : k ≤ xs.length
  · rw [Nat.min_eq_left h]
    exact List.take_of_length_le (by rw [List.length_drop]; exact Nat.le_refl _)
  · rw [Nat.min_eq_right (by omega), List.drop_of_length_le (Nat.le_refl _), List.drop_of_length_le (by omega), List.take_nil]
end
section
variable {P : Program} {w : World} {K : PySem.W.Frag} {mg : PySem.Str → Option Value} {base : Heap} {cS cL : Addr}
def sp_law (K : PySem.W.Frag) : Sp := fun vs H Q _ => ∃ (a : Addr) (ns : List Int), vs = [.ref a] ∧ SqL K H a (ns.map V.int) ∧ ∀ H', Q (.bl true) H'
theorem no_models {n : Int} (h : mods n [] = []) : False := by
  have h1 : (asn n).length = 0 := by
    have e : mods n [] = asn n := List.filter_eq_self.mpr fun _ _ => rfl
    rw [← e, h]
    rfl
  unfold asn at h1
  rw [List.length_map, asn0_len] at h1
  have := Nat.one_le_two_pow (n := n.toNat)
  omega
theorem fn_law (T : Txt K mg cS cL) {f0 : Addr} {fd0 : FuncData} (F0 : FunD K "law" "law" (defArgs s_law) (defBody s_law) (defScope s_law) [] [] f0 fd0) : FnOk P w K mg base CX0 11 f0 fd0 p_law (sp_law K) := by
  have G_law_cell : C8.Cal P w K mg base 1 "_law_cell" (sp_cell K) [] := ok_law_cell T
  have G_law_draws : C8.Cal P w K mg base 1 "_law_draws" sp_draws [] := ok_law_draws T
  have G_law_hopeless : C8.Cal P w K mg base 4 "_law_hopeless" sp_hopeless [] := ok_law_hopeless T
  have G_law_made_steps : C8.Cal P w K mg base 7 "_law_made_steps" sp_made_steps [] := ok_law_made_steps T
  have G_law_steps : C8.Cal P w K mg base 3 "_law_steps" sp_steps [] := ok_law_steps T
  have G_log_of_steps : C8.Cal P w K mg base 7 "log_of_steps" sp_log_of_steps [] := ok_log_of_steps T
  have G_law_rows_same : C8.Cal P w K mg base 4 "_law_rows_same" sp_rows_same [] := ok_law_rows_same T
  have G_law_good_log : C8.Cal P w K mg base 3 "_law_good_log" sp_good_log [] := ok_law_good_log T
  have G_steps_of_log : C8.Cal P w K mg base 10 "steps_of_log" sp_steps_of_log [] := ok_steps_of_log T
  have G_law_read : C8.Cal P w K mg base 4 "_law_read" sp_read [] := ok_law_read T
  refine fnD F0 sc_law (fun vs H Q E h => ?_) fun f cdv A outer s H vs Q E hr h => ?_
  · obtain ⟨a, ns, rfl, _⟩ := h
    rfl
  · obtain ⟨a, ns, rfl, hns, k⟩ := h
    refine ⟨_, (pss_cons (ps_set (i := 1) sc_law.nd rfl (Or.inr rfl) (C8.pe_c G_law_hopeless hr (by decide) (by rfl) (pa_cons (C8.pe_c G_law_cell hr (by decide) (by rfl) (pa_cons (pv 0) (pa_cons pe_int pa_nil))) (pa_cons pe_int (pa_cons pe_int pa_nil)))))
      (pss_cons (ps_set (i := 2) sc_law.nd rfl (Or.inl rfl) (C8.pe_c G_law_draws hr (by decide) (by rfl) (pa_cons (C8.pe_c G_law_cell hr (by decide) (by rfl) (pa_cons (pv 0) (pa_cons pe_int pa_nil))) (pa_cons pe_int pa_nil))))
      (pss_cons (ps_set (i := 3) sc_law.nd rfl (Or.inl rfl) (C8.pe_c G_law_made_steps hr (by decide) (by rfl) (pa_cons (pv 1) (pa_cons (pv 2) pa_nil))))
      (pss_cons (ps_set (i := 4) sc_law.nd rfl (Or.inl rfl) (C8.pe_c G_law_steps hr (by decide) (by rfl) (pa_cons (pv 1) (pa_cons (pv 3) pa_nil))))
      (pss_cons (ps_set (i := 5) sc_law.nd rfl (Or.inl rfl) (C8.pe_c G_log_of_steps hr (by decide) (by rfl) (pa_cons (pv 1) (pa_cons (pe_callTy (k_tup (K := K)) (by rfl) T.z_tuple (by decide +kernel) (pa_cons (pv 3) pa_nil)) pa_nil))))
      (pss_cons (ps_if (PW.pt (pw_or (pt_not (pt_val (pe_callB (k_isi (K := K)) (by rfl) T.z_isinstance (by decide +kernel) (pa_cons (pv 5) (pa_cons (pe_bltn (v := .ty "tuple") (by rfl) T.z_tuple (by decide +kernel) rfl) pa_nil))))) (pw_or (pt_not (pt_val (C8.pe_c G_law_rows_same hr (by decide) (by rfl) (pa_cons (pv 5) (pa_cons (pv 4) pa_nil))))) (pw_or1 (pt_not (pt_val (C8.pe_c G_law_good_log hr (by decide) (by rfl) (pa_cons (pv 1) (pa_cons (pv 5) pa_nil))))))))) (pss_one (ps_ret pe_bl)) pss_nil)
      (pss_cons (ps_setLc (i := 6) (own := [("_law_clause", 10)]) (g := gName 10) rfl sc_law.nd rfl rfl (sw_true rfl rfl rfl (by decide +kernel)) (pi_list (pv 4)) (blkOk_by (N := n_law) (sc := defScope s_law) (by decide +kernel)) (fun _ _ _ _ _ => pg_name (i := 10) sc_law.nd rfl (Or.inl rfl)) (fun _ _ _ _ _ => pts_one (PW.pt (pw_or (pt_cmpR (k_ninU (K := K) (room65 hr)) (pv 10) (pe_ix (k_ixT (K := K)) (pv 1) pe_int (fun _ _ => rfl)) (by rfl)) (pw_or1 (pt_cmpR (k_eqD (K := K) hr.units) (pv 10) (pe_tup pa_nil) (nomark _)))))) (fun _ _ _ _ _ => (pv 10)))
      (pss_cut (ps_if (PW.pt (pw_and (pt_cmpR op_eq (pe_op op_mod (pe_ix (k_ixL (K := K)) (pv 2) pe_int (fun _ _ => rfl)) pe_int) pe_int (nomark _)) (pw_and1 (pt_cmpR op_gt (pe_callB (k_len (K := K)) (by rfl) T.z_len PySem.boot_len (pa_cons (pv 6) pa_nil)) pe_int (nomark _))))) (pss_cons (ps_set (i := 7) sc_law.nd rfl (Or.inl rfl) (pe_op op_mod (pe_ix (k_ixL (K := K)) (pv 2) pe_int (fun _ _ => rfl)) (pe_callB (k_len (K := K)) (by rfl) T.z_len PySem.boot_len (pa_cons (pv 6) pa_nil))))
      (pss_one (ps_set (i := 6) sc_law.nd rfl (Or.inl rfl) (pe_op op_cat (pe_op op_cat (pe_slice sl_list (pv 6) po_none (po_some (pv 7))) (pe_lst (pa_cons (pe_ix (k_ixT (K := K)) (pe_ix (k_ixT (K := K)) (pv 1) pe_int (fun _ _ => rfl)) (pe_op op_mod (pe_ix (k_ixL (K := K)) (pv 2) pe_int (fun _ _ => rfl)) (pe_callB (k_len (K := K)) (by rfl) T.z_len PySem.boot_len (pa_cons (pe_ix (k_ixT (K := K)) (pv 1) pe_int (fun _ _ => rfl)) pa_nil))) (fun _ _ => rfl)) pa_nil))) (pe_slice sl_list (pv 6) (po_some (pv 7)) po_none))))) pss_nil)
      (pss_cut (ps_if (pt_cmpR (op_notInD (room65 hr)) (pe_tup pa_nil) (pv 6) (by rfl)) (pss_one (ps_expr (pe_bm PySem.F.plainAttrs_list PySem.F.slot_list_append PySem.F.type_list_append mt_append (pv 6) (pa_cons (pe_tup pa_nil) pa_nil)))) pss_nil)
      (pss_cut (ps_if (pt_not (pt_val (C8.pe_c G_law_good_log hr (by decide) (by rfl) (pa_cons (pv 1) (pa_cons (pv 6) pa_nil))))) (pss_one (ps_set (i := 6) sc_law.nd rfl (Or.inl rfl) (pe_callTy (k_lst (K := K)) (by rfl) T.z_list (by decide +kernel) (pa_cons (pv 4) pa_nil)))) pss_nil)
      (pss_cons (ps_set (i := 8) sc_law.nd rfl (Or.inl rfl) (C8.pe_c G_steps_of_log hr (by decide) (by rfl) (pa_cons (pv 1) (pa_cons (pe_callTy (k_tup (K := K)) (by rfl) T.z_tuple (by decide +kernel) (pa_cons (pv 6) pa_nil)) pa_nil))))
      (pss_cons (ps_if (PW.pt (pw_or (pt_not (pt_val (pe_callB (k_isi (K := K)) (by rfl) T.z_isinstance (by decide +kernel) (pa_cons (pv 8) (pa_cons (pe_bltn (v := .ty "tuple") (by rfl) T.z_tuple (by decide +kernel) rfl) pa_nil))))) (pw_or1 (pt_cmpR op_gt (pe_callB (k_len (K := K)) (by rfl) T.z_len PySem.boot_len (pa_cons (pv 8) pa_nil)) (pe_op op_add (pe_callB (k_len (K := K)) (by rfl) T.z_len PySem.boot_len (pa_cons (pe_ix (k_ixT (K := K)) (pv 1) pe_int (fun _ _ => rfl)) pa_nil)) (pe_op op_mul (pe_ix (k_ixT (K := K)) (pv 1) pe_int (fun _ _ => rfl)) (pe_callB (k_len (K := K)) (by rfl) T.z_len PySem.boot_len (pa_cons (pv 6) pa_nil)))) (nomark _))))) (pss_one (ps_ret pe_bl)) pss_nil)
      (pss_cons (ps_set (i := 9) sc_law.nd rfl (Or.inl rfl) (C8.pe_c G_law_read hr (by decide) (by rfl) (pa_cons (pv 1) (pa_cons (pv 8) pa_nil))))
      (pss_one (ps_ret (pe_and (pe_cmpR op_notN (pv 9) pe_non (nomark _)) (pe_and (pe_cmpR op_gt (pe_callB (k_len (K := K)) (by rfl) T.z_len PySem.boot_len (pa_cons (pv 9) pa_nil)) pe_int (nomark _)) (pe_one (pe_cmpR (k_eqD (K := K) hr.units) (pe_ix (k_ixL (K := K)) (pv 9) (pe_un un_neg pe_int) (fun _ _ => rfl)) (pe_tup pa_nil) (nomark _)))))))))))))))))))), ?_⟩
    have cell : ∀ {σ : L2.St} {H1 : Hp} {E : XK} {i : Nat} {tk : TE}, Ex H H1 → σ[0]? = some (some (.ref a)) → Ev tk σ H1 (vN i) → EvP (tCall (sp_cell K) [] E (tCons (tVar 0) (tCons tk tNil))) σ H1 fun v _ => ∃ c : Int, v = .int c := fun e s0 hk =>
      ep_call (ea_cons (ev_var s0) (ea_cons hk ea_nil)) fun H2 e2 Q q E => ⟨a, ns, _, rfl, ex_l (e.trans e2) hns, fun c H' e => q _ H' e ⟨c, rfl⟩⟩
    -- the formula
    refine q_asgP (P := fun v H' => ∃ n cs, Fv H' v n cs ∧ (1 ≤ n ∧ n ≤ 4) ∧ (∀ c ∈ cs, Clause n c) ∧ cs.length ≤ 22 ∧ mods n cs = [])
      (ep_callQ (eq_cons (cell (i := 0) (Ex.refl H) rfl ev_c) (eq_cons (Ev.p ev_c) (eq_cons (Ev.p ev_c) eq_nil fun _ _ _ _ h => h) fun _ _ _ _ h => h) fun _ _ _ _ h => h) fun vs H2 e2 hvs Q q E => ?_) fun fv H1 e1 ⟨n, cs, hF, hn, hcs, hcl, hm⟩ => ?_
    · obtain ⟨v1, r1, rfl, ⟨c, rfl⟩, v2, r2, rfl, rfl, v3, r3, rfl, rfl, rfl⟩ := hvs
      exact ⟨c, rfl, fun v n cs H' e h1 h2 h3 h4 h5 => q v H' e ⟨n, cs, h1, h2, h3, h4, h5⟩⟩
    -- the draws
    refine q_asgP (P := fun v H' => ∃ p ds, v = .ref p ∧ H' p = some (.lst (ds.map V.int)) ∧ ds.length = 60 ∧ Drawn ds)
      (ep_callQ (eq_cons (cell (i := 1) e1 rfl ev_c) (eq_cons (Ev.p ev_c) eq_nil fun _ _ _ _ h => h) fun _ _ _ _ h => h) fun vs H2 e2 hvs Q q E => ?_) fun v H2 e2 ⟨dr, drs, hv, hdr, hdl, hD⟩ => ?_
    · obtain ⟨v1, r1, rfl, ⟨c, rfl⟩, v2, r2, rfl, rfl, rfl⟩ := hvs
      exact ⟨c, 60, rfl, by decide, fun p ds H' hp e h1 h2 h3 => q _ H' e ⟨p, ds, rfl, h1, h2, h3⟩⟩
    subst hv
    have F2 := hF.t (.ex e2)
    -- the steps
    refine q_asgP (P := fun v H' => ∃ p svs ss cds, v = .ref p ∧ H' p = some (.lst svs) ∧ Svs H' svs ss ∧ Drv n cs ss cds ∧ cds.getLast? = some [] ∧ ss.length ≤ 31)
      (ep_call (ea_cons (ev_var rfl) (ea_cons (ev_var rfl) ea_nil)) fun H3 e3 Q q E => ⟨fv, dr, n, cs, drs, rfl, F2.t (.ex e3), by omega, e3 _ _ hdr, by omega, hcs, by omega, hm, fun p svs ss cds H' hp e h1 h2 h3 h4 h5 => q _ H' e ⟨p, svs, ss, cds, rfl, h1, h2, h3, h4, h5⟩⟩) fun v H3 e3 ⟨sp, svs, ss, cds, hv, hs1, hs2, hDv, hlast, hsl⟩ => ?_
    subst hv
    have F3 := F2.t (.ex e3)
    have hDl := hDv.len
    have hcc : ∀ c ∈ cds, Clause n c := fun c hc => by
      obtain ⟨i, hi⟩ := List.getElem?_of_mem hc
      exact hDv.clause hcs i c hi
    have hc30 : ∀ c ∈ cds, c.length ≤ 30 := fun c hc => by
      have := (hcc c hc).len
      omega
    -- what they derive
    refine q_asgP (P := fun v H' => LvN H3 H' v cds) (ep_call (ea_cons (ev_var rfl) (ea_cons (ev_var rfl) ea_nil)) fun H4 e4 Q q E => ⟨fv, sp, n, cs, svs, ss, cds, rfl, F3.t (.ex e4), e4 _ _ hs1, hs2.t (.ex e4), hDv, hcs, by omega, by omega, fun v H' e h => q v H' e (h.back e4)⟩) fun v H4 e4 ⟨du, dvs, hv, hdu0, hdu, hduc⟩ => ?_
    subst hv
    have F4 := F3.t (.ex e4)
    -- the whole log
    refine q_asgP (P := fun v H' => Tv H' v cds) (ep_callQ (eq_cons (Ev.p (ev_var rfl)) (eq_cons (EvU.p (eu_tupA (ev_var rfl) (e4 _ _ hs1))) eq_nil fun v H1 H2 e ⟨p, a, b, c⟩ => ⟨p, a, b, e _ _ c⟩) fun _ _ _ _ h => h) fun vs H5 e5 hvs Q q E => ?_) fun v H5 e5 ⟨lg, lvs, hv, hlg, hlgc⟩ => ?_
    · obtain ⟨v1, r1, rfl, rfl, v2, r2, rfl, ⟨tp, rfl, _, htp⟩, rfl⟩ := hvs
      exact ⟨_, tp, svs, n, cs, ss, cds, rfl, F4.t (.ex e5), htp, hs2.t (.ex (e4.trans e5)), hDv, by omega, hc30, fun v H' e h => q v H' e h⟩
    subst hv
    have F5 := F4.t (.ex e5)
    have hgood : GoodL cs cds := drv_good hDv hcs
    have e35 := e4.trans e5
    refine q_when (b := false) (et_is (et_or (a := false) (et_is (et_not (et_B (b := true) (ev_isiT (ev_var rfl) ev_c hlg (by decide +kernel)))) rfl) fun _ => et_or (a := false) (et_is (et_not (et_B (b := true) (ev_call (ea_cons (ev_var rfl) (ea_cons (ev_var rfl) ea_nil)) fun H6 e6 Q q E =>
      ⟨lg, du, lvs, dvs, cds, rfl, e6 _ _ hlg, hlgc.t (.ex e6), e6 _ _ (e5 _ _ hdu), hduc.t (.ex (e5.trans e6)), fun c hc => (by have := hc30 c hc; omega), by omega, q⟩))) rfl) fun _ => et_is (et_not (et_B (b := true) (ev_call (ea_cons (ev_var rfl) (ea_cons (ev_var rfl) ea_nil)) fun H6 e6 Q q E =>
      ⟨fv, lg, n, cs, cds, lvs, rfl, F5.t (.ex e6), .inr (e6 _ _ hlg), hlgc.t (.ex e6), hcs, hcc, by omega, by omega, fun b hb H' e => by
        have : b = true := hb.mpr ⟨hgood, hlast⟩
        subst this
        exact q H' e⟩))) rfl) rfl) (fun z => by cases z) fun _ H6 e6 => ?_
    have F6 := F5.t (.ex e6)
    have hdu6 := e6 _ _ (e5 _ _ hdu)
    have hduc6 := hduc.t (.ex (e5.trans e6))
    have dul := hduc.len
    obtain ⟨fa, fb, cvs, efv, f1, f2, f3⟩ := id F6
    subst efv
    have f3l := f3.len
    have cpos : 0 < cs.length := List.length_pos_iff.mpr fun z => by
      rw [z] at hm
      exact no_models hm
    -- the rows
    refine q_asgP (P := fun v H' => LvN H6 H' v (cds.filter fun c => !cs.contains c || decide (c = []))) (lcF (fun c => !cs.contains c || decide (c = [])) (src_list (ev_var rfl) hdu6) hduc6 (by omega) (fun x => rfl) (fun x => rfl)
      (fun x c H7 e7 _ hcx => et_or (et_test (ev_ninT (Ev.cv (ev_var rfl) hcx) (ev_ixT (v := .ref fb) (ev_var rfl) ev_c (e7 _ _ f1) rfl) (e7 _ _ f2) (f3.t (.ex e7)))) fun _ => et_test (ev_eqC (Ev.cv (ev_var rfl) hcx) ev_nilC))) fun v H7 e7 hv => ?_
    have e67 := e7
    -- what holds of the rows from here on
    let St : (List Cl → Prop) → L2.St → Hp → Prop := fun R σ' H' => ∃ (rv : V) (rows : List Cl) (x7 : Option V), σ' = [some (.ref a), some (.ref fa), some (.ref dr), some (.ref sp), some (.ref du), some (.ref lg), some rv, x7, none, none, none] ∧ Ex H6 H' ∧ LvN H6 H' rv rows ∧ (∀ c ∈ rows, Clause n c) ∧ R rows
    refine q_cut (M := St fun rows => rows.length ≤ 32) ?_ ?_
    · obtain ⟨ra, rvs, rfl, hra0, hra, hrac⟩ := hv
      have hrl := hrac.len
      have hfl : (cds.filter fun c => !cs.contains c || decide (c = [])).length ≤ cds.length := List.length_filter_le ..
      have hrC : ∀ c ∈ cds.filter (fun c => !cs.contains c || decide (c = [])), Clause n c := fun c hc => hcc c (List.mem_filter.mp hc).1
      generalize (cds.filter fun c => !cs.contains c || decide (c = [])) = rows at hrac hrl hfl hrC
      have hdr7 : H7 dr = some (.lst (drs.map V.int)) := e7 _ _ (e6 _ _ (e35 _ _ (e3 _ _ hdr)))
      have aD : ∀ j : Nat, (hj : j < 60) → atI (drs.map V.int) ((j : Nat) : Int) = some (.int drs[j]) := fun j hj => atI_nat (by rw [List.getElem?_map, List.getElem?_eq_getElem (by omega)] <;> rfl)
      refine s_when (b := decide (drs[50] % 2 = 1) && decide (0 < (rvs.length : Int))) (et_and (et_eqI (ev_I (ev_ixL (ev_var rfl) ev_c hdr7 (aD 50 (by decide))) ev_c (by decide)) ev_c) fun _ => et_I0 (ev_lenL (ev_var rfl) hra) ev_c) (fun hb H8 e8 => ?_) fun hb H8 e8 => ?_
      · rw [Bool.and_eq_true] at hb
        have rpos := of_decide_eq_true hb.2
        refine q_asg (v := .int (drs[51] % (rvs.length : Int))) (ev_I (ev_ixL (ev_var rfl) ev_c (e8 _ _ hdr7) (aD 51 (by decide))) (ev_lenL (ev_var rfl) (e8 _ _ hra)) (by show (0 : Int) < rvs.length; omega)) fun H9 e9 => ?_
        have m1 := Int.emod_nonneg drs[51] (show (rvs.length : Int) ≠ 0 by omega)
        have m2 := Int.emod_lt_of_pos drs[51] (show (0 : Int) < rvs.length by omega)
        obtain ⟨j, hj, ej⟩ : ∃ j : Nat, j < rvs.length ∧ drs[51] % (rvs.length : Int) = (j : Int) := ⟨(drs[51] % (rvs.length : Int)).toNat, by omega, by omega⟩
        rw [ej]
        have m3 := Int.emod_nonneg drs[52] (show (cvs.length : Int) ≠ 0 by omega)
        have m4 := Int.emod_lt_of_pos drs[52] (show (0 : Int) < cvs.length by omega)
        obtain ⟨j2, hj2, ej2⟩ : ∃ j : Nat, j < cvs.length ∧ drs[52] % (cvs.length : Int) = (j : Int) := ⟨(drs[52] % (cvs.length : Int)).toNat, by omega, by omega⟩
        obtain ⟨c2, hc2, hcx2⟩ := f3.left (List.getElem?_eq_getElem hj2)
        have e79 := e8.trans e9
        have e69 := e7.trans e79
        have hcat : Cvs H9 (rvs.take j ++ [cvs[j2]] ++ rvs.drop j) (rows.take j ++ [c2] ++ rows.drop j) := ((All2.take (hrac.t (.ex e79)) j).append (All2.one (hcx2.t (.ex e69)))).append (All2.drop (hrac.t (.ex e79)) j)
        have cutT : EvL (tSl (rSlL K) (tVar 6) tNoPart (tPart (tVar 7))) [some (.ref a), some (.ref fa), some (.ref dr), some (.ref sp), some (.ref du), some (.ref lg), some (.ref ra), some (.int (j : Int)), none, none, none] H9 (rvs.take j) := by
          have z := el_sl (K := K) (te := tVar 6) (σ := [some (.ref a), some (.ref fa), some (.ref dr), some (.ref sp), some (.ref du), some (.ref lg), some (.ref ra), some (.int (j : Int)), none, none, none]) (ev_var rfl) eo_none (eo_some (te := tVar 7) (ev_var rfl)) (sq_of (e79 _ _ hra))
          rw [cut_take] at z
          exact z
        have cutD : EvL (tSl (rSlL K) (tVar 6) (tPart (tVar 7)) tNoPart) [some (.ref a), some (.ref fa), some (.ref dr), some (.ref sp), some (.ref du), some (.ref lg), some (.ref ra), some (.int (j : Int)), none, none, none] H9 (rvs.drop j) := by
          have z := el_sl (K := K) (te := tVar 6) (σ := [some (.ref a), some (.ref fa), some (.ref dr), some (.ref sp), some (.ref du), some (.ref lg), some (.ref ra), some (.int (j : Int)), none, none, none]) (ev_var rfl) (eo_some (te := tVar 7) (ev_var rfl)) eo_none (sq_of (e79 _ _ hra))
          rw [cut_drop] at z
          exact z
        refine s_asgP (EvL.lvn (el_cat (el_cat cutT (el_lst (ea_cons (ev_ixT (v := cvs[j2]) (ev_ixT (v := .ref fb) (ev_var rfl) ev_c (e69 _ _ f1) rfl) (ev_I (ev_ixL (ev_var rfl) ev_c (e79 _ _ hdr7) (aD 52 (by decide))) (ev_lenT (ev_ixT (v := .ref fb) (ev_var rfl) ev_c (e69 _ _ f1) rfl) (e69 _ _ f2)) (by show (0 : Int) < cvs.length; omega)) (e69 _ _ f2) (by rw [ej2]; exact atI_nat (List.getElem?_eq_getElem hj2))) ea_nil) (by simp)) (by rw [List.length_take, List.length_singleton]; omega)) cutD (by rw [List.length_append, List.length_take, List.length_singleton, List.length_drop]; omega)) hcat) fun v H10 e10 hv => ⟨v, _, _, rfl, e69.trans e10, hv.back e69, fun c hc => ?_, ?_⟩
        · rcases List.mem_append.mp hc with z | z
          · rcases List.mem_append.mp z with y | y
            · exact hrC c (List.mem_of_mem_take y)
            · rw [List.mem_singleton.mp y]
              exact hcs c2 (List.mem_of_getElem? hc2)
          · exact hrC c (List.mem_of_mem_drop z)
        · show (rows.take j ++ [c2] ++ rows.drop j).length ≤ 32
          rw [List.length_append, List.length_append, List.length_take, List.length_singleton, List.length_drop]
          omega
      · exact ⟨.ref ra, rows, none, rfl, e7.trans e8, ⟨ra, rvs, rfl, hra0, e8 _ _ hra, hrac.t (.ex e8)⟩, hrC, by omega⟩
    · rintro σ' H8 ⟨rv, rows, x7, rfl, e8, ⟨ra, rvs, rfl, hra0, hra, hrac⟩, hrC, hrl⟩
      have hrl2 := hrac.len
      refine q_cut (M := St fun rows => rows.length ≤ 33) ?_ ?_
      · refine s_when (b := !rows.contains []) (et_test (ev_ninL ev_nilC (ev_var rfl) hra hrac)) (fun hb H9 e9 => ?_) fun hb H9 e9 => ?_
        · refine s_appP (P := fun v H' => Cv H' v []) (e9 _ _ hra) (ev_var rfl) ev_nilC (by omega) fun v H10 e10 hv => ?_
          have hr10 := e10 _ _ (e9 _ _ hra)
          have t10 : Tst H10 (upd H10 ra (.lst (rvs ++ [v]))) := Tst.lst hr10
          refine ⟨.ref ra, rows ++ [[]], _, rfl, Ex.mut ((e8.trans e9).trans e10) hra0, ⟨ra, _, rfl, hra0, upd_same, ((hrac.t (.ex (e9.trans e10))).t t10).snoc (hv.t t10)⟩, fun c hc => ?_, by show (rows ++ [[]]).length ≤ 33; rw [List.length_append]; show _ + 1 ≤ _; omega⟩
          rcases List.mem_append.mp hc with z | z
          · exact hrC c z
          · rw [List.mem_singleton.mp z]
            exact ⟨List.Pairwise.nil, fun x hx => (by cases hx), fun x hx => by cases hx⟩
        · exact ⟨.ref ra, rows, _, rfl, e8.trans e9, ⟨ra, rvs, rfl, hra0, e9 _ _ hra, hrac.t (.ex e9)⟩, hrC, by omega⟩
      · clear hra hrac hrC hrl hrl2
        rintro σ' H9 ⟨rv, rows, x7, rfl, e9, ⟨ra, rvs, rfl, hra0, hra, hrac⟩, hrC, hrl⟩
        have hrl2 := hrac.len
        refine q_cut (M := St fun rows => rows.length ≤ 33 ∧ GoodL cs rows ∧ rows.getLast? = some []) ?_ ?_
        · refine s_unless (R := fun b => b = true ↔ GoodL cs rows ∧ rows.getLast? = some []) (ep_call (ea_cons (ev_var rfl) (ea_cons (ev_var rfl) ea_nil)) fun H10 e10 Q q E => ⟨.ref fa, ra, n, cs, rows, rvs, rfl, F6.t (.ex (e9.trans e10)), .inl (e10 _ _ hra), hrac.t (.ex e10), hcs, hrC, by omega, by omega, fun b hb H' e => q _ H' e ⟨b, rfl, hb⟩⟩) (fun hb H10 e10 => ?_) fun hb H10 e10 => ?_
          · have e610 := e9.trans e10
            refine s_asgP (EvL.lvn (el_list (ev_var rfl) (sq_of (e610 _ _ hdu6))) (hduc6.t (.ex e610))) fun v H11 e11 hv => ⟨v, cds, _, rfl, e610.trans e11, hv.back e610, hcc, by omega, hgood, hlast⟩
          · exact ⟨.ref ra, rows, _, rfl, e9.trans e10, ⟨ra, rvs, rfl, hra0, e10 _ _ hra, hrac.t (.ex e10)⟩, hrC, hrl, hb.mp rfl⟩
        · clear hra hrac hrC hrl hrl2
          rintro σ' H10 ⟨rv, rows, x7, rfl, e10, ⟨ra, rvs, rfl, hra0, hra, hrac⟩, hrC, hrl, hg, hgl⟩
          have hrl2 := hrac.len
          have F10 := F6.t (.ex e10)
          -- the steps of the log
          refine q_asgP (P := fun v H' => ∃ t tvs ss' ds', v = .ref t ∧ H' t = some (.tup tvs) ∧ Svs H' tvs ss' ∧ Drv n cs ss' ds' ∧ ss'.length ≤ cs.length + n.toNat * rows.length ∧ ds'.getLast? = some [])
            (ep_callQ (eq_cons (Ev.p (ev_var rfl)) (eq_cons (EvU.p (eu_tupA (ev_var rfl) hra)) eq_nil fun v H1 H2 e ⟨p, a, b, c⟩ => ⟨p, a, b, e _ _ c⟩) fun _ _ _ _ h => h) fun vs H11 e11 hvs Q q E => ?_) fun v H11 e11 ⟨t, tvs, ss', ds', hv, ht, hts, hD', hl', hlast'⟩ => ?_
          · obtain ⟨v1, r1, rfl, rfl, v2, r2, rfl, ⟨tp, rfl, _, htp⟩, rfl⟩ := hvs
            exact ⟨_, tp, rvs, n, cs, rows, rfl, F10.t (.ex e11), htp, hrac.t (.ex e11), by omega, hcs, hrC, by omega, by omega, hg, hgl, fun t tvs ss' ds' H' _ e h1 h2 h3 h4 h5 => q _ H' e ⟨t, tvs, ss', ds', rfl, h1, h2, h3, h4, h5⟩⟩
          subst hv
          have F11 := F10.t (.ex e11)
          have htl := hts.len
          have hDl' := hD'.len
          have g1 := (e10.trans e11) _ _ f1
          have g2 := (e10.trans e11) _ _ f2
          have hmul : n * (rvs.length : Int) = ((n.toNat * rows.length : Nat) : Int) := by
            rw [hrl2, Int.natCast_mul]
            congr 1
            omega
          have hmb : n.toNat * rows.length ≤ 4 * 33 := Nat.mul_le_mul (by omega) hrl
          refine q_when (b := false) (et_is (et_or (a := false) (et_is (et_not (et_B (b := true) (ev_isiT (ev_var rfl) ev_c ht (by decide +kernel)))) rfl) fun _ => et_is (et_I0 (ev_lenT (ev_var rfl) ht) (ev_I0 (ev_lenT (ev_ixT (v := .ref fb) (ev_var rfl) ev_c g1 rfl) g2) (ev_I (ev_ixT (v := .int n) (ev_var rfl) ev_c g1 rfl) (ev_lenL (ev_var rfl) (e11 _ _ hra)) (.inl ⟨by omega, by omega⟩)))) (decide_eq_false (by rw [hmul]; omega))) rfl) (fun z => by cases z) fun _ H12 e12 => ?_
          refine q_asgP (P := fun v H' => LvN H12 H' v ds') (ep_call (ea_cons (ev_var rfl) (ea_cons (ev_var rfl) ea_nil)) fun H13 e13 Q q E => ⟨.ref fa, t, n, cs, tvs, ss', ds', rfl, F11.t (.ex (e12.trans e13)), (e12.trans e13) _ _ ht, hts.t (.ex (e12.trans e13)), hD', hcs, by omega, by omega, fun v H' e h => q v H' e (h.back e13)⟩) fun v H13 e13 ⟨ra3, wvs, hv, _, hw, hwc⟩ => ?_
          subst hv
          have hwl := hwc.len
          rw [List.getLast?_eq_getElem?] at hlast'
          have hll := (List.getElem?_eq_some_iff.mp hlast').1
          obtain ⟨u, hu, hcu⟩ := hwc.right hlast'
          have hsplit : atI wvs (-1) = some u := by
            have hne : wvs ≠ [] := fun z => by rw [z] at hwl; simp at hwl; omega
            have e1 : wvs.getLast hne = u := by
              rw [List.getLast_eq_getElem]
              have := (List.getElem?_eq_some_iff.mp hu).2
              have e2 : wvs.length - 1 = ds'.length - 1 := by omega
              simp only [e2]
              exact this
            rw [← List.dropLast_concat_getLast hne, e1]
            exact atI_last _ _
          refine s_ret (ev_is (ev_andV (a := true) (ev_is (ev_notNV (ev_var rfl)) rfl) fun _ => ev_andV (a := true) (ev_is (ev_I0 (ev_lenL (ev_var rfl) hw) ev_c) (congrArg V.bl (decide_eq_true (by omega)))) fun _ => ev_is (ev_eqC (Ev.cv (ev_ixL (i := -1) (ev_var rfl) (ev_neg ev_c) hw hsplit) hcu) ev_nilC) (congrArg V.bl (decide_eq_true rfl))) rfl) fun H14 e14 => k H14
end
end K75
set_option Elab.async false
set_option linter.all false
set_option maxRecDepth 100000
set_option maxHeartbeats 0
namespace K75
open PySem PySem.Spec PyProof.Rows L2
def d_is_integer : He.DefD := ⟨("is_integer", none), "is_integer", "is_integer", defArgs s_is_integer, defBody s_is_integer, defScope s_is_integer, [], []⟩
def d_is_number : He.DefD := ⟨("is_number", none), "is_number", "is_number", defArgs s_is_number, defBody s_is_number, defScope s_is_number, [], []⟩
def d_made_clause : He.DefD := ⟨("made_clause", none), "made_clause", "made_clause", defArgs s_made_clause, defBody s_made_clause, defScope s_made_clause, [], []⟩
def d_is_earlier : He.DefD := ⟨("is_earlier", none), "is_earlier", "is_earlier", defArgs s_is_earlier, defBody s_is_earlier, defScope s_is_earlier, [], []⟩
def d_resolvent : He.DefD := ⟨("resolvent", none), "resolvent", "resolvent", defArgs s_resolvent, defBody s_resolvent, defScope s_resolvent, [], []⟩
def d_axiom_clause : He.DefD := ⟨("axiom_clause", none), "axiom_clause", "axiom_clause", defArgs s_axiom_clause, defBody s_axiom_clause, defScope s_axiom_clause, [], []⟩
def d_resolved_clause : He.DefD := ⟨("resolved_clause", none), "resolved_clause", "resolved_clause", defArgs s_resolved_clause, defBody s_resolved_clause, defScope s_resolved_clause, [], []⟩
def d_next_clause : He.DefD := ⟨("next_clause", none), "next_clause", "next_clause", defArgs s_next_clause, defBody s_next_clause, defScope s_next_clause, [], []⟩
def d_clauses_of : He.DefD := ⟨("clauses_of", none), "clauses_of", "clauses_of", defArgs s_clauses_of, defBody s_clauses_of, defScope s_clauses_of, [], []⟩
def d_sources : He.DefD := ⟨("sources", none), "sources", "sources", defArgs s_sources, defBody s_sources, defScope s_sources, [], []⟩
def d_moved : He.DefD := ⟨("moved", none), "moved", "moved", defArgs s_moved, defBody s_moved, defScope s_moved, [], []⟩
def d_pruned_to : He.DefD := ⟨("pruned_to", none), "pruned_to", "pruned_to", defArgs s_pruned_to, defBody s_pruned_to, defScope s_pruned_to, [], []⟩
def d_Shortener_init : He.DefD := ⟨("Shortener", some "__init__"), "__init__", "Shortener.__init__", defArgs s_Shortener_init, defBody s_Shortener_init, defScope s_Shortener_init, [], []⟩
def d_Shortener_add : He.DefD := ⟨("Shortener", some "add"), "add", "Shortener.add", defArgs s_Shortener_add, defBody s_Shortener_add, defScope s_Shortener_add, [], []⟩
def d_Shortener_resolve : He.DefD := ⟨("Shortener", some "resolve"), "resolve", "Shortener.resolve", defArgs s_Shortener_resolve, defBody s_Shortener_resolve, defScope s_Shortener_resolve, [], []⟩
def d_log_of_steps : He.DefD := ⟨("log_of_steps", none), "log_of_steps", "log_of_steps", defArgs s_log_of_steps, defBody s_log_of_steps, defScope s_log_of_steps, [], []⟩
def d_LogFollower_init : He.DefD := ⟨("LogFollower", some "__init__"), "__init__", "LogFollower.__init__", defArgs s_LogFollower_init, defBody s_LogFollower_init, defScope s_LogFollower_init, [], []⟩
def d_LogFollower_cause : He.DefD := ⟨("LogFollower", some "cause"), "cause", "LogFollower.cause", defArgs s_LogFollower_cause, defBody s_LogFollower_cause, defScope s_LogFollower_cause, [], []⟩
def d_LogFollower_follow : He.DefD := ⟨("LogFollower", some "follow"), "follow", "LogFollower.follow", defArgs s_LogFollower_follow, defBody s_LogFollower_follow, defScope s_LogFollower_follow, [], []⟩
def d_LogFollower_taken : He.DefD := ⟨("LogFollower", some "taken"), "taken", "LogFollower.taken", defArgs s_LogFollower_taken, defBody s_LogFollower_taken, defScope s_LogFollower_taken, [], []⟩
def d_steps_of_log : He.DefD := ⟨("steps_of_log", none), "steps_of_log", "steps_of_log", defArgs s_steps_of_log, defBody s_steps_of_log, defScope s_steps_of_log, [], []⟩
def d_law_cell : He.DefD := ⟨("_law_cell", none), "_law_cell", "_law_cell", defArgs s_law_cell, defBody s_law_cell, defScope s_law_cell, [], []⟩
def d_law_draws : He.DefD := ⟨("_law_draws", none), "_law_draws", "_law_draws", defArgs s_law_draws, defBody s_law_draws, defScope s_law_draws, [], []⟩
def d_law_is_int : He.DefD := ⟨("_law_is_int", none), "_law_is_int", "_law_is_int", defArgs s_law_is_int, defBody s_law_is_int, defScope s_law_is_int, [], []⟩
def d_law_ints : He.DefD := ⟨("_law_ints", none), "_law_ints", "_law_ints", defArgs s_law_ints, defBody s_law_ints, defScope s_law_ints, [], []⟩
def d_law_is_tuple : He.DefD := ⟨("_law_is_tuple", none), "_law_is_tuple", "_law_is_tuple", defArgs s_law_is_tuple, defBody s_law_is_tuple, defScope s_law_is_tuple, [], []⟩
def d_law_clause_of : He.DefD := ⟨("_law_clause_of", none), "_law_clause_of", "_law_clause_of", defArgs s_law_clause_of, defBody s_law_clause_of, defScope s_law_clause_of, [], []⟩
def d_law_rows : He.DefD := ⟨("_law_rows", none), "_law_rows", "_law_rows", defArgs s_law_rows, defBody s_law_rows, defScope s_law_rows, [], []⟩
def d_law_of_rows : He.DefD := ⟨("_law_of_rows", none), "_law_of_rows", "_law_of_rows", defArgs s_law_of_rows, defBody s_law_of_rows, defScope s_law_of_rows, [], []⟩
def d_law_formula : He.DefD := ⟨("_law_formula", none), "_law_formula", "_law_formula", defArgs s_law_formula, defBody s_law_formula, defScope s_law_formula, [], []⟩
def d_law_assignments : He.DefD := ⟨("_law_assignments", none), "_law_assignments", "_law_assignments", defArgs s_law_assignments, defBody s_law_assignments, defScope s_law_assignments, [], []⟩
def d_law_breaks : He.DefD := ⟨("_law_breaks", none), "_law_breaks", "_law_breaks", defArgs s_law_breaks, defBody s_law_breaks, defScope s_law_breaks, [], []⟩
def d_law_meets : He.DefD := ⟨("_law_meets", none), "_law_meets", "_law_meets", defArgs s_law_meets, defBody s_law_meets, defScope s_law_meets, [], []⟩
def d_law_models : He.DefD := ⟨("_law_models", none), "_law_models", "_law_models", defArgs s_law_models, defBody s_law_models, defScope s_law_models, [], []⟩
def d_law_hopeless : He.DefD := ⟨("_law_hopeless", none), "_law_hopeless", "_law_hopeless", defArgs s_law_hopeless, defBody s_law_hopeless, defScope s_law_hopeless, [], []⟩
def d_law_rows_same : He.DefD := ⟨("_law_rows_same", none), "_law_rows_same", "_law_rows_same", defArgs s_law_rows_same, defBody s_law_rows_same, defScope s_law_rows_same, [], []⟩
def d_law_tree : He.DefD := ⟨("_law_tree", none), "_law_tree", "_law_tree", defArgs s_law_tree, defBody s_law_tree, defScope s_law_tree, [], []⟩
def d_law_steps : He.DefD := ⟨("_law_steps", none), "_law_steps", "_law_steps", defArgs s_law_steps, defBody s_law_steps, defScope s_law_steps, [], []⟩
def d_law_pushed : He.DefD := ⟨("_law_pushed", none), "_law_pushed", "_law_pushed", defArgs s_law_pushed, defBody s_law_pushed, defScope s_law_pushed, [], []⟩
def d_law_opposite : He.DefD := ⟨("_law_opposite", none), "_law_opposite", "_law_opposite", defArgs s_law_opposite, defBody s_law_opposite, defScope s_law_opposite, [], []⟩
def d_law_at_once : He.DefD := ⟨("_law_at_once", none), "_law_at_once", "_law_at_once", defArgs s_law_at_once, defBody s_law_at_once, defScope s_law_at_once, [], []⟩
def d_law_good_log : He.DefD := ⟨("_law_good_log", none), "_law_good_log", "_law_good_log", defArgs s_law_good_log, defBody s_law_good_log, defScope s_law_good_log, [], []⟩
def d_law_tree_steps : He.DefD := ⟨("_law_tree_steps", none), "_law_tree_steps", "_law_tree_steps", defArgs s_law_tree_steps, defBody s_law_tree_steps, defScope s_law_tree_steps, [], []⟩
def d_law_made_steps : He.DefD := ⟨("_law_made_steps", none), "_law_made_steps", "_law_made_steps", defArgs s_law_made_steps, defBody s_law_made_steps, defScope s_law_made_steps, [], []⟩
def d_law_one : He.DefD := ⟨("_law_one", none), "_law_one", "_law_one", defArgs s_law_one, defBody s_law_one, defScope s_law_one, [], []⟩
def d_law_read : He.DefD := ⟨("_law_read", none), "_law_read", "_law_read", defArgs s_law_read, defBody s_law_read, defScope s_law_read, [], []⟩
def d_law : He.DefD := ⟨("law", none), "law", "law", defArgs s_law, defBody s_law, defScope s_law, [], []⟩
def hfn : List He.DefD := ([d_is_integer, d_is_number, d_made_clause, d_is_earlier, d_resolvent, d_axiom_clause, d_resolved_clause, d_next_clause, d_clauses_of, d_sources, d_moved, d_pruned_to, d_Shortener_init, d_Shortener_add, d_Shortener_resolve, d_log_of_steps, d_LogFollower_init, d_LogFollower_cause, d_LogFollower_follow, d_LogFollower_taken] : List He.DefD) ++
  ([d_steps_of_log, d_law_cell, d_law_draws, d_law_is_int, d_law_ints, d_law_is_tuple, d_law_clause_of, d_law_rows, d_law_of_rows, d_law_formula, d_law_assignments, d_law_breaks, d_law_meets, d_law_models, d_law_hopeless, d_law_rows_same, d_law_tree, d_law_steps, d_law_pushed, d_law_opposite] : List He.DefD) ++
  ([d_law_at_once, d_law_good_log, d_law_tree_steps, d_law_made_steps, d_law_one, d_law_read, d_law] : List He.DefD)
def hfa : List He.Fa := ([.glo "is_integer", .glo "is_number", .glo "made_clause", .glo "is_earlier", .glo "resolvent", .glo "axiom_clause", .glo "resolved_clause", .glo "next_clause", .glo "clauses_of", .glo "sources", .glo "moved", .glo "pruned_to", .glo "log_of_steps", .glo "steps_of_log", .glo "_law_cell", .glo "_law_draws", .glo "_law_is_int", .glo "_law_ints", .glo "_law_is_tuple", .glo "_law_clause_of"] : List He.Fa) ++
  ([.glo "_law_rows", .glo "_law_of_rows", .glo "_law_formula", .glo "_law_assignments", .glo "_law_breaks", .glo "_law_meets", .glo "_law_models", .glo "_law_hopeless", .glo "_law_rows_same", .glo "_law_tree", .glo "_law_steps", .glo "_law_pushed", .glo "_law_opposite", .glo "_law_at_once", .glo "_law_good_log", .glo "_law_tree_steps", .glo "_law_made_steps", .glo "_law_one", .glo "_law_read", .glo "law"] : List He.Fa) ++
  ([.glo "Shortener", .glo "LogFollower", .free "len", .free "range", .free "sorted", .free "abs", .free "isinstance", .free "tuple", .free "list", .free "int", .free "bool", .free "set", .free "enumerate", .free "reversed", .cls "Shortener", .mkr "Shortener", .noat "Shortener" "formula", .noat "Shortener" "steps", .noat "Shortener" "clauses", .meth "Shortener" "add"] : List He.Fa) ++
  ([.meth "Shortener" "resolve", .cls "LogFollower", .mkr "LogFollower", .noat "LogFollower" "writer", .noat "LogFollower" "places", .meth "LogFollower" "cause", .meth "LogFollower" "follow", .meth "LogFollower" "taken"] : List He.Fa)
def hnames : List PySem.Str := (["RebutError", "WrongStep", "is_integer", "is_number", "is_ascending", "is_clause", "made_clause", "is_earlier", "resolvent", "axiom_clause", "resolved_clause", "weakened_clause", "next_clause", "clauses_of", "sources", "moved", "pruned_to", "Shortener", "log_of_steps", "LogFollower"] : List PySem.Str) ++
  (["steps_of_log", "_law_cell", "_law_draws", "_law_is_int", "_law_ints", "_law_is_tuple", "_law_clause_of", "_law_rows", "_law_of_rows", "_law_formula", "_law_assignments", "_law_breaks", "_law_meets", "_law_models", "_law_hopeless", "_law_rows_same", "_law_tree", "_law_steps", "_law_pushed", "_law_opposite"] : List PySem.Str) ++
  (["_law_at_once", "_law_good_log", "_law_tree_steps", "_law_made_steps", "_law_one", "_law_read"] : List PySem.Str)
abbrev R : PySem.W.OpenRow := PySem.W.OpenLaw.row PySem.Challenge.rw_rebut_k75_whole_logs_and_refutations
abbrev hk : PySem.W.Hook := He.hookD 5 hfa hfn
def hob (s : PySem.W.SharedT) : He.AlD := He.obsDG 5 hfa hfn (HandSHeadRun.getT s)
theorem hob_eq (s : PySem.W.SharedT) : hob s = hk.obs s.abs := He.obsDG_eq (HandSHeadRun.getT_eq s)
theorem hrun (w : World) : HandSHeadRun.RunEq R (PySem.W.view R.prog [51]) hk hob 3000 hnames w := by
  intro os
  kernel_rfl
end K75
set_option Elab.async false
set_option linter.all false
set_option maxRecDepth 100000
set_option maxHeartbeats 0
namespace K75
open PySem PySem.Spec PyProof.Rows L2
theorem txt_of {K : PySem.W.Frag} {h : Heap} {mg : PySem.Str → Option Value} (X : K.In h) (G : h.Ns mainGlobals mg) (c : He.SaysD hfa hfn K) : Txt K mg (He.ga K "Shortener") (He.ga K "LogFollower") := by
  obtain ⟨fd_is_integer, F0_is_integer⟩ := c.def_ 0 (d := d_is_integer) rfl
  have F_is_integer : FunD K "is_integer" "is_integer" (defArgs s_is_integer) (defBody s_is_integer) (defScope s_is_integer) [] [] (He.ga K "is_integer") fd_is_integer := F0_is_integer
  have B_is_integer : Binds K fd_is_integer p_is_integer [] := F_is_integer.bindsN fun _ _ _ _ _ _ us hl => match us, hl with | [_], _ => rfl
  obtain ⟨fd_is_number, F0_is_number⟩ := c.def_ 1 (d := d_is_number) rfl
  have F_is_number : FunD K "is_number" "is_number" (defArgs s_is_number) (defBody s_is_number) (defScope s_is_number) [] [] (He.ga K "is_number") fd_is_number := F0_is_number
  have B_is_number : Binds K fd_is_number p_is_number [] := F_is_number.bindsN fun _ _ _ _ _ _ us hl => match us, hl with | [_], _ => rfl
  obtain ⟨fd_made_clause, F0_made_clause⟩ := c.def_ 2 (d := d_made_clause) rfl
  have F_made_clause : FunD K "made_clause" "made_clause" (defArgs s_made_clause) (defBody s_made_clause) (defScope s_made_clause) [] [] (He.ga K "made_clause") fd_made_clause := F0_made_clause
  have B_made_clause : Binds K fd_made_clause p_made_clause [] := F_made_clause.bindsN fun _ _ _ _ _ _ us hl => match us, hl with | [_], _ => rfl
  obtain ⟨fd_is_earlier, F0_is_earlier⟩ := c.def_ 3 (d := d_is_earlier) rfl
  have F_is_earlier : FunD K "is_earlier" "is_earlier" (defArgs s_is_earlier) (defBody s_is_earlier) (defScope s_is_earlier) [] [] (He.ga K "is_earlier") fd_is_earlier := F0_is_earlier
  have B_is_earlier : Binds K fd_is_earlier p_is_earlier [] := F_is_earlier.bindsN fun _ _ _ _ _ _ us hl => match us, hl with | [_, _], _ => rfl
  obtain ⟨fd_resolvent, F0_resolvent⟩ := c.def_ 4 (d := d_resolvent) rfl
  have F_resolvent : FunD K "resolvent" "resolvent" (defArgs s_resolvent) (defBody s_resolvent) (defScope s_resolvent) [] [] (He.ga K "resolvent") fd_resolvent := F0_resolvent
  have B_resolvent : Binds K fd_resolvent p_resolvent [] := F_resolvent.bindsN fun _ _ _ _ _ _ us hl => match us, hl with | [_, _, _], _ => rfl
  obtain ⟨fd_axiom_clause, F0_axiom_clause⟩ := c.def_ 5 (d := d_axiom_clause) rfl
  have F_axiom_clause : FunD K "axiom_clause" "axiom_clause" (defArgs s_axiom_clause) (defBody s_axiom_clause) (defScope s_axiom_clause) [] [] (He.ga K "axiom_clause") fd_axiom_clause := F0_axiom_clause
  have B_axiom_clause : Binds K fd_axiom_clause p_axiom_clause [] := F_axiom_clause.bindsN fun _ _ _ _ _ _ us hl => match us, hl with | [_, _], _ => rfl
  obtain ⟨fd_resolved_clause, F0_resolved_clause⟩ := c.def_ 6 (d := d_resolved_clause) rfl
  have F_resolved_clause : FunD K "resolved_clause" "resolved_clause" (defArgs s_resolved_clause) (defBody s_resolved_clause) (defScope s_resolved_clause) [] [] (He.ga K "resolved_clause") fd_resolved_clause := F0_resolved_clause
  have B_resolved_clause : Binds K fd_resolved_clause p_resolved_clause [] := F_resolved_clause.bindsN fun _ _ _ _ _ _ us hl => match us, hl with | [_, _, _], _ => rfl
  obtain ⟨fd_next_clause, F0_next_clause⟩ := c.def_ 7 (d := d_next_clause) rfl
  have F_next_clause : FunD K "next_clause" "next_clause" (defArgs s_next_clause) (defBody s_next_clause) (defScope s_next_clause) [] [] (He.ga K "next_clause") fd_next_clause := F0_next_clause
  have B_next_clause : Binds K fd_next_clause p_next_clause [] := F_next_clause.bindsN fun _ _ _ _ _ _ us hl => match us, hl with | [_, _, _], _ => rfl
  obtain ⟨fd_clauses_of, F0_clauses_of⟩ := c.def_ 8 (d := d_clauses_of) rfl
  have F_clauses_of : FunD K "clauses_of" "clauses_of" (defArgs s_clauses_of) (defBody s_clauses_of) (defScope s_clauses_of) [] [] (He.ga K "clauses_of") fd_clauses_of := F0_clauses_of
  have B_clauses_of : Binds K fd_clauses_of p_clauses_of [] := F_clauses_of.bindsN fun _ _ _ _ _ _ us hl => match us, hl with | [_, _], _ => rfl
  obtain ⟨fd_sources, F0_sources⟩ := c.def_ 9 (d := d_sources) rfl
  have F_sources : FunD K "sources" "sources" (defArgs s_sources) (defBody s_sources) (defScope s_sources) [] [] (He.ga K "sources") fd_sources := F0_sources
  have B_sources : Binds K fd_sources p_sources [] := F_sources.bindsN fun _ _ _ _ _ _ us hl => match us, hl with | [_], _ => rfl
  obtain ⟨fd_moved, F0_moved⟩ := c.def_ 10 (d := d_moved) rfl
  have F_moved : FunD K "moved" "moved" (defArgs s_moved) (defBody s_moved) (defScope s_moved) [] [] (He.ga K "moved") fd_moved := F0_moved
  have B_moved : Binds K fd_moved p_moved [] := F_moved.bindsN fun _ _ _ _ _ _ us hl => match us, hl with | [_, _], _ => rfl
  obtain ⟨fd_pruned_to, F0_pruned_to⟩ := c.def_ 11 (d := d_pruned_to) rfl
  have F_pruned_to : FunD K "pruned_to" "pruned_to" (defArgs s_pruned_to) (defBody s_pruned_to) (defScope s_pruned_to) [] [] (He.ga K "pruned_to") fd_pruned_to := F0_pruned_to
  have B_pruned_to : Binds K fd_pruned_to p_pruned_to [] := F_pruned_to.bindsN fun _ _ _ _ _ _ us hl => match us, hl with | [_, _], _ => rfl
  obtain ⟨fd_log_of_steps, F0_log_of_steps⟩ := c.def_ 15 (d := d_log_of_steps) rfl
  have F_log_of_steps : FunD K "log_of_steps" "log_of_steps" (defArgs s_log_of_steps) (defBody s_log_of_steps) (defScope s_log_of_steps) [] [] (He.ga K "log_of_steps") fd_log_of_steps := F0_log_of_steps
  have B_log_of_steps : Binds K fd_log_of_steps p_log_of_steps [] := F_log_of_steps.bindsN fun _ _ _ _ _ _ us hl => match us, hl with | [_, _], _ => rfl
  obtain ⟨fd_steps_of_log, F0_steps_of_log⟩ := c.def_ 20 (d := d_steps_of_log) rfl
  have F_steps_of_log : FunD K "steps_of_log" "steps_of_log" (defArgs s_steps_of_log) (defBody s_steps_of_log) (defScope s_steps_of_log) [] [] (He.ga K "steps_of_log") fd_steps_of_log := F0_steps_of_log
  have B_steps_of_log : Binds K fd_steps_of_log p_steps_of_log [] := F_steps_of_log.bindsN fun _ _ _ _ _ _ us hl => match us, hl with | [_, _], _ => rfl
  obtain ⟨fd_law_cell, F0_law_cell⟩ := c.def_ 21 (d := d_law_cell) rfl
  have F_law_cell : FunD K "_law_cell" "_law_cell" (defArgs s_law_cell) (defBody s_law_cell) (defScope s_law_cell) [] [] (He.ga K "_law_cell") fd_law_cell := F0_law_cell
  have B_law_cell : Binds K fd_law_cell p_law_cell [] := F_law_cell.bindsN fun _ _ _ _ _ _ us hl => match us, hl with | [_, _], _ => rfl
  obtain ⟨fd_law_draws, F0_law_draws⟩ := c.def_ 22 (d := d_law_draws) rfl
  have F_law_draws : FunD K "_law_draws" "_law_draws" (defArgs s_law_draws) (defBody s_law_draws) (defScope s_law_draws) [] [] (He.ga K "_law_draws") fd_law_draws := F0_law_draws
  have B_law_draws : Binds K fd_law_draws p_law_draws [] := F_law_draws.bindsN fun _ _ _ _ _ _ us hl => match us, hl with | [_, _], _ => rfl
  obtain ⟨fd_law_is_int, F0_law_is_int⟩ := c.def_ 23 (d := d_law_is_int) rfl
  have F_law_is_int : FunD K "_law_is_int" "_law_is_int" (defArgs s_law_is_int) (defBody s_law_is_int) (defScope s_law_is_int) [] [] (He.ga K "_law_is_int") fd_law_is_int := F0_law_is_int
  have B_law_is_int : Binds K fd_law_is_int p_law_is_int [] := F_law_is_int.bindsN fun _ _ _ _ _ _ us hl => match us, hl with | [_], _ => rfl
  obtain ⟨fd_law_ints, F0_law_ints⟩ := c.def_ 24 (d := d_law_ints) rfl
  have F_law_ints : FunD K "_law_ints" "_law_ints" (defArgs s_law_ints) (defBody s_law_ints) (defScope s_law_ints) [] [] (He.ga K "_law_ints") fd_law_ints := F0_law_ints
  have B_law_ints : Binds K fd_law_ints p_law_ints [] := F_law_ints.bindsN fun _ _ _ _ _ _ us hl => match us, hl with | [_, _], _ => rfl
  obtain ⟨fd_law_is_tuple, F0_law_is_tuple⟩ := c.def_ 25 (d := d_law_is_tuple) rfl
  have F_law_is_tuple : FunD K "_law_is_tuple" "_law_is_tuple" (defArgs s_law_is_tuple) (defBody s_law_is_tuple) (defScope s_law_is_tuple) [] [] (He.ga K "_law_is_tuple") fd_law_is_tuple := F0_law_is_tuple
  have B_law_is_tuple : Binds K fd_law_is_tuple p_law_is_tuple [] := F_law_is_tuple.bindsN fun _ _ _ _ _ _ us hl => match us, hl with | [_, _], _ => rfl
  obtain ⟨fd_law_clause_of, F0_law_clause_of⟩ := c.def_ 26 (d := d_law_clause_of) rfl
  have F_law_clause_of : FunD K "_law_clause_of" "_law_clause_of" (defArgs s_law_clause_of) (defBody s_law_clause_of) (defScope s_law_clause_of) [] [] (He.ga K "_law_clause_of") fd_law_clause_of := F0_law_clause_of
  have B_law_clause_of : Binds K fd_law_clause_of p_law_clause_of [] := F_law_clause_of.bindsN fun _ _ _ _ _ _ us hl => match us, hl with | [_], _ => rfl
  obtain ⟨fd_law_rows, F0_law_rows⟩ := c.def_ 27 (d := d_law_rows) rfl
  have F_law_rows : FunD K "_law_rows" "_law_rows" (defArgs s_law_rows) (defBody s_law_rows) (defScope s_law_rows) [] [] (He.ga K "_law_rows") fd_law_rows := F0_law_rows
  have B_law_rows : Binds K fd_law_rows p_law_rows [] := F_law_rows.bindsN fun _ _ _ _ _ _ us hl => match us, hl with | [_, _, _, _, _], _ => rfl
  obtain ⟨fd_law_of_rows, F0_law_of_rows⟩ := c.def_ 28 (d := d_law_of_rows) rfl
  have F_law_of_rows : FunD K "_law_of_rows" "_law_of_rows" (defArgs s_law_of_rows) (defBody s_law_of_rows) (defScope s_law_of_rows) [] [] (He.ga K "_law_of_rows") fd_law_of_rows := F0_law_of_rows
  have B_law_of_rows : Binds K fd_law_of_rows p_law_of_rows [] := F_law_of_rows.bindsN fun _ _ _ _ _ _ us hl => match us, hl with | [_, _], _ => rfl
  obtain ⟨fd_law_formula, F0_law_formula⟩ := c.def_ 29 (d := d_law_formula) rfl
  have F_law_formula : FunD K "_law_formula" "_law_formula" (defArgs s_law_formula) (defBody s_law_formula) (defScope s_law_formula) [] [] (He.ga K "_law_formula") fd_law_formula := F0_law_formula
  have B_law_formula : Binds K fd_law_formula p_law_formula [] := F_law_formula.bindsN fun _ _ _ _ _ _ us hl => match us, hl with | [_, _, _], _ => rfl
  obtain ⟨fd_law_assignments, F0_law_assignments⟩ := c.def_ 30 (d := d_law_assignments) rfl
  have F_law_assignments : FunD K "_law_assignments" "_law_assignments" (defArgs s_law_assignments) (defBody s_law_assignments) (defScope s_law_assignments) [] [] (He.ga K "_law_assignments") fd_law_assignments := F0_law_assignments
  have B_law_assignments : Binds K fd_law_assignments p_law_assignments [] := F_law_assignments.bindsN fun _ _ _ _ _ _ us hl => match us, hl with | [_], _ => rfl
  obtain ⟨fd_law_breaks, F0_law_breaks⟩ := c.def_ 31 (d := d_law_breaks) rfl
  have F_law_breaks : FunD K "_law_breaks" "_law_breaks" (defArgs s_law_breaks) (defBody s_law_breaks) (defScope s_law_breaks) [] [] (He.ga K "_law_breaks") fd_law_breaks := F0_law_breaks
  have B_law_breaks : Binds K fd_law_breaks p_law_breaks [] := F_law_breaks.bindsN fun _ _ _ _ _ _ us hl => match us, hl with | [_, _], _ => rfl
  obtain ⟨fd_law_meets, F0_law_meets⟩ := c.def_ 32 (d := d_law_meets) rfl
  have F_law_meets : FunD K "_law_meets" "_law_meets" (defArgs s_law_meets) (defBody s_law_meets) (defScope s_law_meets) [] [] (He.ga K "_law_meets") fd_law_meets := F0_law_meets
  have B_law_meets : Binds K fd_law_meets p_law_meets [] := F_law_meets.bindsN fun _ _ _ _ _ _ us hl => match us, hl with | [_, _], _ => rfl
  obtain ⟨fd_law_models, F0_law_models⟩ := c.def_ 33 (d := d_law_models) rfl
  have F_law_models : FunD K "_law_models" "_law_models" (defArgs s_law_models) (defBody s_law_models) (defScope s_law_models) [] [] (He.ga K "_law_models") fd_law_models := F0_law_models
  have B_law_models : Binds K fd_law_models p_law_models [] := F_law_models.bindsN fun _ _ _ _ _ _ us hl => match us, hl with | [_], _ => rfl
  obtain ⟨fd_law_hopeless, F0_law_hopeless⟩ := c.def_ 34 (d := d_law_hopeless) rfl
  have F_law_hopeless : FunD K "_law_hopeless" "_law_hopeless" (defArgs s_law_hopeless) (defBody s_law_hopeless) (defScope s_law_hopeless) [] [] (He.ga K "_law_hopeless") fd_law_hopeless := F0_law_hopeless
  have B_law_hopeless : Binds K fd_law_hopeless p_law_hopeless [] := F_law_hopeless.bindsN fun _ _ _ _ _ _ us hl => match us, hl with | [_, _, _], _ => rfl
  obtain ⟨fd_law_rows_same, F0_law_rows_same⟩ := c.def_ 35 (d := d_law_rows_same) rfl
  have F_law_rows_same : FunD K "_law_rows_same" "_law_rows_same" (defArgs s_law_rows_same) (defBody s_law_rows_same) (defScope s_law_rows_same) [] [] (He.ga K "_law_rows_same") fd_law_rows_same := F0_law_rows_same
  have B_law_rows_same : Binds K fd_law_rows_same p_law_rows_same [] := F_law_rows_same.bindsN fun _ _ _ _ _ _ us hl => match us, hl with | [_, _], _ => rfl
  obtain ⟨fd_law_tree, F0_law_tree⟩ := c.def_ 36 (d := d_law_tree) rfl
  have F_law_tree : FunD K "_law_tree" "_law_tree" (defArgs s_law_tree) (defBody s_law_tree) (defScope s_law_tree) [] [] (He.ga K "_law_tree") fd_law_tree := F0_law_tree
  have B_law_tree : Binds K fd_law_tree p_law_tree [] := F_law_tree.bindsN fun _ _ _ _ _ _ us hl => match us, hl with | [_, _, _, _], _ => rfl
  obtain ⟨fd_law_steps, F0_law_steps⟩ := c.def_ 37 (d := d_law_steps) rfl
  have F_law_steps : FunD K "_law_steps" "_law_steps" (defArgs s_law_steps) (defBody s_law_steps) (defScope s_law_steps) [] [] (He.ga K "_law_steps") fd_law_steps := F0_law_steps
  have B_law_steps : Binds K fd_law_steps p_law_steps [] := F_law_steps.bindsN fun _ _ _ _ _ _ us hl => match us, hl with | [_, _], _ => rfl
  obtain ⟨fd_law_pushed, F0_law_pushed⟩ := c.def_ 38 (d := d_law_pushed) rfl
  have F_law_pushed : FunD K "_law_pushed" "_law_pushed" (defArgs s_law_pushed) (defBody s_law_pushed) (defScope s_law_pushed) [] [] (He.ga K "_law_pushed") fd_law_pushed := F0_law_pushed
  have B_law_pushed : Binds K fd_law_pushed p_law_pushed [] := F_law_pushed.bindsN fun _ _ _ _ _ _ us hl => match us, hl with | [_, _, _], _ => rfl
  obtain ⟨fd_law_opposite, F0_law_opposite⟩ := c.def_ 39 (d := d_law_opposite) rfl
  have F_law_opposite : FunD K "_law_opposite" "_law_opposite" (defArgs s_law_opposite) (defBody s_law_opposite) (defScope s_law_opposite) [] [] (He.ga K "_law_opposite") fd_law_opposite := F0_law_opposite
  have B_law_opposite : Binds K fd_law_opposite p_law_opposite [] := F_law_opposite.bindsN fun _ _ _ _ _ _ us hl => match us, hl with | [_], _ => rfl
  obtain ⟨fd_law_at_once, F0_law_at_once⟩ := c.def_ 40 (d := d_law_at_once) rfl
  have F_law_at_once : FunD K "_law_at_once" "_law_at_once" (defArgs s_law_at_once) (defBody s_law_at_once) (defScope s_law_at_once) [] [] (He.ga K "_law_at_once") fd_law_at_once := F0_law_at_once
  have B_law_at_once : Binds K fd_law_at_once p_law_at_once [] := F_law_at_once.bindsN fun _ _ _ _ _ _ us hl => match us, hl with | [_, _, _], _ => rfl
  obtain ⟨fd_law_good_log, F0_law_good_log⟩ := c.def_ 41 (d := d_law_good_log) rfl
  have F_law_good_log : FunD K "_law_good_log" "_law_good_log" (defArgs s_law_good_log) (defBody s_law_good_log) (defScope s_law_good_log) [] [] (He.ga K "_law_good_log") fd_law_good_log := F0_law_good_log
  have B_law_good_log : Binds K fd_law_good_log p_law_good_log [] := F_law_good_log.bindsN fun _ _ _ _ _ _ us hl => match us, hl with | [_, _], _ => rfl
  obtain ⟨fd_law_tree_steps, F0_law_tree_steps⟩ := c.def_ 42 (d := d_law_tree_steps) rfl
  have F_law_tree_steps : FunD K "_law_tree_steps" "_law_tree_steps" (defArgs s_law_tree_steps) (defBody s_law_tree_steps) (defScope s_law_tree_steps) [] [] (He.ga K "_law_tree_steps") fd_law_tree_steps := F0_law_tree_steps
  have B_law_tree_steps : Binds K fd_law_tree_steps p_law_tree_steps [] := F_law_tree_steps.bindsN fun _ _ _ _ _ _ us hl => match us, hl with | [_, _, _, _], _ => rfl
  obtain ⟨fd_law_made_steps, F0_law_made_steps⟩ := c.def_ 43 (d := d_law_made_steps) rfl
  have F_law_made_steps : FunD K "_law_made_steps" "_law_made_steps" (defArgs s_law_made_steps) (defBody s_law_made_steps) (defScope s_law_made_steps) [] [] (He.ga K "_law_made_steps") fd_law_made_steps := F0_law_made_steps
  have B_law_made_steps : Binds K fd_law_made_steps p_law_made_steps [] := F_law_made_steps.bindsN fun _ _ _ _ _ _ us hl => match us, hl with | [_, _], _ => rfl
  obtain ⟨fd_law_one, F0_law_one⟩ := c.def_ 44 (d := d_law_one) rfl
  have F_law_one : FunD K "_law_one" "_law_one" (defArgs s_law_one) (defBody s_law_one) (defScope s_law_one) [] [] (He.ga K "_law_one") fd_law_one := F0_law_one
  have B_law_one : Binds K fd_law_one p_law_one [] := F_law_one.bindsN fun _ _ _ _ _ _ us hl => match us, hl with | [_, _, _], _ => rfl
  obtain ⟨fd_law_read, F0_law_read⟩ := c.def_ 45 (d := d_law_read) rfl
  have F_law_read : FunD K "_law_read" "_law_read" (defArgs s_law_read) (defBody s_law_read) (defScope s_law_read) [] [] (He.ga K "_law_read") fd_law_read := F0_law_read
  have B_law_read : Binds K fd_law_read p_law_read [] := F_law_read.bindsN fun _ _ _ _ _ _ us hl => match us, hl with | [_, _], _ => rfl
  obtain ⟨fd_law, F0_law⟩ := c.def_ 46 (d := d_law) rfl
  have F_law : FunD K "law" "law" (defArgs s_law) (defBody s_law) (defScope s_law) [] [] (He.ga K "law") fd_law := F0_law
  have B_law : Binds K fd_law p_law [] := F_law.bindsN fun _ _ _ _ _ _ us hl => match us, hl with | [_], _ => rfl
  obtain ⟨fd_Shortener_init, F0_Shortener_init⟩ := c.def_ 12 (d := d_Shortener_init) rfl
  have F_Shortener_init : FunD K "__init__" "Shortener.__init__" (defArgs s_Shortener_init) (defBody s_Shortener_init) (defScope s_Shortener_init) [] [] (He.ma K (He.ga K "Shortener") "__init__") fd_Shortener_init := F0_Shortener_init
  have B_Shortener_init : Binds K fd_Shortener_init p_Shortener_init [] := F_Shortener_init.bindsN fun _ _ _ _ _ _ us hl => match us, hl with | [_, _], _ => rfl
  obtain ⟨fd_Shortener_add, F0_Shortener_add⟩ := c.def_ 13 (d := d_Shortener_add) rfl
  have F_Shortener_add : FunD K "add" "Shortener.add" (defArgs s_Shortener_add) (defBody s_Shortener_add) (defScope s_Shortener_add) [] [] (He.ma K (He.ga K "Shortener") "add") fd_Shortener_add := F0_Shortener_add
  have B_Shortener_add : Binds K fd_Shortener_add p_Shortener_add [] := F_Shortener_add.bindsN fun _ _ _ _ _ _ us hl => match us, hl with | [_, _], _ => rfl
  obtain ⟨fd_Shortener_resolve, F0_Shortener_resolve⟩ := c.def_ 14 (d := d_Shortener_resolve) rfl
  have F_Shortener_resolve : FunD K "resolve" "Shortener.resolve" (defArgs s_Shortener_resolve) (defBody s_Shortener_resolve) (defScope s_Shortener_resolve) [] [] (He.ma K (He.ga K "Shortener") "resolve") fd_Shortener_resolve := F0_Shortener_resolve
  have B_Shortener_resolve : Binds K fd_Shortener_resolve p_Shortener_resolve [] := F_Shortener_resolve.bindsN fun _ _ _ _ _ _ us hl => match us, hl with | [_, _, _, _], _ => rfl
  obtain ⟨fd_LogFollower_init, F0_LogFollower_init⟩ := c.def_ 16 (d := d_LogFollower_init) rfl
  have F_LogFollower_init : FunD K "__init__" "LogFollower.__init__" (defArgs s_LogFollower_init) (defBody s_LogFollower_init) (defScope s_LogFollower_init) [] [] (He.ma K (He.ga K "LogFollower") "__init__") fd_LogFollower_init := F0_LogFollower_init
  have B_LogFollower_init : Binds K fd_LogFollower_init p_LogFollower_init [] := F_LogFollower_init.bindsN fun _ _ _ _ _ _ us hl => match us, hl with | [_, _], _ => rfl
  obtain ⟨fd_LogFollower_cause, F0_LogFollower_cause⟩ := c.def_ 17 (d := d_LogFollower_cause) rfl
  have F_LogFollower_cause : FunD K "cause" "LogFollower.cause" (defArgs s_LogFollower_cause) (defBody s_LogFollower_cause) (defScope s_LogFollower_cause) [] [] (He.ma K (He.ga K "LogFollower") "cause") fd_LogFollower_cause := F0_LogFollower_cause
  have B_LogFollower_cause : Binds K fd_LogFollower_cause p_LogFollower_cause [] := F_LogFollower_cause.bindsN fun _ _ _ _ _ _ us hl => match us, hl with | [_, _], _ => rfl
  obtain ⟨fd_LogFollower_follow, F0_LogFollower_follow⟩ := c.def_ 18 (d := d_LogFollower_follow) rfl
  have F_LogFollower_follow : FunD K "follow" "LogFollower.follow" (defArgs s_LogFollower_follow) (defBody s_LogFollower_follow) (defScope s_LogFollower_follow) [] [] (He.ma K (He.ga K "LogFollower") "follow") fd_LogFollower_follow := F0_LogFollower_follow
  have B_LogFollower_follow : Binds K fd_LogFollower_follow p_LogFollower_follow [] := F_LogFollower_follow.bindsN fun _ _ _ _ _ _ us hl => match us, hl with | [_, _], _ => rfl
  obtain ⟨fd_LogFollower_taken, F0_LogFollower_taken⟩ := c.def_ 19 (d := d_LogFollower_taken) rfl
  have F_LogFollower_taken : FunD K "taken" "LogFollower.taken" (defArgs s_LogFollower_taken) (defBody s_LogFollower_taken) (defScope s_LogFollower_taken) [] [] (He.ma K (He.ga K "LogFollower") "taken") fd_LogFollower_taken := F0_LogFollower_taken
  have B_LogFollower_taken : Binds K fd_LogFollower_taken p_LogFollower_taken [] := F_LogFollower_taken.bindsN fun _ _ _ _ _ _ us hl => match us, hl with | [_, _, _, _], _ => rfl
  exact {
    z_len := He.free_ok X G (c.fact 42 (f := .free "len") rfl),
    z_range := He.free_ok X G (c.fact 43 (f := .free "range") rfl),
    z_sorted := He.free_ok X G (c.fact 44 (f := .free "sorted") rfl),
    z_abs := He.free_ok X G (c.fact 45 (f := .free "abs") rfl),
    z_isinstance := He.free_ok X G (c.fact 46 (f := .free "isinstance") rfl),
    z_tuple := He.free_ok X G (c.fact 47 (f := .free "tuple") rfl),
    z_list := He.free_ok X G (c.fact 48 (f := .free "list") rfl),
    z_int := He.free_ok X G (c.fact 49 (f := .free "int") rfl),
    z_bool := He.free_ok X G (c.fact 50 (f := .free "bool") rfl),
    z_set := He.free_ok X G (c.fact 51 (f := .free "set") rfl),
    z_enumerate := He.free_ok X G (c.fact 52 (f := .free "enumerate") rfl),
    z_reversed := He.free_ok X G (c.fact 53 (f := .free "reversed") rfl),
    d_is_integer := ⟨_, fd_is_integer, F_is_integer, He.glo_ok X G (c.fact 0 (f := .glo "is_integer") rfl), B_is_integer⟩,
    d_is_number := ⟨_, fd_is_number, F_is_number, He.glo_ok X G (c.fact 1 (f := .glo "is_number") rfl), B_is_number⟩,
    d_made_clause := ⟨_, fd_made_clause, F_made_clause, He.glo_ok X G (c.fact 2 (f := .glo "made_clause") rfl), B_made_clause⟩,
    d_is_earlier := ⟨_, fd_is_earlier, F_is_earlier, He.glo_ok X G (c.fact 3 (f := .glo "is_earlier") rfl), B_is_earlier⟩,
    d_resolvent := ⟨_, fd_resolvent, F_resolvent, He.glo_ok X G (c.fact 4 (f := .glo "resolvent") rfl), B_resolvent⟩,
    d_axiom_clause := ⟨_, fd_axiom_clause, F_axiom_clause, He.glo_ok X G (c.fact 5 (f := .glo "axiom_clause") rfl), B_axiom_clause⟩,
    d_resolved_clause := ⟨_, fd_resolved_clause, F_resolved_clause, He.glo_ok X G (c.fact 6 (f := .glo "resolved_clause") rfl), B_resolved_clause⟩,
    d_next_clause := ⟨_, fd_next_clause, F_next_clause, He.glo_ok X G (c.fact 7 (f := .glo "next_clause") rfl), B_next_clause⟩,
    d_clauses_of := ⟨_, fd_clauses_of, F_clauses_of, He.glo_ok X G (c.fact 8 (f := .glo "clauses_of") rfl), B_clauses_of⟩,
    d_sources := ⟨_, fd_sources, F_sources, He.glo_ok X G (c.fact 9 (f := .glo "sources") rfl), B_sources⟩,
    d_moved := ⟨_, fd_moved, F_moved, He.glo_ok X G (c.fact 10 (f := .glo "moved") rfl), B_moved⟩,
    d_pruned_to := ⟨_, fd_pruned_to, F_pruned_to, He.glo_ok X G (c.fact 11 (f := .glo "pruned_to") rfl), B_pruned_to⟩,
    d_log_of_steps := ⟨_, fd_log_of_steps, F_log_of_steps, He.glo_ok X G (c.fact 12 (f := .glo "log_of_steps") rfl), B_log_of_steps⟩,
    d_steps_of_log := ⟨_, fd_steps_of_log, F_steps_of_log, He.glo_ok X G (c.fact 13 (f := .glo "steps_of_log") rfl), B_steps_of_log⟩,
    d_law_cell := ⟨_, fd_law_cell, F_law_cell, He.glo_ok X G (c.fact 14 (f := .glo "_law_cell") rfl), B_law_cell⟩,
    d_law_draws := ⟨_, fd_law_draws, F_law_draws, He.glo_ok X G (c.fact 15 (f := .glo "_law_draws") rfl), B_law_draws⟩,
    d_law_is_int := ⟨_, fd_law_is_int, F_law_is_int, He.glo_ok X G (c.fact 16 (f := .glo "_law_is_int") rfl), B_law_is_int⟩,
    d_law_ints := ⟨_, fd_law_ints, F_law_ints, He.glo_ok X G (c.fact 17 (f := .glo "_law_ints") rfl), B_law_ints⟩,
    d_law_is_tuple := ⟨_, fd_law_is_tuple, F_law_is_tuple, He.glo_ok X G (c.fact 18 (f := .glo "_law_is_tuple") rfl), B_law_is_tuple⟩,
    d_law_clause_of := ⟨_, fd_law_clause_of, F_law_clause_of, He.glo_ok X G (c.fact 19 (f := .glo "_law_clause_of") rfl), B_law_clause_of⟩,
    d_law_rows := ⟨_, fd_law_rows, F_law_rows, He.glo_ok X G (c.fact 20 (f := .glo "_law_rows") rfl), B_law_rows⟩,
    d_law_of_rows := ⟨_, fd_law_of_rows, F_law_of_rows, He.glo_ok X G (c.fact 21 (f := .glo "_law_of_rows") rfl), B_law_of_rows⟩,
    d_law_formula := ⟨_, fd_law_formula, F_law_formula, He.glo_ok X G (c.fact 22 (f := .glo "_law_formula") rfl), B_law_formula⟩,
    d_law_assignments := ⟨_, fd_law_assignments, F_law_assignments, He.glo_ok X G (c.fact 23 (f := .glo "_law_assignments") rfl), B_law_assignments⟩,
    d_law_breaks := ⟨_, fd_law_breaks, F_law_breaks, He.glo_ok X G (c.fact 24 (f := .glo "_law_breaks") rfl), B_law_breaks⟩,
    d_law_meets := ⟨_, fd_law_meets, F_law_meets, He.glo_ok X G (c.fact 25 (f := .glo "_law_meets") rfl), B_law_meets⟩,
    d_law_models := ⟨_, fd_law_models, F_law_models, He.glo_ok X G (c.fact 26 (f := .glo "_law_models") rfl), B_law_models⟩,
    d_law_hopeless := ⟨_, fd_law_hopeless, F_law_hopeless, He.glo_ok X G (c.fact 27 (f := .glo "_law_hopeless") rfl), B_law_hopeless⟩,
    d_law_rows_same := ⟨_, fd_law_rows_same, F_law_rows_same, He.glo_ok X G (c.fact 28 (f := .glo "_law_rows_same") rfl), B_law_rows_same⟩,
    d_law_tree := ⟨_, fd_law_tree, F_law_tree, He.glo_ok X G (c.fact 29 (f := .glo "_law_tree") rfl), B_law_tree⟩,
    d_law_steps := ⟨_, fd_law_steps, F_law_steps, He.glo_ok X G (c.fact 30 (f := .glo "_law_steps") rfl), B_law_steps⟩,
    d_law_pushed := ⟨_, fd_law_pushed, F_law_pushed, He.glo_ok X G (c.fact 31 (f := .glo "_law_pushed") rfl), B_law_pushed⟩,
    d_law_opposite := ⟨_, fd_law_opposite, F_law_opposite, He.glo_ok X G (c.fact 32 (f := .glo "_law_opposite") rfl), B_law_opposite⟩,
    d_law_at_once := ⟨_, fd_law_at_once, F_law_at_once, He.glo_ok X G (c.fact 33 (f := .glo "_law_at_once") rfl), B_law_at_once⟩,
    d_law_good_log := ⟨_, fd_law_good_log, F_law_good_log, He.glo_ok X G (c.fact 34 (f := .glo "_law_good_log") rfl), B_law_good_log⟩,
    d_law_tree_steps := ⟨_, fd_law_tree_steps, F_law_tree_steps, He.glo_ok X G (c.fact 35 (f := .glo "_law_tree_steps") rfl), B_law_tree_steps⟩,
    d_law_made_steps := ⟨_, fd_law_made_steps, F_law_made_steps, He.glo_ok X G (c.fact 36 (f := .glo "_law_made_steps") rfl), B_law_made_steps⟩,
    d_law_one := ⟨_, fd_law_one, F_law_one, He.glo_ok X G (c.fact 37 (f := .glo "_law_one") rfl), B_law_one⟩,
    d_law_read := ⟨_, fd_law_read, F_law_read, He.glo_ok X G (c.fact 38 (f := .glo "_law_read") rfl), B_law_read⟩,
    d_law := ⟨_, fd_law, F_law, He.glo_ok X G (c.fact 39 (f := .glo "law") rfl), B_law⟩,
    c_Shortener := He.cls_ok (c.fact 54 (f := .cls "Shortener") rfl),
    a_Shortener_formula := He.noat_ok (c.fact 56 (f := .noat "Shortener" "formula") rfl),
    a_Shortener_steps := He.noat_ok (c.fact 57 (f := .noat "Shortener" "steps") rfl),
    a_Shortener_clauses := He.noat_ok (c.fact 58 (f := .noat "Shortener" "clauses") rfl),
    c_LogFollower := He.cls_ok (c.fact 61 (f := .cls "LogFollower") rfl),
    a_LogFollower_writer := He.noat_ok (c.fact 63 (f := .noat "LogFollower" "writer") rfl),
    a_LogFollower_places := He.noat_ok (c.fact 64 (f := .noat "LogFollower" "places") rfl),
    i_Shortener := ⟨_, fd_Shortener_init, F_Shortener_init, He.mkr_ok (c.fact 55 (f := .mkr "Shortener") rfl), He.glo_ok X G (c.fact 40 (f := .glo "Shortener") rfl), B_Shortener_init⟩,
    m_Shortener_add := ⟨_, fd_Shortener_add, F_Shortener_add, He.meth_ok (c.fact 59 (f := .meth "Shortener" "add") rfl), B_Shortener_add⟩,
    m_Shortener_resolve := ⟨_, fd_Shortener_resolve, F_Shortener_resolve, He.meth_ok (c.fact 60 (f := .meth "Shortener" "resolve") rfl), B_Shortener_resolve⟩,
    i_LogFollower := ⟨_, fd_LogFollower_init, F_LogFollower_init, He.mkr_ok (c.fact 62 (f := .mkr "LogFollower") rfl), He.glo_ok X G (c.fact 41 (f := .glo "LogFollower") rfl), B_LogFollower_init⟩,
    m_LogFollower_cause := ⟨_, fd_LogFollower_cause, F_LogFollower_cause, He.meth_ok (c.fact 65 (f := .meth "LogFollower" "cause") rfl), B_LogFollower_cause⟩,
    m_LogFollower_follow := ⟨_, fd_LogFollower_follow, F_LogFollower_follow, He.meth_ok (c.fact 66 (f := .meth "LogFollower" "follow") rfl), B_LogFollower_follow⟩,
    m_LogFollower_taken := ⟨_, fd_LogFollower_taken, F_LogFollower_taken, He.meth_ok (c.fact 67 (f := .meth "LogFollower" "taken") rfl), B_LogFollower_taken⟩ }
theorem facts {P : Program} {w : World} {K : PySem.W.Frag} {h : Heap} {mg : PySem.Str → Option Value} {f : Addr} (X : K.In h) (G : h.Ns mainGlobals mg) (hf : mg ("law" : PySem.Str) = some (.ref f)) (c : He.SaysD hfa hfn K) :
    ∃ fd : FuncData, (∀ (s : Shared) (v : Value), BindsTo s fd ⟨[v], []⟩ [("_law_script", v)]) ∧ ∀ base : Heap, K.In base → base.Ns mainGlobals mg → FnOk P w K mg base CX0 11 f fd ["_law_script"] (sp_law K) := by
  have T := txt_of X G c
  obtain ⟨fd, F0⟩ := c.def_ 46 (d := d_law) rfl
  have F : FunD K "law" "law" (defArgs s_law) (defBody s_law) (defScope s_law) [] [] (He.ga K "law") fd := F0
  have e := hf.symm.trans (He.glo_ok X G (c.fact 39 (f := .glo "law") rfl))
  cases e
  have b := FunD.bindsA (ps := ["_law_script"]) F fun _ _ _ _ _ _ us hl => match us, hl with | [_], _ => rfl
  exact ⟨fd, fun s v => b s [v] rfl, fun base _ _ => fn_law T F⟩
end K75
open PySem PySem.W PySem.Calls PyProof.Rows
theorem PySem.Challenge.cw_rebut_k75_whole_logs_and_refutations_holds : PySem.Challenge.rw_rebut_k75_whole_logs_and_refutations.Holds := by
  w_on; o_law
  refine HandSHeadRun.head_any (r := OpenLaw.row PySem.Challenge.rw_rebut_k75_whole_logs_and_refutations) (q := view (OpenLaw.row PySem.Challenge.rw_rebut_k75_whole_logs_and_refutations).prog [51]) (H := K75.hk) (ob := K75.hob) (M := 3000) (loose := K75.hnames) (d := HandSHeadRun.topDef (OpenLaw.row PySem.Challenge.rw_rebut_k75_whole_logs_and_refutations).prog 51) (kwd := []) K75.hob_eq
    (by kernel_rfl) (fun s => by kernel_rfl) K75.hrun (by kernel_rfl) (by kernel_rfl) (by kernel_rfl) (by rfl) (by first | assumption | decide +kernel) (by decide +kernel) ⟨rfl, rfl, rfl, rfl, rfl, by decide +kernel⟩ ?hw ?hc
  case hw => w_witness2
  case hc =>
    refine L2.walk_ofE (l := PySem.Challenge.rw_rebut_k75_whole_logs_and_refutations) (n := 63) (k := 11) (x := "_law_script") (CX := L2.CX0) rfl (by decide) (by kernel_rfl) ⟨rfl, by decide, by decide⟩ ?F (fun _ _ _ _ z => z)
    intro w mg fa h Y G hmg0
    obtain ⟨K, KX, c⟩ := Y
    have hmg : mg ("law" : PySem.Str) = some (.ref fa) := by
      have e : (HandSHeadRun.topDef (OpenLaw.row PySem.Challenge.rw_rebut_k75_whole_logs_and_refutations).prog 51).name = ("law" : PySem.Str) := by kernel_rfl
      rw [← e]
      exact hmg0
    obtain ⟨fd, hb, hF⟩ := K75.facts (P := (PySem.Challenge.rw_rebut_k75_whole_logs_and_refutations).prog) (w := w) KX G hmg c
    exact ⟨K, fd, K75.sp_law K, KX, hb, fun H a ns hl _ hS => ⟨a, ns, rfl, hS, fun _ => rfl⟩, hF⟩

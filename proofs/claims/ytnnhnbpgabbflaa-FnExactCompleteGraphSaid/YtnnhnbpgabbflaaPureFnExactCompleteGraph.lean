/- CompleteGraph of the program and CompleteGraph of the reference make the same graph at every whole number; no condition. -/
import Derived.Test.YtnnhnbpgabbflaaQx27
namespace Go.Proofs.Ytnnhnbpgabbflaa.Pure
open Go.RowKit Go.Proofs.Ytnnhnbpgabbflaa.Q Go.Proofs.YtnnhnbpgabbflaaW.PrintWords Go.Proofs.YtnnhnbpgabbflaaW.PrintLast

theorem in_CompleteGraph : ∀ n : Fin 8, laws_FnExactCompleteGraph.f 120 (((n.val + 1 : Nat)) : Int) = some true := by decide +kernel

theorem in01_CompleteGraph (a : Int) (h : a < 1 ∨ 8 < a) : spec_l01In.f a 1 8 = some false := by
  unfold spec_l01In.f
  by_cases h0 : a ≥ 1
  · rw [if_pos h0]; simp; omega
  · rw [if_neg h0]
theorem in02_CompleteGraph (a : Int) (h : a < 1 ∨ 8 < a) : impl_in.f a 1 8 = some false := by
  unfold impl_in.f
  by_cases h0 : 1 ≤ a
  · rw [if_pos h0]; simp; omega
  · rw [if_neg h0]
theorem empty_CompleteGraph (a : Int) (h : a < 1 ∨ 8 < a) : spec_EmptyGraph.f a = some (0, [], false) := by
  unfold spec_EmptyGraph.f
  rw [in01_CompleteGraph a h]
  rfl
theorem specout_CompleteGraph (a : Int) (h : a < 1 ∨ 8 < a) (k : Nat) : spec_CompleteGraph.f (k + 2) a = some (0, [], false) := by
  unfold spec_CompleteGraph.f
  rw [empty_CompleteGraph a h]
  rfl
theorem implout_CompleteGraph (a : Int) (h : a < 1 ∨ 8 < a) (k : Nat) : impl_CompleteGraph.f k a = some (0, [], false) := by
  unfold impl_CompleteGraph.f impl_graphOf.f
  rw [in02_CompleteGraph a h]
  rfl

theorem out_CompleteGraph (a : Int) (h : a < 1 ∨ 8 < a) : laws_FnExactCompleteGraph.f 120 a = some true := by
  unfold laws_FnExactCompleteGraph.f
  rw [specout_CompleteGraph a h, implout_CompleteGraph a h]
  have e : ∀ k, laws_eqGraph.f (k + 1) 0 [] 0 [] = some true := fun k => rfl
  have m : ∀ k, laws_markGraph.f (k + 1) 0 [] 101 = some (101, []) := fun k => rfl
  have q : ∀ k, laws_heldGraph.f (k + 1) 0 [] 101 = some 101 := fun k => rfl
  simp only [Option.bind_some, e, m, q, if_true, laws_FnExactCompleteGraph.j0, laws_FnExactCompleteGraph.j1, implout_CompleteGraph a h]
  decide

theorem FnExactCompleteGraph : laws_FnExactCompleteGraph.Pure := by
  intro a _
  refine ⟨120, ?_⟩
  by_cases h : a < 1 ∨ 8 < a
  · exact out_CompleteGraph a h
  · have e : a = (((⟨a.toNat - 1, by omega⟩ : Fin 8).val + 1 : Nat) : Int) := by simp; omega
    rw [e]
    exact in_CompleteGraph _

end Go.Proofs.Ytnnhnbpgabbflaa.Pure

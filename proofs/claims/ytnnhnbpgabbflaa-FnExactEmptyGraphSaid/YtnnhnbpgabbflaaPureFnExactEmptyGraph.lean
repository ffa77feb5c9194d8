/- EmptyGraph of the program and EmptyGraph of the reference make the same graph at every whole number; no condition. -/
import Derived.Test.YtnnhnbpgabbflaaQx23
namespace Go.Proofs.Ytnnhnbpgabbflaa.Pure
open Go.RowKit Go.Proofs.Ytnnhnbpgabbflaa.Q Go.Proofs.YtnnhnbpgabbflaaW.PrintWords Go.Proofs.YtnnhnbpgabbflaaW.PrintLast

theorem in_EmptyGraph : ∀ n : Fin 8, laws_FnExactEmptyGraph.f 120 (((n.val + 1 : Nat)) : Int) = some true := by decide +kernel

theorem in01_EmptyGraph (a : Int) (h : a < 1 ∨ 8 < a) : spec_l01In.f a 1 8 = some false := by
  unfold spec_l01In.f
  by_cases h0 : a ≥ 1
  · rw [if_pos h0]; simp; omega
  · rw [if_neg h0]
theorem in02_EmptyGraph (a : Int) (h : a < 1 ∨ 8 < a) : impl_in.f a 1 8 = some false := by
  unfold impl_in.f
  by_cases h0 : 1 ≤ a
  · rw [if_pos h0]; simp; omega
  · rw [if_neg h0]
theorem empty_EmptyGraph (a : Int) (h : a < 1 ∨ 8 < a) : spec_EmptyGraph.f a = some (0, [], false) := by
  unfold spec_EmptyGraph.f
  rw [in01_EmptyGraph a h]
  rfl

theorem implout_EmptyGraph (a : Int) (h : a < 1 ∨ 8 < a) (k : Nat) : impl_EmptyGraph.f k a = some (0, [], false) := by
  unfold impl_EmptyGraph.f impl_graphOf.f
  rw [in02_EmptyGraph a h]
  rfl

theorem out_EmptyGraph (a : Int) (h : a < 1 ∨ 8 < a) : laws_FnExactEmptyGraph.f 120 a = some true := by
  unfold laws_FnExactEmptyGraph.f
  rw [empty_EmptyGraph a h, implout_EmptyGraph a h]
  have e : ∀ k, laws_eqGraph.f (k + 1) 0 [] 0 [] = some true := fun k => rfl
  have m : ∀ k, laws_markGraph.f (k + 1) 0 [] 101 = some (101, []) := fun k => rfl
  have q : ∀ k, laws_heldGraph.f (k + 1) 0 [] 101 = some 101 := fun k => rfl
  simp only [Option.bind_some, e, m, q, if_true, laws_FnExactEmptyGraph.j0, laws_FnExactEmptyGraph.j1, implout_EmptyGraph a h]
  decide

theorem FnExactEmptyGraph : laws_FnExactEmptyGraph.Pure := by
  intro a _
  refine ⟨120, ?_⟩
  by_cases h : a < 1 ∨ 8 < a
  · exact out_EmptyGraph a h
  · have e : a = (((⟨a.toNat - 1, by omega⟩ : Fin 8).val + 1 : Nat) : Int) := by simp; omega
    rw [e]
    exact in_EmptyGraph _

end Go.Proofs.Ytnnhnbpgabbflaa.Pure

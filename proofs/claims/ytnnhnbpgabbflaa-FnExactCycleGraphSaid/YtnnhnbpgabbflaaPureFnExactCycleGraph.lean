/- CycleGraph of the program and CycleGraph of the reference make the same graph at every whole number; no condition. -/
import Derived.Test.YtnnhnbpgabbflaaQx29
namespace Go.Proofs.Ytnnhnbpgabbflaa.Pure
open Go.RowKit Go.Proofs.Ytnnhnbpgabbflaa.Q Go.Proofs.YtnnhnbpgabbflaaW.PrintWords Go.Proofs.YtnnhnbpgabbflaaW.PrintLast

theorem in_CycleGraph : ∀ n : Fin 8, laws_FnExactCycleGraph.f 120 (((n.val + 1 : Nat)) : Int) = some true := by decide +kernel

theorem in01_CycleGraph (a : Int) (h : a < 1 ∨ 8 < a) : spec_l01In.f a 1 8 = some false := by
  unfold spec_l01In.f
  by_cases h0 : a ≥ 1
  · rw [if_pos h0]; simp; omega
  · rw [if_neg h0]
theorem in02_CycleGraph (a : Int) (h : a < 1 ∨ 8 < a) : impl_in.f a 1 8 = some false := by
  unfold impl_in.f
  by_cases h0 : 1 ≤ a
  · rw [if_pos h0]; simp; omega
  · rw [if_neg h0]
theorem empty_CycleGraph (a : Int) (h : a < 1 ∨ 8 < a) : spec_EmptyGraph.f a = some (0, [], false) := by
  unfold spec_EmptyGraph.f
  rw [in01_CycleGraph a h]
  rfl
theorem specout_CycleGraph (a : Int) (h : a < 1 ∨ 8 < a) (k : Nat) : spec_CycleGraph.f (k + 1) a = some (0, [], false) := by
  unfold spec_CycleGraph.f spec_PathGraph.f
  rw [empty_CycleGraph a h]
  rfl
theorem implout_CycleGraph (a : Int) (h : a < 1 ∨ 8 < a) (k : Nat) : impl_CycleGraph.f k a = some (0, [], false) := by
  unfold impl_CycleGraph.f impl_graphOf.f
  rw [in02_CycleGraph a h]
  rfl

theorem out_CycleGraph (a : Int) (h : a < 1 ∨ 8 < a) : laws_FnExactCycleGraph.f 120 a = some true := by
  unfold laws_FnExactCycleGraph.f
  rw [specout_CycleGraph a h, implout_CycleGraph a h]
  have e : ∀ k, laws_eqGraph.f (k + 1) 0 [] 0 [] = some true := fun k => rfl
  have m : ∀ k, laws_markGraph.f (k + 1) 0 [] 101 = some (101, []) := fun k => rfl
  have q : ∀ k, laws_heldGraph.f (k + 1) 0 [] 101 = some 101 := fun k => rfl
  simp only [Option.bind_some, e, m, q, if_true, laws_FnExactCycleGraph.j0, laws_FnExactCycleGraph.j1, implout_CycleGraph a h]
  decide

theorem FnExactCycleGraph : laws_FnExactCycleGraph.Pure := by
  intro a _
  refine ⟨120, ?_⟩
  by_cases h : a < 1 ∨ 8 < a
  · exact out_CycleGraph a h
  · have e : a = (((⟨a.toNat - 1, by omega⟩ : Fin 8).val + 1 : Nat) : Int) := by simp; omega
    rw [e]
    exact in_CycleGraph _

end Go.Proofs.Ytnnhnbpgabbflaa.Pure

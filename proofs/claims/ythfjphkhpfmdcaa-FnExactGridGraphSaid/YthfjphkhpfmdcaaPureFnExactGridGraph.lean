/- GridGraph of the program and GridGraph of the reference make the same graph at every two whole numbers; no condition. -/
import Derived.Test.YthfjphkhpfmdcaaQx29
namespace Go.Proofs.Ythfjphkhpfmdcaa.Pure
open Go.RowKit Go.Proofs.Ythfjphkhpfmdcaa.Q Go.Proofs.YthfjphkhpfmdcaaW.PrintWords Go.Proofs.YthfjphkhpfmdcaaW.PrintLast

theorem in_GridGraph : ∀ n : Fin 8, ∀ m : Fin 8, laws_FnExactGridGraph.f 120 (((n.val + 1 : Nat)) : Int) (((m.val + 1 : Nat)) : Int) = some true := by decide +kernel

theorem in01_GridGraph (a : Int) (h : a < 1 ∨ 8 < a) : spec_l01In.f a 1 8 = some false := by
  unfold spec_l01In.f
  by_cases h0 : a ≥ 1
  · rw [if_pos h0]; simp; omega
  · rw [if_neg h0]
theorem in02_GridGraph (a : Int) (h : a < 1 ∨ 8 < a) : impl_in.f a 1 8 = some false := by
  unfold impl_in.f
  by_cases h0 : 1 ≤ a
  · rw [if_pos h0]; simp; omega
  · rw [if_neg h0]
theorem in11_GridGraph (a : Int) (h : ¬ (a < 1 ∨ 8 < a)) : spec_l01In.f a 1 8 = some true := by
  unfold spec_l01In.f
  rw [if_pos (by omega)]; simp; omega
theorem in12_GridGraph (a : Int) (h : ¬ (a < 1 ∨ 8 < a)) : impl_in.f a 1 8 = some true := by
  unfold impl_in.f
  rw [if_pos (by omega)]; simp; omega
theorem specout_GridGraph (a b : Int) (h : (a < 1 ∨ 8 < a) ∨ (b < 1 ∨ 8 < b)) (k : Nat) : spec_GridGraph.f (k + 1) a b = some (0, [], false) := by
  unfold spec_GridGraph.f
  by_cases ha : a < 1 ∨ 8 < a
  · rw [in01_GridGraph a ha]
    rfl
  · rw [in11_GridGraph a ha, in01_GridGraph b (h.resolve_left ha)]
    rfl
theorem implout_GridGraph (a b : Int) (h : (a < 1 ∨ 8 < a) ∨ (b < 1 ∨ 8 < b)) (k : Nat) : impl_GridGraph.f k a b = some (0, [], false) := by
  unfold impl_GridGraph.f
  by_cases ha : a < 1 ∨ 8 < a
  · rw [in02_GridGraph a ha]
    rfl
  · rw [in12_GridGraph a ha, in02_GridGraph b (h.resolve_left ha)]
    rfl

theorem out_GridGraph (a b : Int) (h : (a < 1 ∨ 8 < a) ∨ (b < 1 ∨ 8 < b)) : laws_FnExactGridGraph.f 120 a b = some true := by
  unfold laws_FnExactGridGraph.f
  rw [specout_GridGraph a b h, implout_GridGraph a b h]
  have e : ∀ k, laws_eqGraph.f (k + 1) 0 [] 0 [] = some true := fun k => rfl
  have m : ∀ k, laws_markGraph.f (k + 1) 0 [] 101 = some (101, []) := fun k => rfl
  have q : ∀ k, laws_heldGraph.f (k + 1) 0 [] 101 = some 101 := fun k => rfl
  simp only [Option.bind_some, e, m, q, if_true, laws_FnExactGridGraph.j0, laws_FnExactGridGraph.j1, implout_GridGraph a b h]
  decide

theorem FnExactGridGraph : laws_FnExactGridGraph.Pure := by
  intro a b _ _
  refine ⟨120, ?_⟩
  by_cases h : (a < 1 ∨ 8 < a) ∨ (b < 1 ∨ 8 < b)
  · exact out_GridGraph a b h
  · obtain ⟨i, rfl⟩ : ∃ i : Fin 8, a = ((i.val + 1 : Nat) : Int) := ⟨⟨a.toNat - 1, by omega⟩, by simp; omega⟩
    obtain ⟨j, rfl⟩ : ∃ j : Fin 8, b = ((j.val + 1 : Nat) : Int) := ⟨⟨b.toNat - 1, by omega⟩, by simp; omega⟩
    exact in_GridGraph i j

end Go.Proofs.Ythfjphkhpfmdcaa.Pure

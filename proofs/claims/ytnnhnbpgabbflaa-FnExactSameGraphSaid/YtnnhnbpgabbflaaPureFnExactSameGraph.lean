/- SameGraph of the program and SameGraph of the reference answer alike at every two graphs; no condition. -/
import Derived.Test.YtnnhnbpgabbflaaWalkFnExactSameGraph
namespace Go.Proofs.Ytnnhnbpgabbflaa.Pure
open Go.RowKit Go.Proofs.Ytnnhnbpgabbflaa.Q Go.Proofs.YtnnhnbpgabbflaaW.PrintWords Go.Proofs.YtnnhnbpgabbflaaW.PrintLast Go.Proofs.YtnnhnbpgabbflaaW.PrintMore

/-- The rows from i on, d of them, are the same. -/
def sameFrom (l m : List Int) : Nat → Nat → Bool
  | _, 0 => true
  | i, d + 1 => decide (rd l (i : Int) = rd m (i : Int)) && sameFrom l m (i + 1) d
theorem spec_same (l m : List Int) (s : Int) (hl : l.length ≤ 1000000) (he : l.length = m.length) : ∀ (d i : Nat), i + d = l.length → Ev (fun k => spec_SameGraph.l0 k l (l.length : Int) (i : Int) s m) (sameFrom l m i d)
  | 0, i, hd => by
    refine Ev.step (f := fun _ => some true) (fun k => ?_) (Ev.now _)
    simp only [spec_SameGraph.l0]
    rw [if_neg (by omega)]
  | d + 1, i, hd => by
    have ih := spec_same l m s hl he d (i + 1) (by omega)
    have hw : wrap64 ((i : Int) + 1) = ((i + 1 : Nat) : Int) := by rw [wrap_near _ (by omega) (by omega)]; omega
    unfold sameFrom
    by_cases h : rd l (i : Int) = rd m (i : Int)
    · rw [decide_eq_true h, Bool.true_and]
      refine Ev.step (fun k => ?_) ih
      simp only [spec_SameGraph.l0]
      rw [if_pos (by omega), if_pos (by omega), if_pos (by omega), if_pos (by omega), if_pos h, hw]
    · rw [decide_eq_false h, Bool.false_and]
      refine Ev.step (f := fun _ => some false) (fun k => ?_) (Ev.now _)
      simp only [spec_SameGraph.l0]
      rw [if_pos (by omega), if_pos (by omega), if_pos (by omega), if_pos (by omega), if_neg h]
theorem impl_same (l m : List Int) (hl : l.length ≤ 1000000) (he : l.length = m.length) : ∀ (d i : Nat), i + d = l.length → Ev (fun k => slices_Equal_int_int.l0 k l m (l.length : Int) (i : Int)) (sameFrom l m i d)
  | 0, i, hd => by
    refine Ev.step (f := fun _ => some true) (fun k => ?_) (Ev.now _)
    simp only [slices_Equal_int_int.l0]
    rw [if_neg (by omega)]
  | d + 1, i, hd => by
    have ih := impl_same l m hl he d (i + 1) (by omega)
    have hw : wrap64 ((i : Int) + 1) = ((i + 1 : Nat) : Int) := by rw [wrap_near _ (by omega) (by omega)]; omega
    unfold sameFrom
    by_cases h : rd l (i : Int) = rd m (i : Int)
    · rw [decide_eq_true h, Bool.true_and]
      refine Ev.step (fun k => ?_) ih
      simp only [slices_Equal_int_int.l0]
      rw [if_pos (by omega), if_pos (by omega), if_pos (by omega), if_pos (by omega), if_pos h, hw]
    · rw [decide_eq_false h, Bool.false_and]
      refine Ev.step (f := fun _ => some false) (fun k => ?_) (Ev.now _)
      simp only [slices_Equal_int_int.l0]
      rw [if_pos (by omega), if_pos (by omega), if_pos (by omega), if_pos (by omega), if_neg h]
theorem both_same {g f : Nat → Option Bool} {r : Bool} (h1 : Ev g r) (h2 : Ev f r) : ∃ (k : Nat) (r : Bool), g k = some r ∧ f k = some r := by
  obtain ⟨K, h1⟩ := h1
  obtain ⟨K', h2⟩ := h2
  exact ⟨max K K', r, h1 _ (by omega), h2 _ (by omega)⟩
theorem spec_differ (s t : Int) (l m : List Int) : Ev (fun k => spec_SameGraph.j0 k true s l t m) false :=
  Ev.step (f := fun _ => some false) (fun k => by simp only [spec_SameGraph.j0]; rw [if_pos trivial]) (Ev.now _)

theorem FnExactSameGraph : laws_FnExactSameGraph.Same := by
  intro s l t m hl hm
  by_cases hs : s = t
  · by_cases he : l.length = m.length
    · refine both_same (r := sameFrom l m 0 l.length) ?_ ?_
      · unfold spec_SameGraph.f
        simp only [hs, if_true]
        rw [show ((l.length : Int) != (m.length : Int)) = false by rw [he]; simp]
        refine Ev.step (f := fun k => spec_SameGraph.l0 k l (l.length : Int) ((0 : Nat) : Int) t m) (fun k => ?_) (spec_same l m t hl he l.length 0 (by omega))
        simp only [spec_SameGraph.j0]
        rw [if_neg (by decide)]
        rfl
      · unfold impl_SameGraph.f slices_Equal_int_int.f
        simp only [hs, if_true, show (l.length : Int) = (m.length : Int) by omega]
        have h := impl_same l m hl he l.length 0 (by omega)
        rw [show (l.length : Int) = (m.length : Int) by omega] at h
        exact Ev.bind h (Ev.now _)
    · refine both_same (r := false) ?_ ?_
      · unfold spec_SameGraph.f
        simp only [hs, if_true]
        rw [show ((l.length : Int) != (m.length : Int)) = true by rw [bne_iff_ne]; omega]
        exact spec_differ _ _ _ _
      · unfold impl_SameGraph.f slices_Equal_int_int.f
        simp only [hs, if_true, show ¬ (l.length : Int) = (m.length : Int) by omega, if_false]
        exact Ev.now _
  · refine both_same (r := false) ?_ ?_
    · unfold spec_SameGraph.f
      simp only [hs, if_false]
      exact spec_differ _ _ _ _
    · unfold impl_SameGraph.f
      simp only [hs, if_false]
      exact Ev.now _

end Go.Proofs.Ytnnhnbpgabbflaa.Pure

/- IsDominating of the program and IsDominating of the reference answer alike at every graph and set; no condition. -/
import Derived.Test.YthfjphkhpfmdcaaWalkFnExactIsDominating
import Derived.Test.YthfjphkhpfmdcaaPSet
import Derived.Test.YthfjphkhpfmdcaaPNear
namespace Go.Proofs.Ythfjphkhpfmdcaa.Pure
open Go.RowKit Go.Proofs.Ythfjphkhpfmdcaa.Q Go.Proofs.YthfjphkhpfmdcaaW.PrintWords Go.Proofs.YthfjphkhpfmdcaaW.PrintLast Go.Proofs.YthfjphkhpfmdcaaW.PrintMore

theorem FnExactIsDominating : laws_FnExactIsDominating.Same := by
  intro s l x _ _ _ _
  cases h : setB s l x with
  | false =>
    refine both_of (r := false) ?_ ?_
    · unfold spec_IsDominating.f
      refine Ev.bind (spec_set s l x) ?_
      rw [h]
      exact Ev.now _
    · unfold impl_IsDominating.f
      refine Ev.bind (impl_set s l x) ?_
      rw [h]
      exact Ev.now _
  | true =>
    obtain ⟨V, y, rfl, hy⟩ := (setB_iff s l x).mp h
    refine both_of (r := (((near l y : Nat) : Int) == ((2 ^ l.length - 1 : Nat) : Int))) ?_ ?_
    · unfold spec_IsDominating.f
      refine Ev.bind (spec_set s l _) ?_
      rw [h]
      refine Ev.bind (spec_near V hy) ?_
      rw [V.size, if_pos (by omega), full_val _ V.hi]
      exact Ev.now _
    · unfold impl_IsDominating.f
      refine Ev.bind (impl_set s l _) ?_
      rw [h]
      refine Ev.bind (impl_near V hy) ?_
      rw [V.size, impl_all_is _ l V.hi]
      exact Ev.now _

end Go.Proofs.Ythfjphkhpfmdcaa.Pure

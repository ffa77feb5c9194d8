/- IsClique of the program and IsClique of the reference answer alike at every graph and set; no condition. -/
import Derived.Test.YthfjphkhpfmdcaaWalkFnExactIsClique
import Derived.Test.YthfjphkhpfmdcaaPSet
import Derived.Test.YthfjphkhpfmdcaaPFull
namespace Go.Proofs.Ythfjphkhpfmdcaa.Pure
open Go.RowKit Go.Proofs.Ythfjphkhpfmdcaa.Q Go.Proofs.YthfjphkhpfmdcaaW.PrintWords Go.Proofs.YthfjphkhpfmdcaaW.PrintLast Go.Proofs.YthfjphkhpfmdcaaW.PrintMore

theorem FnExactIsClique : laws_FnExactIsClique.Same := by
  intro s l x _ _ _ _
  cases h : setB s l x with
  | false =>
    refine both_of (r := false) ?_ ?_
    · unfold spec_IsClique.f
      refine Ev.bind (spec_set s l x) ?_
      rw [h]
      exact Ev.now _
    · unfold impl_IsClique.f
      refine Ev.bind (impl_set s l x) ?_
      rw [h]
      exact Ev.now _
  | true =>
    obtain ⟨V, y, rfl, hy⟩ := (setB_iff s l x).mp h
    refine both_of (r := fullB l y) ?_ ?_
    · unfold spec_IsClique.f
      refine Ev.bind (spec_set s l _) ?_
      rw [h]
      exact Ev.bind (spec_full V hy) (Ev.now _)
    · unfold impl_IsClique.f
      refine Ev.bind (impl_set s l _) ?_
      rw [h]
      exact Ev.bind (impl_full V hy) (Ev.now _)

end Go.Proofs.Ythfjphkhpfmdcaa.Pure

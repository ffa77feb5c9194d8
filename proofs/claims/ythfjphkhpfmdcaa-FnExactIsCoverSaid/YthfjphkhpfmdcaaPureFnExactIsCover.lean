/- IsCover of the program and IsCover of the reference answer alike at every graph and two numbers; no condition. -/
import Derived.Test.YthfjphkhpfmdcaaWalkFnExactIsCover
import Derived.Test.YthfjphkhpfmdcaaPVertex
import Derived.Test.YthfjphkhpfmdcaaPCover
namespace Go.Proofs.Ythfjphkhpfmdcaa.Pure
open Go.RowKit Go.Proofs.Ythfjphkhpfmdcaa.Q Go.Proofs.YthfjphkhpfmdcaaW.PrintWords Go.Proofs.YthfjphkhpfmdcaaW.PrintLast Go.Proofs.YthfjphkhpfmdcaaW.PrintMore

theorem FnExactIsCover : laws_FnExactIsCover.Same := by
  intro s l x y _ _ _ _ _
  have hh := impl_hold2 s l x y
  cases h : okB s l with
  | false =>
    rw [h] at hh
    refine both_of (r := false) ?_ ?_
    · unfold spec_IsCover.f
      refine Ev.bind (spec_ok s l) ?_
      rw [h]
      exact Ev.now _
    · unfold impl_IsCover.f
      exact Ev.bind hh (Ev.now _)
  | true =>
    have V := (okB_iff s l).mp h
    rw [h, Bool.true_and] at hh
    cases hx : vB s x with
    | false =>
      rw [hx] at hh
      refine both_of (r := false) ?_ ?_
      · unfold spec_IsCover.f
        refine Ev.bind (spec_ok s l) ?_
        rw [h, spec_vertex, hx]
        exact Ev.now _
      · unfold impl_IsCover.f
        exact Ev.bind hh (Ev.now _)
    | true =>
      cases hy : vB s y with
      | false =>
        rw [hx, hy] at hh
        refine both_of (r := false) ?_ ?_
        · unfold spec_IsCover.f
          refine Ev.bind (spec_ok s l) ?_
          rw [h, spec_vertex, spec_vertex, hx, hy]
          exact Ev.now _
        · unfold impl_IsCover.f
          exact Ev.bind hh (Ev.now _)
      | true =>
        have hx' := hx
        have hy' := hy
        rw [hx, hy] at hh
        rw [V.size] at hx' hy'
        obtain ⟨v, rfl, hv⟩ := (vB_iff l.length x).mp hx'
        obtain ⟨u, rfl, hu⟩ := (vB_iff l.length y).mp hy'
        have hn := V.hi
        have hs := V.size
        refine both_of (r := coverB l v u) ?_ ?_
        · unfold spec_IsCover.f
          refine Ev.bind (spec_ok s l) ?_
          rw [h, spec_vertex, spec_vertex, hx, hy]
          simp only [if_true, Option.bind_some]
          have hf := full_val _ hn
          rw [← hs] at hf
          rw [if_pos (by omega), hf, spec_cover V hv hu]
          exact Ev.now _
        · unfold impl_IsCover.f
          refine Ev.bind hh ?_
          rw [if_pos (by rfl)]
          by_cases hvu : v = u
          · subst hvu
            rw [if_pos rfl]
            unfold coverB
            rw [V.irr v hv, Bool.false_and]
            exact Ev.now _
          · have ha := impl_all_is _ l hn
            rw [← hs] at ha
            rw [if_neg (by omega), ha, Option.bind_some, impl_cover V hv hu]
            exact Ev.now _

end Go.Proofs.Ythfjphkhpfmdcaa.Pure

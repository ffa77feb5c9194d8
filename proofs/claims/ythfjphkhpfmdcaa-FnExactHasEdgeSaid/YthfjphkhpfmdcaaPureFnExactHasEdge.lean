/- HasEdge of the program and HasEdge of the reference answer alike at every graph and two numbers; no condition. -/
import Derived.Test.YthfjphkhpfmdcaaWalkFnExactHasEdge
import Derived.Test.YthfjphkhpfmdcaaPVertex
namespace Go.Proofs.Ythfjphkhpfmdcaa.Pure
open Go.RowKit Go.Proofs.Ythfjphkhpfmdcaa.Q Go.Proofs.YthfjphkhpfmdcaaW.PrintWords Go.Proofs.YthfjphkhpfmdcaaW.PrintLast Go.Proofs.YthfjphkhpfmdcaaW.PrintMore

theorem FnExactHasEdge : laws_FnExactHasEdge.Same := by
  intro s l x y _ _ _ _ _
  have hh := impl_hold2 s l x y
  cases h : okB s l with
  | false =>
    rw [h] at hh
    refine both_of (r := false) ?_ ?_
    · unfold spec_HasEdge.f
      refine Ev.bind (spec_ok s l) ?_
      rw [h]
      exact Ev.now _
    · unfold impl_HasEdge.f
      exact Ev.bind hh (Ev.now _)
  | true =>
    have V := (okB_iff s l).mp h
    rw [h, Bool.true_and] at hh
    cases hx : vB s x with
    | false =>
      rw [hx] at hh
      refine both_of (r := false) ?_ ?_
      · unfold spec_HasEdge.f
        refine Ev.bind (spec_ok s l) ?_
        rw [h, spec_vertex, hx]
        exact Ev.now _
      · unfold impl_HasEdge.f
        exact Ev.bind hh (Ev.now _)
    | true =>
      cases hy : vB s y with
      | false =>
        rw [hx, hy] at hh
        refine both_of (r := false) ?_ ?_
        · unfold spec_HasEdge.f
          refine Ev.bind (spec_ok s l) ?_
          rw [h, spec_vertex, spec_vertex, hx, hy]
          exact Ev.now _
        · unfold impl_HasEdge.f
          exact Ev.bind hh (Ev.now _)
      | true =>
        have hx' := hx
        have hy' := hy
        rw [hx, hy] at hh
        rw [V.size] at hx' hy'
        obtain ⟨v, rfl, hv⟩ := (vB_iff l.length x).mp hx'
        obtain ⟨u, rfl, hu⟩ := (vB_iff l.length y).mp hy'
        have hn := V.hi
        have hs := small _ _ (V.lt v hv) hn
        refine both_of (r := (rn l v).testBit u) ?_ ?_
        · unfold spec_HasEdge.f
          refine Ev.bind (spec_ok s l) ?_
          rw [h, spec_vertex, spec_vertex, hx, hy]
          simp only [if_true, Option.bind_some]
          rw [if_pos (by omega), if_pos (by omega), V.row v hv, spec_has _ u hs (by omega)]
          exact Ev.now _
        · unfold impl_HasEdge.f
          refine Ev.bind hh ?_
          rw [if_pos (by rfl), if_pos (by omega), if_pos (by omega), V.row v hv, impl_has_is _ u hs (by omega)]
          exact Ev.now _

end Go.Proofs.Ythfjphkhpfmdcaa.Pure

/- NeighborsOf of the program and NeighborsOf of the reference give the same list at every graph and number; no condition. -/
import Derived.Test.YtbmpehclflbbaaaWalkFnExactNeighborsOf
import Derived.Test.YtbmpehclflbbaaaPVertex
import Derived.Test.YtbmpehclflbbaaaPListS
import Derived.Test.YtbmpehclflbbaaaPListI
namespace Go.Proofs.Ytbmpehclflbbaaa.Pure
open Go.RowKit Go.Proofs.Ytbmpehclflbbaaa.Q Go.Proofs.YtbmpehclflbbaaaW.PrintWords Go.Proofs.YtbmpehclflbbaaaW.PrintLast Go.Proofs.YtbmpehclflbbaaaW.PrintMore

theorem both_lists {g f : Nat → Option (List Int)} {r : List Int} (hr : r.length ≤ 1000000) (h1 : Ev g r) (h2 : Ev f r) : ∃ (k : Nat) (r : List Int), r.length ≤ 1000000 ∧ g k = some r ∧ f k = some r := by
  obtain ⟨K, h1⟩ := h1
  obtain ⟨K', h2⟩ := h2
  exact ⟨max K K', r, hr, h1 _ (by omega), h2 _ (by omega)⟩

theorem FnExactNeighborsOf : laws_FnExactNeighborsOf.Same := by
  intro s l x _ _ _ _
  have hh := impl_hold1 s l x
  cases h : okB s l with
  | false =>
    rw [h] at hh
    refine both_lists (r := []) (by decide) ?_ ?_
    · unfold spec_NeighborsOf.f
      refine Ev.bind (spec_ok s l) ?_
      rw [h]
      exact Ev.now _
    · unfold impl_NeighborsOf.f
      exact Ev.bind hh (Ev.now _)
  | true =>
    have V := (okB_iff s l).mp h
    rw [h, Bool.true_and] at hh
    cases hx : vB s x with
    | false =>
      rw [hx] at hh
      refine both_lists (r := []) (by decide) ?_ ?_
      · unfold spec_NeighborsOf.f
        refine Ev.bind (spec_ok s l) ?_
        rw [h, spec_vertex, hx]
        exact Ev.now _
      · unfold impl_NeighborsOf.f
        exact Ev.bind hh (Ev.now _)
    | true =>
      have hx' := hx
      rw [hx] at hh
      rw [V.size] at hx'
      obtain ⟨v, rfl, hv⟩ := (vB_iff l.length x).mp hx'
      have hn := V.hi
      have h256 := pow_le_256 _ hn
      have hrow := V.lt v hv
      refine both_lists (r := ints (bitsOf (rn l v))) (by rw [ints_length]; have := bitsOf_length (rn l v); omega) ?_ ?_
      · unfold spec_NeighborsOf.f
        refine Ev.bind (spec_ok s l) ?_
        rw [h, spec_vertex, hx]
        simp only [if_true, Option.bind_some, show (0 : Int) ≤ (v : Int) by omega, show (v : Int) < (l.length : Int) by omega]
        rw [V.row v hv]
        exact Ev.bind (spec_list _ (by omega)) (Ev.now _)
      · unfold impl_NeighborsOf.f
        refine Ev.bind hh ?_
        simp only [if_true, show (0 : Int) ≤ (v : Int) by omega, show (v : Int) < (l.length : Int) by omega]
        rw [V.row v hv]
        exact Ev.bind (impl_list _ (by omega)) (Ev.now _)

end Go.Proofs.Ytbmpehclflbbaaa.Pure

/- AddEdge of the program and AddEdge of the reference give the same graph at every graph and two numbers; no condition. -/
import Derived.Test.YtbmpehclflbbaaaWalkFnExactAddEdge
import Derived.Test.YtbmpehclflbbaaaPVertex
namespace Go.Proofs.Ytbmpehclflbbaaa.Pure
open Go.RowKit Go.Proofs.Ytbmpehclflbbaaa.Q Go.Proofs.YtbmpehclflbbaaaW.PrintWords Go.Proofs.YtbmpehclflbbaaaW.PrintLast Go.Proofs.YtbmpehclflbbaaaW.PrintMore

theorem both_graphs {g f : Nat → Option (Int × List Int × Bool)} {rs : Int} {r : List Int} {rb : Bool} (hr : r.length ≤ 1000000) (h1 : Ev g (rs, r, rb)) (h2 : Ev f (rs, r, rb)) : ∃ (k : Nat) (rs : Int) (r : List Int) (rb : Bool), r.length ≤ 1000000 ∧ g k = some (rs, r, rb) ∧ f k = some (rs, r, rb) := by
  obtain ⟨K, h1⟩ := h1
  obtain ⟨K', h2⟩ := h2
  exact ⟨max K K', rs, r, rb, hr, h1 _ (by omega), h2 _ (by omega)⟩
/-- The rows with an edge between v and w. -/
def joined (l : List Int) (v w : Nat) : List Int :=
  (l.set v (Go.bits .or .i64 (rd l (v : Int)) (shl .i64 1 (w : Int)))).set w (Go.bits .or .i64 (rd (l.set v (Go.bits .or .i64 (rd l (v : Int)) (shl .i64 1 (w : Int)))) (w : Int)) (shl .i64 1 (v : Int)))
theorem joined_length (l : List Int) (v w : Nat) : (joined l v w).length = l.length := by simp [joined]
theorem spec_join (s : Int) (l : List Int) (v w : Nat) (hv : v < l.length) (hw : w < l.length) : spec_l02Join.f s l (v : Int) (w : Int) = some (joined l v w) := by
  unfold spec_l02Join.f joined
  rw [if_pos (by omega), if_pos (by omega), if_pos (by omega), Option.bind_some, if_pos (by omega), Int.toNat_natCast, Int.toNat_natCast]
theorem impl_join (s : Int) (l : List Int) (v w : Nat) (hv : v < l.length) (hw : w < l.length) : impl_Graph_join.f s l (v : Int) (w : Int) = some (joined l v w) := by
  unfold impl_Graph_join.f joined impl_bit.f
  rw [if_pos (by omega), if_pos (by omega), if_pos (by omega), Option.bind_some, Option.bind_some, if_pos (by omega), if_pos (by omega), if_pos (by omega), Option.bind_some, Int.toNat_natCast, Int.toNat_natCast]
theorem spec_none (x y s : Int) (l : List Int) : Ev (fun k => spec_AddEdge.j0 k x y true s l) (0, [], false) :=
  Ev.step (f := fun _ => some (0, [], false)) (fun k => by simp only [spec_AddEdge.j0]; rw [if_pos trivial]) (Ev.now _)
theorem impl_none (x y s : Int) (l : List Int) : Ev (fun k => impl_AddEdge.j0 k x y true s l) (0, [], false) :=
  Ev.step (f := fun _ => some (0, [], false)) (fun k => by simp only [impl_AddEdge.j0]; rw [if_pos trivial]) (Ev.now _)

theorem FnExactAddEdge : laws_FnExactAddEdge.Same := by
  intro s l x y _ _ _ _ _
  have hh := impl_hold2 s l x y
  cases h : okB s l with
  | false =>
    rw [h] at hh
    refine both_graphs (rs := 0) (r := []) (rb := false) (by decide) ?_ ?_
    · unfold spec_AddEdge.f
      refine Ev.bind (spec_ok s l) ?_
      rw [h]
      exact spec_none x y s l
    · unfold impl_AddEdge.f
      exact Ev.bind hh (impl_none x y s l)
  | true =>
    have V := (okB_iff s l).mp h
    rw [h, Bool.true_and] at hh
    cases hx : vB s x with
    | false =>
      rw [hx] at hh
      refine both_graphs (rs := 0) (r := []) (rb := false) (by decide) ?_ ?_
      · unfold spec_AddEdge.f
        refine Ev.bind (spec_ok s l) ?_
        rw [h, spec_vertex, hx]
        exact spec_none x y s l
      · unfold impl_AddEdge.f
        exact Ev.bind hh (impl_none x y s l)
    | true =>
      cases hy : vB s y with
      | false =>
        rw [hx, hy] at hh
        refine both_graphs (rs := 0) (r := []) (rb := false) (by decide) ?_ ?_
        · unfold spec_AddEdge.f
          refine Ev.bind (spec_ok s l) ?_
          rw [h, spec_vertex, spec_vertex, hx, hy]
          exact spec_none x y s l
        · unfold impl_AddEdge.f
          exact Ev.bind hh (impl_none x y s l)
      | true =>
        have hx' := hx
        have hy' := hy
        rw [hx, hy] at hh
        rw [V.size] at hx' hy'
        obtain ⟨v, rfl, hv⟩ := (vB_iff l.length x).mp hx'
        obtain ⟨u, rfl, hu⟩ := (vB_iff l.length y).mp hy'
        have hn := V.hi
        cases hvu : ((v : Int) == (u : Int)) with
        | true =>
          refine both_graphs (rs := 0) (r := []) (rb := false) (by decide) ?_ ?_
          · unfold spec_AddEdge.f
            refine Ev.bind (spec_ok s l) ?_
            rw [h, spec_vertex, spec_vertex, hx, hy, hvu]
            exact spec_none _ _ s l
          · unfold impl_AddEdge.f
            refine Ev.bind hh ?_
            rw [hvu]
            exact impl_none _ _ s l
        | false =>
          have hcopy : spec_l02Copy.f s l = some (s, l) := by
            unfold spec_l02Copy.f
            rw [Option.bind_some, List.length_nil, if_pos (by omega), List.nil_append]
          have hcopy2 : impl_Graph_copied.f s l = some (s, l) := by
            unfold impl_Graph_copied.f slices_Clone_int_int.f
            rw [if_pos (by omega), Option.bind_some]
          refine both_graphs (rs := s) (r := joined l v u) (rb := true) (by rw [joined_length]; omega) ?_ ?_
          · unfold spec_AddEdge.f
            refine Ev.bind (spec_ok s l) ?_
            rw [h, spec_vertex, spec_vertex, hx, hy, hvu]
            refine Ev.step (f := fun _ => some (s, joined l v u, true)) (fun k => ?_) (Ev.now _)
            show spec_AddEdge.j0 (k + 1) (v : Int) (u : Int) false s l = _
            simp only [spec_AddEdge.j0]
            rw [if_neg (by decide), hcopy, Option.bind_some, spec_join s l v u hv hu]
            rfl
          · unfold impl_AddEdge.f
            refine Ev.bind hh ?_
            rw [hvu]
            refine Ev.step (f := fun _ => some (s, joined l v u, true)) (fun k => ?_) (Ev.now _)
            show impl_AddEdge.j0 (k + 1) (v : Int) (u : Int) false s l = _
            simp only [impl_AddEdge.j0]
            rw [if_neg (by decide), hcopy2, Option.bind_some, impl_join s l v u hv hu]
            rfl

end Go.Proofs.Ytbmpehclflbbaaa.Pure

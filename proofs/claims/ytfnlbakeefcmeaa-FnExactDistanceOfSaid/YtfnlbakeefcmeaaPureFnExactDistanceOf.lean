/- DistanceOf of the program and DistanceOf of the reference answer alike at every graph and numbers; no condition. -/
import Derived.Test.YtfnlbakeefcmeaaWalkFnExactDistanceOf
import Derived.Test.YtfnlbakeefcmeaaPDist
import Derived.Test.YtfnlbakeefcmeaaPVertex
namespace Go.Proofs.Ytfnlbakeefcmeaa.Pure
open Go.RowKit Go.Proofs.Ytfnlbakeefcmeaa.Q Go.Proofs.YtfnlbakeefcmeaaW.PrintWords Go.Proofs.YtfnlbakeefcmeaaW.PrintLast Go.Proofs.YtfnlbakeefcmeaaW.PrintMore

theorem spec_dist_loop {s : Int} {l : List Int} {n v w : Nat} (V : Valid s l n) (hv : v < n) (hw : w < n) :
    ∀ (d i : Nat), i + d = n → (∀ j, j < i → (ball l v j).testBit w = false) → Ev (fun k => spec_DistanceOf.l0 k (w : Int) ((ball l v i : Nat) : Int) (i : Int) s l) (firstTo (fun j => (ball l v j).testBit w) n)
  | 0, i, hd, h => by
    obtain rfl : i = n := by omega
    have hs := V.size
    rw [firstTo_none _ _ h]
    refine Ev.step (f := fun _ => some (-1)) (fun k => ?_) (Ev.now _)
    simp only [spec_DistanceOf.l0]
    rw [if_neg (by omega)]
  | d + 1, i, hd, h => by
    have hn := V.hi
    have hs := V.size
    have hb := ball_lt V hv i
    have e : ∀ k, spec_DistanceOf.l0 (k + 1) (w : Int) ((ball l v i : Nat) : Int) (i : Int) s l = if (ball l v i).testBit w = true then some (i : Int) else (spec_l02Near.f k s l ((ball l v i : Nat) : Int)).bind fun t275 => spec_DistanceOf.l0 k (w : Int) t275 ((i + 1 : Nat) : Int) s l := fun k => by
      simp only [spec_DistanceOf.l0]
      rw [if_pos (by omega), spec_has _ w (small _ n hb hn) (by omega), Option.bind_some, next i (by omega)]
    cases hbit : (ball l v i).testBit w with
    | true =>
      obtain ⟨q, hq⟩ : ∃ q, n = i + 1 + q := ⟨d, by omega⟩
      rw [hq, firstTo_some (fun j => (ball l v j).testBit w) i hbit h q]
      exact Ev.step (f := fun _ => some (i : Int)) (fun k => by rw [e, hbit, if_pos rfl]) (Ev.now _)
    | false =>
      have ih := spec_dist_loop V hv hw d (i + 1) (by omega) (fun j hj => by
        by_cases hji : j = i
        · rw [hji]; exact hbit
        · exact h j (by omega))
      refine Ev.step (fun k => by rw [e, hbit, if_neg (by decide)]) ?_
      exact Ev.bind (spec_near V hb) ih

theorem FnExactDistanceOf : laws_FnExactDistanceOf.Same := by
  intro s l x y _ _ _ _ _
  have hh := impl_hold2 s l x y
  cases h : okB s l with
  | false =>
    rw [h] at hh
    refine both_of (r := -1) ?_ ?_
    · unfold spec_DistanceOf.f
      refine Ev.bind (spec_ok s l) ?_
      rw [h]
      exact Ev.step (f := fun _ => some (-1)) (fun k => by simp only [spec_DistanceOf.j0]; rfl) (Ev.now _)
    · unfold impl_DistanceOf.f
      exact Ev.bind hh (Ev.now _)
  | true =>
    have V := (okB_iff s l).mp h
    have hs := V.size
    rw [h, Bool.true_and] at hh
    cases hx : vB s x with
    | false =>
      rw [hx] at hh
      refine both_of (r := -1) ?_ ?_
      · unfold spec_DistanceOf.f
        refine Ev.bind (spec_ok s l) ?_
        rw [h, spec_vertex, hx]
        exact Ev.step (f := fun _ => some (-1)) (fun k => by simp only [if_true, Option.bind_some, Bool.false_eq_true, if_false, spec_DistanceOf.j0]) (Ev.now _)
      · unfold impl_DistanceOf.f
        exact Ev.bind hh (Ev.now _)
    | true =>
      cases hy : vB s y with
      | false =>
        rw [hx, hy] at hh
        refine both_of (r := -1) ?_ ?_
        · unfold spec_DistanceOf.f
          refine Ev.bind (spec_ok s l) ?_
          rw [h, spec_vertex, hx, spec_vertex, hy]
          exact Ev.step (f := fun _ => some (-1)) (fun k => by simp only [if_true, Option.bind_some, Bool.not_false, spec_DistanceOf.j0]) (Ev.now _)
        · unfold impl_DistanceOf.f
          exact Ev.bind hh (Ev.now _)
      | true =>
        rw [hx, hy] at hh
        have hx' := hx
        have hy' := hy
        rw [hs] at hx' hy'
        obtain ⟨v, rfl, hv⟩ := (vB_iff l.length x).mp hx'
        obtain ⟨w, rfl, hw⟩ := (vB_iff l.length y).mp hy'
        have hn := V.hi
        obtain ⟨K, hK, hfix, hd⟩ := impl_dist V hv
        refine both_of (r := firstTo (fun j => (ball l v j).testBit w) l.length) ?_ ?_
        · unfold spec_DistanceOf.f
          refine Ev.bind (spec_ok s l) ?_
          rw [h, spec_vertex, hx, spec_vertex, hy]
          refine Ev.step (fun k => ?_) (spec_dist_loop V hv hw l.length 0 (by omega) (fun j hj => by omega))
          simp only [if_true, Option.bind_some, Bool.not_true, spec_DistanceOf.j0, Bool.false_eq_true, if_false, show (0 : Int) ≤ (v : Int) by omega]
          rw [shl_one v (by omega)]
          rfl
        · unfold impl_DistanceOf.f
          refine Ev.bind hh ?_
          simp only [Bool.and_self, if_true]
          refine Ev.bind hd ?_
          rw [mixT_length]
          simp only [show (0 : Int) ≤ (w : Int) by omega, show (w : Int) < (l.length : Int) by omega, if_true]
          rw [mixT_at _ _ _ _ _ hw, if_neg (by omega), first_all hK hfix w]
          exact Ev.now _

end Go.Proofs.Ytfnlbakeefcmeaa.Pure

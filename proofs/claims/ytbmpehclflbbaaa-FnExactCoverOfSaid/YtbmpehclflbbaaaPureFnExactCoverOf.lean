/- CoverOf of the program and CoverOf of the reference answer alike at every graph and number; no condition. -/
import Derived.Test.YtbmpehclflbbaaaWalkFnExactCoverOf
import Derived.Test.YtbmpehclflbbaaaPVertex
import Derived.Test.YtbmpehclflbbaaaPCover
import Derived.Test.YtbmpehclflbbaaaPListS
import Derived.Test.YtbmpehclflbbaaaPListI
namespace Go.Proofs.Ytbmpehclflbbaaa.Pure
open Go.RowKit Go.Proofs.Ytbmpehclflbbaaa.Q Go.Proofs.YtbmpehclflbbaaaW.PrintWords Go.Proofs.YtbmpehclflbbaaaW.PrintLast Go.Proofs.YtbmpehclflbbaaaW.PrintMore

/-- The first of a list that covers v, or -1. -/
def firstCover (l : List Int) (v : Nat) : List Nat → Int
  | [] => -1
  | w :: ws => if coverB l v w = true then (w : Int) else firstCover l v ws

theorem spec_first {s : Int} {l : List Int} {n v : Nat} (V : Valid s l n) (hv : v < n) (vs : List Nat) (hvs : ∀ w ∈ vs, w < n) (h8 : vs.length ≤ 8) :
    ∀ (d i : Nat), i + d = vs.length → Ev (fun k => spec_l04Least.l0 k ((2 ^ n - 1 : Nat) : Int) (v : Int) (ints vs) (vs.length : Int) (i : Int) s l) (firstCover l v (vs.drop i))
  | 0, i, hd => by
    rw [List.drop_of_length_le (by omega)]
    refine Ev.step (f := fun _ => some (-1)) (fun k => ?_) (Ev.now _)
    simp only [spec_l04Least.l0]
    rw [if_neg (by omega)]
  | d + 1, i, hd => by
    have hi : i < vs.length := by omega
    have hvi : vs[i] < n := hvs _ (List.getElem_mem hi)
    have ih := spec_first V hv vs hvs h8 d (i + 1) (by omega)
    have e : ∀ k, spec_l04Least.l0 (k + 1) ((2 ^ n - 1 : Nat) : Int) (v : Int) (ints vs) (vs.length : Int) (i : Int) s l = if coverB l v vs[i] = true then some ((vs[i] : Nat) : Int) else spec_l04Least.l0 k ((2 ^ n - 1 : Nat) : Int) (v : Int) (ints vs) (vs.length : Int) ((i + 1 : Nat) : Int) s l := by
      intro k
      simp only [spec_l04Least.l0]
      rw [if_pos (by omega), if_pos (by omega), if_pos (by rw [ints_length]; omega), ints_at vs i hi, spec_cover V hv hvi, Option.bind_some, next i (by omega)]
    rw [List.drop_eq_getElem_cons hi]
    unfold firstCover
    cases hb : coverB l v vs[i] with
    | true => exact Ev.step (f := fun _ => some _) (fun k => by rw [e, hb, if_pos rfl]) (by rw [if_pos rfl]; exact Ev.now _)
    | false => exact Ev.step (fun k => by rw [e, hb, if_neg (by decide)]) (by rw [if_neg (by decide)]; exact ih)
theorem impl_first {s : Int} {l : List Int} {n v : Nat} (V : Valid s l n) (hv : v < n) (vs : List Nat) (hvs : ∀ w ∈ vs, w < n) (h8 : vs.length ≤ 8) :
    ∀ (d i : Nat), i + d = vs.length → Ev (fun k => impl_Graph_coverOf.l0 k ((2 ^ n - 1 : Nat) : Int) (v : Int) (ints vs) (vs.length : Int) (i : Int) s l) (firstCover l v (vs.drop i))
  | 0, i, hd => by
    rw [List.drop_of_length_le (by omega)]
    refine Ev.step (f := fun _ => some (-1)) (fun k => ?_) (Ev.now _)
    simp only [impl_Graph_coverOf.l0]
    rw [if_neg (by omega)]
  | d + 1, i, hd => by
    have hi : i < vs.length := by omega
    have hvi : vs[i] < n := hvs _ (List.getElem_mem hi)
    have ih := impl_first V hv vs hvs h8 d (i + 1) (by omega)
    have e : ∀ k, impl_Graph_coverOf.l0 (k + 1) ((2 ^ n - 1 : Nat) : Int) (v : Int) (ints vs) (vs.length : Int) (i : Int) s l = if coverB l v vs[i] = true then some ((vs[i] : Nat) : Int) else impl_Graph_coverOf.l0 k ((2 ^ n - 1 : Nat) : Int) (v : Int) (ints vs) (vs.length : Int) ((i + 1 : Nat) : Int) s l := by
      intro k
      simp only [impl_Graph_coverOf.l0]
      rw [if_pos (by omega), if_pos (by omega), if_pos (by rw [ints_length]; omega), ints_at vs i hi, next i (by omega)]
      by_cases hvw : vs[i] = v
      · have hb : coverB l v vs[i] = false := by
          unfold coverB
          rw [hvw, V.irr v hv, Bool.false_and]
        rw [if_pos (by omega), hb, if_neg (by decide)]
      · rw [if_neg (by omega), impl_cover V hv hvi, Option.bind_some]
    rw [List.drop_eq_getElem_cons hi]
    unfold firstCover
    cases hb : coverB l v vs[i] with
    | true => exact Ev.step (f := fun _ => some _) (fun k => by rw [e, hb, if_pos rfl]) (by rw [if_pos rfl]; exact Ev.now _)
    | false => exact Ev.step (fun k => by rw [e, hb, if_neg (by decide)]) (by rw [if_neg (by decide)]; exact ih)

theorem FnExactCoverOf : laws_FnExactCoverOf.Same := by
  intro s l x _ _ _ _
  have hh := impl_hold1 s l x
  cases h : okB s l with
  | false =>
    rw [h] at hh
    refine both_of (r := -1) ?_ ?_
    · unfold spec_CoverOf.f
      refine Ev.bind (spec_ok s l) ?_
      rw [h]
      exact Ev.now _
    · unfold impl_CoverOf.f
      exact Ev.bind hh (Ev.now _)
  | true =>
    have V := (okB_iff s l).mp h
    rw [h, Bool.true_and] at hh
    cases hx : vB s x with
    | false =>
      rw [hx] at hh
      refine both_of (r := -1) ?_ ?_
      · unfold spec_CoverOf.f
        refine Ev.bind (spec_ok s l) ?_
        rw [h, spec_vertex, hx]
        exact Ev.now _
      · unfold impl_CoverOf.f
        exact Ev.bind hh (Ev.now _)
    | true =>
      have hx' := hx
      rw [hx] at hh
      rw [V.size] at hx'
      obtain ⟨v, rfl, hv⟩ := (vB_iff l.length x).mp hx'
      have hn := V.hi
      have hs := V.size
      have hp : 0 < 2 ^ l.length := Nat.two_pow_pos _
      have h256 := pow_le_256 _ hn
      have hy : 2 ^ l.length - 1 < 2 ^ l.length := by omega
      have hvs : ∀ w ∈ bitsOf (2 ^ l.length - 1), w < l.length := fun w hw => ((bitsOf_mem _ _ w hy hn).mp hw).1
      have h8 := bitsOf_length (2 ^ l.length - 1)
      refine both_of (r := firstCover l v (bitsOf (2 ^ l.length - 1))) ?_ ?_
      · unfold spec_CoverOf.f
        refine Ev.bind (spec_ok s l) ?_
        rw [h, spec_vertex, hx]
        simp only [if_true, Option.bind_some]
        have hf := full_val _ hn
        rw [← hs] at hf
        simp only [show 0 ≤ s by omega, if_true, hf]
        unfold spec_l04Least.f
        have hl := spec_first V hv _ hvs h8 (bitsOf (2 ^ l.length - 1)).length 0 (by omega)
        rw [List.drop_zero] at hl
        refine Ev.bind (Ev.bind (spec_list _ (by omega)) ?_) (Ev.now _)
        rw [ints_length]
        exact hl
      · unfold impl_CoverOf.f
        refine Ev.bind hh ?_
        have ha := impl_all_is _ l hn
        rw [← hs] at ha
        simp only [if_true, ha, Option.bind_some]
        unfold impl_Graph_coverOf.f
        have hl := impl_first V hv _ hvs h8 (bitsOf (2 ^ l.length - 1)).length 0 (by omega)
        rw [List.drop_zero] at hl
        refine Ev.bind (Ev.bind (impl_list _ (by omega)) ?_) (Ev.now _)
        rw [ints_length]
        exact hl

end Go.Proofs.Ytbmpehclflbbaaa.Pure

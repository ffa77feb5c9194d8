/- CountEdges of the program and CountEdges of the reference answer alike at every graph; no condition. -/
import Derived.Test.YtbmpehclflbbaaaWalkFnExactCountEdges
import Derived.Test.YtbmpehclflbbaaaPOk
import Derived.Test.YtbmpehclflbbaaaPCount
namespace Go.Proofs.Ytbmpehclflbbaaa.Pure
open Go.RowKit Go.Proofs.Ytbmpehclflbbaaa.Q Go.Proofs.YtbmpehclflbbaaaW.PrintWords Go.Proofs.YtbmpehclflbbaaaW.PrintLast Go.Proofs.YtbmpehclflbbaaaW.PrintMore

/-- The sizes of d rows from i on, added to c. -/
def sumFrom (l : List Int) : Nat → Nat → Nat → Nat
  | c, _, 0 => c
  | c, i, d + 1 => sumFrom l (c + size (rn l i)) (i + 1) d

theorem spec_sum {s : Int} {l : List Int} {n : Nat} (V : Valid s l n) :
    ∀ (d i c : Nat), i + d = n → c ≤ 8 * i → Ev (fun k => spec_CountEdges.l0 k (c : Int) l (n : Int) (i : Int)) (wrap64 (Int.tdiv ((sumFrom l c i d : Nat) : Int) 2))
  | 0, i, c, hd, _ => by
    refine Ev.step (f := fun _ => some _) (fun k => ?_) (Ev.now _)
    simp only [spec_CountEdges.l0]
    rw [if_neg (by omega)]
    rfl
  | d + 1, i, c, hd, hc => by
    have hn := V.hi
    have hlen := V.len
    have hs := size_le (rn l i)
    have ih := spec_sum V d (i + 1) (c + size (rn l i)) (by omega) (by omega)
    have h := Ev.bind (f := fun k t => spec_CountEdges.l0 k (wrap64 ((c : Int) + t)) l (n : Int) (wrap64 ((i : Int) + 1))) (spec_size (rn l i) (Nat.lt_of_lt_of_le (V.lt i (by omega)) (pow_le_256 n hn))) (by rw [wrap_close _ (by omega) (by omega), next i (by omega)]; exact ih)
    refine Ev.step (fun k => ?_) h
    simp only [spec_CountEdges.l0]
    rw [if_pos (by omega), if_pos (by omega), if_pos (by omega), V.row i (by omega)]
theorem impl_sum {s : Int} {l : List Int} {n : Nat} (V : Valid s l n) :
    ∀ (d i c : Nat), i + d = n → c ≤ 8 * i → Ev (fun k => impl_CountEdges.l0 k (c : Int) l (n : Int) (i : Int)) (wrap64 (Int.tdiv ((sumFrom l c i d : Nat) : Int) 2))
  | 0, i, c, hd, _ => by
    refine Ev.step (f := fun _ => some _) (fun k => ?_) (Ev.now _)
    simp only [impl_CountEdges.l0]
    rw [if_neg (by omega)]
    rfl
  | d + 1, i, c, hd, hc => by
    have hn := V.hi
    have hlen := V.len
    have hs := size_le (rn l i)
    have ih := impl_sum V d (i + 1) (c + size (rn l i)) (by omega) (by omega)
    refine Ev.step (fun k => ?_) ih
    simp only [impl_CountEdges.l0]
    rw [if_pos (by omega), if_pos (by omega), if_pos (by omega), V.row i (by omega), impl_size _ (Nat.lt_of_lt_of_le (V.lt i (by omega)) (pow_le_256 n hn)), Option.bind_some, wrap_close ((c : Int) + _) (by omega) (by omega), next i (by omega)]
    rfl

theorem FnExactCountEdges : laws_FnExactCountEdges.Same := by
  intro s l _ _ _
  cases h : okB s l with
  | false =>
    refine both_of (r := -1) ?_ ?_
    · unfold spec_CountEdges.f
      refine Ev.bind (spec_ok s l) ?_
      rw [h]
      exact Ev.now _
    · unfold impl_CountEdges.f
      refine Ev.bind (impl_ok s l) ?_
      rw [h]
      exact Ev.now _
  | true =>
    have V := (okB_iff s l).mp h
    refine both_of (r := wrap64 (Int.tdiv ((sumFrom l 0 0 l.length : Nat) : Int) 2)) ?_ ?_
    · unfold spec_CountEdges.f
      refine Ev.bind (spec_ok s l) ?_
      rw [h]
      exact spec_sum V l.length 0 0 (by omega) (by omega)
    · unfold impl_CountEdges.f
      refine Ev.bind (impl_ok s l) ?_
      rw [h]
      exact impl_sum V l.length 0 0 (by omega) (by omega)

end Go.Proofs.Ytbmpehclflbbaaa.Pure

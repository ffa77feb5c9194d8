/- MostIndependent of the program and MostIndependent of the reference answer alike at every graph; no condition. -/
import Derived.Test.YtbmpehclflbbaaaWalkFnExactMostIndependent
import Derived.Test.YtbmpehclflbbaaaPFree
import Derived.Test.YtbmpehclflbbaaaPCount
namespace Go.Proofs.Ytbmpehclflbbaaa.Pure
open Go.RowKit Go.Proofs.Ytbmpehclflbbaaa.Q Go.Proofs.YtbmpehclflbbaaaW.PrintWords Go.Proofs.YtbmpehclflbbaaaW.PrintLast Go.Proofs.YtbmpehclflbbaaaW.PrintMore

/-- The better of the best so far and a set. -/
def best (l : List Int) (b x : Nat) : Nat := if freeB l x = true ∧ size x > size b then x else b
/-- The best of d sets from x on. -/
def mostFrom (l : List Int) : Nat → Nat → Nat → Nat
  | b, _, 0 => b
  | b, x, d + 1 => mostFrom l (best l b x) (x + 1) d
theorem best_lt (l : List Int) (n b x : Nat) (hb : b < 2 ^ n) (hx : x < 2 ^ n) : best l b x < 2 ^ n := by
  unfold best
  split
  · exact hx
  · exact hb

theorem spec_most {s : Int} {l : List Int} {n : Nat} (V : Valid s l n) :
    ∀ (d x b : Nat), x + d = 2 ^ n → b < 2 ^ n → Ev (fun k => spec_MostIndependent.l0 k (b : Int) (x : Int) s l) ((mostFrom l b x d : Nat) : Int)
  | 0, x, b, hd, _ => by
    refine Ev.step (f := fun _ => some ((b : Nat) : Int)) (fun k => ?_) (Ev.now _)
    simp only [spec_MostIndependent.l0]
    have hs := V.size
    rw [if_pos (by omega), hs, shl_one n (by have := V.hi; omega), if_neg (by omega)]
  | d + 1, x, b, hd, hb => by
    have hn := V.hi
    have h256 := pow_le_256 n hn
    have hx : x < 2 ^ n := by omega
    have ih := spec_most V d (x + 1) (best l b x) (by omega) (best_lt l n b x hb hx)
    have hF := Ev.bind (f := fun k t => if t = true then (spec_l02Count.f k (x : Int)).bind fun t => (spec_l02Count.f k (b : Int)).bind fun u => if t > u then spec_MostIndependent.l0 k (x : Int) (wrap64 ((x : Int) + 1)) s l else spec_MostIndependent.l0 k (b : Int) (wrap64 ((x : Int) + 1)) s l else spec_MostIndependent.l0 k (b : Int) (wrap64 ((x : Int) + 1)) s l) (r := ((mostFrom l (best l b x) (x + 1) d : Nat) : Int)) (spec_free V hx) (by
      cases hf : freeB l x with
      | false =>
        have hbb : best l b x = b := by unfold best; rw [hf]; simp
        rw [hbb] at ih ⊢
        simp only [Bool.false_eq_true, if_false]
        rw [next x (by omega)]
        exact ih
      | true =>
        simp only [if_true]
        refine Ev.bind (spec_size x (by omega)) (Ev.bind (spec_size b (by omega)) ?_)
        rw [next x (by omega)]
        by_cases hc : size x > size b
        · have hbb : best l b x = x := by unfold best; rw [hf]; simp [hc]
          rw [hbb] at ih ⊢
          simp only [show ((size x : Nat) : Int) > ((size b : Nat) : Int) by omega, if_true]
          exact ih
        · have hbb : best l b x = b := by unfold best; rw [hf]; simp [hc]
          rw [hbb] at ih ⊢
          simp only [show ¬ ((size x : Nat) : Int) > ((size b : Nat) : Int) by omega, if_false]
          exact ih)
    refine Ev.step (fun k => ?_) hF
    simp only [spec_MostIndependent.l0]
    have hs := V.size
    rw [if_pos (by omega), hs, shl_one n (by omega), if_pos (by omega)]
theorem impl_most {s : Int} {l : List Int} {n : Nat} (V : Valid s l n) :
    ∀ (d x b : Nat), x + d = 2 ^ n → b < 2 ^ n → Ev (fun k => impl_MostIndependent.l0 k (b : Int) ((2 ^ n : Nat) : Int) (x : Int) s l) ((mostFrom l b x d : Nat) : Int)
  | 0, x, b, hd, _ => by
    refine Ev.step (f := fun _ => some ((b : Nat) : Int)) (fun k => ?_) (Ev.now _)
    simp only [impl_MostIndependent.l0]
    rw [if_neg (by omega)]
  | d + 1, x, b, hd, hb => by
    have hn := V.hi
    have h256 := pow_le_256 n hn
    have hx : x < 2 ^ n := by omega
    have ih := impl_most V d (x + 1) (best l b x) (by omega) (best_lt l n b x hb hx)
    have hF := Ev.bind (f := fun k t => if t = true then (impl_CountSet.f (x : Int)).bind fun t => (impl_CountSet.f (b : Int)).bind fun u => if t > u then impl_MostIndependent.l0 k (x : Int) ((2 ^ n : Nat) : Int) (wrap64 ((x : Int) + 1)) s l else impl_MostIndependent.l0 k (b : Int) ((2 ^ n : Nat) : Int) (wrap64 ((x : Int) + 1)) s l else impl_MostIndependent.l0 k (b : Int) ((2 ^ n : Nat) : Int) (wrap64 ((x : Int) + 1)) s l) (r := ((mostFrom l (best l b x) (x + 1) d : Nat) : Int)) (impl_free V hx) (by
      cases hf : freeB l x with
      | false =>
        have hbb : best l b x = b := by unfold best; rw [hf]; simp
        rw [hbb] at ih ⊢
        simp only [Bool.false_eq_true, if_false]
        rw [next x (by omega)]
        exact ih
      | true =>
        simp only [if_true]
        rw [impl_size x (by omega), impl_size b (by omega), next x (by omega)]
        simp only [Option.bind_some]
        by_cases hc : size x > size b
        · have hbb : best l b x = x := by unfold best; rw [hf]; simp [hc]
          rw [hbb] at ih ⊢
          simp only [show ((size x : Nat) : Int) > ((size b : Nat) : Int) by omega, if_true]
          exact ih
        · have hbb : best l b x = b := by unfold best; rw [hf]; simp [hc]
          rw [hbb] at ih ⊢
          simp only [show ¬ ((size x : Nat) : Int) > ((size b : Nat) : Int) by omega, if_false]
          exact ih)
    refine Ev.step (fun k => ?_) hF
    simp only [impl_MostIndependent.l0]
    rw [if_pos (by omega)]

theorem FnExactMostIndependent : laws_FnExactMostIndependent.Same := by
  intro s l _ _ _
  cases h : okB s l with
  | false =>
    refine both_of (r := -1) ?_ ?_
    · unfold spec_MostIndependent.f
      refine Ev.bind (spec_ok s l) ?_
      rw [h]
      exact Ev.now _
    · unfold impl_MostIndependent.f
      refine Ev.bind (impl_ok s l) ?_
      rw [h]
      exact Ev.now _
  | true =>
    have V := (okB_iff s l).mp h
    have hp : 0 < 2 ^ l.length := Nat.two_pow_pos _
    have h256 := pow_le_256 _ V.hi
    refine both_of (r := ((mostFrom l 0 0 (2 ^ l.length) : Nat) : Int)) ?_ ?_
    · unfold spec_MostIndependent.f
      refine Ev.bind (spec_ok s l) ?_
      rw [h]
      exact spec_most V (2 ^ l.length) 0 0 (by omega) hp
    · unfold impl_MostIndependent.f
      refine Ev.bind (impl_ok s l) ?_
      rw [h]
      simp only [if_true]
      have ha := impl_all_is _ l V.hi
      rw [← V.size] at ha
      have hw : wrap64 (((2 ^ l.length - 1 : Nat) : Int) + 1) = ((2 ^ l.length : Nat) : Int) := by
        rw [wrap_close _ (by omega) (by omega)]
        omega
      rw [ha]
      simp only [Option.bind_some, hw]
      exact impl_most V (2 ^ l.length) 0 0 (by omega) hp

end Go.Proofs.Ytbmpehclflbbaaa.Pure

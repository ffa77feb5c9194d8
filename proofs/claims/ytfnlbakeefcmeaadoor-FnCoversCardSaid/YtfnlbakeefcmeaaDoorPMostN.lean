/- The best set that MostIndependent of the program finds; condition: a valid graph. -/
import Derived.Test.YtfnlbakeefcmeaaDoorMCardFnCovers1
import Derived.Test.YtfnlbakeefcmeaaDoorPFreeIN
import Derived.Test.YtfnlbakeefcmeaaDoorPCountIN
namespace Go.Proofs.YtfnlbakeefcmeaaDoor.Pure
open Go.RowKit Go.Proofs.YtfnlbakeefcmeaaDoor.Q Go.Proofs.YtfnlbakeefcmeaaDoorW.PrintWords Go.Proofs.YtfnlbakeefcmeaaDoorW.PrintLast Go.Proofs.YtfnlbakeefcmeaaDoorW.PrintMore

/-- The better of the best so far and a set. -/
def best (l : List Int) (b x : Nat) : Nat := if freeB l x = true ∧ size x > size b then x else b
/-- The best of d sets from x on. -/
def mostFrom (l : List Int) : Nat → Nat → Nat → Nat
  | b, _, 0 => b
  | b, x, d + 1 => mostFrom l (best l b x) (x + 1) d
theorem best_lt (l : List Int) (n b x : Nat) (hb : b < 2 ^ n) (hx : x < 2 ^ n) : best l b x < 2 ^ n := by
  unfold best
  split
  · exact hx
  · exact hb

theorem impl_most {s : Int} {l : List Int} {n : Nat} (V : Valid s l n) :
    ∀ (d x b : Nat), x + d = 2 ^ n → b < 2 ^ n → Ev (fun k => impl_MostIndependent.l0 k (b : Int) ((2 ^ n : Nat) : Int) (x : Int) s l) ((mostFrom l b x d : Nat) : Int)
  | 0, x, b, hd, _ => by
    refine Ev.step (f := fun _ => some ((b : Nat) : Int)) (fun k => ?_) (Ev.now _)
    simp only [impl_MostIndependent.l0]
    rw [if_neg (by omega)]
  | d + 1, x, b, hd, hb => by
    have hn := V.hi
    have h256 := pow_le_256 n hn
    have hx : x < 2 ^ n := by omega
    have ih := impl_most V d (x + 1) (best l b x) (by omega) (best_lt l n b x hb hx)
    have hF := Ev.bind (f := fun k t => if t = true then (impl_CountSet.f (x : Int)).bind fun t => (impl_CountSet.f (b : Int)).bind fun u => if t > u then impl_MostIndependent.l0 k (x : Int) ((2 ^ n : Nat) : Int) (wrap64 ((x : Int) + 1)) s l else impl_MostIndependent.l0 k (b : Int) ((2 ^ n : Nat) : Int) (wrap64 ((x : Int) + 1)) s l else impl_MostIndependent.l0 k (b : Int) ((2 ^ n : Nat) : Int) (wrap64 ((x : Int) + 1)) s l) (r := ((mostFrom l (best l b x) (x + 1) d : Nat) : Int)) (impl_free V hx) (by
      cases hf : freeB l x with
      | false =>
        have hbb : best l b x = b := by unfold best; rw [hf]; simp
        rw [hbb] at ih ⊢
        simp only [Bool.false_eq_true, if_false]
        rw [next x (by omega)]
        exact ih
      | true =>
        simp only [if_true]
        rw [impl_size x (by omega), impl_size b (by omega), next x (by omega)]
        simp only [Option.bind_some]
        by_cases hc : size x > size b
        · have hbb : best l b x = x := by unfold best; rw [hf]; simp [hc]
          rw [hbb] at ih ⊢
          simp only [show ((size x : Nat) : Int) > ((size b : Nat) : Int) by omega, if_true]
          exact ih
        · have hbb : best l b x = b := by unfold best; rw [hf]; simp [hc]
          rw [hbb] at ih ⊢
          simp only [show ¬ ((size x : Nat) : Int) > ((size b : Nat) : Int) by omega, if_false]
          exact ih)
    refine Ev.step (fun k => ?_) hF
    simp only [impl_MostIndependent.l0]
    rw [if_pos (by omega)]

end Go.Proofs.YtfnlbakeefcmeaaDoor.Pure

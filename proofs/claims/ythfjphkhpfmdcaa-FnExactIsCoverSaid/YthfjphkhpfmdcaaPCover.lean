/- Whether a vertex covers another within the whole, by the reference and by the program; condition: a valid graph and two vertices of it. -/
import Derived.Test.YthfjphkhpfmdcaaPStay
import Derived.Test.YthfjphkhpfmdcaaQx21
import Derived.Test.YthfjphkhpfmdcaaQx23
namespace Go.Proofs.Ythfjphkhpfmdcaa.Pure
open Go.RowKit Go.Proofs.Ythfjphkhpfmdcaa.Q Go.Proofs.YthfjphkhpfmdcaaW.PrintWords Go.Proofs.YthfjphkhpfmdcaaW.PrintLast Go.Proofs.YthfjphkhpfmdcaaW.PrintMore

/-- x lies within y, bit by bit. -/
theorem within_iff (x y : Nat) : y &&& x = x ↔ ∀ i, x.testBit i = true → y.testBit i = true := by
  constructor
  · intro h i hi
    have := congrArg (fun z => z.testBit i) h
    simp only [Nat.testBit_and, hi, Bool.and_true] at this
    exact this
  · intro h
    apply Nat.eq_of_testBit_eq
    intro i
    rw [Nat.testBit_and]
    cases hx : x.testBit i with
    | false => rw [Bool.and_false]
    | true => rw [h i hx]; rfl
theorem and_full (n x : Nat) (h : x < 2 ^ n) : x &&& (2 ^ n - 1) = x := by
  rw [Nat.and_two_pow_sub_one_eq_mod]
  exact Nat.mod_eq_of_lt h
/-- w covers v: they are neighbors, and w or a neighbor of w is each neighbor of v. -/
def coverB (l : List Int) (v w : Nat) : Bool := (rn l v).testBit w && ((rn l w ||| 2 ^ w) &&& rn l v == rn l v)
/-- Two ways to ask it, where v and w are neighbors. -/
theorem cover_both {s : Int} {l : List Int} {n v w : Nat} (V : Valid s l n) (hv : v < n) (hw : w < n) (h : (rn l v).testBit w = true) : ((rn l w ||| 2 ^ w) &&& (rn l v ||| 2 ^ v) = rn l v ||| 2 ^ v) ↔ ((rn l w ||| 2 ^ w) &&& rn l v = rn l v) := by
  rw [within_iff, within_iff]
  constructor
  · intro h1 i hi
    exact h1 i (by rw [Nat.testBit_or, hi]; rfl)
  · intro h1 i hi
    rw [Nat.testBit_or, Bool.or_eq_true] at hi
    rcases hi with hi | hi
    · exact h1 i hi
    · rw [Nat.testBit_two_pow, decide_eq_true_eq] at hi
      rw [← hi, Nat.testBit_or, ← V.sym v w hv hw, h]
      rfl
theorem spec_cover {s : Int} {l : List Int} {n v w : Nat} (V : Valid s l n) (hv : v < n) (hw : w < n) : spec_l04Cover.f s l ((2 ^ n - 1 : Nat) : Int) (v : Int) (w : Int) = some (coverB l v w) := by
  unfold spec_l04Cover.f coverB
  have hlen := V.len
  have hn := V.hi
  have hp : 0 < 2 ^ n := Nat.two_pow_pos n
  by_cases hvw : v = w
  · subst hvw
    rw [if_pos rfl, V.irr v hv, Bool.false_and]
  · rw [if_neg (by omega), if_pos (by omega), if_pos (by omega), V.row v hv, spec_has _ w (small _ n (V.lt v hv) hn) (by omega), Option.bind_some]
    cases h : (rn l v).testBit w with
    | false => rfl
    | true =>
      have hsv := stay_lt V hv
      have hsw := stay_lt V hw
      rw [if_pos rfl, if_pos (by omega), if_pos (by omega), V.row w hw, shl_one v (by omega), shl_one w (by omega), or_nat _ _ (small _ n (V.lt v hv) hn) (small _ n (bit_lt n v hv) hn), or_nat _ _ (small _ n (V.lt w hw) hn) (small _ n (bit_lt n w hw) hn), and_nat _ _ (small _ n hsv hn) (small _ n (by omega) hn), and_full n _ hsv, andNot_nat _ _ (small _ n hsv hn) (small _ n hsw hn), Bool.true_and]
      have h1 := without_empty (rn l v ||| 2 ^ v) (rn l w ||| 2 ^ w) (small _ n hsv hn) (small _ n hsw hn)
      have h2 := cover_both V hv hw h
      congr 1
      rw [Bool.eq_iff_iff, beq_iff_eq, beq_iff_eq]
      rw [← h2, ← h1]
      omega
theorem impl_cover {s : Int} {l : List Int} {n v w : Nat} (V : Valid s l n) (hv : v < n) (hw : w < n) : impl_Graph_covers.f s l ((2 ^ n - 1 : Nat) : Int) (v : Int) (w : Int) = some (coverB l v w) := by
  unfold impl_Graph_covers.f coverB
  have hlen := V.len
  have hn := V.hi
  have hp : 0 < 2 ^ n := Nat.two_pow_pos n
  rw [if_pos (by omega), if_pos (by omega), V.row v hv, and_nat _ _ (small _ n (V.lt v hv) hn) (small _ n (by omega) hn), and_full n _ (V.lt v hv), impl_has_is _ w (small _ n (V.lt v hv) hn) (by omega), Option.bind_some]
  cases h : (rn l v).testBit w with
  | false => rfl
  | true =>
    have hsw := stay_lt V hw
    rw [if_pos rfl, impl_stay V hw, Option.bind_some, andNot_nat _ _ (small _ n (V.lt v hv) hn) (small _ n hsw hn), Bool.true_and]
    have h1 := without_empty (rn l v) (rn l w ||| 2 ^ w) (small _ n (V.lt v hv) hn) (small _ n hsw hn)
    congr 1
    rw [Bool.eq_iff_iff, beq_iff_eq, beq_iff_eq]
    rw [← h1]
    omega

end Go.Proofs.Ythfjphkhpfmdcaa.Pure

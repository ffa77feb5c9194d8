/- How many vertices a set has, and how that grows: plain words; no condition. -/
import Derived.Test.YtfnlbakeefcmeaaDoorPlain
namespace Go.Proofs.YtfnlbakeefcmeaaDoor.Pure
open Go.RowKit Go.Proofs.YtfnlbakeefcmeaaDoorW.PrintWords Go.Proofs.YtfnlbakeefcmeaaDoorW.PrintLast Go.Proofs.YtfnlbakeefcmeaaDoorW.PrintMore

/-- How many vertices a set has. -/
def size (x : Nat) : Nat := (bitsOf x).length
theorem size_le (x : Nat) : size x ≤ 8 := bitsOf_length x
/-- x lies within y. -/
def Sub (x y : Nat) : Prop := ∀ i, x.testBit i = true → y.testBit i = true
theorem Sub.refl (x : Nat) : Sub x x := fun _ h => h
theorem Sub.trans {x y z : Nat} (h : Sub x y) (k : Sub y z) : Sub x z := fun i hi => k i (h i hi)
theorem Sub.and {x y : Nat} (h : Sub x y) : x &&& y = x := by
  apply Nat.eq_of_testBit_eq
  intro i
  rw [Nat.testBit_and]
  cases hx : x.testBit i with
  | false => rfl
  | true => rw [h i hx]; rfl
theorem sub_of_and {x y : Nat} (h : x &&& y = x) : Sub x y := fun i hi => by
  rw [← h, Nat.testBit_and, Bool.and_eq_true] at hi
  exact hi.2
theorem Sub.lt {x y n : Nat} (h : Sub x y) (hy : y < 2 ^ n) : x < 2 ^ n := by
  rw [← h.and]
  exact Nat.and_lt_two_pow x hy
theorem Sub.le {x y : Nat} (h : Sub x y) : x ≤ y := by
  rw [← h.and]
  exact Nat.and_le_right
theorem Sub.antisymm {x y : Nat} (h : Sub x y) (k : Sub y x) : x = y := by
  apply Nat.eq_of_testBit_eq
  intro i
  rw [Bool.eq_iff_iff]
  exact ⟨h i, k i⟩
theorem bit_none (x n i : Nat) (hx : x < 2 ^ n) (hi : n ≤ i) : x.testBit i = false := Nat.testBit_lt_two_pow (Nat.lt_of_lt_of_le hx (Nat.pow_le_pow_right (by decide) hi))
theorem bit_below {x n i : Nat} (hx : x < 2 ^ n) (h : x.testBit i = true) : i < n := by
  rcases Nat.lt_or_ge i n with h1 | h1
  · exact h1
  · rw [bit_none x n i hx h1] at h
    cases h
theorem bitsFrom_mono (x y : Nat) (h : Sub x y) : ∀ d i, (bitsFrom x i d).length ≤ (bitsFrom y i d).length
  | 0, _ => Nat.le_refl _
  | d + 1, i => by
    have ih := bitsFrom_mono x y h d (i + 1)
    unfold bitsFrom
    by_cases hx : x.testBit i = true
    · rw [if_pos hx, if_pos (h i hx), List.length_cons, List.length_cons]
      omega
    · rw [if_neg hx]
      split
      · rw [List.length_cons]; omega
      · exact ih
theorem bitsFrom_same (x y : Nat) (h : Sub x y) : ∀ d i, (bitsFrom y i d).length ≤ (bitsFrom x i d).length → ∀ v, i ≤ v → v < i + d → y.testBit v = true → x.testBit v = true
  | 0, i, _, v, h1, h2, _ => by omega
  | d + 1, i, hl, v, h1, h2, hv => by
    have ih := bitsFrom_same x y h d (i + 1)
    have hm := bitsFrom_mono x y h d (i + 1)
    unfold bitsFrom at hl
    by_cases hx : x.testBit i = true
    · rw [if_pos hx, if_pos (h i hx), List.length_cons, List.length_cons] at hl
      by_cases e : v = i
      · rw [e]; exact hx
      · exact ih (by omega) v (by omega) (by omega) hv
    · rw [if_neg hx] at hl
      by_cases hy : y.testBit i = true
      · rw [if_pos hy, List.length_cons] at hl; omega
      · rw [if_neg hy] at hl
        by_cases e : v = i
        · exact absurd (e ▸ hv) hy
        · exact ih hl v (by omega) (by omega) hv
theorem size_mono {x y : Nat} (h : Sub x y) : size x ≤ size y := bitsFrom_mono x y h 8 0
theorem size_strict {x y n : Nat} (h : Sub x y) (hy : y < 2 ^ n) (hn : n ≤ 8) (hne : x ≠ y) : size x < size y := by
  rcases Nat.lt_or_ge (size x) (size y) with h1 | h1
  · exact h1
  · exfalso
    apply hne
    refine h.antisymm (fun i hyi => ?_)
    have hi := bit_below hy hyi
    exact bitsFrom_same x y h 8 0 h1 i (Nat.zero_le _) (by omega) hyi
theorem size_le_n {x n : Nat} (hx : x < 2 ^ n) (hn : n ≤ 8) : size x ≤ n := by
  unfold size
  rw [bitsOf_eq x n hx hn]
  exact bitsFrom_length x n 0
theorem sub_zero (x : Nat) : Sub 0 x := fun i h => by
  rw [Nat.zero_testBit] at h
  cases h
theorem size_pos {x n : Nat} (hx : x < 2 ^ n) (hn : n ≤ 8) (h : x ≠ 0) : 0 < size x := Nat.lt_of_le_of_lt (Nat.zero_le (size 0)) (size_strict (sub_zero x) hx hn (Ne.symm h))
theorem bit_one (v i : Nat) : (2 ^ v).testBit i = true ↔ v = i := by rw [Nat.testBit_two_pow, decide_eq_true_iff]
theorem sub_bit {v x : Nat} (h : x.testBit v = true) : Sub (2 ^ v) x := fun i hi => by
  rw [bit_one] at hi
  rw [← hi]
  exact h

/-- The least vertex of a set. -/
def low (x : Nat) : Nat := (bitsOf x).headD 0
theorem low_head {x n : Nat} (hx : x < 2 ^ n) (hn : n ≤ 8) (h : x ≠ 0) : ∃ t, bitsOf x = low x :: t := by
  have hp := size_pos hx hn h
  unfold size at hp
  unfold low
  cases hb : bitsOf x with
  | nil => rw [hb] at hp; simp at hp
  | cons a t => exact ⟨t, rfl⟩
theorem low_mem {x n : Nat} (hx : x < 2 ^ n) (hn : n ≤ 8) (h : x ≠ 0) : low x < n ∧ x.testBit (low x) = true := by
  obtain ⟨t, ht⟩ := low_head hx hn h
  refine (bitsOf_mem x n (low x) hx hn).mp ?_
  rw [ht]
  exact List.mem_cons_self

/-- x without y. -/
def minus (x y : Nat) : Nat := x &&& (2 ^ 64 - 1 - y)
theorem minus_bit (x y i : Nat) (hx : x < 2 ^ 62) (hy : y < 2 ^ 62) : (minus x y).testBit i = (x.testBit i && !y.testBit i) := by
  unfold minus
  rw [Nat.testBit_and, show 2 ^ 64 - 1 - y = 2 ^ 64 - (y + 1) by omega, Nat.testBit_two_pow_sub_succ (Nat.lt_of_lt_of_le hy (by decide))]
  by_cases h : i < 64
  · rw [decide_eq_true h, Bool.true_and]
  · rw [bit_none x 62 i hx (by omega), Bool.false_and, Bool.false_and]
theorem minus_sub (x y : Nat) : Sub (minus x y) x := fun i h => by
  unfold minus at h
  rw [Nat.testBit_and, Bool.and_eq_true] at h
  exact h.1
theorem minus_lt {x y n : Nat} (hx : x < 2 ^ n) : minus x y < 2 ^ n := (minus_sub x y).lt hx
theorem minus_all : ((List.range 256).all fun x => (List.range 256).all fun y => (y &&& x != y) || (minus x y == x - y)) = true := by decide +kernel
theorem minus_is (x y : Nat) (hx : x < 256) (h : Sub y x) : minus x y = x - y := by
  have hy : y < 256 := (h.lt (n := 8) hx)
  have h1 := List.all_eq_true.mp (List.all_eq_true.mp minus_all x (List.mem_range.mpr hx)) y (List.mem_range.mpr hy)
  rw [h.and] at h1
  simpa using h1

end Go.Proofs.YtfnlbakeefcmeaaDoor.Pure

/- FormatInt of the reference writes the sign and the digits of every whole number; condition: a number of 64 bits. -/
import Derived.Test.YthfjphkhpfmdcaaGreatDoorQx3N
import Derived.Lib.ItoaNum
import Derived.Test.YthfjphkhpfmdcaaGreatDoorWMore
namespace Go.Proofs.YthfjphkhpfmdcaaGreatDoor.Pure
open Go.RowKit Go.Proofs.YthfjphkhpfmdcaaGreatDoor.Q Go.Proofs.YthfjphkhpfmdcaaGreatDoorW.PrintWords Go.Proofs.YthfjphkhpfmdcaaGreatDoorW.PrintLast Go.Proofs.YthfjphkhpfmdcaaGreatDoorW.PrintMore

/-- The text of some letters. -/
def tx (l : List UInt8) : ByteArray := ⟨l.toArray⟩
theorem tx_size (l : List UInt8) : (tx l).size = l.length := rfl
theorem tx_append (a b : List UInt8) : tx a ++ tx b = tx (a ++ b) := by
  unfold tx
  apply ByteArray.ext
  simp
theorem letter_is (d : Nat) (h : d < 10) : strOfNums [(wrap64 (48 + (d : Int))) % 256] = tx [UInt8.ofNat (48 + d)] := by
  have e : (wrap64 (48 + (d : Int))) % 256 = ((48 + d : Nat) : Int) := by unfold wrap64; omega
  rw [e]
  rfl
theorem w64_id (x : Int) (h0 : -9223372036854775808 ≤ x) (h1 : x ≤ 9223372036854775807) : wrap64 x = x := by unfold wrap64; omega
theorem dec_small (n : Nat) (h : n < 10) : Lib.decDigits n = [UInt8.ofNat (48 + n)] := by
  rw [Lib.decDigits, dif_pos h]
theorem dec_more (n : Nat) (h : ¬ n < 10) : Lib.decDigits n = Lib.decDigits (n / 10) ++ [UInt8.ofNat (48 + n % 10)] := by
  rw [Lib.decDigits, dif_neg h]
theorem dec_length : ∀ (d n : Nat), n < 10 ^ (d + 1) → (Lib.decDigits n).length ≤ d + 1
  | 0, n, h => by
    rw [dec_small n (by simpa using h)]
    simp
  | d + 1, n, h => by
    by_cases hn : n < 10
    · rw [dec_small n hn]
      simp
    · rw [dec_more n hn, List.length_append]
      have := dec_length d (n / 10) (by rw [Nat.pow_succ] at h; omega)
      simp
      omega

theorem spec_fmt_loop : ∀ (d n : Nat) (x : List UInt8), n < 10 ^ (d + 1) → n < 9223372036854775808 → x.length + d ≤ 1000 → Ev (fun k => spec_FormatInt.l0 k (n : Int) (tx x)) (tx (Lib.decDigits n ++ x))
  | 0, n, x, h, h63, hx => by
    have hn : n < 10 := by simpa using h
    refine Ev.step (f := fun _ => some (tx (Lib.decDigits n ++ x))) (fun k => ?_) (Ev.now _)
    simp only [spec_FormatInt.l0]
    rw [if_neg (by omega), Option.bind_some, letter_is n hn, tx_size, tx_size, if_pos (by simp; omega), tx_append, dec_small n hn]
  | d + 1, n, x, h, h63, hx => by
    by_cases hn : n < 10
    · refine Ev.step (f := fun _ => some (tx (Lib.decDigits n ++ x))) (fun k => ?_) (Ev.now _)
      simp only [spec_FormatInt.l0]
      rw [if_neg (by omega), Option.bind_some, letter_is n hn, tx_size, tx_size, if_pos (by simp; omega), tx_append, dec_small n hn]
    · have ih := spec_fmt_loop d (n / 10) (UInt8.ofNat (48 + n % 10) :: x) (by rw [Nat.pow_succ] at h; omega) (by omega) (by simp; omega)
      rw [dec_more n hn, List.append_assoc, List.singleton_append]
      refine Ev.step (fun k => ?_) ih
      simp only [spec_FormatInt.l0]
      have e1 : Int.tmod (n : Int) 10 = ((n % 10 : Nat) : Int) := by rw [Int.tmod_eq_emod_of_nonneg (by omega)]; omega
      have e2 : Int.tdiv (n : Int) 10 = ((n / 10 : Nat) : Int) := by rw [Int.tdiv_eq_ediv_of_nonneg (by omega)]; omega
      rw [if_pos (by omega), Option.bind_some, e1, e2, letter_is (n % 10) (by omega), tx_size, tx_size, if_pos (by simp; omega), tx_append, w64_id _ (by omega) (by omega)]
      rfl

theorem spec_fmt_neg : ∀ (d n : Nat), 1 ≤ n → n < 10 ^ (d + 1) → n ≤ 9223372036854775808 → d ≤ 30 → Ev (fun k => spec_FormatInt.f k (-(n : Int))) (tx (45 :: Lib.decDigits n))
  | d, n, h0, h, h63, hd => by
    have e2 : Int.tdiv (-(n : Int)) 10 = -((n / 10 : Nat) : Int) := by rw [Int.neg_tdiv, Int.tdiv_eq_ediv_of_nonneg (by omega)]; omega
    have e1 : Int.tmod (-(n : Int)) 10 = -((n % 10 : Nat) : Int) := by rw [Int.neg_tmod, Int.tmod_eq_emod_of_nonneg (by omega)]; omega
    by_cases hn : n < 10
    · refine Ev.step (f := fun _ => some (tx (45 :: Lib.decDigits n))) (fun k => ?_) (Ev.now _)
      simp only [spec_FormatInt.f]
      rw [if_pos (by omega), e2, w64_id _ (by omega) (by omega), if_pos (by omega), Option.bind_some, show (48 : Int) - -(n : Int) = 48 + (n : Int) by omega, letter_is n hn, tx_size, if_pos (by simp), dec_small n hn]
      exact congrArg some (tx_append [45] _)
    · cases d with
      | zero => exact absurd (by simpa using h) hn
      | succ d =>
        have ih := spec_fmt_neg d (n / 10) (by omega) (by rw [Nat.pow_succ] at h; omega) (by omega) (by omega)
        have hl := dec_length d (n / 10) (by rw [Nat.pow_succ] at h; omega)
        refine Ev.step (f := fun k => (spec_FormatInt.f k (-((n / 10 : Nat) : Int))).bind fun t => if t.size + 1 ≤ 9223372036854775807 then some (t ++ tx [UInt8.ofNat (48 + n % 10)]) else none) (fun k => ?_) ?_
        · simp only [spec_FormatInt.f]
          rw [if_pos (by omega), e2, w64_id _ (by omega) (by omega), if_neg (by omega)]
          congr 1
          funext t
          rw [Option.bind_some, e1, show (48 : Int) - -((n % 10 : Nat) : Int) = 48 + ((n % 10 : Nat) : Int) by omega, letter_is (n % 10) (by omega)]
          rfl
        · refine Ev.bind ih ?_
          have hs : (tx (45 :: Lib.decDigits (n / 10))).size + 1 ≤ 9223372036854775807 := by
            rw [tx_size, List.length_cons]
            omega
          simp only [hs, if_true]
          rw [tx_append, dec_more n hn]
          exact Ev.now _

theorem spec_fmt (z : Int) (h0 : -9223372036854775808 ≤ z) (h1 : z ≤ 9223372036854775807) : Ev (fun k => spec_FormatInt.f k z) (tx (Lib.itoa z)) := by
  unfold Lib.itoa
  by_cases hz : z < 0
  · rw [if_pos hz]
    have h := spec_fmt_neg 20 z.natAbs (by omega) (by omega) (by omega) (by omega)
    rw [show -((z.natAbs : Nat) : Int) = z by omega] at h
    exact h
  · rw [if_neg hz]
    obtain ⟨n, rfl⟩ : ∃ n : Nat, z = (n : Int) := ⟨z.toNat, by omega⟩
    have h := spec_fmt_loop 20 n [] (by omega) (by omega) (by decide)
    rw [List.append_nil] at h
    rw [Int.toNat_natCast]
    refine Ev.step (fun k => ?_) h
    simp only [spec_FormatInt.f]
    rw [if_neg hz]
    rfl

end Go.Proofs.YthfjphkhpfmdcaaGreatDoor.Pure

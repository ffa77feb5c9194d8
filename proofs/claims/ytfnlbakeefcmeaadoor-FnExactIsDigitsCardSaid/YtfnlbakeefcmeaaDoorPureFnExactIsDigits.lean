/- IsDigits of the program and IsDigits of the reference answer alike at every string; no condition. -/
import Derived.Test.YtfnlbakeefcmeaaDoorQx32
import Derived.Lib.SlTrimSet
import Derived.Test.YtfnlbakeefcmeaaDoorWMore
namespace Go.Proofs.YtfnlbakeefcmeaaDoor.Pure
open Go.RowKit Go.Proofs.YtfnlbakeefcmeaaDoor.Q Go.Proofs.YtfnlbakeefcmeaaDoorW.PrintWords Go.Proofs.YtfnlbakeefcmeaaDoorW.PrintLast Go.Proofs.YtfnlbakeefcmeaaDoorW.PrintMore

theorem dropWhile_nil (p : UInt8 → Bool) : ∀ l : List UInt8, l.all p = true → l.dropWhile p = []
  | [], _ => rfl
  | b :: l, h => by
    rw [List.all_cons, Bool.and_eq_true] at h
    rw [List.dropWhile_cons, if_pos h.1, dropWhile_nil p l h.2]
theorem dropWhile_all (p : UInt8 → Bool) : ∀ l : List UInt8, (l.dropWhile p).all p = true → l.all p = true
  | [], _ => rfl
  | b :: l, h => by
    rw [List.dropWhile_cons] at h
    cases hb : p b with
    | true => rw [List.all_cons, hb, Bool.true_and]; rw [if_pos hb] at h; exact dropWhile_all p l h
    | false => rw [hb] at h; simp [hb] at h
theorem trimS_nil (l cs : List UInt8) : Lib.trimS l cs = [] ↔ l.all (cs.contains ·) = true := by
  unfold Lib.trimS Lib.trimLeftS Lib.trimRightS
  constructor
  · intro h
    have h1 := dropWhile_all (cs.contains ·) (l.reverse.dropWhile (cs.contains ·)).reverse (by rw [h]; rfl)
    rw [List.all_reverse] at h1
    have h2 := dropWhile_all (cs.contains ·) l.reverse h1
    rwa [List.all_reverse] at h2
  · intro h
    rw [dropWhile_nil (cs.contains ·) l.reverse (by rwa [List.all_reverse])]
    rfl
/-- A digit. -/
def dig (b : UInt8) : Bool := decide (48 ≤ b.toNat) && decide (b.toNat ≤ 57)
theorem dig_all : ∀ n : Fin 256, ([48, 49, 50, 51, 52, 53, 54, 55, 56, 57] : List UInt8).contains (UInt8.ofNat n.val) = dig (UInt8.ofNat n.val) := by decide +kernel
theorem dig_is (b : UInt8) : ([48, 49, 50, 51, 52, 53, 54, 55, 56, 57] : List UInt8).contains b = dig b := by
  have h := dig_all ⟨b.toNat, UInt8.toNat_lt b⟩
  simp only [UInt8.ofNat_toNat] at h
  exact h
theorem bt_list (s : ByteArray) (i : Nat) (h : i < s.data.toList.length) : bt s (i : Int) = (((s.data.toList[i]).toNat : Nat) : Int) := by
  unfold bt
  simp only [Int.toNat_natCast, Array.getElem_toList]
  rw [dif_pos (show i < s.size from h)]
  rfl
theorem spec_digits (s : ByteArray) (hs : s.size ≤ 10000000) : ∀ (d i k : Nat), i + d = s.size → d < k → spec_IsDigits.l0 k s (i : Int) = some ((s.data.toList.drop i).all dig && decide (0 < s.size))
  | 0, i, k, hd, hk => by
    obtain ⟨k, rfl⟩ : ∃ m, k = m + 1 := ⟨k - 1, by omega⟩
    have hl : s.data.toList.length = s.size := rfl
    simp only [spec_IsDigits.l0]
    rw [if_neg (by omega), List.drop_of_length_le (by omega)]
    simp
  | d + 1, i, k, hd, hk => by
    obtain ⟨k, rfl⟩ : ∃ m, k = m + 1 := ⟨k - 1, by omega⟩
    have hl : s.data.toList.length = s.size := rfl
    have hi : i < s.data.toList.length := by omega
    simp only [spec_IsDigits.l0]
    rw [if_pos (by omega), if_pos (by omega), bt_list s i hi, List.drop_eq_getElem_cons hi, List.all_cons]
    have hw : wrap64 ((i : Int) + 1) = ((i + 1 : Nat) : Int) := by unfold wrap64; omega
    rw [hw, spec_digits s hs d (i + 1) k (by omega) (by omega)]
    generalize s.data.toList[i] = b
    unfold dig
    by_cases h1 : (b.toNat : Int) < 48
    · rw [if_pos h1, decide_eq_false (show ¬ 48 ≤ b.toNat by omega)]
      rfl
    · rw [if_neg h1, decide_eq_true (show 48 ≤ b.toNat by omega)]
      by_cases h2 : (b.toNat : Int) > 57
      · rw [if_pos h2, decide_eq_false (show ¬ b.toNat ≤ 57 by omega)]
        rfl
      · rw [if_neg h2, decide_eq_true (show b.toNat ≤ 57 by omega)]
        rfl

theorem FnExactIsDigits : laws_FnExactIsDigits.Pure := by
  intro s _
  by_cases hbig : (s.size : Int) > 1000000
  · refine ⟨0, ?_⟩
    unfold laws_FnExactIsDigits.f
    rw [if_pos hbig]
  · refine ⟨s.size + 1, ?_⟩
    have h1 : spec_IsDigits.f (s.size + 1) s = some (s.data.toList.all dig && decide (0 < s.size)) := spec_digits s (by omega) s.size 0 _ (by omega) (by omega)
    have h2 : impl_IsDigits.f s = some (s.data.toList.all dig && decide (0 < s.size)) := by
      unfold impl_IsDigits.f
      have hl : s.data.toList.length = s.size := rfl
      rw [Lib.toList_data]
      by_cases h0 : s.data.toList = []
      · rw [if_pos h0]
        rw [h0] at hl
        rw [decide_eq_false (show ¬ 0 < s.size by simp at hl; omega), Bool.and_false]
      · have hp : 0 < s.size := by
          have := List.length_pos_iff.mpr h0
          omega
        rw [if_neg h0, decide_eq_true hp, Bool.and_true]
        unfold strings_Trim.f
        rw [if_pos ⟨by omega, by decide, by decide +kernel⟩, Option.bind_some, Lib.toList_data]
        have e : ∀ x : List UInt8, (x == []) = decide (x = []) := fun x => by cases x <;> rfl
        show some (Lib.trimS s.data.toList [48, 49, 50, 51, 52, 53, 54, 55, 56, 57] == []) = _
        rw [e]
        congr 1
        rw [Bool.eq_iff_iff, decide_eq_true_iff, trimS_nil]
        simp only [dig_is]
    unfold laws_FnExactIsDigits.f
    rw [if_neg hbig, h1, h2]
    simp

end Go.Proofs.YtfnlbakeefcmeaaDoor.Pure

/- The program's IsDigits; condition: a text of at most ten million letters. -/
import Derived.Test.YthfjphkhpfmdcaaGreatDoorQx16N
import Derived.Lib.SlTrimSet
import Derived.Test.YthfjphkhpfmdcaaGreatDoorWMore
namespace Go.Proofs.YthfjphkhpfmdcaaGreatDoor.Pure
open Go.RowKit Go.Proofs.YthfjphkhpfmdcaaGreatDoor.Q Go.Proofs.YthfjphkhpfmdcaaGreatDoorW.PrintWords Go.Proofs.YthfjphkhpfmdcaaGreatDoorW.PrintLast Go.Proofs.YthfjphkhpfmdcaaGreatDoorW.PrintMore

theorem dropWhile_nil (p : UInt8 → Bool) : ∀ l : List UInt8, l.all p = true → l.dropWhile p = []
  | [], _ => rfl
  | b :: l, h => by
    rw [List.all_cons, Bool.and_eq_true] at h
    rw [List.dropWhile_cons, if_pos h.1, dropWhile_nil p l h.2]
theorem dropWhile_all (p : UInt8 → Bool) : ∀ l : List UInt8, (l.dropWhile p).all p = true → l.all p = true
  | [], _ => rfl
  | b :: l, h => by
    rw [List.dropWhile_cons] at h
    cases hb : p b with
    | true => rw [List.all_cons, hb, Bool.true_and]; rw [if_pos hb] at h; exact dropWhile_all p l h
    | false => rw [hb] at h; simp [hb] at h
theorem trimS_nil (l cs : List UInt8) : Lib.trimS l cs = [] ↔ l.all (cs.contains ·) = true := by
  unfold Lib.trimS Lib.trimLeftS Lib.trimRightS
  constructor
  · intro h
    have h1 := dropWhile_all (cs.contains ·) (l.reverse.dropWhile (cs.contains ·)).reverse (by rw [h]; rfl)
    rw [List.all_reverse] at h1
    have h2 := dropWhile_all (cs.contains ·) l.reverse h1
    rwa [List.all_reverse] at h2
  · intro h
    rw [dropWhile_nil (cs.contains ·) l.reverse (by rwa [List.all_reverse])]
    rfl
/-- A digit. -/
def digS (b : UInt8) : Bool := decide (48 ≤ b.toNat) && decide (b.toNat ≤ 57)
theorem dig_all : ∀ n : Fin 256, ([48, 49, 50, 51, 52, 53, 54, 55, 56, 57] : List UInt8).contains (UInt8.ofNat n.val) = digS (UInt8.ofNat n.val) := by decide +kernel
theorem dig_is (b : UInt8) : ([48, 49, 50, 51, 52, 53, 54, 55, 56, 57] : List UInt8).contains b = digS b := by
  have h := dig_all ⟨b.toNat, UInt8.toNat_lt b⟩
  simp only [UInt8.ofNat_toNat] at h
  exact h

theorem impl_digits (s : ByteArray) (hs : s.size ≤ 1000000) : impl_IsDigits.f s = some (s.data.toList.all digS && decide (0 < s.size)) := by
  unfold impl_IsDigits.f
  have hl : s.data.toList.length = s.size := rfl
  rw [Lib.toList_data]
  by_cases h0 : s.data.toList = []
  · rw [if_pos h0]
    rw [h0] at hl
    rw [decide_eq_false (show ¬ 0 < s.size by simp at hl; omega), Bool.and_false]
  · have hp : 0 < s.size := by
      have := List.length_pos_iff.mpr h0
      omega
    rw [if_neg h0, decide_eq_true hp, Bool.and_true]
    unfold strings_Trim.f
    rw [if_pos ⟨by omega, by decide, by decide +kernel⟩, Option.bind_some, Lib.toList_data]
    have e : ∀ x : List UInt8, (x == []) = decide (x = []) := fun x => by cases x <;> rfl
    show some (Lib.trimS s.data.toList [48, 49, 50, 51, 52, 53, 54, 55, 56, 57] == []) = _
    rw [e]
    congr 1
    rw [Bool.eq_iff_iff, decide_eq_true_iff, trimS_nil]
    simp only [dig_is]

end Go.Proofs.YthfjphkhpfmdcaaGreatDoor.Pure

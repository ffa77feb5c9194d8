/- PadZeros of the program and PadZeros of the reference give the same text at every text and whole number; no condition. -/
import Derived.Test.YthfjphkhpfmdcaaQx32
namespace Go.Proofs.Ythfjphkhpfmdcaa.Pure
open Go.RowKit Go.Proofs.Ythfjphkhpfmdcaa.Q Go.Proofs.YthfjphkhpfmdcaaW.PrintWords Go.Proofs.YthfjphkhpfmdcaaW.PrintLast

/-- The text with d zeros ahead. -/
def pad (d : Nat) (s : ByteArray) : ByteArray := ⟨(List.replicate d 48 ++ s.data.toList).toArray⟩
theorem data_app (a b : ByteArray) : (a ++ b).data.toList = a.data.toList ++ b.data.toList := by simp [ByteArray.data_append]
theorem pad_zero (s : ByteArray) : pad 0 s = s := by
  unfold pad
  rw [List.replicate_zero, List.nil_append]
theorem pad_one (d : Nat) (s : ByteArray) : pad d ((⟨#[48]⟩ : ByteArray) ++ s) = pad (d + 1) s := by
  unfold pad
  rw [data_app]
  congr 2
  rw [List.replicate_succ', List.append_assoc]
theorem size_one (s : ByteArray) : ((⟨#[48]⟩ : ByteArray) ++ s).size = s.size + 1 := by
  rw [ByteArray.size_append, show (⟨#[48]⟩ : ByteArray).size = 1 from rfl]
  omega
theorem spec_pad (n : Nat) (hn : n ≤ 2000) : ∀ (d : Nat) (s : ByteArray), s.size + d = n → Ev (fun k => spec_PadZeros.l0 k s (n : Int)) (pad d s)
  | 0, s, hd => by
    rw [pad_zero]
    refine Ev.step (f := fun _ => some s) (fun k => ?_) (Ev.now _)
    simp only [spec_PadZeros.l0]
    rw [if_neg (by omega)]
  | d + 1, s, hd => by
    have h := spec_pad n hn d ((⟨#[48]⟩ : ByteArray) ++ s) (by rw [size_one]; omega)
    rw [pad_one] at h
    refine Ev.step (fun k => ?_) h
    simp only [spec_PadZeros.l0]
    rw [if_pos (by omega), if_pos (by omega)]
theorem spec_pad_none (s : ByteArray) (n : Int) (h : n ≤ s.size) : Ev (fun k => spec_PadZeros.l0 k s n) s := by
  refine Ev.step (f := fun _ => some s) (fun k => ?_) (Ev.now _)
  simp only [spec_PadZeros.l0]
  rw [if_neg (by omega)]
theorem zeros_is : ∀ d : Nat, Lib.repeatL [48] d = List.replicate d 48
  | 0 => rfl
  | d + 1 => by
    show [48] ++ Lib.repeatL [48] d = _
    rw [zeros_is d]
    rfl
theorem impl_pad (s : ByteArray) (hs : s.size ≤ 1000000) (n : Nat) (hn : n ≤ 2000) (h : s.size < n) : impl_PadZeros.f s (n : Int) = some (pad (n - s.size) s) := by
  unfold impl_PadZeros.f strings_Repeat.f
  have hw : wrap64 ((n : Int) - (s.size : Int)) = ((n - s.size : Nat) : Int) := by unfold wrap64; omega
  rw [if_neg (by omega), if_neg (by omega), hw, if_pos ⟨by omega, by omega, by decide⟩, Option.bind_some, Int.toNat_natCast, show (⟨#[48]⟩ : ByteArray).data.toList = [48] from rfl, zeros_is]
  have hsz : (⟨(List.replicate (n - s.size) 48).toArray⟩ : ByteArray).size = n - s.size := by
    show (List.replicate (n - s.size) (48 : UInt8)).toArray.size = _
    simp
  rw [hsz, if_pos (by omega)]
  congr 1

theorem same_law (s : ByteArray) (n : Int) (r : ByteArray) (hs : s.size ≤ 1000000) (h1 : Ev (fun k => spec_PadZeros.f k s n) r) (h2 : impl_PadZeros.f s n = some r) : ∃ k, laws_FnExactPadZeros.f k s n = some true := by
  obtain ⟨K, h1⟩ := h1
  have h3 : spec_PadZeros.f K s n = some r := h1 K (Nat.le_refl _)
  refine ⟨K, ?_⟩
  unfold laws_FnExactPadZeros.f
  rw [if_neg (by omega), h3, h2, Option.bind_some, Option.bind_some, if_pos rfl]

theorem FnExactPadZeros : laws_FnExactPadZeros.Pure := by
  intro s n _ _
  by_cases hs : s.size ≤ 1000000
  · by_cases hn : n > 2000
    · refine same_law s n s hs ?_ ?_
      · unfold spec_PadZeros.f
        simp only [hn, if_true]
        exact Ev.now _
      · unfold impl_PadZeros.f
        rw [if_pos hn]
    · by_cases hl : n ≤ s.size
      · refine same_law s n s hs ?_ ?_
        · unfold spec_PadZeros.f
          simp only [hn, if_false]
          exact spec_pad_none s n hl
        · unfold impl_PadZeros.f
          rw [if_neg hn, if_pos (by omega)]
      · obtain ⟨m, rfl⟩ : ∃ m : Nat, n = (m : Int) := ⟨n.toNat, by omega⟩
        refine same_law s m (pad (m - s.size) s) hs ?_ (impl_pad s hs m (by omega) (by omega))
        unfold spec_PadZeros.f
        simp only [hn, if_false]
        exact spec_pad m (by omega) (m - s.size) s (by omega)
  · refine ⟨0, ?_⟩
    unfold laws_FnExactPadZeros.f
    rw [if_pos (by omega)]

end Go.Proofs.Ythfjphkhpfmdcaa.Pure

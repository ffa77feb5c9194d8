/- strings.Split at a separator of one byte returns the pieces between, as the kit's plain function tells it; condition: a text of at most a million bytes. -/
import Derived.Test.YthfjphkhpfmdcaaGreatDoorShelf
import Derived.Test.YthfjphkhpfmdcaaGreatDoorMCardFnExactParseGraph0
import Derived.Shelf.Strings.SplitCore
import Derived.Shelf.Strings.Split
import Derived.Lib.IndexBytes
namespace Go.Proofs.YthfjphkhpfmdcaaGreatDoor.Q
open Go.RowKit Go.Proofs.YthfjphkhpfmdcaaGreatDoorW.PrintWords Go.Proofs.YthfjphkhpfmdcaaGreatDoorW.PrintLast Go.Proofs.YthfjphkhpfmdcaaGreatDoorW.PrintMore
def strings_Split.f (a0 : ByteArray) (a1 : ByteArray) : Option (List ByteArray) := if a0.size ≤ 1000000 ∧ a1.data.toList.length = 1 then some (Lib.splitB a1 0 (Lib.countB a0 a1) a0) else none
theorem one_byte {b : ByteArray} (h : b.data.toList.length = 1) : ∃ c : UInt8, b = ⟨#[c]⟩ := by
  obtain ⟨a⟩ := b
  obtain ⟨l⟩ := a
  cases l with
  | nil => cases h
  | cons c t =>
    cases t with
    | nil => exact ⟨c, rfl⟩
    | cons d t => simp at h
theorem strs_own {e : Nat} {w : World} {base : Nat} {v : Value} {xs : List ByteArray} (h : w.ownsRow base e 1 v xs.length (xs.map Value.string)) : Kd.R Kd.string e w base (fun _ => True) v xs := by
  refine ⟨fun _ _ => trivial, xs.map Value.string, h, by simp [Kd.string, Kd.scalar], fun j p hj => ?_⟩
  have hlt : j < xs.length := by
    rcases Nat.lt_or_ge j xs.length with h_ | h_
    · exact h_
    · rw [List.getElem?_eq_none h_] at hj; cases hj
  rw [List.getElem?_eq_getElem hlt] at hj
  obtain rfl := Option.some.inj hj
  show ((xs.map Value.string).drop (j * 1)).take 1 = [Value.string xs[j]]
  rw [Nat.mul_one, List.drop_eq_getElem_cons (by simpa using hlt), List.take_succ_cons, List.take_zero, List.getElem_map]
theorem index_at_one (x : ByteArray) (c : UInt8) : Lib.indexB x ⟨#[c]⟩ = Lib.indexByte x.data.toList c := by
  rw [← Lib.index_one]
set_option maxHeartbeats 4000000 in
set_option maxRecDepth 1000000 in
theorem split_one (s : ByteArray) (c : UInt8) (w : World) (hs : s.size ≤ 1000000) :
    Calls Tryz.prog 14 #[.string s, .string ⟨#[c]⟩] w fun e w' =>
      e = .returned (.slice (some ⟨w.heap.size, 0, none⟩) (Lib.countB s ⟨#[c]⟩ + 1) (Lib.countB s ⟨#[c]⟩ + 1)) ∧ w' = w.alloc (.cells ((Lib.splitB ⟨#[c]⟩ 0 (Lib.countB s ⟨#[c]⟩) s).map Value.string).toArray 9) := by
  have h1 : 1 ≤ (ByteArray.mk #[c]).size := Nat.le_refl 1
  have hle := Lib.countB_le ⟨#[c]⟩ h1 s.size s (Nat.le_refl _)
  have hlen := Lib.splitB_all ⟨#[c]⟩ h1 0 _ s rfl
  have hcnt : Calls Tryz.prog 44 #[.string s, .string ⟨#[c]⟩] w fun e w' => e = .returned (.int .i64 (Lib.countB s ⟨#[c]⟩)) ∧ w' = w := by
    refine (Tryz.strings_Count_one s c w).mono fun e w' ⟨he, hw⟩ => ⟨?_, hw⟩
    rw [he]
    show _ = Ending.returned (Value.int .i64 ((Lib.count s.data.toList [c] : Nat) : Int))
    rw [Lib.count_one]
    rfl
  have cc := Any.strings_genSplit_core (ρ := Tryz.lays221_ren) Tryz.lays221 (by kernel_rfl) s ⟨#[c]⟩ 0 (-1) (Lib.countB s ⟨#[c]⟩ + 1) w (by omega) h1 (Nat.zero_le _)
    (fun x cs hx => by
      refine (Tryz.strings_Index_one x c _).mono fun e w' ⟨he, hw⟩ => ⟨?_, hw⟩
      rw [he]
      rw [index_at_one x c])
    hcnt (by decide) (by decide) (by rw [if_pos (by decide)]; omega)
  rw [Nat.add_sub_cancel, hlen] at cc
  have e2 : Lib.cellsOf (Lib.splitB ⟨#[c]⟩ 0 (Lib.countB s ⟨#[c]⟩) s) (Lib.countB s ⟨#[c]⟩ + 1) = ((Lib.splitB ⟨#[c]⟩ 0 (Lib.countB s ⟨#[c]⟩) s).map Value.string).toArray := by rw [← hlen]; exact Lib.cellsOf_full _
  rw [e2] at cc
  go_enter Tryz.func14, Tryz.ntmps14
  go_wp2_with (go_at_call 29; refine (show Calls Tryz.prog 29 _ _ _ from cc).mono ?_; rintro e w' ⟨rfl, hw⟩; rw [hw])
  go_ret
  exact ⟨rfl, rfl⟩
theorem strings_Split.calls (a0 : ByteArray) (a1 : ByteArray) (r : List ByteArray) (w : World) (h : strings_Split.f a0 a1 = some r) :
    Calls Tryz.prog 14 #[.string a0, .string a1] w fun e w' => ∃ v0_ : Value, e = .returned (v0_) ∧ Kd.R Kd.string 9 w' w.heap.size (fun _ => True) v0_ r ∧ Below w.heap.size w w' := by
  unfold strings_Split.f at h
  by_cases hc : a0.size ≤ 1000000 ∧ a1.data.toList.length = 1
  · rw [if_pos hc] at h
    obtain rfl := Option.some.inj h
    obtain ⟨c, rfl⟩ := one_byte hc.2
    have h1 : 1 ≤ (ByteArray.mk #[c]).size := Nat.le_refl 1
    have hle := Lib.countB_le ⟨#[c]⟩ h1 a0.size a0 (Nat.le_refl _)
    have hlen := Lib.splitB_all ⟨#[c]⟩ h1 0 _ a0 rfl
    refine (split_one a0 c w hc.1).mono fun e w' ⟨he, hw⟩ => ⟨_, he, ?_, ?_⟩
    · rw [hw]
      refine strs_own ?_
      refine ⟨by simp, .inr ⟨w.heap.size, Lib.countB a0 ⟨#[c]⟩ + 1, _, by rw [hlen], Nat.le_refl _, heap_alloc_new _ _, by omega, ?_, ?_, ?_⟩⟩
      · unfold maxLen
        omega
      · simp [hlen]
      · rw [Nat.mul_one, List.toList_toArray]
        exact List.take_of_length_le (by simp)
    · rw [hw]
      exact below_alloc (Below.refl _ _) _
  · rw [if_neg hc] at h
    cases h
end Go.Proofs.YthfjphkhpfmdcaaGreatDoor.Q

/- SplitAny of the reference cuts a string into its pieces; condition: fewer than ten million bytes. -/
import Derived.Test.YthfjphkhpfmdcaaGreatDoorMCardFnExactParseGraph0
import Derived.Test.YthfjphkhpfmdcaaGreatDoorWMore
import Derived.Lib.Bytealg
namespace Go.Proofs.YthfjphkhpfmdcaaGreatDoor.Pure
open Go.RowKit Go.Proofs.YthfjphkhpfmdcaaGreatDoor.Q Go.Proofs.YthfjphkhpfmdcaaGreatDoorW.PrintWords Go.Proofs.YthfjphkhpfmdcaaGreatDoorW.PrintLast

theorem wrap_small (x : Int) (h0 : -1000000000000000000 ≤ x) (h1 : x ≤ 1000000000000000000) : wrap64 x = x := by unfold wrap64; omega
/-- Is the byte a separator. -/
def isSep (by_ : ByteArray) (c : Int) : Bool := decide (0 ≤ Lib.indexByte by_.data.toList c.toNat.toUInt8)
/-- The pieces, from place i on. -/
def pieces (s by_ : ByteArray) : Nat → Int → Int → List ByteArray → List ByteArray
  | 0, _, fr, out => out ++ [s.extract fr.toNat s.size]
  | d + 1, i, fr, out => if isSep by_ (bt s i) = true then pieces s by_ d (i + 1) (i + 1) (out ++ [s.extract fr.toNat i.toNat]) else pieces s by_ d (i + 1) fr out

theorem pieces_length (s by_ : ByteArray) : ∀ (d : Nat) (i fr : Int) (out : List ByteArray), (pieces s by_ d i fr out).length ≤ out.length + d + 1
  | 0, i, fr, out => by simp [pieces]
  | d + 1, i, fr, out => by
    unfold pieces
    split
    · have := pieces_length s by_ d (i + 1) (i + 1) (out ++ [s.extract fr.toNat i.toNat])
      simp at this ⊢
      omega
    · have := pieces_length s by_ d (i + 1) fr out
      omega

/-- Does a separator from place j on equal the byte. -/
def anySep (by_ : ByteArray) (c : Int) : Nat → Int → Bool
  | 0, _ => false
  | e + 1, j => (c == bt by_ j) || anySep by_ c e (j + 1)

theorem index_mem : ∀ (l : List UInt8) (c : UInt8), 0 ≤ Lib.indexByte l c ↔ c ∈ l
  | [], c => by simp [Lib.indexByte]
  | b :: l, c => by
    have ih := index_mem l c
    have hg := Lib.indexByte_ge l c
    unfold Lib.indexByte
    by_cases h : b = c
    · subst h; simp
    · have hb : (b == c) = false := by simpa using h
      rw [hb]
      simp only [Bool.false_eq_true, if_false, List.mem_cons]
      by_cases h2 : Lib.indexByte l c = -1
      · have : ¬ c ∈ l := by rw [← ih]; omega
        rw [h2]
        simp [this, Ne.symm h]
      · have h3 : 0 ≤ Lib.indexByte l c := by omega
        have : c ∈ l := ih.mp h3
        have hb2 : (Lib.indexByte l c == -1) = false := by simpa using h2
        rw [hb2]
        simp [this]
        omega

theorem anySep_iff (by_ : ByteArray) (c : Int) : ∀ (e : Nat) (j : Int), 0 ≤ j → (anySep by_ c e j = true ↔ ∃ m : Nat, j.toNat ≤ m ∧ m < j.toNat + e ∧ c = bt by_ m)
  | 0, j, h0 => by simp [anySep]; intro m h1 h2; omega
  | e + 1, j, h0 => by
    unfold anySep
    rw [Bool.or_eq_true, anySep_iff by_ c e (j + 1) (by omega), beq_iff_eq]
    constructor
    · rintro (h | ⟨m, h1, h2, h3⟩)
      · exact ⟨j.toNat, Nat.le_refl _, by omega, by rw [h]; congr 1; omega⟩
      · exact ⟨m, by omega, by omega, h3⟩
    · rintro ⟨m, h1, h2, h3⟩
      by_cases hm : m = j.toNat
      · exact .inl (by rw [h3]; congr 1; omega)
      · exact .inr ⟨m, by omega, by omega, h3⟩

theorem sep_any (s by_ : ByteArray) (i : Int) (h0 : 0 ≤ i) (h1 : i < (s.size : Int)) : isSep by_ (bt s i) = anySep by_ (bt s i) by_.size 0 := by
  unfold isSep
  have hb := bt_range s i
  have hi : i.toNat < s.size := by omega
  have hc : bt s i = ((s[i.toNat]'hi).toNat : Int) := (bt_at s i hi).symm
  have hcc : (bt s i).toNat.toUInt8 = s[i.toNat]'hi := by rw [hc]; simp
  rw [hcc]
  rw [Bool.eq_iff_iff, decide_eq_true_iff, index_mem, anySep_iff _ _ _ _ (by omega)]
  constructor
  · intro hm
    obtain ⟨m, hm1, hm2⟩ := List.getElem_of_mem hm
    have hm3 : m < by_.size := by rw [data_length] at hm1; exact hm1
    refine ⟨m, by omega, by simp; omega, ?_⟩
    rw [hc, ← bt_at by_ m (by simpa using hm3)]
    have : by_[(m : Int).toNat]'(by simpa using hm3) = s[i.toNat]'hi := by rw [← hm2]; rfl
    rw [this]
  · rintro ⟨m, h2, h3, h4⟩
    have hm3 : m < by_.size := by simp at h3; omega
    rw [hc, ← bt_at by_ m (by simpa using hm3)] at h4
    have h5 : s[i.toNat]'hi = by_[m]'hm3 := by
      have : (s[i.toNat]'hi).toNat = (by_[m]'hm3).toNat := by exact_mod_cast h4
      exact UInt8.toNat_inj.mp this
    rw [h5]
    show by_.data[m] ∈ by_.data.toList
    simp

theorem spec_inner (s by_ : ByteArray) (hs : s.size ≤ 10000000) (hb : by_.size ≤ 10000000) (i fr : Int) (out : List ByteArray) (h0 : 0 ≤ fr) (hi : fr ≤ i) (hi2 : i < (s.size : Int)) (ho : (out.length : Int) ≤ i) (r : Bool → Option (List ByteArray)) (B : Nat)
    (hyes : ∀ k, B ≤ k → spec_SplitAny.l0 k s by_ (out ++ [s.extract fr.toNat i.toNat]) (i + 1) (i + 1) = r true) (hno : ∀ k, B ≤ k → spec_SplitAny.l0 k s by_ out fr (i + 1) = r false) :
    ∀ (e : Nat) (j : Int) (k : Nat), 0 ≤ j → j + (e : Int) = (by_.size : Int) → B + e < k → spec_SplitAny.l1 k s by_ out fr i j = r (anySep by_ (bt s i) e j)
  | 0, j, k, hj, he, hk => by
    obtain ⟨k, rfl⟩ : ∃ m, k = m + 1 := ⟨k - 1, by omega⟩
    simp only [spec_SplitAny.l1, anySep]
    rw [if_neg (by omega), wrap_small (i + 1) (by omega) (by omega)]
    exact hno k (by omega)
  | e + 1, j, k, hj, he, hk => by
    obtain ⟨k, rfl⟩ : ∃ m, k = m + 1 := ⟨k - 1, by omega⟩
    simp only [spec_SplitAny.l1, anySep]
    rw [if_pos (by omega), if_pos (by omega), if_pos hi2, if_pos hj]
    by_cases h : bt s i = bt by_ j
    · rw [if_pos h, if_pos h0, if_pos hi, if_pos (by omega), if_pos (by omega), wrap_small (i + 1) (by omega) (by omega), hyes k (by omega)]
      rw [beq_iff_eq.mpr h]
      rfl
    · rw [if_neg h, wrap_small (j + 1) (by omega) (by omega), spec_inner s by_ hs hb i fr out h0 hi hi2 ho r B hyes hno e (j + 1) k (by omega) (by omega) (by omega)]
      rw [beq_eq_false_iff_ne.mpr h]
      rfl

theorem spec_pieces (s by_ : ByteArray) (hs : s.size ≤ 10000000) (hb : by_.size ≤ 10000000) : ∀ (d : Nat) (i fr : Int) (out : List ByteArray) (k : Nat), 0 ≤ fr → fr ≤ i → i + (d : Int) = (s.size : Int) → (out.length : Int) ≤ i → d * (by_.size + 2) < k →
    spec_SplitAny.l0 k s by_ out fr i = some (pieces s by_ d i fr out)
  | 0, i, fr, out, k, h0, hi, hd, ho, hk => by
    obtain ⟨k, rfl⟩ : ∃ m, k = m + 1 := ⟨k - 1, by omega⟩
    simp only [spec_SplitAny.l0, pieces]
    rw [if_neg (by omega), if_pos h0, if_pos (by omega), if_pos (by omega)]
  | d + 1, i, fr, out, k, h0, hi, hd, ho, hk => by
    have hm : (d + 1) * (by_.size + 2) = d * (by_.size + 2) + (by_.size + 2) := by rw [Nat.add_mul, Nat.one_mul]
    obtain ⟨k, rfl⟩ : ∃ m, k = m + 1 := ⟨k - 1, by omega⟩
    simp only [spec_SplitAny.l0, pieces]
    rw [if_pos (by omega)]
    rw [spec_inner s by_ hs hb i fr out h0 hi (by omega) ho (fun b => some (if b = true then pieces s by_ d (i + 1) (i + 1) (out ++ [s.extract fr.toNat i.toNat]) else pieces s by_ d (i + 1) fr out)) (d * (by_.size + 2) + 1)
      (fun k hk => by rw [spec_pieces s by_ hs hb d (i + 1) (i + 1) _ k (by omega) (by omega) (by omega) (by simp; omega) (by omega)]; rfl)
      (fun k hk => by rw [spec_pieces s by_ hs hb d (i + 1) fr out k h0 (by omega) (by omega) (by omega) (by omega)]; rfl)
      by_.size 0 k (by omega) (by omega) (by omega)]
    rw [← sep_any s by_ i (by omega) (by omega)]

end Go.Proofs.YthfjphkhpfmdcaaGreatDoor.Pure

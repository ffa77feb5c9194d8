/- strings.Split at one letter cuts as the reference's loop does; no condition. -/
import Derived.Test.YthfjphkhpfmdcaaGreatDoorPPiecesGN
import Derived.Test.YthfjphkhpfmdcaaGreatDoorXSplitN
import Derived.Lib.SplitLaws
import Derived.Lib.IndexBytes
namespace Go.Proofs.YthfjphkhpfmdcaaGreatDoor.Pure
open Go.RowKit Go.Proofs.YthfjphkhpfmdcaaGreatDoor.Q Go.Proofs.YthfjphkhpfmdcaaGreatDoorW.PrintWords Go.Proofs.YthfjphkhpfmdcaaGreatDoorW.PrintLast Go.Proofs.YthfjphkhpfmdcaaGreatDoorW.PrintMore

/-- A text cut at each c; what stands before. -/
def cut (c : UInt8) : List UInt8 → List UInt8 → List (List UInt8)
  | cur, [] => [cur]
  | cur, b :: t => if b = c then cur :: cut c [] t else cut c (cur ++ [b]) t
theorem cut_split (c : UInt8) : ∀ (l cur : List UInt8), cut c cur l = (Lib.splitK [c] 0 (l.count c) l).modifyHead (cur ++ ·)
  | [], cur => by simp [cut, Lib.splitK]
  | b :: t, cur => by
    unfold cut
    by_cases hb : b = c
    · subst hb
      have hix : Lib.index (b :: t) [b] = 0 := by rw [Lib.index_one]; simp [Lib.indexByte]
      rw [if_pos rfl, List.count_cons_self, Lib.splitK, hix, cut_split b t []]
      simp
      cases Lib.splitK [b] 0 (t.count b) t <;> simp
    · have hbc : (b == c) = false := by simpa using hb
      rw [if_neg hb, List.count_cons_of_ne (by simpa using hb), cut_split c t]
      cases hk : t.count c with
      | zero => simp [Lib.splitK]
      | succ k =>
        have hg := Lib.indexByte_ge t c
        have hm : c ∈ t := List.count_pos_iff.mp (by omega)
        have h0 : 0 ≤ Lib.indexByte t c := (index_mem t c).mpr hm
        have h1 : (Lib.indexByte t c == -1) = false := by
          rw [beq_eq_false_iff_ne]
          omega
        obtain ⟨i, hi⟩ : ∃ i : Nat, Lib.indexByte t c = (i : Int) := ⟨(Lib.indexByte t c).toNat, by omega⟩
        have hix : Lib.index (b :: t) [c] = ((i + 1 : Nat) : Int) := by
          rw [Lib.index_one, Lib.indexByte, hbc, h1, hi]
          simp
        have hix2 : Lib.index t [c] = (i : Int) := by rw [Lib.index_one, hi]
        have e1 : (((i + 1 : Nat) : Int) == -1) = false := by rw [beq_eq_false_iff_ne]; omega
        have e2 : ((i : Int) == -1) = false := by rw [beq_eq_false_iff_ne]; omega
        rw [Lib.splitK, Lib.splitK, hix, hix2, e1, e2]
        simp
theorem extract_list (s : ByteArray) (a b : Nat) : (s.extract a b).data.toList = (s.data.toList.drop a).take (b - a) := by
  rw [Lib.extract_data]
theorem sep_is (s : ByteArray) (c : UInt8) (i : Nat) (h : i < s.size) : isSep ⟨#[c]⟩ (bt s (i : Int)) = decide (s.data.toList[i]'(by rw [data_length]; exact h) = c) := by
  unfold isSep
  have hc : (bt s (i : Int)).toNat.toUInt8 = s.data.toList[i]'(by rw [data_length]; exact h) := by
    rw [← bt_at s i h]
    simp
    rfl
  rw [hc]
  generalize s.data.toList[i]'(by rw [data_length]; exact h) = x
  show decide (0 ≤ Lib.indexByte [c] x) = _
  by_cases e : x = c
  · subst e
    simp [Lib.indexByte]
  · have : (c == x) = false := by simpa using Ne.symm e
    simp [Lib.indexByte, this, e]
theorem pieces_cut (s : ByteArray) (c : UInt8) : ∀ (d i fr : Nat) (out : List ByteArray), fr ≤ i → i + d = s.size →
    (pieces s ⟨#[c]⟩ d (i : Int) (fr : Int) out).map (·.data.toList) = out.map (·.data.toList) ++ cut c ((s.data.toList.drop fr).take (i - fr)) (s.data.toList.drop i)
  | 0, i, fr, out, hf, hd => by
    have hl : s.data.toList.length = s.size := data_length s
    unfold pieces
    rw [List.drop_of_length_le (show s.data.toList.length ≤ i by omega)]
    simp only [List.map_append, List.map_cons, List.map_nil, cut, Int.toNat_natCast, extract_list]
    rw [show s.size = i by omega]
  | d + 1, i, fr, out, hf, hd => by
    have hl : s.data.toList.length = s.size := data_length s
    have hi : i < s.size := by omega
    have hi2 : i < s.data.toList.length := by omega
    unfold pieces
    rw [sep_is s c i hi, List.drop_eq_getElem_cons hi2, cut]
    have hn : ((i : Int) + 1) = ((i + 1 : Nat) : Int) := by omega
    rw [hn]
    by_cases h : s.data.toList[i] = c
    · rw [if_pos (decide_eq_true h), if_pos h, pieces_cut s c d (i + 1) (i + 1) _ (Nat.le_refl _) (by omega)]
      simp
    · rw [if_neg (by simpa using h), if_neg h, pieces_cut s c d (i + 1) fr _ (by omega) (by omega)]
      congr 2
      rw [show i + 1 - fr = (i - fr) + 1 by omega, List.take_add_one]
      congr 1
      rw [List.getElem?_drop, show fr + (i - fr) = i by omega, List.getElem?_eq_getElem hi2]
      rfl
theorem same_texts : ∀ (a b : List ByteArray), a.map (·.data.toList) = b.map (·.data.toList) → a = b
  | [], [], _ => rfl
  | [], _ :: _, h => by simp at h
  | _ :: _, [], h => by simp at h
  | x :: a, y :: b, h => by
    simp only [List.map_cons, List.cons.injEq] at h
    have hxy : x = y := by
      obtain ⟨⟨x⟩⟩ := x
      obtain ⟨⟨y⟩⟩ := y
      have := h.1
      simp at this
      rw [this]
    rw [hxy, same_texts a b h.2]
theorem split_pieces (s : ByteArray) (c : UInt8) : Lib.splitB ⟨#[c]⟩ 0 (Lib.countB s ⟨#[c]⟩) s = pieces s ⟨#[c]⟩ s.size 0 0 [] := by
  apply same_texts
  have hp := pieces_cut s c s.size 0 0 [] (Nat.le_refl _) (by omega)
  simp only [List.drop_zero, Nat.sub_self, List.take_zero, List.map_nil, List.nil_append] at hp
  rw [show ((0 : Int)) = ((0 : Nat) : Int) from rfl, hp, Lib.splitB_data, cut_split]
  show Lib.splitK [c] 0 (Lib.countB s ⟨#[c]⟩) s.data.toList = _
  rw [show Lib.countB s ⟨#[c]⟩ = s.data.toList.count c from Lib.count_one c s.data.toList]
  cases Lib.splitK [c] 0 (s.data.toList.count c) s.data.toList <;> simp

end Go.Proofs.YthfjphkhpfmdcaaGreatDoor.Pure

/- What a text is cut into, and that joining gives the text back; the reference's own draw of a text; condition: short texts. -/
import Derived.Test.YtnnhnbpgabbflaaDoorPBelow
import Derived.Lib.Bytealg
import Derived.Lib.Join
import Derived.Test.YtnnhnbpgabbflaaDoorQx5
import Derived.Test.YtnnhnbpgabbflaaDoorQx6
import Derived.Test.YtnnhnbpgabbflaaDoorQx8
import Derived.Test.YtnnhnbpgabbflaaDoorQx9
namespace Go.Proofs.YtnnhnbpgabbflaaDoor.Pure
open Go.RowKit Go.Proofs.YtnnhnbpgabbflaaDoor.Q Go.Proofs.YtnnhnbpgabbflaaDoorW.PrintWords Go.Proofs.YtnnhnbpgabbflaaDoorW.PrintLast Go.Proofs.YtnnhnbpgabbflaaDoorW.PrintMore

theorem wrap_small (x : Int) (h0 : -1000000000000000000 ≤ x) (h1 : x ≤ 1000000000000000000) : wrap64 x = x := by unfold wrap64; omega
/-- Is the byte a separator. -/
def isSep (by_ : ByteArray) (c : Int) : Bool := decide (0 ≤ Lib.indexByte by_.data.toList c.toNat.toUInt8)
/-- The pieces, from place i on. -/
def pieces (s by_ : ByteArray) : Nat → Int → Int → List ByteArray → List ByteArray
  | 0, _, fr, out => out ++ [s.extract fr.toNat s.size]
  | d + 1, i, fr, out => if isSep by_ (bt s i) = true then pieces s by_ d (i + 1) (i + 1) (out ++ [s.extract fr.toNat i.toNat]) else pieces s by_ d (i + 1) fr out

theorem pieces_length (s by_ : ByteArray) : ∀ (d : Nat) (i fr : Int) (out : List ByteArray), (pieces s by_ d i fr out).length ≤ out.length + d + 1
  | 0, i, fr, out => by simp [pieces]
  | d + 1, i, fr, out => by
    unfold pieces
    split
    · have := pieces_length s by_ d (i + 1) (i + 1) (out ++ [s.extract fr.toNat i.toNat])
      simp at this ⊢
      omega
    · have := pieces_length s by_ d (i + 1) fr out
      omega

theorem impl_pieces (s by_ : ByteArray) (hs : s.size ≤ 10000000) : ∀ (d : Nat) (i fr : Int) (out : List ByteArray) (k : Nat), 0 ≤ fr → fr ≤ i → i + (d : Int) = (s.size : Int) → (out.length : Int) ≤ i → d < k →
    impl_SplitAny.l0 k s by_ out fr (s.size : Int) i = some (pieces s by_ d i fr out)
  | 0, i, fr, out, k, h0, hi, hd, ho, hk => by
    obtain ⟨k, rfl⟩ : ∃ m, k = m + 1 := ⟨k - 1, by omega⟩
    simp only [impl_SplitAny.l0, pieces]
    rw [if_neg (by omega), if_pos h0, if_pos (by omega), if_pos (by omega)]
  | d + 1, i, fr, out, k, h0, hi, hd, ho, hk => by
    obtain ⟨k, rfl⟩ : ∃ m, k = m + 1 := ⟨k - 1, by omega⟩
    simp only [impl_SplitAny.l0, pieces, strings_IndexByte.f, Option.bind_some]
    rw [if_pos (by omega), if_pos (by omega), if_pos (by omega), wrap_small (i + 1) (by omega) (by omega)]
    unfold isSep
    by_cases hc : 0 ≤ Lib.indexByte by_.data.toList (bt s i).toNat.toUInt8
    · rw [if_pos (show _ ≥ _ from hc), if_pos h0, if_pos hi, if_pos (by omega), if_pos (by omega), if_pos (decide_eq_true hc)]
      exact impl_pieces s by_ hs d (i + 1) (i + 1) _ k (by omega) (by omega) (by omega) (by simp; omega) (by omega)
    · rw [if_neg (show ¬ _ ≥ _ from hc), if_neg (by simpa using hc)]
      exact impl_pieces s by_ hs d (i + 1) fr out k h0 (by omega) (by omega) (by omega) (by omega)

theorem index_mem : ∀ (l : List UInt8) (c : UInt8), 0 ≤ Lib.indexByte l c ↔ c ∈ l
  | [], c => by simp [Lib.indexByte]
  | b :: l, c => by
    have ih := index_mem l c
    have hg := Lib.indexByte_ge l c
    unfold Lib.indexByte
    by_cases h : b = c
    · subst h; simp
    · have hb : (b == c) = false := by simpa using h
      rw [hb]
      simp only [Bool.false_eq_true, if_false, List.mem_cons]
      by_cases h2 : Lib.indexByte l c = -1
      · have : ¬ c ∈ l := by rw [← ih]; omega
        rw [h2]
        simp [this, Ne.symm h]
      · have h3 : 0 ≤ Lib.indexByte l c := by omega
        have : c ∈ l := ih.mp h3
        have hb2 : (Lib.indexByte l c == -1) = false := by simpa using h2
        rw [hb2]
        simp [this]
        omega

/-- A text cut at each c; what stands before. -/
def cut (c : UInt8) : List UInt8 → List UInt8 → List (List UInt8)
  | cur, [] => [cur]
  | cur, b :: t => if b = c then cur :: cut c [] t else cut c (cur ++ [b]) t
theorem extract_list (s : ByteArray) (a b : Nat) : (s.extract a b).data.toList = (s.data.toList.drop a).take (b - a) := by
  rw [Lib.extract_data]
theorem sep_is (s : ByteArray) (c : UInt8) (i : Nat) (h : i < s.size) : isSep ⟨#[c]⟩ (bt s (i : Int)) = decide (s.data.toList[i]'(by rw [data_length]; exact h) = c) := by
  unfold isSep
  have hc : (bt s (i : Int)).toNat.toUInt8 = s.data.toList[i]'(by rw [data_length]; exact h) := by
    rw [← bt_at s i h]
    simp
    rfl
  rw [hc]
  generalize s.data.toList[i]'(by rw [data_length]; exact h) = x
  show decide (0 ≤ Lib.indexByte [c] x) = _
  by_cases e : x = c
  · subst e
    simp [Lib.indexByte]
  · have : (c == x) = false := by simpa using Ne.symm e
    simp [Lib.indexByte, this, e]
theorem pieces_cut (s : ByteArray) (c : UInt8) : ∀ (d i fr : Nat) (out : List ByteArray), fr ≤ i → i + d = s.size →
    (pieces s ⟨#[c]⟩ d (i : Int) (fr : Int) out).map (·.data.toList) = out.map (·.data.toList) ++ cut c ((s.data.toList.drop fr).take (i - fr)) (s.data.toList.drop i)
  | 0, i, fr, out, hf, hd => by
    have hl : s.data.toList.length = s.size := data_length s
    unfold pieces
    rw [List.drop_of_length_le (show s.data.toList.length ≤ i by omega)]
    simp only [List.map_append, List.map_cons, List.map_nil, cut, Int.toNat_natCast, extract_list]
    rw [show s.size = i by omega]
  | d + 1, i, fr, out, hf, hd => by
    have hl : s.data.toList.length = s.size := data_length s
    have hi : i < s.size := by omega
    have hi2 : i < s.data.toList.length := by omega
    unfold pieces
    rw [sep_is s c i hi, List.drop_eq_getElem_cons hi2, cut]
    have hn : ((i : Int) + 1) = ((i + 1 : Nat) : Int) := by omega
    rw [hn]
    by_cases h : s.data.toList[i] = c
    · rw [if_pos (decide_eq_true h), if_pos h, pieces_cut s c d (i + 1) (i + 1) _ (Nat.le_refl _) (by omega)]
      simp
    · rw [if_neg (by simpa using h), if_neg h, pieces_cut s c d (i + 1) fr _ (by omega) (by omega)]
      congr 2
      rw [show i + 1 - fr = (i - fr) + 1 by omega, List.take_add_one]
      congr 1
      rw [List.getElem?_drop, show fr + (i - fr) = i by omega, List.getElem?_eq_getElem hi2]
      rfl
theorem cut_more (c : UInt8) : ∀ (l cur : List UInt8), ∃ y r, cut c cur l = y :: r
  | [], cur => ⟨_, _, rfl⟩
  | b :: t, cur => by
    unfold cut
    split
    · exact ⟨_, _, rfl⟩
    · exact cut_more c t _
theorem cut_join (c : UInt8) : ∀ (l cur : List UInt8), [c].intercalate (cut c cur l) = cur ++ l
  | [], cur => by simp [cut, List.intercalate]
  | b :: t, cur => by
    have ih := cut_join c t
    unfold cut
    by_cases hb : b = c
    · rw [if_pos hb, hb]
      obtain ⟨y, r, h⟩ := cut_more c t []
      have h2 := ih []
      rw [h] at h2 ⊢
      simp only [List.intercalate, List.intersperse, List.flatten_cons] at h2 ⊢
      rw [h2]
      simp
    · rw [if_neg hb, ih]
      simp
theorem cut_back (s : ByteArray) (c : UInt8) (hs : s.size ≤ 100000) (k : Nat) (hk : s.size < k) :
    ∃ l, impl_SplitAny.f k s ⟨#[c]⟩ = some l ∧ impl_Join.f l ⟨#[c]⟩ = some s := by
  refine ⟨pieces s ⟨#[c]⟩ s.size 0 0 [], impl_pieces s ⟨#[c]⟩ (by omega) s.size 0 0 [] k (by omega) (by omega) (by omega) (by simp) hk, ?_⟩
  have hp := pieces_cut s c s.size 0 0 [] (Nat.le_refl _) (by omega)
  have hl := pieces_length s ⟨#[c]⟩ s.size 0 0 []
  simp only [List.drop_zero, Nat.sub_self, List.take_zero, List.map_nil, List.nil_append] at hp
  have hj : Lib.join ((pieces s ⟨#[c]⟩ s.size 0 0 []).map (·.data.toList)) [c] = s.data.toList := by
    rw [show ((0 : Int)) = ((0 : Nat) : Int) from rfl, hp]
    unfold Lib.join
    rw [cut_join]
    rfl
  have hd : s.data.toList.length = s.size := data_length s
  unfold impl_Join.f strings_Join.f
  rw [show (⟨#[c]⟩ : ByteArray).data.toList = [c] from rfl, hj, if_pos ⟨by simp at hl; omega, by omega⟩]
  rfl
theorem str_ok (l : List Int) (i h : Int) (hl : l.length ≤ 2000000) (hi : StOk l i) : ∃ (x : ByteArray) (i' h' : Int), spec_l01Str.f l i h [(⟨#[97]⟩ : ByteArray), (⟨#[98, 99]⟩ : ByteArray), (⟨#[32]⟩ : ByteArray), (⟨#[44]⟩ : ByteArray), (⟨#[120, 49]⟩ : ByteArray)] = some (x, i', h') ∧ x.size ≤ 2 ∧ StOk l i' := by
  obtain ⟨x, i', h', hb, hx, hs⟩ := below_ok l i h 5 hl hi (by decide) (by decide)
  refine ⟨rdOf ByteArray.empty [(⟨#[97]⟩ : ByteArray), (⟨#[98, 99]⟩ : ByteArray), (⟨#[32]⟩ : ByteArray), (⟨#[44]⟩ : ByteArray), (⟨#[120, 49]⟩ : ByteArray)] (x : Int), i', h', ?_, ?_, hs⟩
  · unfold spec_l01Str.f
    rw [show (([(⟨#[97]⟩ : ByteArray), (⟨#[98, 99]⟩ : ByteArray), (⟨#[32]⟩ : ByteArray), (⟨#[44]⟩ : ByteArray), (⟨#[120, 49]⟩ : ByteArray)] : List ByteArray).length : Int) = ((5 : Nat) : Int) from rfl, hb, Option.bind_some, if_pos (by omega), if_pos (by omega)]
  · have : ∀ x : Nat, x < 5 → (rdOf ByteArray.empty [(⟨#[97]⟩ : ByteArray), (⟨#[98, 99]⟩ : ByteArray), (⟨#[32]⟩ : ByteArray), (⟨#[44]⟩ : ByteArray), (⟨#[120, 49]⟩ : ByteArray)] (x : Int)).size ≤ 2 := by decide
    exact this x hx
theorem text_loop (l : List Int) (hl : l.length ≤ 2000000) : ∀ (d : Nat) (t : ByteArray) (i h : Int), StOk l i → t.size + 2 * d ≤ 1000 → ∃ s : ByteArray, s.size ≤ t.size + 2 * d ∧ Ev (fun k => spec_MakeText.l0 k t (d : Int) l i h) s
  | 0, t, i, h, hi, ht => by
    refine ⟨t, by omega, Ev.step (f := fun _ => some t) (fun k => ?_) (Ev.now _)⟩
    simp only [spec_MakeText.l0]
    rw [if_neg (by omega)]
  | d + 1, t, i, h, hi, ht => by
    obtain ⟨x, i', h', hb, hx, hs⟩ := str_ok l i h hl hi
    have hsz : (t ++ x).size = t.size + x.size := ByteArray.size_append
    obtain ⟨s, h1, h2⟩ := text_loop l hl d (t ++ x) i' h' hs (by omega)
    refine ⟨s, by omega, Ev.step (fun k => ?_) h2⟩
    simp only [spec_MakeText.l0]
    rw [if_pos (by omega), hb, Option.bind_some, if_pos (show t.size + x.size ≤ 9223372036854775807 by omega), show wrap64 (((d + 1 : Nat) : Int) - 1) = (d : Int) by rw [wrap_small _ (by omega) (by omega)]; omega]
theorem text_ok (l : List Int) (hl : l.length ≤ 2000000) : ∃ s : ByteArray, s.size ≤ 14 ∧ Ev (fun k => spec_MakeText.f k l) s := by
  obtain ⟨h, hn⟩ := new_ok l hl
  obtain ⟨x, i', h', hb, hx, hs⟩ := below_ok l 0 h 8 hl ⟨by omega, by omega⟩ (by decide) (by decide)
  have h0 : (⟨#[]⟩ : ByteArray).size = 0 := rfl
  obtain ⟨s, h1, h2⟩ := text_loop l hl x ⟨#[]⟩ i' h' hs (by omega)
  refine ⟨s, by omega, ?_⟩
  unfold spec_MakeText.f
  refine Ev.bind hn ?_
  rw [show ((8 : Int)) = ((8 : Nat) : Int) from rfl, hb]
  simp only [Option.bind_some]
  exact h2
theorem name_ok : Ev (fun k => impl_IsName.f k ⟨#[120, 49]⟩) true := by
  refine Ev.of (fun k => impl_IsName.mono _ k) (k := 5) ?_
  decide +kernel
theorem lines_ok : ∃ l, impl_SplitLines.f ⟨#[97, 10, 98, 10]⟩ = some l ∧ l.length = 2 := by
  have h : (impl_SplitLines.f ⟨#[97, 10, 98, 10]⟩).map List.length = some 2 := by decide +kernel
  exact Option.map_eq_some_iff.mp h

end Go.Proofs.YtnnhnbpgabbflaaDoor.Pure

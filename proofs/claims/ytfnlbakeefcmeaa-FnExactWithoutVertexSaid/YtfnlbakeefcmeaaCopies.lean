/- What a law's copy of a list holds: the list and its spare cells; and the law's look at the sizes; condition: at most a million numbers. -/
import Derived.Test.YtfnlbakeefcmeaaXLaw
import Derived.Test.YtfnlbakeefcmeaaQx1
import Derived.Test.YtfnlbakeefcmeaaQx8
namespace Go.Proofs.Ytfnlbakeefcmeaa.Pure
open Go.RowKit Go.Proofs.Ytfnlbakeefcmeaa.Q Go.Proofs.YtfnlbakeefcmeaaW.PrintWords Go.Proofs.YtfnlbakeefcmeaaW.PrintLast

theorem wrap_near (x : Int) (h0 : -1000000000000000000 ≤ x) (h1 : x ≤ 1000000000000000000) : wrap64 x = x := by unfold wrap64; omega

theorem cut_row {w : World} {A : Option Addr} {l L : List Int} (h : Kd.C (Kd.int .i64) w A L.length L) (ht : L.take l.length = l) : Kd.C (Kd.int .i64) w A l.length l := by
  have hm : l.length ≤ L.length := by
    have e := congrArg List.length ht
    rw [List.length_take] at e
    omega
  have := Kd.C_take (m := l.length) h hm
  rw [ht] at this
  exact this

theorem sz_graph (s : Int) (l : List Int) (h : l.length ≤ 140737488351232) : ∃ left, laws_szGraph.f s l 1000000 = some left ∧ (¬ left < 0 → l.length ≤ 1000000) ∧ (l.length ≤ 1000000 → ¬ left < 0) := by
  unfold laws_szGraph.f laws_szIntS.f
  rw [wrap_near _ (by omega) (by omega)]
  by_cases hb : (1000000 : Int) - (l.length : Int) < 0
  · rw [if_pos hb]
    exact ⟨-1, by simp, fun hn => absurd (by omega) hn, fun hl => by omega⟩
  · rw [if_neg hb]
    simp only [Option.bind_some]
    rw [if_neg hb]
    exact ⟨_, rfl, fun _ => by omega, fun _ => hb⟩

/-- How many spare cells a list of n gets. -/
def roomN (n : Nat) : Nat := if n % 6 = 5 then 0 else if n % 3 = 0 then 1 else n
theorem room_is (n : Nat) : laws_roomBehind.f (n : Int) = some (roomN n : Int) := by
  unfold laws_roomBehind.f roomN
  rw [Int.tmod_eq_emod_of_nonneg (by omega), Int.tmod_eq_emod_of_nonneg (by omega)]
  by_cases h1 : n % 6 = 5
  · rw [if_pos (by omega), if_pos h1]; rfl
  · rw [if_neg (by omega), if_neg h1]
    by_cases h2 : n % 3 = 0
    · rw [if_pos (by omega), if_pos h2]; rfl
    · rw [if_neg (by omega), if_neg h2]
theorem room_le (n : Nat) : roomN n ≤ n + 1 := by unfold roomN; split <;> (try split) <;> omega

theorem set_front (p : List Int) (z v : Int) (q : List Int) : (p ++ z :: q).set p.length v = p ++ v :: q := by
  rw [List.set_append_right _ _ (Nat.le_refl _)]
  simp

theorem set_take (l : List Int) (i m : Nat) (hi : i < l.length) (v : Int) (hv : l[i]? = some v) : (l.take i ++ List.replicate (m + 1) (0 : Int)).set i v = l.take (i + 1) ++ List.replicate m 0 := by
  have hl : (l.take i).length = i := by rw [List.length_take]; omega
  have e := set_front (l.take i) 0 v (List.replicate m 0)
  rw [hl] at e
  rw [List.replicate_succ, e, List.take_add_one, hv]
  simp

theorem set_spare (l : List Int) (j m : Nat) (v : Int) : (l ++ List.replicate j v ++ List.replicate (m + 1) (0 : Int)).set (l.length + j) v = l ++ List.replicate (j + 1) v ++ List.replicate m 0 := by
  have hl : (l ++ List.replicate j v).length = l.length + j := by simp
  have e := set_front (l ++ List.replicate j v) 0 v (List.replicate m 0)
  rw [hl] at e
  rw [List.replicate_succ, e, List.replicate_succ' (n := j)]
  simp

def spare : Int := -7000000000000000101
/-- The whole copy. -/
def whole (l : List Int) : List Int := l ++ List.replicate (roomN l.length) spare
theorem whole_length (l : List Int) : (whole l).length = l.length + roomN l.length := by simp [whole]
theorem whole_take (l : List Int) : (whole l).take l.length = l := by simp [whole]

theorem rd_some (l : List Int) (i : Nat) (hi : i < l.length) : l[i]? = some (rd l (i : Int)) := by
  unfold rd
  rw [Int.toNat_natCast, List.getD_eq_getElem?_getD, List.getElem?_eq_getElem hi]
  rfl

theorem all_l1 (l : List Int) (hl : l.length ≤ 1000000) : ∀ (d j : Nat) (k : Nat), j + d = roomN l.length → d < k →
    laws_toIntS_all.l1 k l (l ++ List.replicate j spare ++ List.replicate d 0) ((l.length + j : Nat) : Int) = some (whole l)
  | 0, j, k, hj, hk => by
    obtain ⟨k, rfl⟩ : ∃ m, k = m + 1 := ⟨k - 1, by omega⟩
    have hr := room_le l.length
    simp only [laws_toIntS_all.l1]
    rw [if_neg (by simp), if_pos (by omega), if_pos (by simp; omega)]
    rw [show j = roomN l.length from hj]
    simp [whole]
  | d + 1, j, k, hj, hk => by
    obtain ⟨k, rfl⟩ : ∃ m, k = m + 1 := ⟨k - 1, by omega⟩
    have hr := room_le l.length
    simp only [laws_toIntS_all.l1]
    rw [if_pos (by simp; omega), if_pos (by omega), wrap_near _ (by omega) (by omega), Int.toNat_natCast]
    rw [show (-7000000000000000101 : Int) = spare from rfl, set_spare]
    have := all_l1 l hl d (j + 1) k (by omega) (by omega)
    rw [show ((l.length + j : Nat) : Int) + 1 = ((l.length + (j + 1) : Nat) : Int) by omega]
    exact this

theorem all_l0 (l : List Int) (hl : l.length ≤ 1000000) : ∀ (d i : Nat) (k : Nat), i + d = l.length → d + roomN l.length + 1 < k →
    laws_toIntS_all.l0 k l (l.take i ++ List.replicate (d + roomN l.length) 0) (i : Int) = some (whole l)
  | 0, i, k, hi, hk => by
    obtain ⟨k, rfl⟩ : ∃ m, k = m + 1 := ⟨k - 1, by omega⟩
    simp only [laws_toIntS_all.l0]
    rw [if_neg (by omega)]
    have := all_l1 l hl (roomN l.length) 0 k (by omega) (by omega)
    rw [show l.take i = l by rw [List.take_of_length_le (by omega)]]
    simpa using this
  | d + 1, i, k, hi, hk => by
    obtain ⟨k, rfl⟩ : ∃ m, k = m + 1 := ⟨k - 1, by omega⟩
    have hr := room_le l.length
    simp only [laws_toIntS_all.l0]
    rw [if_pos (by omega), if_pos (by omega), if_pos (by simp; omega), wrap_near _ (by omega) (by omega), Int.toNat_natCast]
    rw [show d + 1 + roomN l.length = (d + roomN l.length) + 1 by omega, set_take l i _ (by omega) _ (rd_some l i (by omega))]
    have := all_l0 l hl d (i + 1) k (by omega) (by omega)
    rw [show ((i : Nat) : Int) + 1 = ((i + 1 : Nat) : Int) by omega]
    exact this

theorem int_l1 (l : List Int) (hl : l.length ≤ 1000000) : ∀ (d j : Nat) (k : Nat), j + d = roomN l.length → d < k →
    laws_toIntS.l1 k l (l ++ List.replicate j spare ++ List.replicate d 0) ((l.length + j : Nat) : Int) = some l
  | 0, j, k, hj, hk => by
    obtain ⟨k, rfl⟩ : ∃ m, k = m + 1 := ⟨k - 1, by omega⟩
    have hr := room_le l.length
    simp only [laws_toIntS.l1]
    rw [if_neg (by simp), if_pos (by omega), if_pos (by simp; omega)]
    simp
  | d + 1, j, k, hj, hk => by
    obtain ⟨k, rfl⟩ : ∃ m, k = m + 1 := ⟨k - 1, by omega⟩
    have hr := room_le l.length
    simp only [laws_toIntS.l1]
    rw [if_pos (by simp; omega), if_pos (by omega), wrap_near _ (by omega) (by omega), Int.toNat_natCast]
    rw [show (-7000000000000000101 : Int) = spare from rfl, set_spare]
    have := int_l1 l hl d (j + 1) k (by omega) (by omega)
    rw [show ((l.length + j : Nat) : Int) + 1 = ((l.length + (j + 1) : Nat) : Int) by omega]
    exact this

theorem int_l0 (l : List Int) (hl : l.length ≤ 1000000) : ∀ (d i : Nat) (k : Nat), i + d = l.length → d + roomN l.length + 1 < k →
    laws_toIntS.l0 k l (l.take i ++ List.replicate (d + roomN l.length) 0) (i : Int) = some l
  | 0, i, k, hi, hk => by
    obtain ⟨k, rfl⟩ : ∃ m, k = m + 1 := ⟨k - 1, by omega⟩
    simp only [laws_toIntS.l0]
    rw [if_neg (by omega)]
    have := int_l1 l hl (roomN l.length) 0 k (by omega) (by omega)
    rw [show l.take i = l by rw [List.take_of_length_le (by omega)]]
    simpa using this
  | d + 1, i, k, hi, hk => by
    obtain ⟨k, rfl⟩ : ∃ m, k = m + 1 := ⟨k - 1, by omega⟩
    have hr := room_le l.length
    simp only [laws_toIntS.l0]
    rw [if_pos (by omega), if_pos (by omega), if_pos (by simp; omega), wrap_near _ (by omega) (by omega), Int.toNat_natCast]
    rw [show d + 1 + roomN l.length = (d + roomN l.length) + 1 by omega, set_take l i _ (by omega) _ (rd_some l i (by omega))]
    have := int_l0 l hl d (i + 1) k (by omega) (by omega)
    rw [show ((i : Nat) : Int) + 1 = ((i + 1 : Nat) : Int) by omega]
    exact this

theorem toNat_sum (a b : Nat) : ((a : Int) + (b : Int)).toNat = a + b := by omega
theorem below_limit (a b : Nat) (h : a ≤ 1000000) (hb : b ≤ a + 1) : a + b ≤ 35184372088832 := Nat.le_trans (show a + b ≤ 2000001 by omega) (by decide)
theorem all_is (l : List Int) (hl : l.length ≤ 1000000) (k : Nat) (hk : 2 * l.length + 10 ≤ k) : laws_toIntS_all.f k l false = some (whole l) := by
  obtain ⟨k, rfl⟩ : ∃ m, k = m + 1 := ⟨k - 1, by omega⟩
  have hr := room_le l.length
  unfold laws_toIntS_all.f
  rw [if_neg (by decide), laws_toIntS_all.j0, if_neg (by decide), room_is, Option.bind_some]
  have hN := toNat_sum l.length (roomN l.length)
  have hB := below_limit l.length (roomN l.length) hl hr
  rw [wrap_near _ (by omega) (by omega), if_pos (by omega), hN, if_pos hB]
  have := all_l0 l hl l.length 0 k (by omega) (by omega)
  rw [List.take_zero, List.nil_append] at this
  exact this

theorem int_is (l : List Int) (hl : l.length ≤ 1000000) (k : Nat) (hk : 2 * l.length + 10 ≤ k) (b : Bool) : laws_toIntS.f k l b = some l := by
  obtain ⟨k, rfl⟩ : ∃ m, k = m + 1 := ⟨k - 1, by omega⟩
  have hr := room_le l.length
  have main : laws_toIntS.j0 (k + 1) l false = some l := by
    rw [laws_toIntS.j0, if_neg (by decide), room_is, Option.bind_some]
    have hN := toNat_sum l.length (roomN l.length)
    have hB := below_limit l.length (roomN l.length) hl hr
    rw [wrap_near _ (by omega) (by omega), if_pos (by omega), hN, if_pos hB]
    have := int_l0 l hl l.length 0 k (by omega) (by omega)
    rw [List.take_zero, List.nil_append] at this
    exact this
  unfold laws_toIntS.f
  cases b with
  | false =>
    rw [if_neg (by decide)]
    exact main
  | true =>
    rw [if_pos rfl]
    by_cases h : l.length = 0
    · have : l = [] := List.eq_nil_of_length_eq_zero h
      subst this
      rfl
    · rw [show ((l.length : Int) == 0) = false by simp; exact fun h2 => h (by simp [h2])]
      exact main

theorem eq_ints (x : List Int) (hl : x.length ≤ 10000000) : ∀ (d : Nat) (i : Int) (k : Nat), 0 ≤ i → i + (d : Int) = (x.length : Int) → d < k → laws_eqIntS.l0 k x x i = some true
  | 0, i, k, h0, hd, hk => by
    obtain ⟨k, rfl⟩ : ∃ m, k = m + 1 := ⟨k - 1, by omega⟩
    simp only [laws_eqIntS.l0]
    rw [if_neg (by omega)]
  | d + 1, i, k, h0, hd, hk => by
    obtain ⟨k, rfl⟩ : ∃ m, k = m + 1 := ⟨k - 1, by omega⟩
    simp only [laws_eqIntS.l0]
    rw [if_pos (by omega), if_pos h0, if_pos (by omega), if_pos trivial, wrap_near (i + 1) (by omega) (by omega)]
    exact eq_ints x hl d (i + 1) k (by omega) (by omega) (by omega)
theorem eq_ints_is (x : List Int) (hl : x.length ≤ 10000000) (k : Nat) (hk : x.length < k) : laws_eqIntS.f k x x = some true := by
  unfold laws_eqIntS.f
  rw [if_pos rfl]
  exact eq_ints x hl x.length 0 k (by omega) (by omega) hk

theorem copy_facts (s : Int) (l : List Int) (hl : l.length ≤ 1000000) (k : Nat) (hk : l.length * 4 + 100 ≤ k) :
    ∃ (tr : Int) (L : List Int), laws_toIntS_all.f k l false = some L ∧ laws_toGraph.f k s l true = some (s, l) ∧ L.take l.length = l ∧ laws_roomBehind.f (l.length : Int) = some tr ∧ wrap64 ((l.length : Int) + tr) = (L.length : Int) ∧ laws_eqIntS.f k L L = some true := by
  have hr := room_le l.length
  refine ⟨roomN l.length, whole l, all_is l hl k (by omega), ?_, whole_take l, room_is _, ?_, eq_ints_is _ (by rw [whole_length]; omega) k (by rw [whole_length]; omega)⟩
  · unfold laws_toGraph.f
    rw [int_is l hl k (by omega)]
    rfl
  · rw [whole_length, wrap_near _ (by omega) (by omega)]
    omega

end Go.Proofs.Ytfnlbakeefcmeaa.Pure

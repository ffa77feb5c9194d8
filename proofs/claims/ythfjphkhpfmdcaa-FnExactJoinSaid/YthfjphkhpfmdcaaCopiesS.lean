/- What a law's copy of a list of strings holds: the list and its spare cells; and the law's look at the sizes; condition: at most a million strings. -/
import Derived.Test.YthfjphkhpfmdcaaXStr
import Derived.Test.YthfjphkhpfmdcaaQx14
import Derived.Test.YthfjphkhpfmdcaaQx15
import Derived.Test.YthfjphkhpfmdcaaQx16
namespace Go.Proofs.Ythfjphkhpfmdcaa.Pure
open Go.RowKit Go.Proofs.Ythfjphkhpfmdcaa.Q Go.Proofs.YthfjphkhpfmdcaaW.PrintWords Go.Proofs.YthfjphkhpfmdcaaW.PrintLast

theorem wrap_near (x : Int) (h0 : -1000000000000000000 ≤ x) (h1 : x ≤ 1000000000000000000) : wrap64 x = x := by unfold wrap64; omega

theorem cut_row {w : World} {A : Option Addr} {l L : List ByteArray} (h : Kd.C Kd.string w A L.length L) (ht : L.take l.length = l) : Kd.C Kd.string w A l.length l := by
  have hm : l.length ≤ L.length := by
    have e := congrArg List.length ht
    rw [List.length_take] at e
    omega
  have := Kd.C_take (m := l.length) h hm
  rw [ht] at this
  exact this

/-- How many spare cells a list of n gets. -/
def roomN (n : Nat) : Nat := if n % 6 = 5 then 0 else if n % 3 = 0 then 1 else n
theorem room_is (n : Nat) : laws_roomBehind.f (n : Int) = some (roomN n : Int) := by
  unfold laws_roomBehind.f roomN
  rw [Int.tmod_eq_emod_of_nonneg (by omega), Int.tmod_eq_emod_of_nonneg (by omega)]
  by_cases h1 : n % 6 = 5
  · rw [if_pos (by omega), if_pos h1]; rfl
  · rw [if_neg (by omega), if_neg h1]
    by_cases h2 : n % 3 = 0
    · rw [if_pos (by omega), if_pos h2]; rfl
    · rw [if_neg (by omega), if_neg h2]
theorem room_le (n : Nat) : roomN n ≤ n + 1 := by unfold roomN; split <;> (try split) <;> omega

theorem set_front (p : List ByteArray) (z v : ByteArray) (q : List ByteArray) : (p ++ z :: q).set p.length v = p ++ v :: q := by
  rw [List.set_append_right _ _ (Nat.le_refl _)]
  simp

theorem set_take (l : List ByteArray) (i m : Nat) (hi : i < l.length) (v : ByteArray) (hv : l[i]? = some v) : (l.take i ++ List.replicate (m + 1) (⟨#[]⟩ : ByteArray)).set i v = l.take (i + 1) ++ List.replicate m (⟨#[]⟩ : ByteArray) := by
  have hl : (l.take i).length = i := by rw [List.length_take]; omega
  have e := set_front (l.take i) (⟨#[]⟩ : ByteArray) v (List.replicate m (⟨#[]⟩ : ByteArray))
  rw [hl] at e
  rw [List.replicate_succ, e, List.take_add_one, hv]
  simp

theorem set_spare (l : List ByteArray) (j m : Nat) (v : ByteArray) : (l ++ List.replicate j v ++ List.replicate (m + 1) (⟨#[]⟩ : ByteArray)).set (l.length + j) v = l ++ List.replicate (j + 1) v ++ List.replicate m (⟨#[]⟩ : ByteArray) := by
  have hl : (l ++ List.replicate j v).length = l.length + j := by simp
  have e := set_front (l ++ List.replicate j v) (⟨#[]⟩ : ByteArray) v (List.replicate m (⟨#[]⟩ : ByteArray))
  rw [hl] at e
  rw [List.replicate_succ, e, List.replicate_succ' (n := j)]
  simp

def spare : ByteArray := ⟨#[126, 115, 112, 97, 114, 101, 126]⟩
/-- The whole copy. -/
def whole (l : List ByteArray) : List ByteArray := l ++ List.replicate (roomN l.length) spare
theorem whole_length (l : List ByteArray) : (whole l).length = l.length + roomN l.length := by simp [whole]
theorem whole_take (l : List ByteArray) : (whole l).take l.length = l := by simp [whole]

theorem rd_some (l : List ByteArray) (i : Nat) (hi : i < l.length) : l[i]? = some (rdOf ByteArray.empty l (i : Int)) := by
  unfold rdOf
  rw [Int.toNat_natCast, List.getD_eq_getElem?_getD, List.getElem?_eq_getElem hi]
  rfl

theorem all_l1 (l : List ByteArray) (hl : l.length ≤ 1000000) : ∀ (d j : Nat) (k : Nat), j + d = roomN l.length → d < k →
    laws_toStringS_all.l1 k l (l ++ List.replicate j spare ++ List.replicate d (⟨#[]⟩ : ByteArray)) ((l.length + j : Nat) : Int) = some (whole l)
  | 0, j, k, hj, hk => by
    obtain ⟨k, rfl⟩ : ∃ m, k = m + 1 := ⟨k - 1, by omega⟩
    have hr := room_le l.length
    simp only [laws_toStringS_all.l1]
    rw [if_neg (by simp), if_pos (by omega), if_pos (by simp; omega)]
    rw [show j = roomN l.length from hj]
    simp [whole]
  | d + 1, j, k, hj, hk => by
    obtain ⟨k, rfl⟩ : ∃ m, k = m + 1 := ⟨k - 1, by omega⟩
    have hr := room_le l.length
    simp only [laws_toStringS_all.l1]
    rw [if_pos (by simp; omega), if_pos (by omega), wrap_near _ (by omega) (by omega), Int.toNat_natCast]
    rw [show (⟨#[126, 115, 112, 97, 114, 101, 126]⟩ : ByteArray) = spare from rfl, set_spare]
    have := all_l1 l hl d (j + 1) k (by omega) (by omega)
    rw [show ((l.length + j : Nat) : Int) + 1 = ((l.length + (j + 1) : Nat) : Int) by omega]
    exact this

theorem all_l0 (l : List ByteArray) (hl : l.length ≤ 1000000) : ∀ (d i : Nat) (k : Nat), i + d = l.length → d + roomN l.length + 1 < k →
    laws_toStringS_all.l0 k l (l.take i ++ List.replicate (d + roomN l.length) (⟨#[]⟩ : ByteArray)) (i : Int) = some (whole l)
  | 0, i, k, hi, hk => by
    obtain ⟨k, rfl⟩ : ∃ m, k = m + 1 := ⟨k - 1, by omega⟩
    simp only [laws_toStringS_all.l0]
    rw [if_neg (by omega)]
    have := all_l1 l hl (roomN l.length) 0 k (by omega) (by omega)
    rw [show l.take i = l by rw [List.take_of_length_le (by omega)]]
    simpa using this
  | d + 1, i, k, hi, hk => by
    obtain ⟨k, rfl⟩ : ∃ m, k = m + 1 := ⟨k - 1, by omega⟩
    have hr := room_le l.length
    simp only [laws_toStringS_all.l0]
    rw [if_pos (by omega), if_pos (by omega), if_pos (by simp; omega), wrap_near _ (by omega) (by omega), Int.toNat_natCast]
    rw [show d + 1 + roomN l.length = (d + roomN l.length) + 1 by omega, set_take l i _ (by omega) _ (rd_some l i (by omega))]
    have := all_l0 l hl d (i + 1) k (by omega) (by omega)
    rw [show ((i : Nat) : Int) + 1 = ((i + 1 : Nat) : Int) by omega]
    exact this

theorem int_l1 (l : List ByteArray) (hl : l.length ≤ 1000000) : ∀ (d j : Nat) (k : Nat), j + d = roomN l.length → d < k →
    laws_toStringS.l1 k l (l ++ List.replicate j spare ++ List.replicate d (⟨#[]⟩ : ByteArray)) ((l.length + j : Nat) : Int) = some l
  | 0, j, k, hj, hk => by
    obtain ⟨k, rfl⟩ : ∃ m, k = m + 1 := ⟨k - 1, by omega⟩
    have hr := room_le l.length
    simp only [laws_toStringS.l1]
    rw [if_neg (by simp), if_pos (by omega), if_pos (by simp; omega)]
    simp
  | d + 1, j, k, hj, hk => by
    obtain ⟨k, rfl⟩ : ∃ m, k = m + 1 := ⟨k - 1, by omega⟩
    have hr := room_le l.length
    simp only [laws_toStringS.l1]
    rw [if_pos (by simp; omega), if_pos (by omega), wrap_near _ (by omega) (by omega), Int.toNat_natCast]
    rw [show (⟨#[126, 115, 112, 97, 114, 101, 126]⟩ : ByteArray) = spare from rfl, set_spare]
    have := int_l1 l hl d (j + 1) k (by omega) (by omega)
    rw [show ((l.length + j : Nat) : Int) + 1 = ((l.length + (j + 1) : Nat) : Int) by omega]
    exact this

theorem int_l0 (l : List ByteArray) (hl : l.length ≤ 1000000) : ∀ (d i : Nat) (k : Nat), i + d = l.length → d + roomN l.length + 1 < k →
    laws_toStringS.l0 k l (l.take i ++ List.replicate (d + roomN l.length) (⟨#[]⟩ : ByteArray)) (i : Int) = some l
  | 0, i, k, hi, hk => by
    obtain ⟨k, rfl⟩ : ∃ m, k = m + 1 := ⟨k - 1, by omega⟩
    simp only [laws_toStringS.l0]
    rw [if_neg (by omega)]
    have := int_l1 l hl (roomN l.length) 0 k (by omega) (by omega)
    rw [show l.take i = l by rw [List.take_of_length_le (by omega)]]
    simpa using this
  | d + 1, i, k, hi, hk => by
    obtain ⟨k, rfl⟩ : ∃ m, k = m + 1 := ⟨k - 1, by omega⟩
    have hr := room_le l.length
    simp only [laws_toStringS.l0]
    rw [if_pos (by omega), if_pos (by omega), if_pos (by simp; omega), wrap_near _ (by omega) (by omega), Int.toNat_natCast]
    rw [show d + 1 + roomN l.length = (d + roomN l.length) + 1 by omega, set_take l i _ (by omega) _ (rd_some l i (by omega))]
    have := int_l0 l hl d (i + 1) k (by omega) (by omega)
    rw [show ((i : Nat) : Int) + 1 = ((i + 1 : Nat) : Int) by omega]
    exact this

theorem toNat_sum (a b : Nat) : ((a : Int) + (b : Int)).toNat = a + b := by omega
theorem below_limit (a b : Nat) (h : a ≤ 1000000) (hb : b ≤ a + 1) : a + b ≤ 17592186044416 := Nat.le_trans (show a + b ≤ 2000001 by omega) (by decide)
theorem all_is (l : List ByteArray) (hl : l.length ≤ 1000000) (k : Nat) (hk : 2 * l.length + 10 ≤ k) : laws_toStringS_all.f k l false = some (whole l) := by
  obtain ⟨k, rfl⟩ : ∃ m, k = m + 1 := ⟨k - 1, by omega⟩
  have hr := room_le l.length
  unfold laws_toStringS_all.f
  rw [if_neg (by decide), laws_toStringS_all.j0, if_neg (by decide), room_is, Option.bind_some]
  have hN := toNat_sum l.length (roomN l.length)
  have hB := below_limit l.length (roomN l.length) hl hr
  rw [wrap_near _ (by omega) (by omega), if_pos (by omega), hN, if_pos hB]
  have := all_l0 l hl l.length 0 k (by omega) (by omega)
  rw [List.take_zero, List.nil_append] at this
  exact this

theorem int_is (l : List ByteArray) (hl : l.length ≤ 1000000) (k : Nat) (hk : 2 * l.length + 10 ≤ k) (b : Bool) : laws_toStringS.f k l b = some l := by
  obtain ⟨k, rfl⟩ : ∃ m, k = m + 1 := ⟨k - 1, by omega⟩
  have hr := room_le l.length
  have main : laws_toStringS.j0 (k + 1) l false = some l := by
    rw [laws_toStringS.j0, if_neg (by decide), room_is, Option.bind_some]
    have hN := toNat_sum l.length (roomN l.length)
    have hB := below_limit l.length (roomN l.length) hl hr
    rw [wrap_near _ (by omega) (by omega), if_pos (by omega), hN, if_pos hB]
    have := int_l0 l hl l.length 0 k (by omega) (by omega)
    rw [List.take_zero, List.nil_append] at this
    exact this
  unfold laws_toStringS.f
  cases b with
  | false =>
    rw [if_neg (by decide)]
    exact main
  | true =>
    rw [if_pos rfl]
    by_cases h : l.length = 0
    · have : l = [] := List.eq_nil_of_length_eq_zero h
      subst this
      rfl
    · rw [show ((l.length : Int) == 0) = false by simp; exact fun h2 => h (by simp [h2])]
      exact main

theorem eq_ints (x : List ByteArray) (hl : x.length ≤ 10000000) : ∀ (d : Nat) (i : Int) (k : Nat), 0 ≤ i → i + (d : Int) = (x.length : Int) → d < k → laws_eqStringS.l0 k x x i = some true
  | 0, i, k, h0, hd, hk => by
    obtain ⟨k, rfl⟩ : ∃ m, k = m + 1 := ⟨k - 1, by omega⟩
    simp only [laws_eqStringS.l0]
    rw [if_neg (by omega)]
  | d + 1, i, k, h0, hd, hk => by
    obtain ⟨k, rfl⟩ : ∃ m, k = m + 1 := ⟨k - 1, by omega⟩
    simp only [laws_eqStringS.l0]
    rw [if_pos (by omega), if_pos h0, if_pos (by omega), if_pos trivial, wrap_near (i + 1) (by omega) (by omega)]
    exact eq_ints x hl d (i + 1) k (by omega) (by omega) (by omega)
theorem eq_ints_is (x : List ByteArray) (hl : x.length ≤ 10000000) (k : Nat) (hk : x.length < k) : laws_eqStringS.f k x x = some true := by
  unfold laws_eqStringS.f
  rw [if_pos rfl]
  exact eq_ints x hl x.length 0 k (by omega) (by omega) hk


/-- The sizes of some strings together. -/
def tot (l : List ByteArray) : Nat := (l.map (·.size)).sum
theorem sz_loop (l : List ByteArray) (hl : l.length ≤ 1000000) (hb : ∀ x ∈ l, x.size ≤ 140737488355328) : ∀ (d i : Nat) (x : Int), i + d = l.length → 0 ≤ x → x ≤ 1000000 → ∃ left, Ev (fun k => laws_szStringS.l0 k l x (i : Int)) left ∧ (¬ left < 0 → (tot (l.drop i) : Int) ≤ x)
  | 0, i, x, hd, h0, h1 => by
    refine ⟨x, Ev.step (f := fun _ => some x) (fun k => ?_) (Ev.now _), fun _ => ?_⟩
    · simp only [laws_szStringS.l0]
      rw [if_neg (by omega)]
    · rw [List.drop_of_length_le (by omega)]
      exact h0
  | d + 1, i, x, hd, h0, h1 => by
    have hi : i < l.length := by omega
    have hg : rdOf ByteArray.empty l (i : Int) = l[i] := by
      unfold rdOf
      rw [Int.toNat_natCast, List.getD_eq_getElem?_getD, List.getElem?_eq_getElem hi]
      rfl
    have hbi := hb l[i] (List.getElem_mem hi)
    have e : ∀ k, laws_szStringS.l0 (k + 1) l x (i : Int) = if x - (l[i].size : Int) < 0 then some (-1) else laws_szStringS.l0 k l (x - (l[i].size : Int)) ((i + 1 : Nat) : Int) := fun k => by
      simp only [laws_szStringS.l0]
      rw [if_pos (by omega), if_pos (by omega), hg, wrap_near _ (by omega) (by omega), wrap_near _ (by omega) (by omega)]
      rfl
    by_cases hc : x - (l[i].size : Int) < 0
    · exact ⟨-1, Ev.step (f := fun _ => some (-1)) (fun k => by rw [e, if_pos hc]) (Ev.now _), fun h => absurd (by decide) h⟩
    · obtain ⟨left, h2, h3⟩ := sz_loop l hl hb d (i + 1) (x - (l[i].size : Int)) (by omega) (by omega) (by omega)
      refine ⟨left, Ev.step (fun k => by rw [e, if_neg hc]) h2, fun h => ?_⟩
      have := h3 h
      rw [List.drop_eq_getElem_cons hi]
      unfold tot at this ⊢
      rw [List.map_cons, List.sum_cons]
      omega
theorem sz_strings (l : List ByteArray) (a : Int) (ha : a ≤ 1000000) (ha0 : -140737488355328 ≤ a) (hl : l.length ≤ 140737488355328) (hb : ∀ x ∈ l, x.size ≤ 140737488355328) : ∃ left, Ev (fun k => laws_szStringS.f k l a) left ∧ (¬ left < 0 → l.length ≤ 1000000 ∧ tot l ≤ 1000000) := by
  by_cases hc : a - (l.length : Int) < 0
  · refine ⟨-1, Ev.congr (fun k => ?_) (Ev.now _), fun h => absurd (by decide) h⟩
    unfold laws_szStringS.f
    rw [wrap_near _ (by omega) (by omega), if_pos hc]
  · obtain ⟨left, h2, h3⟩ := sz_loop l (by omega) hb l.length 0 (a - (l.length : Int)) (by omega) (by omega) (by omega)
    refine ⟨left, Ev.congr (fun k => ?_) h2, fun h => ?_⟩
    · unfold laws_szStringS.f
      rw [wrap_near _ (by omega) (by omega), if_neg hc]
      rfl
    · have := h3 h
      rw [List.drop_zero] at this
      omega

end Go.Proofs.Ythfjphkhpfmdcaa.Pure

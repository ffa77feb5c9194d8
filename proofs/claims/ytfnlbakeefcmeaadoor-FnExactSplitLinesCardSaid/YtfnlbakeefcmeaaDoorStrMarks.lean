/- Marking the strings of a list and looking at the marks: the look finds what the marking left; conditions: fewer than 2^40 strings. -/
import Derived.Test.YtfnlbakeefcmeaaDoorQx25
import Derived.Test.YtfnlbakeefcmeaaDoorQx26
import Derived.Test.YtfnlbakeefcmeaaDoorQx27
namespace Go.Proofs.YtfnlbakeefcmeaaDoor.Pure
open Go.RowKit Go.Proofs.YtfnlbakeefcmeaaDoor.Q Go.Proofs.YtfnlbakeefcmeaaDoorW.PrintWords Go.Proofs.YtfnlbakeefcmeaaDoorW.PrintLast

theorem wrap_small (x : Int) (h0 : -1000000000000000000 ≤ x) (h1 : x ≤ 1000000000000000000) : wrap64 x = x := by unfold wrap64; omega

theorem one_letter (z : Int) : (strOfNums [z]).size = 1 := rfl

theorem markText_loop : ∀ (d : Nat) (n : Int) (x : ByteArray), 0 ≤ n → n < 10 ^ d → n ≤ 1000000000000000000 → x.size + d ≤ 1000 →
    ∃ t, ∀ k, d < k → laws_markText.l0 k n x = some t
  | 0, n, x, h0, h1, hb, hx => by
    refine ⟨(⟨#[109]⟩ : ByteArray) ++ x, fun k hk => ?_⟩
    obtain ⟨k, rfl⟩ : ∃ m, k = m + 1 := ⟨k - 1, by omega⟩
    have hn : ¬ n > 0 := by simp at h1; omega
    simp only [laws_markText.l0]
    rw [if_neg hn, if_pos (by omega)]
  | d + 1, n, x, h0, h1, hb, hx => by
    by_cases hn : n > 0
    · have hq : Int.tdiv n 10 = n / 10 := by rw [Int.tdiv_eq_ediv_of_nonneg h0]
      have h1' : n / 10 < 10 ^ d := by
        rw [Int.pow_succ] at h1
        omega
      have hw : wrap64 (Int.tdiv n 10) = n / 10 := by rw [hq]; exact wrap_small _ (by omega) (by omega)
      obtain ⟨t, ht⟩ := markText_loop d (n / 10) (strOfNums [(wrap64 (48 + Int.tmod n 10)) % 256] ++ x) (by omega) h1' (by omega) (by rw [ByteArray.size_append, one_letter]; omega)
      refine ⟨t, fun k hk => ?_⟩
      obtain ⟨k, rfl⟩ : ∃ m, k = m + 1 := ⟨k - 1, by omega⟩
      simp only [laws_markText.l0]
      rw [if_pos hn]
      simp only [Option.bind_some]
      rw [if_pos (by rw [one_letter]; omega), hw]
      exact ht k (by omega)
    · refine ⟨(⟨#[109]⟩ : ByteArray) ++ x, fun k hk => ?_⟩
      obtain ⟨k, rfl⟩ : ∃ m, k = m + 1 := ⟨k - 1, by omega⟩
      simp only [laws_markText.l0]
      rw [if_neg hn, if_pos (by omega)]

/-- The mark of a number. -/
def mark (n : Int) : ByteArray := (laws_markText.f 40 n).getD ByteArray.empty

theorem markText_is (n : Int) (h0 : 0 < n) (h1 : n ≤ 1000000000000000000) (k : Nat) (hk : 40 ≤ k) : laws_markText.f k n = some (mark n) := by
  obtain ⟨t, ht⟩ := markText_loop 30 n ⟨#[]⟩ (by omega) (by omega) h1 (by decide)
  have e : ∀ k, 40 ≤ k → laws_markText.f k n = some t := fun k hk => by
    unfold laws_markText.f
    rw [if_neg (by omega)]
    exact ht k (by omega)
  unfold mark
  rw [e k hk, e 40 (by omega)]
  rfl

/-- The list behind the marking, from place i on. -/
def marks : Nat → List ByteArray → Int → Int → List ByteArray
  | 0, x, _, _ => x
  | d + 1, x, c, i => marks d (x.set i.toNat (mark c)) (c + 1) (i + 1)

theorem marks_length : ∀ (d : Nat) (x : List ByteArray) (c i : Int), (marks d x c i).length = x.length
  | 0, _, _, _ => rfl
  | d + 1, x, c, i => by unfold marks; rw [marks_length d]; simp

theorem marks_before : ∀ (d : Nat) (x : List ByteArray) (c i : Int) (j : Nat), 0 ≤ i → j < i.toNat → (marks d x c i)[j]? = x[j]?
  | 0, _, _, _, _, _, _ => rfl
  | d + 1, x, c, i, j, h0, h => by
    unfold marks
    rw [marks_before d _ _ _ j (by omega) (by omega), List.getElem?_set_ne (by omega)]

theorem marks_at : ∀ (d : Nat) (x : List ByteArray) (c i : Int) (j : Nat), 0 ≤ i → i.toNat + d ≤ x.length → i.toNat ≤ j → j < i.toNat + d → (marks d x c i)[j]? = some (mark (c + (j - i)))
  | 0, _, _, _, _, _, _, h1, h2 => by omega
  | d + 1, x, c, i, j, h0, hl, h1, h2 => by
    unfold marks
    by_cases e : j = i.toNat
    · rw [marks_before d _ _ _ j (by omega) (by omega), e, List.getElem?_set_self (by omega)]
      congr 2
      omega
    · rw [marks_at d _ _ _ j (by omega) (by simp; omega) (by omega) (by omega)]
      congr 2
      omega

theorem mark_loop : ∀ (d : Nat) (x : List ByteArray) (c i : Int) (k : Nat), 0 ≤ i → i + (d : Int) = (x.length : Int) → 0 < c → c + (d : Int) ≤ 100000000000000 → x.length ≤ 100000000000000 → d + 42 ≤ k →
    laws_markStringS.l0 k x c i = some (c + d, marks d x c i)
  | 0, x, c, i, k, h0, hd, hc, hb, hl, hk => by
    obtain ⟨k, rfl⟩ : ∃ m, k = m + 1 := ⟨k - 1, by omega⟩
    simp only [laws_markStringS.l0]
    rw [if_neg (by omega)]
    simp [marks]
  | d + 1, x, c, i, k, h0, hd, hc, hb, hl, hk => by
    obtain ⟨k, rfl⟩ : ∃ m, k = m + 1 := ⟨k - 1, by omega⟩
    simp only [laws_markStringS.l0]
    rw [if_pos (by omega), markText_is c hc (by omega) k (by omega)]
    simp only [Option.bind_some]
    rw [if_pos h0, wrap_small (c + 1) (by omega) (by omega), wrap_small (i + 1) (by omega) (by omega)]
    rw [mark_loop d _ (c + 1) (i + 1) k (by omega) (by simp; omega) (by omega) (by omega) (by simpa using hl) (by omega)]
    simp only [marks, Option.some.injEq, Prod.mk.injEq, and_true]
    omega

theorem held_loop : ∀ (d : Nat) (x : List ByteArray) (c i : Int) (k : Nat), 0 ≤ i → i + (d : Int) = (x.length : Int) → 0 < c → c + (d : Int) ≤ 100000000000000 → x.length ≤ 100000000000000 → d + 42 ≤ k →
    (∀ j : Nat, i.toNat ≤ j → j < x.length → x[j]? = some (mark (c + (j - i)))) → laws_heldStringS.l0 k x c i = some (c + d)
  | 0, x, c, i, k, h0, hd, hc, hb, hl, hk, hm => by
    obtain ⟨k, rfl⟩ : ∃ m, k = m + 1 := ⟨k - 1, by omega⟩
    simp only [laws_heldStringS.l0]
    rw [if_neg (by omega)]
    simp
  | d + 1, x, c, i, k, h0, hd, hc, hb, hl, hk, hm => by
    obtain ⟨k, rfl⟩ : ∃ m, k = m + 1 := ⟨k - 1, by omega⟩
    simp only [laws_heldStringS.l0]
    have e : rdOf ByteArray.empty x i = mark c := by
      have h := hm i.toNat (Nat.le_refl _) (by omega)
      unfold rdOf
      rw [List.getD_eq_getElem?_getD, h]
      simp only [Option.getD_some]
      congr 1
      omega
    rw [if_pos (by omega), if_pos h0, markText_is c hc (by omega) k (by omega), e]
    simp only [Option.bind_some, if_true]
    rw [wrap_small (c + 1) (by omega) (by omega), wrap_small (i + 1) (by omega) (by omega)]
    rw [held_loop d x (c + 1) (i + 1) k (by omega) (by omega) (by omega) (by omega) hl (by omega) (fun j h1 h2 => by rw [hm j (by omega) h2]; congr 2; omega)]
    congr 1
    omega

theorem mark_all (x : List ByteArray) (k : Nat) (hl : x.length ≤ 10000000000000) (hk : x.length + 42 ≤ k) : laws_markStringS.f k x 101 = some (101 + (x.length : Int), marks x.length x 101 0) := by
  unfold laws_markStringS.f
  exact mark_loop x.length x 101 0 k (by omega) (by omega) (by omega) (by omega) (by omega) hk

theorem held_all (x : List ByteArray) (k : Nat) (hl : x.length ≤ 10000000000000) (hk : x.length + 42 ≤ k) : laws_heldStringS.f k (marks x.length x 101 0) 101 = some (101 + (x.length : Int)) := by
  unfold laws_heldStringS.f
  have L := marks_length x.length x 101 0
  exact held_loop x.length _ 101 0 k (by omega) (by omega) (by omega) (by omega) (by omega) hk (fun j h1 h2 => marks_at _ _ _ _ j (by omega) (by simp) h1 (by simp; omega))

theorem eq_loop (x : List ByteArray) (hl : x.length ≤ 10000000000000) : ∀ (d : Nat) (i : Int) (k : Nat), 0 ≤ i → i + (d : Int) = (x.length : Int) → d < k → laws_eqStringS.l0 k x x i = some true
  | 0, i, k, h0, hd, hk => by
    obtain ⟨k, rfl⟩ : ∃ m, k = m + 1 := ⟨k - 1, by omega⟩
    simp only [laws_eqStringS.l0]
    rw [if_neg (by omega)]
  | d + 1, i, k, h0, hd, hk => by
    obtain ⟨k, rfl⟩ : ∃ m, k = m + 1 := ⟨k - 1, by omega⟩
    simp only [laws_eqStringS.l0]
    rw [if_pos (by omega), if_pos h0, if_pos (by omega), if_pos trivial, wrap_small (i + 1) (by omega) (by omega)]
    exact eq_loop x hl d (i + 1) k (by omega) (by omega) (by omega)

theorem eq_all (x : List ByteArray) (k : Nat) (hl : x.length ≤ 10000000000000) (hk : x.length < k) : laws_eqStringS.f k x x = some true := by
  unfold laws_eqStringS.f
  rw [if_pos rfl]
  exact eq_loop x hl x.length 0 k (by omega) (by omega) hk

end Go.Proofs.YtfnlbakeefcmeaaDoor.Pure

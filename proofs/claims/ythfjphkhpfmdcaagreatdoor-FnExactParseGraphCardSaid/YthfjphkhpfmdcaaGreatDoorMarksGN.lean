/- Marking the numbers of a list and looking at the marks: the look finds what the marking left; condition: at most a million numbers. -/
import Derived.Test.YthfjphkhpfmdcaaGreatDoorWMore
import Derived.Test.YthfjphkhpfmdcaaGreatDoorQx14N
import Derived.Test.YthfjphkhpfmdcaaGreatDoorQx15N
namespace Go.Proofs.YthfjphkhpfmdcaaGreatDoor.Pure
open Go.RowKit Go.Proofs.YthfjphkhpfmdcaaGreatDoor.Q Go.Proofs.YthfjphkhpfmdcaaGreatDoorW.PrintWords Go.Proofs.YthfjphkhpfmdcaaGreatDoorW.PrintLast

theorem wrap_near (x : Int) (h0 : -1000000000000000000 ≤ x) (h1 : x ≤ 1000000000000000000) : wrap64 x = x := by unfold wrap64; omega
theorem eq_ints (x : List Int) (hl : x.length ≤ 10000000) : ∀ (d : Nat) (i : Int) (k : Nat), 0 ≤ i → i + (d : Int) = (x.length : Int) → d < k → laws_eqIntS.l0 k x x i = some true
  | 0, i, k, h0, hd, hk => by
    obtain ⟨k, rfl⟩ : ∃ m, k = m + 1 := ⟨k - 1, by omega⟩
    simp only [laws_eqIntS.l0]
    rw [if_neg (by omega)]
  | d + 1, i, k, h0, hd, hk => by
    obtain ⟨k, rfl⟩ : ∃ m, k = m + 1 := ⟨k - 1, by omega⟩
    simp only [laws_eqIntS.l0]
    rw [if_pos (by omega), if_pos h0, if_pos (by omega), if_pos trivial, wrap_near (i + 1) (by omega) (by omega)]
    exact eq_ints x hl d (i + 1) k (by omega) (by omega) (by omega)
theorem eq_ints_is (x : List Int) (hl : x.length ≤ 10000000) (k : Nat) (hk : x.length < k) : laws_eqIntS.f k x x = some true := by
  unfold laws_eqIntS.f
  rw [if_pos rfl]
  exact eq_ints x hl x.length 0 k (by omega) (by omega) hk

/-- The list behind the marking, from place i on. -/
def marksI : Nat → List Int → Int → Int → List Int
  | 0, x, _, _ => x
  | d + 1, x, c, i => marksI d (x.set i.toNat c) (c + 1) (i + 1)
theorem marksI_length : ∀ (d : Nat) (x : List Int) (c i : Int), (marksI d x c i).length = x.length
  | 0, _, _, _ => rfl
  | d + 1, x, c, i => by unfold marksI; rw [marksI_length d]; simp
theorem marksI_before : ∀ (d : Nat) (x : List Int) (c i : Int) (j : Nat), 0 ≤ i → j < i.toNat → (marksI d x c i)[j]? = x[j]?
  | 0, _, _, _, _, _, _ => rfl
  | d + 1, x, c, i, j, h0, h => by
    unfold marksI
    rw [marksI_before d _ _ _ j (by omega) (by omega), List.getElem?_set_ne (by omega)]
theorem marksI_at : ∀ (d : Nat) (x : List Int) (c i : Int) (j : Nat), 0 ≤ i → i.toNat + d ≤ x.length → i.toNat ≤ j → j < i.toNat + d → (marksI d x c i)[j]? = some (c + (j - i))
  | 0, _, _, _, _, _, _, h1, h2 => by omega
  | d + 1, x, c, i, j, h0, hl, h1, h2 => by
    unfold marksI
    by_cases e : j = i.toNat
    · rw [marksI_before d _ _ _ j (by omega) (by omega), e, List.getElem?_set_self (by omega)]
      congr 1
      omega
    · rw [marksI_at d _ _ _ j (by omega) (by simp; omega) (by omega) (by omega)]
      congr 1
      omega
theorem markI_loop : ∀ (d : Nat) (x : List Int) (c i : Int) (k : Nat), 0 ≤ i → i + (d : Int) = (x.length : Int) → 0 < c → c + (d : Int) ≤ 100000000000000 → x.length ≤ 100000000000000 → d < k →
    laws_markIntS.l0 k x c i = some (c + d, marksI d x c i)
  | 0, x, c, i, k, h0, hd, hc, hb, hl, hk => by
    obtain ⟨k, rfl⟩ : ∃ m, k = m + 1 := ⟨k - 1, by omega⟩
    simp only [laws_markIntS.l0]
    rw [if_neg (by omega)]
    simp [marksI]
  | d + 1, x, c, i, k, h0, hd, hc, hb, hl, hk => by
    obtain ⟨k, rfl⟩ : ∃ m, k = m + 1 := ⟨k - 1, by omega⟩
    simp only [laws_markIntS.l0]
    rw [if_pos (by omega), if_pos h0, wrap_near (c + 1) (by omega) (by omega), wrap_near (i + 1) (by omega) (by omega)]
    rw [markI_loop d _ (c + 1) (i + 1) k (by omega) (by simp; omega) (by omega) (by omega) (by simpa using hl) (by omega)]
    simp only [marksI, Option.some.injEq, Prod.mk.injEq, and_true]
    omega
theorem heldI_loop : ∀ (d : Nat) (x : List Int) (c i : Int) (k : Nat), 0 ≤ i → i + (d : Int) = (x.length : Int) → 0 < c → c + (d : Int) ≤ 100000000000000 → x.length ≤ 100000000000000 → d < k →
    (∀ j : Nat, i.toNat ≤ j → j < x.length → x[j]? = some (c + (j - i))) → laws_heldIntS.l0 k x c i = some (c + d)
  | 0, x, c, i, k, h0, hd, hc, hb, hl, hk, hm => by
    obtain ⟨k, rfl⟩ : ∃ m, k = m + 1 := ⟨k - 1, by omega⟩
    simp only [laws_heldIntS.l0]
    rw [if_neg (by omega)]
    simp
  | d + 1, x, c, i, k, h0, hd, hc, hb, hl, hk, hm => by
    obtain ⟨k, rfl⟩ : ∃ m, k = m + 1 := ⟨k - 1, by omega⟩
    simp only [laws_heldIntS.l0]
    have e : rd x i = c := by
      have h := hm i.toNat (Nat.le_refl _) (by omega)
      unfold rd
      rw [List.getD_eq_getElem?_getD, h]
      simp only [Option.getD_some]
      omega
    rw [if_pos (by omega), if_pos h0, e, if_pos rfl, wrap_near (c + 1) (by omega) (by omega), wrap_near (i + 1) (by omega) (by omega)]
    rw [heldI_loop d x (c + 1) (i + 1) k (by omega) (by omega) (by omega) (by omega) hl (by omega) (fun j h1 h2 => by rw [hm j (by omega) h2]; congr 1; omega)]
    congr 1
    omega
theorem mark_facts (x : List Int) (hl : x.length ≤ 1000000) (k : Nat) (hk : x.length + 1 ≤ k) : ∃ (m : Int) (y : List Int), laws_markIntS.f k x 101 = some (m, y) ∧ laws_heldIntS.f k y 101 = some m ∧ ¬ m < 0 := by
  refine ⟨101 + (x.length : Int), marksI x.length x 101 0, ?_, ?_, by omega⟩
  · unfold laws_markIntS.f
    exact markI_loop x.length x 101 0 k (by omega) (by omega) (by omega) (by omega) (by omega) (by omega)
  · unfold laws_heldIntS.f
    have L := marksI_length x.length x 101 0
    exact heldI_loop x.length _ 101 0 k (by omega) (by omega) (by omega) (by omega) (by omega) (by omega) (fun j h1 h2 => marksI_at _ _ _ _ j (by omega) (by simp) h1 (by simp; omega))
theorem eq_self_facts (x : List Int) (hl : x.length ≤ 1000000) (k : Nat) (hk : x.length + 1 ≤ k) : laws_eqIntS.f k x x = some true := eq_ints_is x (by omega) k (by omega)
theorem mark_ev (x : List Int) (hl : x.length ≤ 1000000) : ∃ (m : Int) (y : List Int), ¬ m < 0 ∧ Ev (fun k => laws_markIntS.f k x 101) (m, y) ∧ Ev (fun k => laws_heldIntS.f k y 101) m := by
  refine ⟨101 + (x.length : Int), marksI x.length x 101 0, by omega, ⟨x.length + 1, fun k hk => ?_⟩, ⟨x.length + 1, fun k hk => ?_⟩⟩
  · unfold laws_markIntS.f
    exact markI_loop x.length x 101 0 k (by omega) (by omega) (by omega) (by omega) (by omega) (by omega)
  · unfold laws_heldIntS.f
    have L := marksI_length x.length x 101 0
    exact heldI_loop x.length _ 101 0 k (by omega) (by omega) (by omega) (by omega) (by omega) (by omega) (fun j h1 h2 => marksI_at _ _ _ _ j (by omega) (by simp) h1 (by simp; omega))
theorem eq_ev (x : List Int) (hl : x.length ≤ 1000000) : Ev (fun k => laws_eqIntS.f k x x) true := ⟨x.length + 1, fun k hk => eq_ints_is x (by omega) k (by omega)⟩

end Go.Proofs.YthfjphkhpfmdcaaGreatDoor.Pure

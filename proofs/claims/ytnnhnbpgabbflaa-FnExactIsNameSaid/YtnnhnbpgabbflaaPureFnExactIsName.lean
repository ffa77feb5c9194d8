/- IsName of the program and IsName of the reference answer alike at every string; no condition. -/
import Derived.Test.YtnnhnbpgabbflaaPFnExactIsNamex1
namespace Go.Proofs.Ytnnhnbpgabbflaa.Pure
open Go.RowKit Go.Proofs.Ytnnhnbpgabbflaa.PFnExactIsName Go.Proofs.YtnnhnbpgabbflaaW.PrintWords Go.Proofs.YtnnhnbpgabbflaaW.PrintLast

def letterB (c : Int) : Bool := decide (97 ≤ c) && decide (c ≤ 122)
def digitB (c : Int) : Bool := decide (48 ≤ c) && decide (c ≤ 57)
def rest1 (s : ByteArray) : Nat → Int → Bool
  | 0, _ => true
  | d + 1, i => (letterB (bt s i) || (!(i == 0) && digitB (bt s i))) && rest1 s d (i + 1)
def rest2 (s : ByteArray) : Nat → Int → Bool
  | 0, _ => true
  | d + 1, i => (letterB (bt s i) || digitB (bt s i)) && rest2 s d (i + 1)

theorem rests (s : ByteArray) : ∀ (d : Nat) (i : Int), 1 ≤ i → rest1 s d i = rest2 s d i
  | 0, _, _ => rfl
  | d + 1, i, h => by
    unfold rest1 rest2
    rw [rests s d (i + 1) (by omega)]
    have : (i == 0) = false := by simp; omega
    rw [this]; simp

theorem wrap_next {i : Int} {n : Nat} (h0 : 0 ≤ i) (h : i < (n : Int)) (hn : n ≤ 140737488351232) : wrap64 (i + 1) = i + 1 := by
  unfold wrap64
  omega

theorem spec_loop (s : ByteArray) (hn : s.size ≤ 140737488351232) : ∀ (d k : Nat) (i : Int), 0 ≤ i → i + (d : Int) = (s.size : Int) → d < k →
    spec_IsName.l0 k s i = some (rest1 s d i && (decide (1 ≤ (s.size : Int)) && decide ((s.size : Int) ≤ 8)))
  | 0, k, i, h0, hd, hk => by
    obtain ⟨k, rfl⟩ : ∃ m, k = m + 1 := ⟨k - 1, by omega⟩
    simp only [spec_IsName.l0, rest1]
    rw [if_neg (by omega)]
    unfold spec_l01In.f
    by_cases h : (s.size : Int) ≥ 1
    · rw [if_pos h]; simp; intro _; omega
    · rw [if_neg h]; simp; omega
  | d + 1, k, i, h0, hd, hk => by
    obtain ⟨k, rfl⟩ : ∃ m, k = m + 1 := ⟨k - 1, by omega⟩
    have ih := spec_loop s hn d k (i + 1) (by omega) (by omega) (by omega)
    simp only [spec_IsName.l0, rest1]
    rw [if_pos (by omega), if_pos h0, wrap_next h0 (by omega) hn, ih]
    unfold letterB digitB
    by_cases c1 : bt s i ≥ 97
    · rw [if_pos c1]
      by_cases c2 : bt s i ≤ 122
      · rw [if_pos c2]; simp [show (97 : Int) ≤ bt s i from c1, c2]
      · rw [if_neg c2]
        have a1 : decide (bt s i ≤ 122) = false := decide_eq_false c2
        have a2 : decide (bt s i ≤ 57) = false := decide_eq_false (by omega)
        rw [a1, a2]
        by_cases z : i = 0
        · rw [if_pos z]; simp
        · rw [if_neg z, if_neg (by omega), if_pos (by omega)]; simp
    · rw [if_neg c1]
      have a1 : decide (97 ≤ bt s i) = false := decide_eq_false (by omega)
      rw [a1]
      by_cases z : i = 0
      · rw [if_pos z]; subst z; simp
      · rw [if_neg z]
        by_cases c3 : bt s i < 48
        · rw [if_pos c3]
          have a2 : decide (48 ≤ bt s i) = false := decide_eq_false (by omega)
          rw [a2]; simp
        · rw [if_neg c3]
          by_cases c4 : bt s i > 57
          · rw [if_pos c4]
            have a2 : decide (bt s i ≤ 57) = false := decide_eq_false (by omega)
            rw [a2]; simp
          · rw [if_neg c4]
            have a2 : decide (48 ≤ bt s i) = true := decide_eq_true (by omega)
            have a3 : decide (bt s i ≤ 57) = true := decide_eq_true (by omega)
            have a4 : (i == 0) = false := by simpa using z
            rw [a2, a3, a4]; simp

theorem impl_loop (s : ByteArray) (hn : s.size ≤ 140737488351232) : ∀ (d k : Nat) (i : Int), 0 ≤ i → i + (d : Int) = (s.size : Int) → d < k →
    impl_IsName.l0 k s (s.size : Int) i = some (rest2 s d i)
  | 0, k, i, h0, hd, hk => by
    obtain ⟨k, rfl⟩ : ∃ m, k = m + 1 := ⟨k - 1, by omega⟩
    simp only [impl_IsName.l0, rest2]
    rw [if_neg (by omega)]
  | d + 1, k, i, h0, hd, hk => by
    obtain ⟨k, rfl⟩ : ∃ m, k = m + 1 := ⟨k - 1, by omega⟩
    have ih := impl_loop s hn d k (i + 1) (by omega) (by omega) (by omega)
    simp only [impl_IsName.l0, rest2]
    rw [if_pos (by omega), if_pos h0, if_pos (by omega), wrap_next h0 (by omega) hn, ih]
    unfold letterB digitB
    by_cases c1 : bt s i < 97
    · rw [if_pos c1]
      have a1 : decide (97 ≤ bt s i) = false := decide_eq_false (by omega)
      rw [a1]
      by_cases c3 : bt s i < 48
      · rw [if_pos c3]
        have a2 : decide (48 ≤ bt s i) = false := decide_eq_false (by omega)
        rw [a2]; simp
      · rw [if_neg c3]
        by_cases c4 : bt s i > 57
        · rw [if_pos c4]
          have a2 : decide (bt s i ≤ 57) = false := decide_eq_false (by omega)
          rw [a2]; simp
        · rw [if_neg c4]
          have a2 : decide (48 ≤ bt s i) = true := decide_eq_true (by omega)
          have a3 : decide (bt s i ≤ 57) = true := decide_eq_true (by omega)
          rw [a2, a3]; simp
    · rw [if_neg c1]
      have a1 : decide (97 ≤ bt s i) = true := decide_eq_true (by omega)
      rw [a1]
      by_cases c2 : bt s i > 122
      · rw [if_pos c2, if_neg (by omega), if_pos (by omega)]
        have a2 : decide (bt s i ≤ 122) = false := decide_eq_false (by omega)
        have a3 : decide (bt s i ≤ 57) = false := decide_eq_false (by omega)
        rw [a2, a3]; simp
      · rw [if_neg c2]
        have a2 : decide (bt s i ≤ 122) = true := decide_eq_true (by omega)
        rw [a2]; simp

theorem impl_name (s : ByteArray) (hn : s.size ≤ 140737488351232) (k : Nat) (hk : s.size + 1 < k) :
    impl_IsName.f k s = some (rest1 s s.size 0 && (decide (1 ≤ (s.size : Int)) && decide ((s.size : Int) ≤ 8))) := by
  obtain ⟨k, rfl⟩ : ∃ m, k = m + 1 := ⟨k - 1, by omega⟩
  unfold impl_IsName.f impl_in.f
  by_cases h1 : (1 : Int) ≤ (s.size : Int)
  · rw [if_pos h1]
    simp only [Option.bind_some]
    by_cases h8 : (s.size : Int) ≤ 8
    · rw [if_pos (by simpa using h8), if_pos (by omega)]
      obtain ⟨m, hm⟩ : ∃ m, s.size = m + 1 := ⟨s.size - 1, by omega⟩
      have L := impl_loop s hn s.size k 0 (by omega) (by omega) (by omega)
      have e1 : rest1 s s.size 0 = (letterB (bt s 0) && rest2 s m 1) := by
        rw [hm]; unfold rest1; rw [rests s m (0 + 1) (by omega)]; simp
      have e2 : rest2 s s.size 0 = ((letterB (bt s 0) || digitB (bt s 0)) && rest2 s m 1) := by
        rw [hm]; rfl
      rw [e1]
      rw [e2] at L
      have d1 : decide (1 ≤ (s.size : Int)) = true := decide_eq_true h1
      have d2 : decide ((s.size : Int) ≤ 8) = true := decide_eq_true h8
      rw [d1, d2]
      by_cases c1 : bt s 0 < 97
      · rw [if_pos c1]
        simp only [impl_IsName.j0]
        simp [letterB]; omega
      · rw [if_neg c1]
        simp only [impl_IsName.j0]
        by_cases c2 : bt s 0 > 122
        · rw [if_pos (by simpa using c2)]; simp [letterB]; omega
        · rw [if_neg (by simpa using c2), L]
          have : letterB (bt s 0) = true := by simp [letterB]; omega
          rw [this]; simp
    · rw [if_neg (by simpa using h8)]
      simp only [impl_IsName.j0]
      simp; omega
  · rw [if_neg h1]
    simp only [Option.bind_some, impl_IsName.j0]
    simp; omega

theorem FnExactIsName : laws_FnExactIsName.Pure := by
  intro s hn
  refine ⟨s.size + 2, ?_⟩
  unfold laws_FnExactIsName.f
  split
  · rfl
  · unfold spec_IsName.f
    rw [spec_loop s hn s.size (s.size + 2) 0 (by omega) (by omega) (by omega), impl_name s hn _ (by omega)]
    simp

end Go.Proofs.Ytnnhnbpgabbflaa.Pure

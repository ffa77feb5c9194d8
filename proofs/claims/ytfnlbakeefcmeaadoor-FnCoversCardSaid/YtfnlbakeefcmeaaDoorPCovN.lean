/- What holds of sets without neighbors, of cliques and of covers in a valid graph: no program in sight. -/
import Derived.Test.YtfnlbakeefcmeaaDoorPCoverIN
import Derived.Test.YtfnlbakeefcmeaaDoorPMostN
import Derived.Test.YtfnlbakeefcmeaaDoorPFewN
namespace Go.Proofs.YtfnlbakeefcmeaaDoor.Pure
open Go.RowKit Go.Proofs.YtfnlbakeefcmeaaDoor.Q Go.Proofs.YtfnlbakeefcmeaaDoorW.PrintWords Go.Proofs.YtfnlbakeefcmeaaDoorW.PrintLast Go.Proofs.YtfnlbakeefcmeaaDoorW.PrintMore

theorem free_iff {s : Int} {l : List Int} {n x : Nat} (V : Valid s l n) (hx : x < 2 ^ n) : freeB l x = true ↔ ∀ u w, x.testBit u = true → x.testBit w = true → (rn l u).testBit w = false := by
  unfold freeB
  rw [List.all_eq_true]
  constructor
  · intro h u w hu hw
    have hun := bit_below hx hu
    have h1 := h u ((bitsOf_mem x n u hx V.hi).mpr ⟨hun, hu⟩)
    rw [beq_iff_eq] at h1
    have h2 := congrArg (fun z => z.testBit w) h1
    simp only [Nat.testBit_and, hw, Bool.and_true, Nat.zero_testBit] at h2
    exact h2
  · intro h u hu
    have hu2 := ((bitsOf_mem x n u hx V.hi).mp hu).2
    rw [beq_iff_eq]
    apply Nat.eq_of_testBit_eq
    intro w
    rw [Nat.testBit_and, Nat.zero_testBit]
    cases hw : x.testBit w with
    | false => rw [Bool.and_false]
    | true => rw [h u w hu2 hw]; rfl
theorem full_apart {l : List Int} {n x u w : Nat} (hx : x < 2 ^ n) (hn : n ≤ 8) (h : fullB l x = true) (hu : x.testBit u = true) (hw : x.testBit w = true) (hne : u ≠ w) : (rn l u).testBit w = true := by
  unfold fullB at h
  rw [List.all_eq_true] at h
  have h1 := h u ((bitsOf_mem x n u hx hn).mpr ⟨bit_below hx hu, hu⟩)
  rw [beq_iff_eq] at h1
  have h2 := congrArg (fun z => z.testBit w) h1
  simp only [Nat.testBit_and, Nat.testBit_or, Nat.testBit_two_pow, hw, Bool.and_true, decide_eq_false hne, Bool.or_false] at h2
  exact h2
theorem size_but_one : ((List.range 256).all fun q => (List.range 8).all fun v => decide (size q ≤ size (minus q (2 ^ v)) + 1)) = true := by decide +kernel
theorem size_but {q v : Nat} (hq : q < 256) (hv : v < 8) : size q ≤ size (minus q (2 ^ v)) + 1 := by
  have h1 := List.all_eq_true.mp (List.all_eq_true.mp size_but_one q (List.mem_range.mpr hq)) v (List.mem_range.mpr hv)
  simpa using h1
/-- A set without neighbors has at most one vertex of a clique. -/
theorem free_clique {s : Int} {l : List Int} {n x p : Nat} (V : Valid s l n) (hx : x < 2 ^ n) (hp : p < 2 ^ n) (hf : freeB l x = true) (hc : fullB l p = true) {u w : Nat} (h1 : x.testBit u = true) (h2 : p.testBit u = true) (h3 : x.testBit w = true) (h4 : p.testBit w = true) : u = w := by
  by_cases e : u = w
  · exact e
  · have a := (free_iff V hx).mp hf u w h1 h3
    rw [full_apart hp V.hi hc h2 h4 e] at a
    cases a
theorem cover_all {s : Int} {l : List Int} {n : Nat} (V : Valid s l n) {t : List Nat} (G : Good l t (2 ^ n)) (x : Nat) (hx : x < 2 ^ n) (hf : freeB l x = true) :
    ∀ (b m : Nat), m < b → m < 2 ^ n → size (x &&& m) ≤ t.getD m 0
  | 0, m, h, _ => by omega
  | b + 1, m, h, hm => by
    have hn := V.hi
    have h256 := pow_le_256 n hn
    by_cases hm0 : m = 0
    · subst hm0
      rw [Nat.and_zero, show size 0 = 0 by decide]
      exact Nat.zero_le _
    · obtain ⟨p, hp0, hpm, _, hc, he⟩ := G.own m hm hm0
      have hml := minus_less (show m < 256 by omega) hp0 hpm
      have ih := cover_all V G x hx hf b (minus m p) (by omega) (by omega)
      have hpn := hpm.lt hm
      have hmb : ∀ i, (minus m p).testBit i = (m.testBit i && !p.testBit i) := fun i => minus_bit m p i (small m n hm hn) (small p n hpn hn)
      have hq : x &&& m < 2 ^ n := Nat.and_lt_two_pow x hm
      rw [he]
      by_cases hv : ∃ v, x.testBit v = true ∧ p.testBit v = true
      · obtain ⟨v, hv1, hv2⟩ := hv
        have hvn := bit_below hx hv1
        have h1 := size_but (q := x &&& m) (v := v) (by omega) (by omega)
        have h2 : Sub (minus (x &&& m) (2 ^ v)) (x &&& minus m p) := fun i hi => by
          rw [minus_bit _ _ i (small _ n hq hn) (small _ n (bit_lt n v hvn) hn), Nat.testBit_and, Nat.testBit_two_pow, Bool.and_eq_true, Bool.and_eq_true, Bool.not_eq_true', decide_eq_false_iff_not] at hi
          obtain ⟨⟨a, b⟩, c⟩ := hi
          rw [Nat.testBit_and, hmb, a, b]
          cases hpi : p.testBit i with
          | false => rfl
          | true => exact absurd (free_clique V hx hpn hf hc hv1 hv2 a hpi) c
        have h3 := size_mono h2
        omega
      · have h2 : Sub (x &&& m) (x &&& minus m p) := fun i hi => by
          rw [Nat.testBit_and, Bool.and_eq_true] at hi
          obtain ⟨a, b⟩ := hi
          rw [Nat.testBit_and, hmb, a, b]
          cases hpi : p.testBit i with
          | false => rfl
          | true => exact absurd ⟨i, a, hpi⟩ hv
        have h3 := size_mono h2
        omega
/-- A clique without neighbors has at most one vertex. -/
theorem free_full {s : Int} {l : List Int} {n x : Nat} (V : Valid s l n) (hx : x < 2 ^ n) (hf : freeB l x = true) (hc : fullB l x = true) : size x ≤ 1 := by
  have hn := V.hi
  have h256 := pow_le_256 n hn
  by_cases h0 : x = 0
  · rw [h0]; decide
  · have hl := low_mem hx hn h0
    have h1 := size_but (q := x) (v := low x) (by omega) (by omega)
    have h2 : Sub (minus x (2 ^ low x)) 0 := fun i hi => by
      rw [minus_bit _ _ i (small _ n hx hn) (small _ n (bit_lt n _ hl.1) hn), Nat.testBit_two_pow, Bool.and_eq_true, Bool.not_eq_true', decide_eq_false_iff_not] at hi
      exact absurd (free_clique V hx hx hf hc hl.2 hl.2 hi.1 hi.1) hi.2
    have h3 := size_mono h2
    rw [show size 0 = 0 by decide] at h3
    omega
theorem most_is {l : List Int} (n : Nat) : ∀ (d x b : Nat), x + d ≤ 2 ^ n → b < 2 ^ n → freeB l b = true →
    mostFrom l b x d < 2 ^ n ∧ freeB l (mostFrom l b x d) = true ∧ size b ≤ size (mostFrom l b x d) ∧ ∀ y, x ≤ y → y < x + d → freeB l y = true → size y ≤ size (mostFrom l b x d)
  | 0, x, b, _, hb, hf => ⟨hb, hf, Nat.le_refl _, fun y h1 h2 _ => by omega⟩
  | d + 1, x, b, hd, hb, hf => by
    unfold mostFrom
    have hbf : freeB l (best l b x) = true ∧ size b ≤ size (best l b x) ∧ (freeB l x = true → size x ≤ size (best l b x)) := by
      unfold best
      by_cases h : freeB l x = true ∧ size x > size b
      · rw [if_pos h]
        exact ⟨h.1, by omega, fun _ => Nat.le_refl _⟩
      · rw [if_neg h]
        exact ⟨hf, Nat.le_refl _, fun hx => by
          by_cases h2 : size x > size b
          · exact absurd ⟨hx, h2⟩ h
          · omega⟩
    obtain ⟨h1, h2, h3, h4⟩ := most_is n d (x + 1) (best l b x) (by omega) (best_lt l n b x hb (by omega)) hbf.1
    refine ⟨h1, h2, Nat.le_trans hbf.2.1 h3, fun y hy1 hy2 hy => ?_⟩
    by_cases e : y = x
    · rw [e] at hy ⊢
      exact Nat.le_trans (hbf.2.2 hy) h3
    · exact h4 y (by omega) (by omega) hy
theorem near_full {s : Int} {l : List Int} {n x : Nat} (V : Valid s l n) (hx : x < 2 ^ n) (h : ∀ v, v < n → (near l x).testBit v = true) : near l x = 2 ^ n - 1 := by
  apply Nat.eq_of_testBit_eq
  intro i
  rw [Nat.testBit_two_pow_sub_one]
  by_cases hi : i < n
  · rw [h i hi, decide_eq_true hi]
  · rw [decide_eq_false hi]
    exact bit_none _ n i (near_lt V hx) (by omega)
/-- A greatest set without neighbors dominates. -/
theorem most_near {s : Int} {l : List Int} {n x : Nat} (V : Valid s l n) (hx : x < 2 ^ n) (hf : freeB l x = true) (hm : ∀ y, y < 2 ^ n → freeB l y = true → size y ≤ size x) : near l x = 2 ^ n - 1 := by
  have hn := V.hi
  refine near_full V hx (fun v hv => ?_)
  cases hb : (near l x).testBit v with
  | true => rfl
  | false =>
    exfalso
    have hxv : x.testBit v = false := by
      cases h : x.testBit v with
      | false => rfl
      | true => rw [(near_bit l x v).mpr (.inl h)] at hb; cases hb
    have hno : ∀ u, x.testBit u = true → (rn l u).testBit v = false := fun u hu => by
      cases h : (rn l u).testBit v with
      | false => rfl
      | true => rw [(near_bit l x v).mpr (.inr ⟨u, (bitsOf_mem x n u hx hn).mpr ⟨bit_below hx hu, hu⟩, h⟩)] at hb; cases hb
    have hy : x ||| 2 ^ v < 2 ^ n := or_lt n _ _ hx (bit_lt n v hv)
    have hbit : ∀ i, (x ||| 2 ^ v).testBit i = true → x.testBit i = true ∨ v = i := fun i hi => by
      rw [Nat.testBit_or, Bool.or_eq_true, Nat.testBit_two_pow, decide_eq_true_eq] at hi
      exact hi
    have hfy : freeB l (x ||| 2 ^ v) = true := by
      rw [free_iff V hy]
      intro u w hu hw
      rcases hbit u hu with h1 | h1 <;> rcases hbit w hw with h2 | h2
      · exact (free_iff V hx).mp hf u w h1 h2
      · rw [← h2]; exact hno u h1
      · rw [← h1, V.sym v w hv (bit_below hx h2)]; exact hno w h2
      · rw [← h1, ← h2]; exact V.irr v hv
    have h1 := hm _ hy hfy
    have h2 : size x < size (x ||| 2 ^ v) := size_strict (fun i hi => by rw [Nat.testBit_or, hi]; rfl) hy hn (fun e => by
      have this : x.testBit v = (x ||| 2 ^ v).testBit v := congrArg (fun z => z.testBit v) e
      rw [Nat.testBit_or, Nat.testBit_two_pow, hxv, decide_eq_true rfl] at this
      cases this)
    omega
theorem fits_near {s : Int} {l : List Int} {n x : Nat} (V : Valid s l n) (hx : x < 2 ^ n) (h : Fits l n x) : near l x = 2 ^ n - 1 := by
  rcases h with h | h
  · refine near_full V hx (fun v hv => (near_bit l x v).mpr (.inl ?_))
    rw [h, Nat.testBit_two_pow_sub_one, decide_eq_true hv]
  · exact h

end Go.Proofs.YtfnlbakeefcmeaaDoor.Pure

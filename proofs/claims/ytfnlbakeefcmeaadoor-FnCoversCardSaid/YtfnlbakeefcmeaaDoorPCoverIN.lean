/- The table of clique covers, by the reference and by the program; condition: a valid graph. -/
import Derived.Test.YtfnlbakeefcmeaaDoorPFullIN
import Derived.Test.YtfnlbakeefcmeaaDoorQx30N
import Derived.Test.YtfnlbakeefcmeaaDoorPPartsN
namespace Go.Proofs.YtfnlbakeefcmeaaDoor.Pure
open Go.RowKit Go.Proofs.YtfnlbakeefcmeaaDoor.Q Go.Proofs.YtfnlbakeefcmeaaDoorW.PrintWords Go.Proofs.YtfnlbakeefcmeaaDoorW.PrintLast Go.Proofs.YtfnlbakeefcmeaaDoorW.PrintMore

theorem low_all : ((List.range 256).all fun x => (List.range 8).all fun i => !x.testBit i || decide (low x ≤ i)) = true := by decide +kernel
theorem low_le {x i : Nat} (hx : x < 256) (h : x.testBit i = true) : low x ≤ i := by
  have hi : i < 8 := bit_below (n := 8) hx h
  have h1 := List.all_eq_true.mp (List.all_eq_true.mp low_all x (List.mem_range.mpr hx)) i (List.mem_range.mpr hi)
  rw [h] at h1
  simpa using h1
/-- The sets within a set, from one of them down. -/
def subsFrom (m : Nat) : Nat → Nat → List Nat
  | 0, _ => []
  | f + 1, p => if p = 0 then [] else p :: subsFrom m f ((p - 1) &&& m)
theorem subs_all : ((List.range 256).all fun m => subsFrom m 257 m == (List.range 256).reverse.filter fun p => p != 0 && p &&& m == p) = true := by decide +kernel
theorem subs_mem {m p : Nat} (hm : m < 256) : p ∈ subsFrom m 257 m ↔ p ≠ 0 ∧ Sub p m := by
  have h := List.all_eq_true.mp subs_all m (List.mem_range.mpr hm)
  rw [beq_iff_eq] at h
  rw [h, List.mem_filter, List.mem_reverse, List.mem_range, Bool.and_eq_true, bne_iff_ne, beq_iff_eq]
  constructor
  · rintro ⟨_, h1, h2⟩
    exact ⟨h1, sub_of_and h2⟩
  · rintro ⟨h1, h2⟩
    exact ⟨h2.lt (n := 8) hm, h1, h2.and⟩

theorem fold_min (c : Nat → Bool) (f : Nat → Nat) : ∀ (ps : List Nat) (a : Nat), ps.foldl (fun a p => if c p = true then min a (f p) else a) a ≤ a ∧ (∀ p ∈ ps, c p = true → ps.foldl (fun a p => if c p = true then min a (f p) else a) a ≤ f p) ∧
    (ps.foldl (fun a p => if c p = true then min a (f p) else a) a = a ∨ ∃ p ∈ ps, c p = true ∧ ps.foldl (fun a p => if c p = true then min a (f p) else a) a = f p)
  | [], a => ⟨Nat.le_refl _, (fun _ h => absurd h List.not_mem_nil), .inl rfl⟩
  | q :: ps, a => by
    obtain ⟨h1, h2, h3⟩ := fold_min c f ps (if c q = true then min a (f q) else a)
    rw [List.foldl_cons]
    by_cases hq : c q = true
    · rw [if_pos hq] at h1 h2 h3 ⊢
      refine ⟨by omega, fun p hp hc => ?_, ?_⟩
      · rcases List.mem_cons.mp hp with rfl | hp
        · omega
        · exact h2 p hp hc
      · rcases h3 with h3 | ⟨p, hp, hc, h3⟩
        · rcases Nat.le_total a (f q) with h4 | h4
          · exact .inl (by rw [h3]; exact Nat.min_eq_left h4)
          · exact .inr ⟨q, List.mem_cons_self, hq, by rw [h3]; exact Nat.min_eq_right h4⟩
        · exact .inr ⟨p, List.mem_cons_of_mem _ hp, hc, h3⟩
    · rw [if_neg hq] at h1 h2 h3 ⊢
      refine ⟨h1, fun p hp hc => ?_, ?_⟩
      · rcases List.mem_cons.mp hp with rfl | hp
        · exact absurd hc hq
        · exact h2 p hp hc
      · rcases h3 with h3 | ⟨p, hp, hc, h3⟩
        · exact .inl h3
        · exact .inr ⟨p, List.mem_cons_of_mem _ hp, hc, h3⟩

theorem full_one (l : List Int) (v : Nat) : fullB l (2 ^ v) = true := by
  unfold fullB
  rw [List.all_eq_true]
  intro u hu
  have hu2 : (2 ^ v).testBit u = true := ((bitsFrom_mem (2 ^ v) 8 0 u).mp hu).2.2
  rw [bit_one] at hu2
  subst hu2
  rw [beq_iff_eq, Nat.and_comm]
  refine Sub.and (fun i hi => ?_)
  rw [Nat.testBit_or, hi, Bool.or_true]
theorem minus_less {m p : Nat} (hm : m < 256) (hp : p ≠ 0) (h : Sub p m) : minus m p < m := by
  rw [minus_is m p hm h]
  have := h.le
  omega

/-- By the reference: all cliques within the set. -/
def valS (l : List Int) (t : List Nat) (m : Nat) : Nat := (subsFrom m 257 m).foldl (fun a p => if fullB l p = true then min a (1 + t.getD (minus m p) 0) else a) 8
/-- By the program: the cliques with the least vertex alone. -/
def valI (l : List Int) (t : List Nat) (m : Nat) : Nat := (subsFrom m 257 m).foldl (fun a p => if (p.testBit (low m) && fullB l p) = true then min a (1 + t.getD (minus m p) 0) else a) 8
/-- The table is right below m. -/
structure Good (l : List Int) (t : List Nat) (m : Nat) : Prop where
  le : ∀ x, x < m → t.getD x 0 ≤ size x
  opt : ∀ x p, x < m → p ≠ 0 → Sub p x → fullB l p = true → t.getD x 0 ≤ 1 + t.getD (minus x p) 0
  own : ∀ x, x < m → x ≠ 0 → ∃ p, p ≠ 0 ∧ Sub p x ∧ p.testBit (low x) = true ∧ fullB l p = true ∧ t.getD x 0 = 1 + t.getD (minus x p) 0

theorem getD_same (t : List Nat) (m v : Nat) (h : m < t.length) : (t.set m v).getD m 0 = v := by
  rw [List.getD_eq_getElem?_getD, List.getElem?_set_self h]
  rfl
theorem getD_other (t : List Nat) (m v x : Nat) (h : m ≠ x) : (t.set m v).getD x 0 = t.getD x 0 := by
  rw [List.getD_eq_getElem?_getD, List.getElem?_set_ne h, List.getD_eq_getElem?_getD]

theorem good_step {l : List Int} {t : List Nat} {m n : Nat} (hn : n ≤ 8) (hm : m < 2 ^ n) (h0 : m ≠ 0) (ht : t.length = 2 ^ n) (G : Good l t m) :
    valS l t m = valI l t m ∧ valI l t m ≤ 8 ∧ Good l (t.set m (valI l t m)) (m + 1) := by
  have h256 := pow_le_256 n hn
  have hm8 : m < 256 := by omega
  have h62 : ∀ x, x < 256 → x < 2 ^ 62 := fun x hx => Nat.lt_of_lt_of_le hx (by decide)
  obtain ⟨s1, s2, s3⟩ := fold_min (fullB l) (fun p => 1 + t.getD (minus m p) 0) (subsFrom m 257 m) 8
  obtain ⟨i1, i2, i3⟩ := fold_min (fun p => p.testBit (low m) && fullB l p) (fun p => 1 + t.getD (minus m p) 0) (subsFrom m 257 m) 8
  have hl := low_mem hm hn h0
  have hone : (2 ^ low m) ∈ subsFrom m 257 m := (subs_mem hm8).mpr ⟨Nat.pos_iff_ne_zero.mp (Nat.two_pow_pos _), sub_bit hl.2⟩
  have hbit : (2 ^ low m).testBit (low m) = true := (bit_one _ _).mpr rfl
  have hc1 : ((2 ^ low m).testBit (low m) && fullB l (2 ^ low m)) = true := by rw [hbit, full_one]; rfl
  have hone1 := i2 _ hone hc1
  have hlt1 : minus m (2 ^ low m) < m := minus_less hm8 (Nat.pos_iff_ne_zero.mp (Nat.two_pow_pos _)) (sub_bit hl.2)
  have hsz : size (minus m (2 ^ low m)) < size m := size_strict (minus_sub _ _) hm hn (by omega)
  have hle1 := G.le _ hlt1
  have hsm := size_le m
  have hvm : valI l t m ≤ size m := by
    have : valI l t m ≤ 1 + t.getD (minus m (2 ^ low m)) 0 := hone1
    omega
  have hown : ∃ p, p ≠ 0 ∧ Sub p m ∧ p.testBit (low m) = true ∧ fullB l p = true ∧ valI l t m = 1 + t.getD (minus m p) 0 := by
    rcases i3 with h | ⟨p, hp, hc, h⟩
    · refine ⟨2 ^ low m, Nat.pos_iff_ne_zero.mp (Nat.two_pow_pos _), sub_bit hl.2, hbit, full_one l _, ?_⟩
      have h' : valI l t m = 8 := h
      omega
    · have hp' := (subs_mem hm8).mp hp
      rw [Bool.and_eq_true] at hc
      exact ⟨p, hp'.1, hp'.2, hc.1, hc.2, h⟩
  have hopt : ∀ p, p ≠ 0 → Sub p m → fullB l p = true → valI l t m ≤ 1 + t.getD (minus m p) 0 := by
    intro p hp hpm hf
    have hps := (subs_mem hm8).mpr ⟨hp, hpm⟩
    cases hb : p.testBit (low m) with
    | true => exact i2 p hps (by rw [hb, hf]; rfl)
    | false =>
      have hp8 : p < 256 := hpm.lt (n := 8) hm8
      have hR8 : minus m p < 256 := (minus_sub m p).lt (n := 8) hm8
      have hRm := minus_less hm8 hp hpm
      have hRl : (minus m p).testBit (low m) = true := by rw [minus_bit m p _ (h62 m hm8) (h62 p hp8), hl.2, hb]; rfl
      have hR0 : minus m p ≠ 0 := fun e => by rw [e, Nat.zero_testBit] at hRl; cases hRl
      have hlow : low (minus m p) = low m := by
        have hlR := low_mem (n := 8) hR8 (Nat.le_refl 8) hR0
        have h1 := low_le hR8 hRl
        have h2 := low_le hm8 (minus_sub m p _ hlR.2)
        omega
      obtain ⟨q, hq0, hqR, hqb, hqf, hq⟩ := G.own _ hRm hR0
      rw [hlow] at hqb
      have hqm : Sub q m := hqR.trans (minus_sub m p)
      have hq8 : q < 256 := hqm.lt (n := 8) hm8
      have h1 := i2 q ((subs_mem hm8).mpr ⟨hq0, hqm⟩) (by rw [hqb, hqf]; rfl)
      have hmq := minus_less hm8 hq0 hqm
      have hpq : Sub p (minus m q) := fun i hi => by
        rw [minus_bit m q i (h62 m hm8) (h62 q hq8), hpm i hi]
        cases hqi : q.testBit i with
        | false => rfl
        | true =>
          have := hqR i hqi
          rw [minus_bit m p i (h62 m hm8) (h62 p hp8), hi] at this
          simp at this
      have h2 := G.opt _ p hmq hp hpq hf
      have hmq8 : minus m q < 256 := (minus_sub m q).lt (n := 8) hm8
      have e : minus (minus m q) p = minus (minus m p) q := by
        apply Nat.eq_of_testBit_eq
        intro i
        rw [minus_bit _ _ i (h62 _ hmq8) (h62 p hp8), minus_bit _ _ i (h62 _ hR8) (h62 q hq8), minus_bit m q i (h62 m hm8) (h62 q hq8), minus_bit m p i (h62 m hm8) (h62 p hp8)]
        cases m.testBit i <;> cases q.testBit i <;> cases p.testBit i <;> rfl
      rw [e] at h2
      have h1' : valI l t m ≤ 1 + t.getD (minus m q) 0 := h1
      omega
  refine ⟨?_, i1, ?_, ?_, ?_⟩
  · apply Nat.le_antisymm
    · obtain ⟨p, hp0, hpm, _, hf, he⟩ := hown
      rw [he]
      exact s2 p ((subs_mem hm8).mpr ⟨hp0, hpm⟩) hf
    · rcases s3 with h | ⟨p, hp, hf, h⟩
      · have h' : valS l t m = 8 := h
        rw [h']
        exact i1
      · have hp' := (subs_mem hm8).mp hp
        have h' : valS l t m = 1 + t.getD (minus m p) 0 := h
        rw [h']
        exact hopt p hp'.1 hp'.2 hf
  · intro x hx
    by_cases e : x = m
    · rw [e, getD_same _ _ _ (by omega)]
      exact hvm
    · rw [getD_other _ _ _ _ (Ne.symm e)]
      exact G.le x (by omega)
  · intro x p hx hp hpx hf
    by_cases e : x = m
    · subst e
      have := minus_less hm8 hp hpx
      rw [getD_same _ _ _ (by omega), getD_other _ _ _ _ (by omega)]
      exact hopt p hp hpx hf
    · have := minus_less (show x < 256 by omega) hp hpx
      rw [getD_other _ _ _ _ (Ne.symm e), getD_other _ _ _ _ (by omega)]
      exact G.opt x p (by omega) hp hpx hf
  · intro x hx hx0
    by_cases e : x = m
    · subst e
      obtain ⟨p, hp0, hpm, hb, hf, he⟩ := hown
      have := minus_less hm8 hp0 hpm
      refine ⟨p, hp0, hpm, hb, hf, ?_⟩
      rw [getD_same _ _ _ (by omega), getD_other _ _ _ _ (by omega)]
      exact he
    · obtain ⟨p, hp0, hpm, hb, hf, he⟩ := G.own x (by omega) hx0
      have := minus_less (show x < 256 by omega) hp0 hpm
      refine ⟨p, hp0, hpm, hb, hf, ?_⟩
      rw [getD_other _ _ _ _ (Ne.symm e), getD_other _ _ _ _ (by omega)]
      exact he
theorem good_start (l : List Int) (N : Nat) : Good l (List.replicate N 0) 1 := by
  have hz : ∀ x, (List.replicate N 0).getD x 0 = 0 := fun x => by
    rw [List.getD_eq_getElem?_getD, List.getElem?_replicate]
    split <;> rfl
  refine ⟨fun x hx => by rw [hz]; omega, fun x p hx hp hpx hf => by rw [hz]; omega, fun x hx hx0 => by omega⟩

theorem ints_set (t : List Nat) (i v : Nat) : (ints t).set i (v : Int) = ints (t.set i v) := by
  unfold ints
  rw [List.map_set]
theorem rd_ints (t : List Nat) (i : Nat) : rd (ints t) (i : Int) = ((t.getD i 0 : Nat) : Int) := by
  unfold rd ints
  rw [Int.toNat_natCast, List.getD_eq_getElem?_getD, List.getElem?_map, List.getD_eq_getElem?_getD]
  cases t[i]? <;> rfl
theorem mn_nat (a b : Nat) : mn (a : Int) (b : Int) = ((min a b : Nat) : Int) := by
  unfold mn
  split <;> omega
theorem pred_and {m p n : Nat} (hm : m < 2 ^ n) (hn : n ≤ 8) (hp0 : p ≠ 0) (hp : Sub p m) : Go.bits .and .i64 (wrap64 ((p : Int) - 1)) (m : Int) = (((p - 1) &&& m : Nat) : Int) := by
  have h256 := pow_le_256 n hn
  have := hp.le
  rw [wrap_close _ (by omega) (by omega), show (p : Int) - 1 = ((p - 1 : Nat) : Int) by omega]
  exact and_nat _ _ (Nat.lt_of_lt_of_le (show p - 1 < 256 by omega) (by decide)) (small m n hm hn)

theorem impl_cov_in {s : Int} {l : List Int} {n m : Nat} (V : Valid s l n) (hm : m < 2 ^ n) (hm0 : m ≠ 0) (t : List Nat) (ht : t.length = 2 ^ n) (hb : ∀ j, t.getD j 0 ≤ 8) (R : Int) :
    ∀ (f p a : Nat), p < f → Sub p m → a ≤ 8 → Ev (fun k => impl_CliqueCover.l0 k (ints (t.set m ((subsFrom m f p).foldl (fun a p => if (p.testBit (low m) && fullB l p) = true then min a (1 + t.getD (minus m p) 0) else a) a))) ((m + 1 : Nat) : Int) s l) R →
      Ev (fun k => impl_CliqueCover.l1 k (ints (t.set m a)) (m : Int) (p : Int) s l) R
  | 0, p, a, h, _, _, _ => by omega
  | f + 1, p, a, h, hpm, ha, hR => by
    have hn := V.hi
    have h256 := pow_le_256 n hn
    have hpl := hpm.le
    have hnx : wrap64 ((m : Int) + 1) = ((m + 1 : Nat) : Int) := next m (by omega)
    have hl := low_mem hm hn hm0
    by_cases hp0 : p = 0
    · subst hp0
      unfold subsFrom at hR
      rw [if_pos rfl, List.foldl_nil] at hR
      refine Ev.step (fun k => ?_) hR
      simp only [impl_CliqueCover.l1]
      rw [if_neg (by omega), hnx]
    · unfold subsFrom at hR
      rw [if_neg hp0, List.foldl_cons] at hR
      have hq : Sub ((p - 1) &&& m) m := fun i hi => by rw [Nat.testBit_and, Bool.and_eq_true] at hi; exact hi.2
      have hql : (p - 1) &&& m ≤ p - 1 := Nat.and_le_left
      have ih := impl_cov_in V hm hm0 t ht hb R f ((p - 1) &&& m)
      have hml := minus_less (show m < 256 by omega) hp0 hpm
      have hbm := hb (minus m p)
      have hpn := hpm.lt hm
      have hsub : Go.bits .andNot .i64 (m : Int) (p : Int) = ((minus m p : Nat) : Int) := andNot_nat m p (small m n hm hn) (small p n hpn hn)
      refine Ev.step (fun k => by simp only [impl_CliqueCover.l1]; rw [if_pos (show (p : Int) > 0 by omega), impl_least_is m (by omega) hm0, Option.bind_some, impl_has_is p (low m) (small p n hpn hn) (by omega), Option.bind_some, pred_and hm hn hp0 hpm]) ?_
      cases hbit : p.testBit (low m) with
      | false =>
        rw [hbit, Bool.false_and] at hR
        simp only [Bool.false_eq_true, if_false] at hR ⊢
        exact ih a (by omega) hq ha hR
      | true =>
        rw [hbit, Bool.true_and] at hR
        simp only [if_true]
        refine Ev.bind (impl_full V hpn) ?_
        cases hf : fullB l p with
        | false =>
          rw [hf] at hR
          simp only [Bool.false_eq_true, if_false] at hR ⊢
          exact ih a (by omega) hq ha hR
        | true =>
          rw [hf] at hR
          have hlen : (ints (t.set m a)).length = 2 ^ n := by rw [ints_length, List.length_set, ht]
          simp only [if_true, show (0 : Int) ≤ (m : Int) by omega, hlen, show (m : Int) < ((2 ^ n : Nat) : Int) by omega, hsub, show (0 : Int) ≤ ((minus m p : Nat) : Int) by omega, show ((minus m p : Nat) : Int) < ((2 ^ n : Nat) : Int) by omega] at hR ⊢
          rw [rd_ints, rd_ints, getD_same _ _ _ (by omega), getD_other _ _ _ _ (by omega), show (1 : Int) + ((t.getD (minus m p) 0 : Nat) : Int) = ((1 + t.getD (minus m p) 0 : Nat) : Int) by omega, wrap_close _ (by omega) (by omega), mn_nat, Int.toNat_natCast, ints_set, List.set_set]
          exact ih _ (by omega) hq (by omega) hR

theorem set_bound (t : List Nat) (m v : Nat) (hb : ∀ j, t.getD j 0 ≤ 8) (hv : v ≤ 8) (j : Nat) : (t.set m v).getD j 0 ≤ 8 := by
  by_cases e : m = j
  · subst e
    rcases Nat.lt_or_ge m t.length with h | h
    · rw [getD_same _ _ _ h]; exact hv
    · rw [List.set_eq_of_length_le h]; exact hb m
  · rw [getD_other _ _ _ _ e]; exact hb j

theorem cov_out {s : Int} {l : List Int} {n : Nat} (V : Valid s l n) :
    ∀ (d m : Nat) (t : List Nat), m + d = 2 ^ n → m ≠ 0 → t.length = 2 ^ n → (∀ j, t.getD j 0 ≤ 8) → Good l t m →
      ∃ u : List Nat, u.length = 2 ^ n ∧ Good l u (2 ^ n) ∧ Ev (fun k => impl_CliqueCover.l0 k (ints t) (m : Int) s l) ((u.getD (2 ^ n - 1) 0 : Nat) : Int)
  | 0, m, t, hd, hm0, ht, hb, G => by
    have hn := V.hi
    have hs := V.size
    have hp : 0 < 2 ^ n := Nat.two_pow_pos n
    have hall := impl_all_is n l hn
    rw [← hs] at hall
    have hm : m = 2 ^ n := by omega
    subst hm
    refine ⟨t, ht, G, ?_⟩
    · refine Ev.step (f := fun _ => some ((t.getD (2 ^ n - 1) 0 : Nat) : Int)) (fun k => ?_) (Ev.now _)
      simp only [impl_CliqueCover.l0]
      rw [hall, Option.bind_some, if_neg (by omega), Option.bind_some, if_pos (by omega), if_pos (by rw [ints_length]; omega), rd_ints]
  | d + 1, m, t, hd, hm0, ht, hb, G => by
    have hn := V.hi
    have hs := V.size
    have h256 := pow_le_256 n hn
    have hp : 0 < 2 ^ n := Nat.two_pow_pos n
    have hall := impl_all_is n l hn
    rw [← hs] at hall
    have hm : m < 2 ^ n := by omega
    obtain ⟨e, hv, G'⟩ := good_step hn hm hm0 ht G
    obtain ⟨u, hu, hG, h2⟩ := cov_out V d (m + 1) (t.set m (valI l t m)) (by omega) (by omega) (by rw [List.length_set, ht]) (set_bound t m _ hb hv) G'
    refine ⟨u, hu, hG, ?_⟩
    · have h := impl_cov_in V hm hm0 t ht hb ((u.getD (2 ^ n - 1) 0 : Nat) : Int) 257 m 8 (by omega) (Sub.refl m) (Nat.le_refl 8) h2
      refine Ev.step (fun k => ?_) h
      simp only [impl_CliqueCover.l0]
      rw [hall, Option.bind_some, if_pos (by omega), if_pos (by omega), if_pos (by rw [ints_length]; omega), Int.toNat_natCast]
      exact congrArg (fun z => impl_CliqueCover.l1 k z (m : Int) (m : Int) s l) (ints_set t m 8)

/-- The program gives the last cell of a right table. -/
theorem cov_both {s : Int} {l : List Int} {n : Nat} (V : Valid s l n) :
    ∃ u : List Nat, u.length = 2 ^ n ∧ Good l u (2 ^ n) ∧ Ev (fun k => impl_CliqueCover.l0 k (ints (List.replicate (2 ^ n) 0)) ((1 : Nat) : Int) s l) ((u.getD (2 ^ n - 1) 0 : Nat) : Int) := by
  have hn := V.hi
  have hs := V.size
  have h256 := pow_le_256 n hn
  have hp : 0 < 2 ^ n := Nat.two_pow_pos n
  obtain ⟨u, hu, hG, h2⟩ := cov_out V (2 ^ n - 1) 1 (List.replicate (2 ^ n) 0) (by omega) (by decide) (by rw [List.length_replicate]) (fun j => by
    rw [List.getD_eq_getElem?_getD, List.getElem?_replicate]
    split <;> simp) (good_start l _)
  exact ⟨u, hu, hG, h2⟩

end Go.Proofs.YtfnlbakeefcmeaaDoor.Pure

/- FewestDominating of the program and FewestDominating of the reference answer alike at every graph; no condition. -/
import Derived.Test.YtbmpehclflbbaaaWalkFnExactFewestDominating
import Derived.Test.YtbmpehclflbbaaaPNear
import Derived.Test.YtbmpehclflbbaaaPCount
namespace Go.Proofs.Ytbmpehclflbbaaa.Pure
open Go.RowKit Go.Proofs.Ytbmpehclflbbaaa.Q Go.Proofs.YtbmpehclflbbaaaW.PrintWords Go.Proofs.YtbmpehclflbbaaaW.PrintLast Go.Proofs.YtbmpehclflbbaaaW.PrintMore

/-- The set dominates, or it is the whole. -/
def Fits (l : List Int) (n x : Nat) : Prop := x = 2 ^ n - 1 ∨ near l x = 2 ^ n - 1
/-- x comes no later than y: it is smaller, or of the same size and no greater number. -/
def Ahead (x y : Nat) : Prop := size x < size y ∨ (size x = size y ∧ x ≤ y)
/-- The first of all that fit. -/
structure First (l : List Int) (n r : Nat) : Prop where
  lt : r < 2 ^ n
  fits : Fits l n r
  least : ∀ x, x < 2 ^ n → Fits l n x → Ahead r x
theorem first_one (l : List Int) (n r r' : Nat) (h : First l n r) (h' : First l n r') : r = r' := by
  have h1 := h.least r' h'.lt h'.fits
  have h2 := h'.least r h.lt h.fits
  unfold Ahead at h1 h2
  omega

theorem spec_few {s : Int} {l : List Int} {n : Nat} (V : Valid s l n) :
    ∀ (d b : Nat), d ≤ 2 ^ n → b < 2 ^ n → Fits l n b → d ≤ b + 1 → (∀ x, d ≤ x → x < 2 ^ n → Fits l n x → Ahead b x) → ∃ r : Nat, Ev (fun k => spec_FewestDominating.l0 k (b : Int) ((d : Int) - 1) s l) ((r : Nat) : Int) ∧ First l n r
  | 0, b, _, hb, hf, _, hl => by
    refine ⟨b, Ev.step (f := fun _ => some ((b : Nat) : Int)) (fun k => ?_) (Ev.now _), hb, hf, fun x hx hfx => hl x (Nat.zero_le _) hx hfx⟩
    simp only [spec_FewestDominating.l0]
    rw [if_neg (by omega)]
  | d + 1, b, hd, hb, hf, hdb, hl => by
    have hn := V.hi
    have h256 := pow_le_256 n hn
    have hp : 0 < 2 ^ n := Nat.two_pow_pos n
    have hx : d < 2 ^ n := by omega
    have hs := V.size
    have hs0 : 0 ≤ s := by omega
    have hfv : wrap64 (shl .i64 1 s - 1) = ((2 ^ n - 1 : Nat) : Int) := by rw [hs]; exact full_val n hn
    have e : ∀ k, spec_FewestDominating.l0 (k + 1) (b : Int) (((d + 1 : Nat) : Int) - 1) s l = (spec_l02Near.f k s l (d : Int)).bind fun t259 => (if 0 ≤ s then (if t259 = (wrap64 ((shl .i64 1 s) - 1)) then ((spec_l02Count.f k (d : Int)).bind fun t260 => ((spec_l02Count.f k (b : Int)).bind fun t261 => (if t260 ≤ t261 then (spec_FewestDominating.l0 k (d : Int) ((d : Int) - 1) s l) else (spec_FewestDominating.l0 k (b : Int) ((d : Int) - 1) s l)))) else (spec_FewestDominating.l0 k (b : Int) ((d : Int) - 1) s l)) else (none)) := by
      intro k
      simp only [spec_FewestDominating.l0]
      rw [show (((d + 1 : Nat) : Int) - 1) = (d : Int) by omega, if_pos (by omega), wrap_close ((d : Int) - 1) (by omega) (by omega)]
    by_cases hD : near l d = 2 ^ n - 1
    · by_cases hc : size d ≤ size b
      · obtain ⟨r, h1, h2⟩ := spec_few V d d (by omega) hx (.inr hD) (by omega) (fun x hdx hx2 hfx => by
          by_cases hxd : x = d
          · exact .inr ⟨by rw [hxd], by omega⟩
          · have := hl x (by omega) hx2 hfx
            unfold Ahead at this ⊢
            omega)
        refine ⟨r, Ev.step e ?_, h2⟩
        refine Ev.bind (spec_near V hx) ?_
        simp only [hs0, hfv, hD, if_true]
        refine Ev.bind (spec_size d (by omega)) (Ev.bind (spec_size b (by omega)) ?_)
        simp only [show ((size d : Nat) : Int) ≤ ((size b : Nat) : Int) by omega, if_true]
        exact h1
      · obtain ⟨r, h1, h2⟩ := spec_few V d b (by omega) hb hf (by omega) (fun x hdx hx2 hfx => by
          by_cases hxd : x = d
          · rw [hxd]; exact .inl (by omega)
          · exact hl x (by omega) hx2 hfx)
        refine ⟨r, Ev.step e ?_, h2⟩
        refine Ev.bind (spec_near V hx) ?_
        simp only [hs0, hfv, hD, if_true]
        refine Ev.bind (spec_size d (by omega)) (Ev.bind (spec_size b (by omega)) ?_)
        simp only [show ¬ ((size d : Nat) : Int) ≤ ((size b : Nat) : Int) by omega, if_false]
        exact h1
    · obtain ⟨r, h1, h2⟩ := spec_few V d b (by omega) hb hf (by omega) (fun x hdx hx2 hfx => by
        by_cases hxd : x = d
        · rcases hfx with h | h
          · exact .inr ⟨by rw [show b = x by omega], by omega⟩
          · exact absurd (hxd ▸ h) hD
        · exact hl x (by omega) hx2 hfx)
      refine ⟨r, Ev.step e ?_, h2⟩
      refine Ev.bind (spec_near V hx) ?_
      simp only [hs0, hfv, show ¬ ((near l d : Nat) : Int) = ((2 ^ n - 1 : Nat) : Int) by omega, if_true, if_false]
      exact h1

theorem impl_few {s : Int} {l : List Int} {n : Nat} (V : Valid s l n) :
    ∀ (d i b : Nat), i + d = 2 ^ n - 1 → b < 2 ^ n → Fits l n b → Ahead b (2 ^ n - 1) → (∀ x, x < i → Fits l n x → Ahead b x) → ∃ r : Nat, Ev (fun k => impl_FewestDominating.l0 k (b : Int) ((2 ^ n - 1 : Nat) : Int) (i : Int) s l) ((r : Nat) : Int) ∧ First l n r
  | 0, i, b, hd, hb, hf, hw, hl => by
    refine ⟨b, Ev.step (f := fun _ => some ((b : Nat) : Int)) (fun k => ?_) (Ev.now _), hb, hf, fun x hx hfx => ?_⟩
    · simp only [impl_FewestDominating.l0]
      rw [if_neg (by omega)]
    · by_cases hxi : x < i
      · exact hl x hxi hfx
      · rw [show x = 2 ^ n - 1 by omega]; exact hw
  | d + 1, i, b, hd, hb, hf, hw, hl => by
    have hn := V.hi
    have h256 := pow_le_256 n hn
    have hp : 0 < 2 ^ n := Nat.two_pow_pos n
    have hx : i < 2 ^ n := by omega
    have hs := V.size
    have e : ∀ k, impl_FewestDominating.l0 (k + 1) (b : Int) ((2 ^ n - 1 : Nat) : Int) (i : Int) s l = (impl_Graph_around.f k s l (i : Int)).bind fun t269 => if t269 = ((2 ^ n - 1 : Nat) : Int) then (if ((size i : Nat) : Int) < ((size b : Nat) : Int) then impl_FewestDominating.l0 k (i : Int) ((2 ^ n - 1 : Nat) : Int) ((i + 1 : Nat) : Int) s l else (if ((size i : Nat) : Int) = ((size b : Nat) : Int) then (if (i : Int) < (b : Int) then impl_FewestDominating.l0 k (i : Int) ((2 ^ n - 1 : Nat) : Int) ((i + 1 : Nat) : Int) s l else impl_FewestDominating.l0 k (b : Int) ((2 ^ n - 1 : Nat) : Int) ((i + 1 : Nat) : Int) s l) else impl_FewestDominating.l0 k (b : Int) ((2 ^ n - 1 : Nat) : Int) ((i + 1 : Nat) : Int) s l)) else impl_FewestDominating.l0 k (b : Int) ((2 ^ n - 1 : Nat) : Int) ((i + 1 : Nat) : Int) s l := by
      intro k
      simp only [impl_FewestDominating.l0]
      rw [if_pos (by omega), hs, next i (by omega)]
      simp only [impl_all_is n l hn, impl_size i (show i < 256 by omega), impl_size b (show b < 256 by omega), Option.bind_some]
    by_cases hD : near l i = 2 ^ n - 1
    · by_cases hc : size i < size b ∨ (size i = size b ∧ i < b)
      · obtain ⟨r, h1, h2⟩ := impl_few V d (i + 1) i (by omega) hx (.inr hD) (by unfold Ahead at hw ⊢; omega) (fun x hxi hfx => by
          by_cases hxd : x = i
          · exact .inr ⟨by rw [hxd], by omega⟩
          · have := hl x (by omega) hfx
            unfold Ahead at this ⊢
            omega)
        refine ⟨r, Ev.step e ?_, h2⟩
        refine Ev.bind (impl_near V hx) ?_
        simp only [hD, if_true]
        by_cases h3 : size i < size b
        · simp only [show ((size i : Nat) : Int) < ((size b : Nat) : Int) by omega, if_true]; exact h1
        · simp only [show ((size i : Nat) : Int) = ((size b : Nat) : Int) by omega, show (i : Int) < (b : Int) by omega, if_true, Int.lt_irrefl, if_false]; exact h1
      · obtain ⟨r, h1, h2⟩ := impl_few V d (i + 1) b (by omega) hb hf hw (fun x hxi hfx => by
          by_cases hxd : x = i
          · rw [hxd]; unfold Ahead; omega
          · exact hl x (by omega) hfx)
        refine ⟨r, Ev.step e ?_, h2⟩
        refine Ev.bind (impl_near V hx) ?_
        simp only [hD, if_true]
        by_cases h3 : size i = size b
        · simp only [show ((size i : Nat) : Int) = ((size b : Nat) : Int) by omega, show ¬ (i : Int) < (b : Int) by omega, Int.lt_irrefl, if_true, if_false]; exact h1
        · simp only [show ¬ ((size i : Nat) : Int) < ((size b : Nat) : Int) by omega, show ¬ ((size i : Nat) : Int) = ((size b : Nat) : Int) by omega, if_false]; exact h1
    · obtain ⟨r, h1, h2⟩ := impl_few V d (i + 1) b (by omega) hb hf hw (fun x hxi hfx => by
        by_cases hxd : x = i
        · rcases hfx with h | h
          · omega
          · exact absurd (hxd ▸ h) hD
        · exact hl x (by omega) hfx)
      refine ⟨r, Ev.step e ?_, h2⟩
      refine Ev.bind (impl_near V hx) ?_
      simp only [show ¬ ((near l i : Nat) : Int) = ((2 ^ n - 1 : Nat) : Int) by omega, if_false]
      exact h1

theorem FnExactFewestDominating : laws_FnExactFewestDominating.Same := by
  intro s l _ _ _
  cases h : okB s l with
  | false =>
    refine both_of (r := -1) ?_ ?_
    · unfold spec_FewestDominating.f
      refine Ev.bind (spec_ok s l) ?_
      rw [h]
      exact Ev.now _
    · unfold impl_FewestDominating.f
      refine Ev.bind (impl_ok s l) ?_
      rw [h]
      exact Ev.now _
  | true =>
    have V := (okB_iff s l).mp h
    have hp : 0 < 2 ^ l.length := Nat.two_pow_pos _
    have h256 := pow_le_256 _ V.hi
    obtain ⟨r, h1, h2⟩ := spec_few V (2 ^ l.length) (2 ^ l.length - 1) (Nat.le_refl _) (by omega) (.inl rfl) (by omega) (fun x hx1 hx2 _ => by omega)
    obtain ⟨r', h1', h2'⟩ := impl_few V (2 ^ l.length - 1) 0 (2 ^ l.length - 1) (by omega) (by omega) (.inl rfl) (.inr ⟨rfl, Nat.le_refl _⟩) (fun x hx1 _ => by omega)
    have hr := first_one l _ r r' h2 h2'
    subst hr
    refine both_of (r := ((r : Nat) : Int)) ?_ ?_
    · unfold spec_FewestDominating.f
      refine Ev.bind (spec_ok s l) ?_
      rw [h]
      simp only [if_true]
      rw [show (((2 ^ l.length : Nat) : Int) - 1) = ((2 ^ l.length - 1 : Nat) : Int) by omega] at h1
      have hs := V.size
      have hv := full_val _ V.hi
      rw [← hs] at hv
      simp only [show 0 ≤ s by omega, if_true, hv]
      exact h1
    · unfold impl_FewestDominating.f
      refine Ev.bind (impl_ok s l) ?_
      rw [h]
      simp only [if_true]
      have ha := impl_all_is _ l V.hi
      rw [← V.size] at ha
      rw [ha]
      exact h1'

end Go.Proofs.Ytbmpehclflbbaaa.Pure

/- The first set that FewestDominating of the program finds; condition: a valid graph. -/
import Derived.Test.YtfnlbakeefcmeaaDoorQx18N
import Derived.Test.YtfnlbakeefcmeaaDoorPNearN
import Derived.Test.YtfnlbakeefcmeaaDoorPCountIN
namespace Go.Proofs.YtfnlbakeefcmeaaDoor.Pure
open Go.RowKit Go.Proofs.YtfnlbakeefcmeaaDoor.Q Go.Proofs.YtfnlbakeefcmeaaDoorW.PrintWords Go.Proofs.YtfnlbakeefcmeaaDoorW.PrintLast Go.Proofs.YtfnlbakeefcmeaaDoorW.PrintMore

/-- The set dominates, or it is the whole. -/
def Fits (l : List Int) (n x : Nat) : Prop := x = 2 ^ n - 1 ∨ near l x = 2 ^ n - 1
/-- x comes no later than y: it is smaller, or of the same size and no greater number. -/
def Ahead (x y : Nat) : Prop := size x < size y ∨ (size x = size y ∧ x ≤ y)
/-- The first of all that fit. -/
structure First (l : List Int) (n r : Nat) : Prop where
  lt : r < 2 ^ n
  fits : Fits l n r
  least : ∀ x, x < 2 ^ n → Fits l n x → Ahead r x
theorem impl_few {s : Int} {l : List Int} {n : Nat} (V : Valid s l n) :
    ∀ (d i b : Nat), i + d = 2 ^ n - 1 → b < 2 ^ n → Fits l n b → Ahead b (2 ^ n - 1) → (∀ x, x < i → Fits l n x → Ahead b x) → ∃ r : Nat, Ev (fun k => impl_FewestDominating.l0 k (b : Int) ((2 ^ n - 1 : Nat) : Int) (i : Int) s l) ((r : Nat) : Int) ∧ First l n r
  | 0, i, b, hd, hb, hf, hw, hl => by
    refine ⟨b, Ev.step (f := fun _ => some ((b : Nat) : Int)) (fun k => ?_) (Ev.now _), hb, hf, fun x hx hfx => ?_⟩
    · simp only [impl_FewestDominating.l0]
      rw [if_neg (by omega)]
    · by_cases hxi : x < i
      · exact hl x hxi hfx
      · rw [show x = 2 ^ n - 1 by omega]; exact hw
  | d + 1, i, b, hd, hb, hf, hw, hl => by
    have hn := V.hi
    have h256 := pow_le_256 n hn
    have hp : 0 < 2 ^ n := Nat.two_pow_pos n
    have hx : i < 2 ^ n := by omega
    have hs := V.size
    have e : ∀ k, impl_FewestDominating.l0 (k + 1) (b : Int) ((2 ^ n - 1 : Nat) : Int) (i : Int) s l = (impl_Graph_around.f k s l (i : Int)).bind fun t269 => if t269 = ((2 ^ n - 1 : Nat) : Int) then (if ((size i : Nat) : Int) < ((size b : Nat) : Int) then impl_FewestDominating.l0 k (i : Int) ((2 ^ n - 1 : Nat) : Int) ((i + 1 : Nat) : Int) s l else (if ((size i : Nat) : Int) = ((size b : Nat) : Int) then (if (i : Int) < (b : Int) then impl_FewestDominating.l0 k (i : Int) ((2 ^ n - 1 : Nat) : Int) ((i + 1 : Nat) : Int) s l else impl_FewestDominating.l0 k (b : Int) ((2 ^ n - 1 : Nat) : Int) ((i + 1 : Nat) : Int) s l) else impl_FewestDominating.l0 k (b : Int) ((2 ^ n - 1 : Nat) : Int) ((i + 1 : Nat) : Int) s l)) else impl_FewestDominating.l0 k (b : Int) ((2 ^ n - 1 : Nat) : Int) ((i + 1 : Nat) : Int) s l := by
      intro k
      simp only [impl_FewestDominating.l0]
      rw [if_pos (by omega), hs, next i (by omega)]
      simp only [impl_all_is n l hn, impl_size i (show i < 256 by omega), impl_size b (show b < 256 by omega), Option.bind_some]
    by_cases hD : near l i = 2 ^ n - 1
    · by_cases hc : size i < size b ∨ (size i = size b ∧ i < b)
      · obtain ⟨r, h1, h2⟩ := impl_few V d (i + 1) i (by omega) hx (.inr hD) (by unfold Ahead at hw ⊢; omega) (fun x hxi hfx => by
          by_cases hxd : x = i
          · exact .inr ⟨by rw [hxd], by omega⟩
          · have := hl x (by omega) hfx
            unfold Ahead at this ⊢
            omega)
        refine ⟨r, Ev.step e ?_, h2⟩
        refine Ev.bind (impl_near V hx) ?_
        simp only [hD, if_true]
        by_cases h3 : size i < size b
        · simp only [show ((size i : Nat) : Int) < ((size b : Nat) : Int) by omega, if_true]; exact h1
        · simp only [show ((size i : Nat) : Int) = ((size b : Nat) : Int) by omega, show (i : Int) < (b : Int) by omega, if_true, Int.lt_irrefl, if_false]; exact h1
      · obtain ⟨r, h1, h2⟩ := impl_few V d (i + 1) b (by omega) hb hf hw (fun x hxi hfx => by
          by_cases hxd : x = i
          · rw [hxd]; unfold Ahead; omega
          · exact hl x (by omega) hfx)
        refine ⟨r, Ev.step e ?_, h2⟩
        refine Ev.bind (impl_near V hx) ?_
        simp only [hD, if_true]
        by_cases h3 : size i = size b
        · simp only [show ((size i : Nat) : Int) = ((size b : Nat) : Int) by omega, show ¬ (i : Int) < (b : Int) by omega, Int.lt_irrefl, if_true, if_false]; exact h1
        · simp only [show ¬ ((size i : Nat) : Int) < ((size b : Nat) : Int) by omega, show ¬ ((size i : Nat) : Int) = ((size b : Nat) : Int) by omega, if_false]; exact h1
    · obtain ⟨r, h1, h2⟩ := impl_few V d (i + 1) b (by omega) hb hf hw (fun x hxi hfx => by
        by_cases hxd : x = i
        · rcases hfx with h | h
          · omega
          · exact absurd (hxd ▸ h) hD
        · exact hl x (by omega) hfx)
      refine ⟨r, Ev.step e ?_, h2⟩
      refine Ev.bind (impl_near V hx) ?_
      simp only [show ¬ ((near l i : Nat) : Int) = ((2 ^ n - 1 : Nat) : Int) by omega, if_false]
      exact h1

end Go.Proofs.YtfnlbakeefcmeaaDoor.Pure

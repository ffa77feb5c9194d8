/- IsLinked of the program and IsLinked of the reference answer alike at every graph and number; no condition. -/
import Derived.Test.YtbmpehclflbbaaaDoorWalkFnExactIsLinked
import Derived.Test.YtbmpehclflbbaaaDoorPParts
import Derived.Test.YtbmpehclflbbaaaDoorPSet
namespace Go.Proofs.YtbmpehclflbbaaaDoor.Pure
open Go.RowKit Go.Proofs.YtbmpehclflbbaaaDoor.Q Go.Proofs.YtbmpehclflbbaaaDoorW.PrintWords Go.Proofs.YtbmpehclflbbaaaDoorW.PrintLast Go.Proofs.YtbmpehclflbbaaaDoorW.PrintMore

theorem partsN_more (l : List Int) (n : Nat) : ∀ (d set : Nat) (out : List Nat), out.length ≤ (partsN l n d set out).length
  | 0, _, _ => Nat.le_refl _
  | d + 1, set, out => by
    unfold partsN
    split
    · exact Nat.le_refl _
    · have := partsN_more l n d (minus set (part l n set (low set))) (out ++ [part l n set (low set)])
      simp at this
      omega
theorem minus_self (x : Nat) (hx : x < 2 ^ 62) : minus x x = 0 := by
  apply Nat.eq_of_testBit_eq
  intro i
  rw [minus_bit x x i hx hx, Nat.zero_testBit]
  cases x.testBit i <;> rfl
theorem minus_none {x y : Nat} (hx : x < 2 ^ 62) (hy : y < 2 ^ 62) (h : minus x y = 0) : Sub x y := fun i hi => by
  have hb := minus_bit x y i hx hy
  rw [h, Nat.zero_testBit, hi] at hb
  cases hyi : y.testBit i with
  | true => rfl
  | false => rw [hyi] at hb; cases hb
/-- One part alone: the set is linked. -/
def linkB (l : List Int) (n y : Nat) : Bool := y != 0 && part l n y (low y) == y
theorem link_one {l : List Int} {n y : Nat} (hy : y < 2 ^ n) (hn : n ≤ 8) : ((((partsN l n 8 y []).length : Nat) : Int) == 1) = linkB l n y := by
  unfold linkB
  by_cases h0 : y = 0
  · subst h0
    rfl
  · have hl := low_mem hy hn h0
    have hps := part_set l n y (low y) hl.2
    have h62 := small y n hy hn
    have hp62 := small _ n (hps.lt hy) hn
    have hne : (y != 0) = true := by simpa using h0
    rw [hne, Bool.true_and]
    have e8 : partsN l n 8 y [] = partsN l n 7 (minus y (part l n y (low y))) [part l n y (low y)] := by
      show (if y = 0 then _ else _) = _
      rw [if_neg h0]
      rfl
    by_cases hp : part l n y (low y) = y
    · rw [e8, hp, minus_self y h62, beq_self_eq_true]
      rfl
    · have hm : ¬ minus y (part l n y (low y)) = 0 := fun e => hp (hps.antisymm (minus_none h62 hp62 e))
      have e1 : (part l n y (low y) == y) = false := by simpa using hp
      rw [e8, e1]
      generalize minus y (part l n y (low y)) = z at hm
      generalize part l n y (low y) = p
      have e7 : partsN l n 7 z [p] = partsN l n 6 (minus z (part l n z (low z))) [p, part l n z (low z)] := by
        show (if z = 0 then _ else _) = _
        rw [if_neg hm]
        rfl
      rw [e7]
      have := partsN_more l n 6 (minus z (part l n z (low z))) [p, part l n z (low z)]
      generalize (partsN l n 6 (minus z (part l n z (low z))) [p, part l n z (low z)]).length = m at this
      simp only [List.length_cons, List.length_nil] at this
      rw [beq_eq_false_iff_ne]
      omega

theorem FnExactIsLinked : laws_FnExactIsLinked.Same := by
  intro s l x _ _ _ _
  have hsp := spec_set s l x
  have him := impl_set s l x
  cases h : setB s l x with
  | false =>
    rw [h] at hsp him
    refine both_of (r := false) ?_ ?_
    · unfold spec_IsLinked.f
      exact Ev.bind hsp (Ev.now _)
    · unfold impl_IsLinked.f
      exact Ev.bind him (Ev.now _)
  | true =>
    rw [h] at hsp him
    obtain ⟨V, y, rfl, hy⟩ := (setB_iff s l x).mp h
    have hn := V.hi
    have h256 := pow_le_256 _ hn
    refine both_of (r := linkB l l.length y) ?_ ?_
    · unfold spec_IsLinked.f
      refine Ev.bind hsp ?_
      simp only [if_true]
      refine Ev.bind (a := ints (partsN l l.length 8 y [])) ?_ ?_
      · unfold spec_l03Parts.f
        exact spec_parts_loop V 8 y [] hy (size_le y) (by decide)
      · rw [ints_length, link_one hy hn]
        exact Ev.now _
    · unfold impl_IsLinked.f
      refine Ev.bind him ?_
      simp only [if_true]
      refine Ev.bind (a := linkB l l.length y) ?_ (Ev.now _)
      unfold impl_Graph_isLinked.f linkB
      by_cases h0 : y = 0
      · subst h0
        exact Ev.now _
      · have hl := low_mem hy hn h0
        have hne : (y != 0) = true := by simpa using h0
        rw [hne, Bool.true_and]
        simp only [show ¬ (y : Int) = 0 by omega, if_false, impl_least_is y (by omega) h0, Option.bind_some]
        refine Ev.bind (impl_part_is V hy hl.2) ?_
        have e : (((part l l.length y (low y) : Nat) : Int) == (y : Int)) = (part l l.length y (low y) == y) := by
          rw [Bool.eq_iff_iff, beq_iff_eq, beq_iff_eq]
          omega
        rw [e]
        exact Ev.now _

end Go.Proofs.YtbmpehclflbbaaaDoor.Pure

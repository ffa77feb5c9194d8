/- PartsOf of the program and PartsOf of the reference give the same list at every graph and number; no condition. -/
import Derived.Test.YtfnlbakeefcmeaaDoorWalkFnExactPartsOf
import Derived.Test.YtfnlbakeefcmeaaDoorPParts
import Derived.Test.YtfnlbakeefcmeaaDoorPSet
namespace Go.Proofs.YtfnlbakeefcmeaaDoor.Pure
open Go.RowKit Go.Proofs.YtfnlbakeefcmeaaDoor.Q Go.Proofs.YtfnlbakeefcmeaaDoorW.PrintWords Go.Proofs.YtfnlbakeefcmeaaDoorW.PrintLast Go.Proofs.YtfnlbakeefcmeaaDoorW.PrintMore

theorem impl_parts_loop {s : Int} {l : List Int} {n : Nat} (V : Valid s l n) :
    ∀ (d set : Nat) (out : List Nat), set < 2 ^ n → size set ≤ d → out.length + d ≤ 1000 → Ev (fun k => impl_PartsOf.l0 k (set : Int) (ints out) s l) (ints (partsN l n d set out))
  | 0, set, out, hset, hd, ho => by
    have hn := V.hi
    have h0 : set = 0 := by
      rcases Nat.eq_zero_or_pos set with h | h
      · exact h
      · have := size_pos hset hn (by omega)
        omega
    refine Ev.step (f := fun _ => some (ints out)) (fun k => ?_) (Ev.now _)
    simp only [impl_PartsOf.l0]
    rw [if_pos (by omega)]
  | d + 1, set, out, hset, hd, ho => by
    have hn := V.hi
    have h256 := pow_le_256 n hn
    unfold partsN
    by_cases h : set = 0
    · rw [if_pos h]
      refine Ev.step (f := fun _ => some (ints out)) (fun k => ?_) (Ev.now _)
      simp only [impl_PartsOf.l0]
      rw [if_pos (by omega)]
    · rw [if_neg h]
      have hl := low_mem hset hn h
      have hps := part_set l n set (low set) hl.2
      have hpl := hps.lt hset
      have hr := rest_less (l := l) hset hn h
      have ih := impl_parts_loop V d (minus set (part l n set (low set))) (out ++ [part l n set (low set)]) (minus_lt hset) (by omega) (by simp; omega)
      rw [ints_snoc] at ih
      refine Ev.step (fun k => by simp only [impl_PartsOf.l0]; rw [if_neg (show ¬ (set : Int) = 0 by omega), impl_least_is set (by omega) h, Option.bind_some]) ?_
      refine Ev.bind (impl_part_is V hset hl.2) ?_
      have hol : (ints out).length < 17592186044416 := by rw [ints_length]; omega
      simp only [hol, if_true]
      rw [andNot_nat _ _ (small _ n hset hn) (small _ n hpl hn)]
      exact ih

theorem both_lists {g f : Nat → Option (List Int)} {r : List Int} (hr : r.length ≤ 1000000) (h1 : Ev g r) (h2 : Ev f r) : ∃ (k : Nat) (r : List Int), r.length ≤ 1000000 ∧ g k = some r ∧ f k = some r := by
  obtain ⟨K, h1⟩ := h1
  obtain ⟨K', h2⟩ := h2
  exact ⟨max K K', r, hr, h1 _ (by omega), h2 _ (by omega)⟩

theorem FnExactPartsOf : laws_FnExactPartsOf.Same := by
  intro s l x _ _ _ _
  have hsp := spec_set s l x
  have him := impl_set s l x
  cases h : setB s l x with
  | false =>
    rw [h] at hsp him
    refine both_lists (r := []) (by decide) ?_ ?_
    · unfold spec_PartsOf.f
      exact Ev.bind hsp (Ev.now _)
    · unfold impl_PartsOf.f
      exact Ev.bind him (Ev.now _)
  | true =>
    rw [h] at hsp him
    obtain ⟨V, y, rfl, hy⟩ := (setB_iff s l x).mp h
    have hl := partsN_length l l.length 8 y []
    refine both_lists (r := ints (partsN l l.length 8 y [])) (by rw [ints_length]; simp at hl; omega) ?_ ?_
    · unfold spec_PartsOf.f
      refine Ev.bind hsp ?_
      simp only [if_true]
      refine Ev.bind (r := ints (partsN l l.length 8 y [])) (a := ints (partsN l l.length 8 y [])) ?_ (Ev.now _)
      unfold spec_l03Parts.f
      exact spec_parts_loop V 8 y [] hy (size_le y) (by decide)
    · unfold impl_PartsOf.f
      refine Ev.bind him ?_
      simp only [if_true]
      exact impl_parts_loop V 8 y [] hy (size_le y) (by decide)

end Go.Proofs.YtfnlbakeefcmeaaDoor.Pure

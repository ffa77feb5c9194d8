/- slices.Clone of whole numbers returns the same numbers in new memory; condition: at most a million of them. -/
import Derived.Test.YtbmpehclflbbaaaShelf
import Derived.Test.YtbmpehclflbbaaaQx0
namespace Go.Proofs.Ytbmpehclflbbaaa.Q
open Go.RowKit Go.Proofs.YtbmpehclflbbaaaW.PrintWords Go.Proofs.YtbmpehclflbbaaaW.PrintLast Go.Proofs.YtbmpehclflbbaaaW.PrintMore
def slices_Clone_int_int.f (l0 : List Int) : Option (List Int) := if l0.length ≤ 1000000 then some l0 else none
theorem clone_own {e : Nat} {w : World} {base : Nat} {v : Value} {xs : List Int} (h : w.ownsRow base e 1 v xs.length (xs.map (Value.int .i64))) : Kd.R (Kd.int .i64) e w base (fun _ => True) v xs := by
  refine ⟨fun _ _ => trivial, xs.map (Value.int .i64), h, by simp [Kd.int, Kd.scalar], fun j p hj => ?_⟩
  have hlt : j < xs.length := by
    rcases Nat.lt_or_ge j xs.length with h_ | h_
    · exact h_
    · rw [List.getElem?_eq_none h_] at hj; cases hj
  rw [List.getElem?_eq_getElem hlt] at hj
  obtain rfl := Option.some.inj hj
  show ((xs.map (Value.int .i64)).drop (j * 1)).take 1 = [Value.int .i64 xs[j]]
  rw [Nat.mul_one, List.drop_eq_getElem_cons (by simpa using hlt), List.take_succ_cons, List.take_zero, List.getElem_map]
theorem slices_Clone_int_int.calls (A0 : Option Addr) (c0 : Nat) (l0 : List Int) (r : List Int) (w : World) (hr0 : Kd.C (Kd.int .i64) w A0 l0.length l0) (hc0 : l0.length ≤ c0) (h : slices_Clone_int_int.f l0 = some r) :
    Calls Try.prog 68 #[.slice A0 l0.length c0] w fun e w' => ∃ v0_ : Value, e = .returned (v0_) ∧ Kd.R (Kd.int .i64) 3 w' w.heap.size (fun _ => True) v0_ r ∧ Below w.heap.size w w' := by
  unfold slices_Clone_int_int.f at h
  by_cases hl : l0.length ≤ 1000000
  · rw [if_pos hl] at h
    obtain rfl := Option.some.inj h
    cases A0 with
    | none =>
      have h0 : l0.length = 0 := by
        rcases Nat.eq_zero_or_pos l0.length with h_ | h_
        · exact h_
        · obtain ⟨ad, e, _⟩ := hr0.2.2 h_
          cases e
      obtain rfl := List.length_eq_zero_iff.mp h0
      refine (Try.slices_Clone_int_nil _ c0 w).mono fun e w' ⟨he, hw⟩ => ⟨_, he, ?_, ?_⟩
      · exact Kd.R_nil _ _ _ _ _
      · rw [hw]; exact Below.refl _ _
    | some ad =>
      rcases Nat.eq_zero_or_pos l0.length with h0 | h0
      · obtain rfl := List.length_eq_zero_iff.mp h0
        exact (Try.slices_Clone_int_zero ad c0 w).mono fun e w' ⟨v, he, ho, _, hb⟩ => ⟨v, he, clone_own (xs := []) ho, hb⟩
      · obtain ⟨ad', e, hcell⟩ := hr0.2.2 h0
        obtain rfl := Option.some.inj e
        obtain ⟨b, off, sp⟩ := ad
        have hget : ∀ j, j < l0.length → w.cell? ((⟨b, off, sp⟩ : Addr).add j) = some (.int .i64 (l0.getD j 0)) := fun j hj => by
          obtain ⟨c, hc, hk, hcl⟩ := hcell j _ (List.getElem?_eq_getElem hj)
          have hk' : c = [Value.int .i64 l0[j]] := hk
          subst hk'
          have := hcl 0 _ rfl
          rw [List.getD_eq_getElem?_getD, List.getElem?_eq_getElem hj, Option.getD_some]
          simpa [Kd.int, Kd.scalar] using this
        have hsp : sp = none := by
          have h1 := hget 0 h0
          rw [show (⟨b, off, sp⟩ : Addr).add 0 = ⟨b, off, sp⟩ by simp [Addr.add]] at h1
          unfold World.cell? at h1
          split at h1
          · cases sp with
            | none => rfl
            | some x => simp at h1
          · cases h1
        subst hsp
        have hget2 : ∀ j, j < l0.length → w.cell? ⟨b, off + j, none⟩ = some (.int .i64 (l0.getD j 0)) := fun j hj => by
          have := hget j hj
          rcases Nat.eq_zero_or_pos j with h_ | h_
          · subst h_
            simpa [Addr.add] using this
          · have hj0 : j ≠ 0 := by omega
            simpa [Addr.add, hj0] using this
        have hz := Try.slices_Clone_int b off l0.length c0 l0 w (Nat.le_refl _) (by omega) hget2
        rw [List.take_of_length_le (Nat.le_refl _)] at hz
        exact hz.mono fun e w' ⟨v, he, ho, _, hb⟩ => ⟨v, he, clone_own ho, hb⟩
  · rw [if_neg hl] at h
    cases h
end Go.Proofs.Ytbmpehclflbbaaa.Q

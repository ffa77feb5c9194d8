/- strings.Join returns the texts with the sign between, as the kit's plain function tells it; condition: at most a million texts and 2^47 bytes. -/
import Derived.Test.YthfjphkhpfmdcaaGreatDoorShelf
import Derived.Test.YthfjphkhpfmdcaaGreatDoorMCardFnExactParseGraph0
namespace Go.Proofs.YthfjphkhpfmdcaaGreatDoor.Q
open Go.RowKit Go.Proofs.YthfjphkhpfmdcaaGreatDoorW.PrintWords Go.Proofs.YthfjphkhpfmdcaaGreatDoorW.PrintLast Go.Proofs.YthfjphkhpfmdcaaGreatDoorW.PrintMore
def strings_Join.f (l0 : List ByteArray) (a1 : ByteArray) : Option ByteArray := if l0.length ≤ 1000000 ∧ (Lib.join (l0.map (·.data.toList)) a1.data.toList).length ≤ 140737488355328 then some ⟨(Lib.join (l0.map (·.data.toList)) a1.data.toList).toArray⟩ else none
theorem strings_Join.calls (A0 : Option Addr) (c0 : Nat) (l0 : List ByteArray) (a1 : ByteArray) (r : ByteArray) (w : World) (hr0 : Kd.C (Kd.string) w A0 l0.length l0) (hc0 : l0.length ≤ c0) (h : strings_Join.f l0 a1 = some r) :
    Calls Tryz.prog 41 #[.slice A0 l0.length c0, .string a1] w fun e w' => e = .returned (.string r) ∧ Below w.heap.size w w' := by
  unfold strings_Join.f at h
  by_cases hl : l0.length ≤ 1000000 ∧ (Lib.join (l0.map (·.data.toList)) a1.data.toList).length ≤ 140737488355328
  · rw [if_pos hl] at h
    obtain rfl := Option.some.inj h
    rcases Nat.eq_zero_or_pos l0.length with h0 | h0
    · obtain rfl := List.length_eq_zero_iff.mp h0
      exact (Tryz.strings_Join_none A0 c0 a1 w).mono fun e w' ⟨he, hw⟩ => ⟨he, by rw [hw]; exact Below.refl _ _⟩
    · obtain ⟨ad, e, hcell⟩ := hr0.2.2 h0
      subst e
      obtain ⟨b, off, sp⟩ := ad
      have hget : ∀ (j : Nat) x, l0[j]? = some x → w.cell? ((⟨b, off, sp⟩ : Addr).add j) = some (.string x) := fun j x hj => by
        obtain ⟨c, hc, hk, hcl⟩ := hcell j x hj
        have hk' : c = [Value.string x] := hk
        subst hk'
        have := hcl 0 _ rfl
        simpa [Kd.string, Kd.scalar] using this
      have h1 := hget 0 _ (List.getElem?_eq_getElem h0)
      rw [show (⟨b, off, sp⟩ : Addr).add 0 = ⟨b, off, sp⟩ by simp [Addr.add]] at h1
      have hsp : sp = none ∧ b < w.heap.size := by
        unfold World.cell? at h1
        split at h1
        · rename_i c _ _ hb
          refine ⟨?_, (Array.getElem?_eq_some_iff.mp hb).1⟩
          cases sp with
          | none => rfl
          | some x => simp at h1
        · cases h1
      obtain ⟨rfl, hb⟩ := hsp
      exact Tryz.strings_Join b off c0 l0 a1 w (fun j x hj => by
        have := hget j x hj
        rcases Nat.eq_zero_or_pos j with h_ | h_
        · subst h_
          simpa [Addr.add] using this
        · have hj0 : j ≠ 0 := by omega
          simpa [Addr.add, hj0] using this) hb (by omega) hc0 hl.2
  · rw [if_neg hl] at h
    cases h
end Go.Proofs.YthfjphkhpfmdcaaGreatDoor.Q

/- FormatSet of the program and FormatSet of the reference give the same text at every whole number; no condition. -/
import Derived.Test.YtfnlbakeefcmeaaDoorQx32
namespace Go.Proofs.YtfnlbakeefcmeaaDoor.Pure
open Go.RowKit Go.Proofs.YtfnlbakeefcmeaaDoor.Q Go.Proofs.YtfnlbakeefcmeaaDoorW.PrintWords Go.Proofs.YtfnlbakeefcmeaaDoorW.PrintLast

theorem formatSet_small : ∀ n : Fin 256, laws_FnExactFormatSet.f 40 ((n.val : Nat) : Int) = some true := by decide +kernel

theorem formatSet_out (a : Int) (h : a < 0 ∨ 255 < a) : laws_FnExactFormatSet.f 40 a = some true := by
  have h1 : spec_FormatSet.f 40 a = some ⟨#[]⟩ := by
    unfold spec_FormatSet.f spec_l01In.f
    by_cases h0 : a ≥ 0
    · rw [if_pos h0]; simp only [Option.bind_some]; rw [if_neg (by simp; omega)]
    · rw [if_neg h0]; rfl
  have h2 : impl_FormatSet.f 40 a = some ⟨#[]⟩ := by
    unfold impl_FormatSet.f impl_isSet.f impl_in.f
    by_cases h0 : 0 ≤ a
    · rw [if_pos h0]; simp only [Option.bind_some]; rw [if_neg (by simp; omega)]
    · rw [if_neg h0]; rfl
  unfold laws_FnExactFormatSet.f
  rw [h1, h2, Option.bind_some, Option.bind_some, if_pos rfl]

theorem FnExactFormatSet : laws_FnExactFormatSet.Pure := by
  intro a _
  refine ⟨40, ?_⟩
  by_cases h : a < 0 ∨ 255 < a
  · exact formatSet_out a h
  · obtain ⟨i, rfl⟩ : ∃ i : Fin 256, a = ((i.val : Nat) : Int) := ⟨⟨a.toNat, by omega⟩, by simp; omega⟩
    exact formatSet_small i

end Go.Proofs.YtfnlbakeefcmeaaDoor.Pure

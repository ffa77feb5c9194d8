/- ListSet of the program and ListSet of the reference give the same list at every whole number; no condition. -/
import Derived.Test.YtnnhnbpgabbflaaPFnExactListSetx2
namespace Go.Proofs.Ytnnhnbpgabbflaa.Pure
open Go.RowKit Go.Proofs.Ytnnhnbpgabbflaa.PFnExactListSet Go.Proofs.YtnnhnbpgabbflaaW.PrintWords Go.Proofs.YtnnhnbpgabbflaaW.PrintLast

theorem listSet_small : ∀ n : Fin 256, laws_FnExactListSet.f 20 ((n.val : Nat) : Int) = some true := by decide +kernel

theorem listSet_out (a : Int) (h : a < 0 ∨ 255 < a) : laws_FnExactListSet.f 20 a = some true := by
  have h1 : spec_ListSet.f 20 a = some [] := by
    unfold spec_ListSet.f spec_l01In.f
    by_cases h0 : a ≥ 0
    · rw [if_pos h0]; simp only [Option.bind_some]; rw [if_neg (by simp; omega)]
    · rw [if_neg h0]; rfl
  have h2 : impl_ListSet.f 20 a = some [] := by
    unfold impl_ListSet.f impl_isSet.f impl_in.f
    by_cases h0 : 0 ≤ a
    · rw [if_pos h0]; simp only [Option.bind_some]; rw [if_neg (by simp; omega)]
    · rw [if_neg h0]; rfl
  unfold laws_FnExactListSet.f
  rw [h1, h2]
  rfl

theorem FnExactListSet : laws_FnExactListSet.Pure := by
  intro a _
  refine ⟨20, ?_⟩
  by_cases h : a < 0 ∨ 255 < a
  · exact listSet_out a h
  · have e : a = ((⟨a.toNat, by omega⟩ : Fin 256).val : Int) := by simp; omega
    rw [e]
    exact listSet_small _

end Go.Proofs.Ytnnhnbpgabbflaa.Pure

/- CountSet of the program and CountSet of the reference give the same number at every whole number; no condition. -/
import Derived.Test.YtnnhnbpgabbflaaQx8
namespace Go.Proofs.Ytnnhnbpgabbflaa.Pure
open Go.RowKit Go.Proofs.Ytnnhnbpgabbflaa.Q Go.Proofs.YtnnhnbpgabbflaaW.PrintWords Go.Proofs.YtnnhnbpgabbflaaW.PrintLast

theorem countSet_small : ∀ n : Fin 256, laws_FnExactCountSet.f 20 ((n.val : Nat) : Int) = some true := by decide +kernel

theorem countSet_out (a : Int) (h : a < 0 ∨ 255 < a) : laws_FnExactCountSet.f 20 a = some true := by
  have h1 : spec_CountSet.f 20 a = some 0 := by
    unfold spec_CountSet.f spec_l01In.f
    by_cases h0 : a ≥ 0
    · rw [if_pos h0]; simp only [Option.bind_some]; rw [if_neg (by simp; omega)]
    · rw [if_neg h0]; rfl
  have h2 : impl_CountSet.f a = some 0 := by
    unfold impl_CountSet.f impl_isSet.f impl_in.f
    by_cases h0 : 0 ≤ a
    · rw [if_pos h0]; simp only [Option.bind_some]; rw [if_neg (by simp; omega)]
    · rw [if_neg h0]; rfl
  unfold laws_FnExactCountSet.f
  rw [h1, h2]
  rfl

theorem FnExactCountSet : laws_FnExactCountSet.Pure := by
  intro a _
  refine ⟨20, ?_⟩
  by_cases h : a < 0 ∨ 255 < a
  · exact countSet_out a h
  · have e : a = ((⟨a.toNat, by omega⟩ : Fin 256).val : Int) := by simp; omega
    rw [e]
    exact countSet_small _

end Go.Proofs.Ytnnhnbpgabbflaa.Pure

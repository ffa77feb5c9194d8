/- strings.Repeat returns the text so many times, as the kit's plain function tells it; condition: a result of at most 2^47 bytes. -/
import Derived.Test.YthfjphkhpfmdcaaShelf
import Derived.Test.YthfjphkhpfmdcaaQx0
namespace Go.Proofs.Ythfjphkhpfmdcaa.Q
open Go.RowKit Go.Proofs.YthfjphkhpfmdcaaW.PrintWords Go.Proofs.YthfjphkhpfmdcaaW.PrintLast Go.Proofs.YthfjphkhpfmdcaaW.PrintMore
def strings_Repeat.f (a0 : ByteArray) (a1 : Int) : Option ByteArray := if 0 ≤ a1 ∧ a1 ≤ 1000000 ∧ a0.size ≤ 1000000 then some ⟨(Lib.repeatL a0.data.toList a1.toNat).toArray⟩ else none
theorem strings_Repeat.calls (a0 : ByteArray) (a1 : Int) (r : ByteArray) (w : World) (h : strings_Repeat.f a0 a1 = some r) :
    Calls Try.prog 73 #[.string a0, .int .i64 a1] w fun e w' => e = .returned (.string r) ∧ Below w.heap.size w w' := by
  unfold strings_Repeat.f at h
  by_cases hc : 0 ≤ a1 ∧ a1 ≤ 1000000 ∧ a0.size ≤ 1000000
  · rw [if_pos hc] at h
    obtain rfl := Option.some.inj h
    obtain ⟨n, rfl⟩ : ∃ n : Nat, a1 = (n : Int) := ⟨a1.toNat, by omega⟩
    rw [Int.toNat_natCast]
    have h1 : n ≤ 1000000 := by omega
    have h2 : a0.size * n ≤ 1000000 * 1000000 := Nat.mul_le_mul hc.2.2 h1
    exact Try.strings_Repeat a0 n w (by omega) (by omega)
  · rw [if_neg hc] at h
    cases h
end Go.Proofs.Ythfjphkhpfmdcaa.Q

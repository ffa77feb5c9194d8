/- strconv.Itoa of a whole number is its sign and its digits, as the kit's plain function tells it; condition: the library's table holds what its text lays. -/
import Derived.Test.YthfjphkhpfmdcaaGreatDoorShelf
import Derived.Test.YthfjphkhpfmdcaaGreatDoorMCardFnExactParseGraph0
import Derived.Lib.AppendIntMem
namespace Go.Proofs.YthfjphkhpfmdcaaGreatDoor.Q
open Go.RowKit Go.Proofs.YthfjphkhpfmdcaaGreatDoorW.PrintWords Go.Proofs.YthfjphkhpfmdcaaGreatDoorW.PrintLast Go.Proofs.YthfjphkhpfmdcaaGreatDoorW.PrintMore
def strconv_Itoa_31.f (a0 : Int) : Option ByteArray := if -9223372036854775808 ≤ a0 ∧ a0 ≤ 9223372036854775807 then some ⟨(Lib.itoa a0).toArray⟩ else none
theorem strconv_Itoa_31.calls (a0 : Int) (r : ByteArray) (w : World) (hT_ : TabE w) (h : strconv_Itoa_31.f a0 = some r) :
    Calls Tryz.prog 31 #[.int .i64 a0] w fun e w' => e = .returned (.string r) ∧ Below w.heap.size w w' := by
  unfold strconv_Itoa_31.f at h
  by_cases hc : -9223372036854775808 ≤ a0 ∧ a0 ≤ 9223372036854775807
  · rw [if_pos hc] at h
    obtain rfl := Option.some.inj h
    refine (Tryz.strconv_Itoa a0 hc.1 hc.2 w hT_.1).mono fun e w' ⟨he, k, os, hw⟩ => ⟨he, ?_⟩
    rw [hw]
    exact Go.Lib.below_grow _ w (Nat.le_refl _) k os
  · rw [if_neg hc] at h
    cases h
end Go.Proofs.YthfjphkhpfmdcaaGreatDoor.Q

/- strconv.Itoa of a number below a hundred is its digits, as the kit's plain function tells it; condition: from 0 to 99. -/
import Derived.Test.YtfnlbakeefcmeaaDoorShelf
import Derived.Test.YtfnlbakeefcmeaaDoorQx0
namespace Go.Proofs.YtfnlbakeefcmeaaDoor.Q
open Go.RowKit Go.Proofs.YtfnlbakeefcmeaaDoorW.PrintWords Go.Proofs.YtfnlbakeefcmeaaDoorW.PrintLast Go.Proofs.YtfnlbakeefcmeaaDoorW.PrintMore
def strconv_Itoa_85.f (a0 : Int) : Option ByteArray := if 0 ≤ a0 ∧ a0 < 100 then some ⟨(Lib.decDigits a0.toNat).toArray⟩ else none
theorem strconv_Itoa_85.calls (a0 : Int) (r : ByteArray) (w : World) (h : strconv_Itoa_85.f a0 = some r) :
    Calls Tryd.prog 85 #[.int .i64 a0] w fun e w' => e = .returned (.string r) ∧ Drawn0 w w' := by
  unfold strconv_Itoa_85.f at h
  by_cases hc : 0 ≤ a0 ∧ a0 < 100
  · rw [if_pos hc] at h
    obtain rfl := Option.some.inj h
    obtain ⟨n, rfl⟩ : ∃ n : Nat, a0 = (n : Int) := ⟨a0.toNat, by omega⟩
    rw [Int.toNat_natCast]
    exact (Tryd.strconv_Itoa_small n (by omega) w).mono fun e w' ⟨he, hw⟩ => ⟨he, hw ▸ Drawn0.refl w⟩
  · rw [if_neg hc] at h
    cases h
end Go.Proofs.YtfnlbakeefcmeaaDoor.Q

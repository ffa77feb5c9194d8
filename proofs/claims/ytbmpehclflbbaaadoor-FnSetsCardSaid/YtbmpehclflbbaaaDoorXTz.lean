/- math/bits.TrailingZeros counts the empty places below the first, as the kit's plain function tells it; condition: the library's table holds what its text lays. -/
import Derived.Test.YtbmpehclflbbaaaDoorShelf
import Derived.Test.YtbmpehclflbbaaaDoorQx0
import Derived.Test.YtbmpehclflbbaaaDoorXTab
namespace Go.Proofs.YtbmpehclflbbaaaDoor.Q
open Go.RowKit Go.Proofs.YtbmpehclflbbaaaDoorW.PrintWords Go.Proofs.YtbmpehclflbbaaaDoorW.PrintLast Go.Proofs.YtbmpehclflbbaaaDoorW.PrintMore
def bits_TrailingZeros.f (a0 : Int) : Option Int := if 0 ≤ a0 ∧ a0 < 18446744073709551616 then some ((Lib.ctz 64 a0.toNat : Nat) : Int) else none
theorem bits_TrailingZeros.calls (a0 : Int) (r : Int) (w : World) (hT_ : TabZ w) (h : bits_TrailingZeros.f a0 = some r) :
    Calls Tryd.prog 48 #[.int .u64 a0] w fun e w' => e = .returned (.int .i64 r) ∧ Drawn0 w w' := by
  unfold bits_TrailingZeros.f at h
  by_cases hc : 0 ≤ a0 ∧ a0 < 18446744073709551616
  · rw [if_pos hc] at h
    obtain rfl := Option.some.inj h
    obtain ⟨n, rfl⟩ : ∃ n : Nat, a0 = (n : Int) := ⟨a0.toNat, by omega⟩
    rw [Int.toNat_natCast]
    exact (Tryd.bits_TrailingZeros n (by omega) w (fun _ => hT_)).mono fun e w' ⟨he, hw⟩ => ⟨he, hw ▸ Drawn0.refl w⟩
  · rw [if_neg hc] at h
    cases h
end Go.Proofs.YtbmpehclflbbaaaDoor.Q

/- The linked part of a set and all its linked parts, by the reference and by the program; condition: a valid graph and a set of it. -/
import Derived.Test.YtfnlbakeefcmeaaDoorPNearN
import Derived.Test.YtfnlbakeefcmeaaDoorMCardFnCovers0
import Derived.Test.YtfnlbakeefcmeaaDoorMCardFnCovers2
import Derived.Test.YtfnlbakeefcmeaaDoorMCardFnCovers1
import Derived.Test.YtfnlbakeefcmeaaDoorQx29N
namespace Go.Proofs.YtfnlbakeefcmeaaDoor.Pure
open Go.RowKit Go.Proofs.YtfnlbakeefcmeaaDoor.Q Go.Proofs.YtfnlbakeefcmeaaDoorW.PrintWords Go.Proofs.YtfnlbakeefcmeaaDoorW.PrintLast Go.Proofs.YtfnlbakeefcmeaaDoorW.PrintMore

theorem impl_least_all : ∀ x : Fin 256, x.val ≠ 0 → impl_least.f ((x.val : Nat) : Int) = some ((low x.val : Nat) : Int) := by decide +kernel
theorem impl_least_is (x : Nat) (hx : x < 256) (h : x ≠ 0) : impl_least.f (x : Int) = some ((low x : Nat) : Int) := impl_least_all ⟨x, hx⟩ h
end Go.Proofs.YtfnlbakeefcmeaaDoor.Pure

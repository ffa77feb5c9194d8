/- How many vertices a set has, by the reference and by the program; condition: a set of at most eight vertices. -/
import Derived.Test.YtfnlbakeefcmeaaDoorPlain
import Derived.Test.YtfnlbakeefcmeaaDoorMCardFnCovers0
import Derived.Test.YtfnlbakeefcmeaaDoorMCardFnCovers2
namespace Go.Proofs.YtfnlbakeefcmeaaDoor.Pure
open Go.RowKit Go.Proofs.YtfnlbakeefcmeaaDoor.Q Go.Proofs.YtfnlbakeefcmeaaDoorW.PrintWords Go.Proofs.YtfnlbakeefcmeaaDoorW.PrintLast Go.Proofs.YtfnlbakeefcmeaaDoorW.PrintMore

theorem impl_size_all : ∀ x : Fin 256, impl_CountSet.f ((x.val : Nat) : Int) = some ((size x.val : Nat) : Int) := by decide +kernel
theorem impl_size (x : Nat) (hx : x < 256) : impl_CountSet.f (x : Int) = some ((size x : Nat) : Int) := impl_size_all ⟨x, hx⟩

end Go.Proofs.YtfnlbakeefcmeaaDoor.Pure

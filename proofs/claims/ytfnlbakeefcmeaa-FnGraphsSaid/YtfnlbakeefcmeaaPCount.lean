/- How many vertices a set has, by the reference and by the program; condition: a set of at most eight vertices. -/
import Derived.Test.YtfnlbakeefcmeaaPlain
import Derived.Test.YtfnlbakeefcmeaaQx4
namespace Go.Proofs.Ytfnlbakeefcmeaa.Pure
open Go.RowKit Go.Proofs.Ytfnlbakeefcmeaa.Q Go.Proofs.YtfnlbakeefcmeaaW.PrintWords Go.Proofs.YtfnlbakeefcmeaaW.PrintLast Go.Proofs.YtfnlbakeefcmeaaW.PrintMore

theorem impl_size_all : ∀ x : Fin 256, impl_CountSet.f ((x.val : Nat) : Int) = some ((size x.val : Nat) : Int) := by decide +kernel
theorem impl_size (x : Nat) (hx : x < 256) : impl_CountSet.f (x : Int) = some ((size x : Nat) : Int) := impl_size_all ⟨x, hx⟩

end Go.Proofs.Ytfnlbakeefcmeaa.Pure

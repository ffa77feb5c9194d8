/- The program's list of a set's vertices; condition: a set of at most eight vertices. -/
import Derived.Test.YtfnlbakeefcmeaaPlain
import Derived.Test.YtfnlbakeefcmeaaQx9
namespace Go.Proofs.Ytfnlbakeefcmeaa.Pure
open Go.RowKit Go.Proofs.Ytfnlbakeefcmeaa.Q Go.Proofs.YtfnlbakeefcmeaaW.PrintWords Go.Proofs.YtfnlbakeefcmeaaW.PrintLast Go.Proofs.YtfnlbakeefcmeaaW.PrintMore

theorem impl_list_all : ∀ x : Fin 256, impl_ListSet.f 10 ((x.val : Nat) : Int) = some (ints (bitsOf x.val)) := by decide +kernel
theorem impl_list (x : Nat) (hx : x < 256) : Ev (fun k => impl_ListSet.f k (x : Int)) (ints (bitsOf x)) :=
  Ev.of (fun k => impl_ListSet.mono (x : Int) k) (impl_list_all ⟨x, hx⟩)

end Go.Proofs.Ytfnlbakeefcmeaa.Pure

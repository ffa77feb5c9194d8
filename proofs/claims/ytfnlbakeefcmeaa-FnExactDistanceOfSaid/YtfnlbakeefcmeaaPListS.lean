/- The reference's list of a set's vertices; condition: a set of at most eight vertices. -/
import Derived.Test.YtfnlbakeefcmeaaPlain
import Derived.Test.YtfnlbakeefcmeaaQx16
namespace Go.Proofs.Ytfnlbakeefcmeaa.Pure
open Go.RowKit Go.Proofs.Ytfnlbakeefcmeaa.Q Go.Proofs.YtfnlbakeefcmeaaW.PrintWords Go.Proofs.YtfnlbakeefcmeaaW.PrintLast Go.Proofs.YtfnlbakeefcmeaaW.PrintMore

theorem spec_list_all : ∀ x : Fin 256, spec_l02List.f 10 ((x.val : Nat) : Int) = some (ints (bitsOf x.val)) := by decide +kernel
theorem spec_list (x : Nat) (hx : x < 256) : Ev (fun k => spec_l02List.f k (x : Int)) (ints (bitsOf x)) :=
  Ev.of (fun k => spec_l02List.mono (x : Int) k) (spec_list_all ⟨x, hx⟩)

end Go.Proofs.Ytfnlbakeefcmeaa.Pure

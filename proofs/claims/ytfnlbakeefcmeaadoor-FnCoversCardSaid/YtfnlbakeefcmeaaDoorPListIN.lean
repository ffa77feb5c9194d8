/- The program's list of a set's vertices; condition: a set of at most eight vertices. -/
import Derived.Test.YtfnlbakeefcmeaaDoorPlain
import Derived.Test.YtfnlbakeefcmeaaDoorMCardFnCovers0
namespace Go.Proofs.YtfnlbakeefcmeaaDoor.Pure
open Go.RowKit Go.Proofs.YtfnlbakeefcmeaaDoor.Q Go.Proofs.YtfnlbakeefcmeaaDoorW.PrintWords Go.Proofs.YtfnlbakeefcmeaaDoorW.PrintLast Go.Proofs.YtfnlbakeefcmeaaDoorW.PrintMore

theorem impl_list_all : ∀ x : Fin 256, impl_ListSet.f 10 ((x.val : Nat) : Int) = some (ints (bitsOf x.val)) := by decide +kernel
theorem impl_list (x : Nat) (hx : x < 256) : Ev (fun k => impl_ListSet.f k (x : Int)) (ints (bitsOf x)) :=
  Ev.of (fun k => impl_ListSet.mono (x : Int) k) (impl_list_all ⟨x, hx⟩)

end Go.Proofs.YtfnlbakeefcmeaaDoor.Pure

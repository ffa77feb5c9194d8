/- The program's list of a set's vertices; condition: a set of at most eight vertices. -/
import Derived.Test.YtbmpehclflbbaaaDoorPlain
import Derived.Test.YtbmpehclflbbaaaDoorQx21N
namespace Go.Proofs.YtbmpehclflbbaaaDoor.Pure
open Go.RowKit Go.Proofs.YtbmpehclflbbaaaDoor.Q Go.Proofs.YtbmpehclflbbaaaDoorW.PrintWords Go.Proofs.YtbmpehclflbbaaaDoorW.PrintLast Go.Proofs.YtbmpehclflbbaaaDoorW.PrintMore

theorem impl_list_all : ∀ x : Fin 256, impl_ListSet.f 10 ((x.val : Nat) : Int) = some (ints (bitsOf x.val)) := by decide +kernel
theorem impl_list (x : Nat) (hx : x < 256) : Ev (fun k => impl_ListSet.f k (x : Int)) (ints (bitsOf x)) :=
  Ev.of (fun k => impl_ListSet.mono (x : Int) k) (impl_list_all ⟨x, hx⟩)

end Go.Proofs.YtbmpehclflbbaaaDoor.Pure

/- The reference's list of a set's vertices; condition: a set of at most eight vertices. -/
import Derived.Test.YtbmpehclflbbaaaPlain
import Derived.Test.YtbmpehclflbbaaaQx3
namespace Go.Proofs.Ytbmpehclflbbaaa.Pure
open Go.RowKit Go.Proofs.Ytbmpehclflbbaaa.Q Go.Proofs.YtbmpehclflbbaaaW.PrintWords Go.Proofs.YtbmpehclflbbaaaW.PrintLast Go.Proofs.YtbmpehclflbbaaaW.PrintMore

theorem spec_list_all : ∀ x : Fin 256, spec_l02List.f 10 ((x.val : Nat) : Int) = some (ints (bitsOf x.val)) := by decide +kernel
theorem spec_list (x : Nat) (hx : x < 256) : Ev (fun k => spec_l02List.f k (x : Int)) (ints (bitsOf x)) :=
  Ev.of (fun k => spec_l02List.mono (x : Int) k) (spec_list_all ⟨x, hx⟩)

end Go.Proofs.Ytbmpehclflbbaaa.Pure

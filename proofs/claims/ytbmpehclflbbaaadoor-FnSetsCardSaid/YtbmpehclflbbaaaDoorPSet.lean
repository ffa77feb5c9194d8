/- SetOk of the program and of the reference both tell whether the number is a set of a valid graph; no condition. -/
import Derived.Test.YtbmpehclflbbaaaDoorPOk
import Derived.Test.YtbmpehclflbbaaaDoorQx6
import Derived.Test.YtbmpehclflbbaaaDoorQx0
import Derived.Test.YtbmpehclflbbaaaDoorQx1
namespace Go.Proofs.YtbmpehclflbbaaaDoor.Pure
open Go.RowKit Go.Proofs.YtbmpehclflbbaaaDoor.Q Go.Proofs.YtbmpehclflbbaaaDoorW.PrintWords Go.Proofs.YtbmpehclflbbaaaDoorW.PrintLast Go.Proofs.YtbmpehclflbbaaaDoorW.PrintMore

theorem impl_set (s : Int) (l : List Int) (x : Int) : Ev (fun k => impl_SetOk.f k s l x) (setB s l x) := by
  unfold impl_SetOk.f
  refine Ev.bind (impl_ok s l) ?_
  unfold setB
  cases h : okB s l with
  | false => exact Ev.now false
  | true =>
    have V := (okB_iff s l).mp h
    simp only [if_true, Bool.true_and]
    rw [V.size, impl_all_is _ l V.hi, Option.bind_some, impl_in_is]
    exact Ev.now _

end Go.Proofs.YtbmpehclflbbaaaDoor.Pure

/- SetOk of the program and of the reference both tell whether the number is a set of a valid graph; no condition. -/
import Derived.Test.YtfnlbakeefcmeaaDoorPOkN
import Derived.Test.YtfnlbakeefcmeaaDoorMCardFnCovers0
import Derived.Test.YtfnlbakeefcmeaaDoorMCardFnCovers2
import Derived.Test.YtfnlbakeefcmeaaDoorMCardFnCovers1
namespace Go.Proofs.YtfnlbakeefcmeaaDoor.Pure
open Go.RowKit Go.Proofs.YtfnlbakeefcmeaaDoor.Q Go.Proofs.YtfnlbakeefcmeaaDoorW.PrintWords Go.Proofs.YtfnlbakeefcmeaaDoorW.PrintLast Go.Proofs.YtfnlbakeefcmeaaDoorW.PrintMore

theorem impl_set (s : Int) (l : List Int) (x : Int) : Ev (fun k => impl_SetOk.f k s l x) (setB s l x) := by
  unfold impl_SetOk.f
  refine Ev.bind (impl_ok s l) ?_
  unfold setB
  cases h : okB s l with
  | false => exact Ev.now false
  | true =>
    have V := (okB_iff s l).mp h
    simp only [if_true, Bool.true_and]
    rw [V.size, impl_all_is _ l V.hi, Option.bind_some, impl_in_is]
    exact Ev.now _

end Go.Proofs.YtfnlbakeefcmeaaDoor.Pure

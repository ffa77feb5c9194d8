/- FormatInt of the program and FormatInt of the reference give the same text at every whole number; no condition. -/
import Derived.Test.YtbmpehclflbbaaaDoorPFmtInt
import Derived.Test.YtbmpehclflbbaaaDoorQx24
namespace Go.Proofs.YtbmpehclflbbaaaDoor.Pure
open Go.RowKit Go.Proofs.YtbmpehclflbbaaaDoor.Q Go.Proofs.YtbmpehclflbbaaaDoorW.PrintWords Go.Proofs.YtbmpehclflbbaaaDoorW.PrintLast Go.Proofs.YtbmpehclflbbaaaDoorW.PrintMore

theorem FnExactFormatInt : laws_FnExactFormatInt.Pure := by
  intro z hz
  have hb := wf_bounds z hz
  have h2 : impl_FormatInt.f z = some (tx (Lib.itoa z)) := by
    unfold impl_FormatInt.f strconv_Itoa_37.f
    rw [if_pos hb]
    rfl
  refine Ev.rounds (r := true) ?_
  unfold laws_FnExactFormatInt.f
  refine Ev.bind (spec_fmt z hb.1 hb.2) ?_
  rw [h2]
  simp only [Option.bind_some, if_true]
  exact Ev.now _

end Go.Proofs.YtbmpehclflbbaaaDoor.Pure

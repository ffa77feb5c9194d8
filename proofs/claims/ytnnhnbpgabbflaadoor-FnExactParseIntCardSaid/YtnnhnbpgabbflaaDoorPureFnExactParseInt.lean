/- ParseInt of the program and ParseInt of the reference answer alike at every string; no condition. -/
import Derived.Test.YtnnhnbpgabbflaaDoorQx8
import Derived.Test.YtnnhnbpgabbflaaDoorPParse
namespace Go.Proofs.YtnnhnbpgabbflaaDoor.Pure
open Go.RowKit Go.Proofs.YtnnhnbpgabbflaaDoor.Q Go.Proofs.YtnnhnbpgabbflaaDoorW.PrintWords Go.Proofs.YtnnhnbpgabbflaaDoorW.PrintLast Go.Proofs.YtnnhnbpgabbflaaDoorW.PrintMore

theorem FnExactParseInt : laws_FnExactParseInt.Pure := by
  intro s _
  refine Ev.rounds (r := true) ?_
  unfold laws_FnExactParseInt.f
  by_cases hbig : (s.size : Int) > 1000000
  · exact Ev.congr (fun k => if_pos hbig) (Ev.now _)
  · refine Ev.congr (fun k => if_neg hbig) ?_
    have h2 : impl_ParseInt.f s = some (ansB s) := by
      unfold impl_ParseInt.f
      rw [if_pos (by omega), ans_parsed]
    refine Ev.bind (spec_parse s (by omega)) ?_
    rw [h2]
    simp only [Option.bind_some, if_true, bne_self_eq_false, Bool.false_eq_true, if_false]
    exact Ev.now _

end Go.Proofs.YtnnhnbpgabbflaaDoor.Pure

-- Made by a program of this session (wip/tools), out of Lean's own print of the translation.
import Derived.Test.YtbmpehclflbbaaaDoorProg
import Derived.Below
import Derived.Deep.Draws
import Derived.Deep.AppendLies
import Derived.Maps.AppendAt
import Derived.OwnWalk
import Derived.Laws.BytesArg
import Derived.Laws.MakeOwn
import Derived.Laws.OwnMore
import Derived.Deep.OwnRows
import Derived.Tactics
import Derived.Lib.ConvBytes
import Derived.Laws.Slices
import Derived.WalkKit
import Derived.KernelRfl
import Derived.RowKit3
import Derived.Deep.LoopGhost
import Derived.Deep.QuietTactic
import Derived.BigQuiet
import Derived.WideLaws
import Derived.Deep.DeepCutAuto
import Derived.Deep.CutBlock
import Derived.Deep.RegionHeld3
import Derived.Laws.Rows
import Derived.Lib.AppendStr
import Derived.ArgAppend
import Derived.Laws.IdiomCopy
import Derived.OrdersHeld
import Derived.Laws.BitsLemmas
import Derived.RowKit
import Derived.Test.YtbmpehclflbbaaaDoorWWords
import Derived.Test.YtbmpehclflbbaaaDoorWLast
import Derived.Test.YtbmpehclflbbaaaDoorWTab
import Derived.Test.YtbmpehclflbbaaaDoorWFour
import Derived.Test.YtbmpehclflbbaaaDoorWQPut
import Derived.Test.YtbmpehclflbbaaaDoorWApart
import Derived.Test.YtbmpehclflbbaaaDoorWArr
import Derived.Test.YtbmpehclflbbaaaDoorWZeros
import Derived.Test.YtbmpehclflbbaaaDoorWFoot
import Derived.Test.YtbmpehclflbbaaaDoorWKept
import Derived.Test.YtbmpehclflbbaaaDoorWShare
import Derived.Test.YtbmpehclflbbaaaDoorWN
import Derived.Test.YtbmpehclflbbaaaDoorWFootNe
import Derived.Test.YtbmpehclflbbaaaDoorWAt
import Derived.Test.YtbmpehclflbbaaaDoorWEqStruct
import Derived.Test.YtbmpehclflbbaaaDoorWRepsOne
import Derived.Test.YtbmpehclflbbaaaDoorWInv
import Derived.Test.YtbmpehclflbbaaaDoorWInvWords
import Derived.Test.YtbmpehclflbbaaaDoorWGuard
import Derived.Test.YtbmpehclflbbaaaDoorWNEv
import Derived.Test.YtbmpehclflbbaaaDoorWMore
namespace Go.Proofs.YtbmpehclflbbaaaDoor.Q
open Go.RowKit Go.Proofs.YtbmpehclflbbaaaDoorW.PrintWords Go.Proofs.YtbmpehclflbbaaaDoorW.PrintLast Go.Proofs.YtbmpehclflbbaaaDoorW.PrintMore
attribute [local go_sem] max2_int min2_int max_two min_two max_three min_three max_four min_four   -- for this text's walks alone
set_option linter.unusedVariables false
set_option linter.unusedSimpArgs false



def errW : Option Int → Value
  | none => .nilIface
  | some c => .iface 0 (.int .i64 c)
theorem errW_none : errW none = .nilIface := rfl
theorem errW_some (c : Int) : errW (some c) = .iface 0 (.int .i64 c) := rfl

theorem info3 : (Tryd.prog.info? 3).map (fun i => (i.zero, i.size, i.bytes)) = some (some (.int .i64 0), 1, 8) := by kernel_rfl
-- the values' own types

end Go.Proofs.YtbmpehclflbbaaaDoor.Q

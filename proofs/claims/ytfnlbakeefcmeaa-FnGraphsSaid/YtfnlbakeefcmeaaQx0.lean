-- Made by a program of this session (wip/tools), out of Lean's own print of the translation.
import Derived.Test.YtfnlbakeefcmeaaProg
import Derived.Below
import Derived.Deep.Draws
import Derived.Deep.AppendLies
import Derived.Maps.AppendAt
import Derived.OwnWalk
import Derived.Laws.BytesArg
import Derived.Laws.MakeOwn
import Derived.Laws.OwnMore
import Derived.Deep.OwnRows
import Derived.Tactics
import Derived.Lib.ConvBytes
import Derived.Laws.Slices
import Derived.WalkKit
import Derived.KernelRfl
import Derived.RowKit3
import Derived.Deep.LoopGhost
import Derived.Deep.QuietTactic
import Derived.BigQuiet
import Derived.WideLaws
import Derived.Deep.DeepCutAuto
import Derived.Deep.CutBlock
import Derived.Deep.RegionHeld3
import Derived.Laws.Rows
import Derived.Lib.AppendStr
import Derived.ArgAppend
import Derived.Laws.IdiomCopy
import Derived.OrdersHeld
import Derived.Laws.BitsLemmas
import Derived.RowKit
import Derived.Test.YtfnlbakeefcmeaaWWords
import Derived.Test.YtfnlbakeefcmeaaWLast
import Derived.Test.YtfnlbakeefcmeaaWTab
import Derived.Test.YtfnlbakeefcmeaaWFour
import Derived.Test.YtfnlbakeefcmeaaWQPut
import Derived.Test.YtfnlbakeefcmeaaWApart
import Derived.Test.YtfnlbakeefcmeaaWArr
import Derived.Test.YtfnlbakeefcmeaaWZeros
import Derived.Test.YtfnlbakeefcmeaaWFoot
import Derived.Test.YtfnlbakeefcmeaaWKept
import Derived.Test.YtfnlbakeefcmeaaWShare
import Derived.Test.YtfnlbakeefcmeaaWN
import Derived.Test.YtfnlbakeefcmeaaWFootNe
import Derived.Test.YtfnlbakeefcmeaaWAt
import Derived.Test.YtfnlbakeefcmeaaWEqStruct
import Derived.Test.YtfnlbakeefcmeaaWRepsOne
import Derived.Test.YtfnlbakeefcmeaaWInv
import Derived.Test.YtfnlbakeefcmeaaWInvWords
import Derived.Test.YtfnlbakeefcmeaaWGuard
import Derived.Test.YtfnlbakeefcmeaaWNEv
import Derived.Test.YtfnlbakeefcmeaaWMore
namespace Go.Proofs.Ytfnlbakeefcmeaa.Q
open Go.RowKit Go.Proofs.YtfnlbakeefcmeaaW.PrintWords Go.Proofs.YtfnlbakeefcmeaaW.PrintLast Go.Proofs.YtfnlbakeefcmeaaW.PrintMore
attribute [local go_sem] max2_int min2_int max_two min_two max_three min_three max_four min_four   -- for this text's walks alone
set_option linter.unusedVariables false
set_option linter.unusedSimpArgs false



def errW : Option Int → Value
  | none => .nilIface
  | some c => .iface 0 (.int .i64 c)
theorem errW_none : errW none = .nilIface := rfl
theorem errW_some (c : Int) : errW (some c) = .iface 0 (.int .i64 c) := rfl

theorem info3 : (Try.prog.info? 3).map (fun i => (i.zero, i.size, i.bytes)) = some (some (.int .i64 0), 1, 8) := by kernel_rfl
-- the values' own types

end Go.Proofs.Ytfnlbakeefcmeaa.Q

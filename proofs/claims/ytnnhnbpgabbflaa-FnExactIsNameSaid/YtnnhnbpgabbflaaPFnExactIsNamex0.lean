-- PRINTED BY print.sh 35421559b90ae4d0a3588c463048766b98c2df88dd9212a6774a882060cdf62d: not written by this session
import Derived.Test.YtnnhnbpgabbflaaProg
import Derived.Below
import Derived.Deep.Draws
import Derived.Deep.AppendLies
import Derived.Maps.AppendAt
import Derived.OwnWalk
import Derived.Laws.BytesArg
import Derived.Laws.MakeOwn
import Derived.Laws.OwnMore
import Derived.Deep.OwnRows
import Derived.Tactics
import Derived.Lib.ConvBytes
import Derived.Laws.Slices
import Derived.WalkKit
import Derived.KernelRfl
import Derived.RowKit3
import Derived.Deep.LoopGhost
import Derived.Deep.QuietTactic
import Derived.BigQuiet
import Derived.WideLaws
import Derived.Deep.DeepCutAuto
import Derived.Deep.CutBlock
import Derived.Deep.RegionHeld3
import Derived.Laws.Rows
import Derived.Lib.AppendStr
import Derived.ArgAppend
import Derived.Laws.IdiomCopy
import Derived.OrdersHeld
import Derived.Laws.BitsLemmas
import Derived.RowKit
import Derived.Test.YtnnhnbpgabbflaaWWords
import Derived.Test.YtnnhnbpgabbflaaWLast
import Derived.Test.YtnnhnbpgabbflaaWTab
import Derived.Test.YtnnhnbpgabbflaaWFour
import Derived.Test.YtnnhnbpgabbflaaWQPut
import Derived.Test.YtnnhnbpgabbflaaWApart
import Derived.Test.YtnnhnbpgabbflaaWArr
import Derived.Test.YtnnhnbpgabbflaaWZeros
import Derived.Test.YtnnhnbpgabbflaaWFoot
import Derived.Test.YtnnhnbpgabbflaaWKept
import Derived.Test.YtnnhnbpgabbflaaWShare
import Derived.Test.YtnnhnbpgabbflaaWN
import Derived.Test.YtnnhnbpgabbflaaWFootNe
import Derived.Test.YtnnhnbpgabbflaaWAt
import Derived.Test.YtnnhnbpgabbflaaWEqStruct
import Derived.Test.YtnnhnbpgabbflaaWRepsOne
import Derived.Test.YtnnhnbpgabbflaaWInv
import Derived.Test.YtnnhnbpgabbflaaWInvWords
import Derived.Test.YtnnhnbpgabbflaaWGuard
import Derived.Test.YtnnhnbpgabbflaaWNEv
import Derived.Test.YtnnhnbpgabbflaaWMore
namespace Go.Proofs.Ytnnhnbpgabbflaa.PFnExactIsName
open Go.RowKit Go.Proofs.YtnnhnbpgabbflaaW.PrintWords Go.Proofs.YtnnhnbpgabbflaaW.PrintLast Go.Proofs.YtnnhnbpgabbflaaW.PrintMore
attribute [local go_sem] max2_int min2_int max_two min_two max_three min_three max_four min_four   -- for this text's walks alone
set_option linter.unusedVariables false
set_option linter.unusedSimpArgs false



def errW : Option Int → Value
  | none => .nilIface
  | some c => .iface 0 (.int .i64 c)
theorem errW_none : errW none = .nilIface := rfl
theorem errW_some (c : Int) : errW (some c) = .iface 0 (.int .i64 c) := rfl

-- the values' own types

end Go.Proofs.Ytnnhnbpgabbflaa.PFnExactIsName

/-
  No cell of these rows narrows 'for every input' (looked for: loops, veiled, ifaces, maps, wideKeys, modest, calm, conditions, laid).
  DERIVED. THE GIVEN ROWS OF THIS SEAT. 10 by the template 'for every input the law returns true; each argument reads behind the call as it read before'; 0 by the template 'total and deterministic' (their statements: YtnnhnbpgabbflaaTotals.lean).
  GIVEN WITH THE SEED: the statements are not yours to turn. If you find one false, say at which input.
  Laid BY PROGRAM, IN A SANDBOX (cutbox-rows.mjs): the forced cells as the released guide's own fill.sh prints them over the translation c87b641469edc69e… (all of the seat's roots in one cut). By AI agents, Wed Nov 11 2026. No macro, syntax, notation, axiom, sorry.
-/
import Derived.Test.YtnnhnbpgabbflaaChecked
import GoSem.Claim
import GoSem.ClaimJoined
import GoSem.ClaimMapViews
import Derived.JoinedTies
import Derived.KernelRfl
namespace Go.Proofs.Ytnnhnbpgabbflaa
/- THE CELL 'sum', in the pinned program and in every row, IS THE sha256 OF THE DUMP (.gsa) THAT YtnnhnbpgabbflaaProg.lean LOADS. Nothing in Lean hashes anything: it is a label: what it is worth is what the hold of that sum in a sandbox is worth. -/
noncomputable def Try.pinned : Pinned := { name := "ytnnhnbpgabbflaa", sum := "c87b641469edc69e6bbc43cf3098d44dc136adbf902973317c2e2e3370b1ebbf", checked := Try.checked }
namespace Rows
def none {H : Type} : Left H := { results := [], args := [] }

/-- 'laws.FnExactConstants': WHATEVER THE INPUT: true; the input reads as it did. -/
def fnExactConstantsSpec : ChangeSpec := { name := "fnExactConstants", fn := fun _ => fun
  | [] => { results := [.lit (.bool true)], args := [] }
  | _ => none }
def fnExactConstantsRow : OpenClaim := { program := "ytnnhnbpgabbflaa", sum := "c87b641469edc69e6bbc43cf3098d44dc136adbf902973317c2e2e3370b1ebbf", func := "loop.example/g03200/laws.FnExactConstants", spec := "fnExactConstants", apart := false }
def FnExactConstantsSaid : Prop := fnExactConstantsRow.holds Try.pinned (OpenSpec.ofChange fnExactConstantsSpec)

/-- ITS FALSE NEIGHBOUR: 'it returns false'. Refute it at one input. -/
def fnExactConstantsWrong : ChangeSpec := { name := "fnExactConstants", fn := fun _ => fun
  | [] => { results := [.lit (.bool false)], args := [] }
  | _ => none }
def FnExactConstantsWrongFalsely : Prop := fnExactConstantsRow.holds Try.pinned (OpenSpec.ofChange fnExactConstantsWrong)

/-- 'laws.FnExactIsName': WHATEVER THE INPUT: true; the input reads as it did. -/
def fnExactIsNameSpec : ChangeSpec := { name := "fnExactIsName", fn := fun _ => fun
  | [d] => { results := [.lit (.bool true)], args := [d] }
  | _ => none }
def fnExactIsNameRow : OpenClaim := { program := "ytnnhnbpgabbflaa", sum := "c87b641469edc69e6bbc43cf3098d44dc136adbf902973317c2e2e3370b1ebbf", func := "loop.example/g03200/laws.FnExactIsName", spec := "fnExactIsName", apart := false }
def FnExactIsNameSaid : Prop := fnExactIsNameRow.holds Try.pinned (OpenSpec.ofChange fnExactIsNameSpec)

/-- ITS FALSE NEIGHBOUR: 'it returns false'. Refute it at one input. -/
def fnExactIsNameWrong : ChangeSpec := { name := "fnExactIsName", fn := fun _ => fun
  | [d] => { results := [.lit (.bool false)], args := [d] }
  | _ => none }
def FnExactIsNameWrongFalsely : Prop := fnExactIsNameRow.holds Try.pinned (OpenSpec.ofChange fnExactIsNameWrong)

/-- 'laws.FnExactListSet': WHATEVER THE INPUT: true; the input reads as it did. -/
def fnExactListSetSpec : ChangeSpec := { name := "fnExactListSet", fn := fun _ => fun
  | [d] => { results := [.lit (.bool true)], args := [d] }
  | _ => none }
def fnExactListSetRow : OpenClaim := { program := "ytnnhnbpgabbflaa", sum := "c87b641469edc69e6bbc43cf3098d44dc136adbf902973317c2e2e3370b1ebbf", func := "loop.example/g03200/laws.FnExactListSet", spec := "fnExactListSet", apart := false }
def FnExactListSetSaid : Prop := fnExactListSetRow.holds Try.pinned (OpenSpec.ofChange fnExactListSetSpec)

/-- ITS FALSE NEIGHBOUR: 'it returns false'. Refute it at one input. -/
def fnExactListSetWrong : ChangeSpec := { name := "fnExactListSet", fn := fun _ => fun
  | [d] => { results := [.lit (.bool false)], args := [d] }
  | _ => none }
def FnExactListSetWrongFalsely : Prop := fnExactListSetRow.holds Try.pinned (OpenSpec.ofChange fnExactListSetWrong)

/-- 'laws.FnExactCountSet': WHATEVER THE INPUT: true; the input reads as it did. -/
def fnExactCountSetSpec : ChangeSpec := { name := "fnExactCountSet", fn := fun _ => fun
  | [d] => { results := [.lit (.bool true)], args := [d] }
  | _ => none }
def fnExactCountSetRow : OpenClaim := { program := "ytnnhnbpgabbflaa", sum := "c87b641469edc69e6bbc43cf3098d44dc136adbf902973317c2e2e3370b1ebbf", func := "loop.example/g03200/laws.FnExactCountSet", spec := "fnExactCountSet", apart := false }
def FnExactCountSetSaid : Prop := fnExactCountSetRow.holds Try.pinned (OpenSpec.ofChange fnExactCountSetSpec)

/-- ITS FALSE NEIGHBOUR: 'it returns false'. Refute it at one input. -/
def fnExactCountSetWrong : ChangeSpec := { name := "fnExactCountSet", fn := fun _ => fun
  | [d] => { results := [.lit (.bool false)], args := [d] }
  | _ => none }
def FnExactCountSetWrongFalsely : Prop := fnExactCountSetRow.holds Try.pinned (OpenSpec.ofChange fnExactCountSetWrong)

/-- 'laws.FnExactSplitAny': WHATEVER THE INPUT: true; the input reads as it did. -/
def fnExactSplitAnySpec : ChangeSpec := { name := "fnExactSplitAny", fn := fun _ => fun
  | [d1, d2] => { results := [.lit (.bool true)], args := [d1, d2] }
  | _ => none }
def fnExactSplitAnyRow : OpenClaim := { program := "ytnnhnbpgabbflaa", sum := "c87b641469edc69e6bbc43cf3098d44dc136adbf902973317c2e2e3370b1ebbf", func := "loop.example/g03200/laws.FnExactSplitAny", spec := "fnExactSplitAny", inPlace := ["internal/bytealg.IndexByteString"], apart := false }
def FnExactSplitAnySaid : Prop := fnExactSplitAnyRow.holds Try.pinned (OpenSpec.ofChange fnExactSplitAnySpec)

/-- ITS FALSE NEIGHBOUR: 'it returns false'. Refute it at one input. -/
def fnExactSplitAnyWrong : ChangeSpec := { name := "fnExactSplitAny", fn := fun _ => fun
  | [d1, d2] => { results := [.lit (.bool false)], args := [d1, d2] }
  | _ => none }
def FnExactSplitAnyWrongFalsely : Prop := fnExactSplitAnyRow.holds Try.pinned (OpenSpec.ofChange fnExactSplitAnyWrong)

/-- 'laws.FnExactEmptyGraph': WHATEVER THE INPUT: true; the input reads as it did. -/
def fnExactEmptyGraphSpec : ChangeSpec := { name := "fnExactEmptyGraph", fn := fun _ => fun
  | [d] => { results := [.lit (.bool true)], args := [d] }
  | _ => none }
def fnExactEmptyGraphRow : OpenClaim := { program := "ytnnhnbpgabbflaa", sum := "c87b641469edc69e6bbc43cf3098d44dc136adbf902973317c2e2e3370b1ebbf", func := "loop.example/g03200/laws.FnExactEmptyGraph", spec := "fnExactEmptyGraph", unfollowed := true, recurses := true, apart := false }
def FnExactEmptyGraphSaid : Prop := fnExactEmptyGraphRow.holds Try.pinned (OpenSpec.ofChange fnExactEmptyGraphSpec)

/-- ITS FALSE NEIGHBOUR: 'it returns false'. Refute it at one input. -/
def fnExactEmptyGraphWrong : ChangeSpec := { name := "fnExactEmptyGraph", fn := fun _ => fun
  | [d] => { results := [.lit (.bool false)], args := [d] }
  | _ => none }
def FnExactEmptyGraphWrongFalsely : Prop := fnExactEmptyGraphRow.holds Try.pinned (OpenSpec.ofChange fnExactEmptyGraphWrong)

/-- 'laws.FnExactPathGraph': WHATEVER THE INPUT: true; the input reads as it did. -/
def fnExactPathGraphSpec : ChangeSpec := { name := "fnExactPathGraph", fn := fun _ => fun
  | [d] => { results := [.lit (.bool true)], args := [d] }
  | _ => none }
def fnExactPathGraphRow : OpenClaim := { program := "ytnnhnbpgabbflaa", sum := "c87b641469edc69e6bbc43cf3098d44dc136adbf902973317c2e2e3370b1ebbf", func := "loop.example/g03200/laws.FnExactPathGraph", spec := "fnExactPathGraph", unfollowed := true, recurses := true, apart := false }
def FnExactPathGraphSaid : Prop := fnExactPathGraphRow.holds Try.pinned (OpenSpec.ofChange fnExactPathGraphSpec)

/-- ITS FALSE NEIGHBOUR: 'it returns false'. Refute it at one input. -/
def fnExactPathGraphWrong : ChangeSpec := { name := "fnExactPathGraph", fn := fun _ => fun
  | [d] => { results := [.lit (.bool false)], args := [d] }
  | _ => none }
def FnExactPathGraphWrongFalsely : Prop := fnExactPathGraphRow.holds Try.pinned (OpenSpec.ofChange fnExactPathGraphWrong)

/-- 'laws.FnExactCompleteGraph': WHATEVER THE INPUT: true; the input reads as it did. -/
def fnExactCompleteGraphSpec : ChangeSpec := { name := "fnExactCompleteGraph", fn := fun _ => fun
  | [d] => { results := [.lit (.bool true)], args := [d] }
  | _ => none }
def fnExactCompleteGraphRow : OpenClaim := { program := "ytnnhnbpgabbflaa", sum := "c87b641469edc69e6bbc43cf3098d44dc136adbf902973317c2e2e3370b1ebbf", func := "loop.example/g03200/laws.FnExactCompleteGraph", spec := "fnExactCompleteGraph", unfollowed := true, recurses := true, apart := false }
def FnExactCompleteGraphSaid : Prop := fnExactCompleteGraphRow.holds Try.pinned (OpenSpec.ofChange fnExactCompleteGraphSpec)

/-- ITS FALSE NEIGHBOUR: 'it returns false'. Refute it at one input. -/
def fnExactCompleteGraphWrong : ChangeSpec := { name := "fnExactCompleteGraph", fn := fun _ => fun
  | [d] => { results := [.lit (.bool false)], args := [d] }
  | _ => none }
def FnExactCompleteGraphWrongFalsely : Prop := fnExactCompleteGraphRow.holds Try.pinned (OpenSpec.ofChange fnExactCompleteGraphWrong)

/-- 'laws.FnExactSameGraph': WHATEVER THE INPUT: true; the input reads as it did. -/
def fnExactSameGraphSpec : ChangeSpec := { name := "fnExactSameGraph", fn := fun _ => fun
  | [d1, d2] => { results := [.lit (.bool true)], args := [d1, d2] }
  | _ => none }
def fnExactSameGraphRow : OpenClaim := { program := "ytnnhnbpgabbflaa", sum := "c87b641469edc69e6bbc43cf3098d44dc136adbf902973317c2e2e3370b1ebbf", func := "loop.example/g03200/laws.FnExactSameGraph", spec := "fnExactSameGraph", apart := false }
def FnExactSameGraphSaid : Prop := fnExactSameGraphRow.holds Try.pinned (OpenSpec.ofChange fnExactSameGraphSpec)

/-- ITS FALSE NEIGHBOUR: 'it returns false'. Refute it at one input. -/
def fnExactSameGraphWrong : ChangeSpec := { name := "fnExactSameGraph", fn := fun _ => fun
  | [d1, d2] => { results := [.lit (.bool false)], args := [d1, d2] }
  | _ => none }
def FnExactSameGraphWrongFalsely : Prop := fnExactSameGraphRow.holds Try.pinned (OpenSpec.ofChange fnExactSameGraphWrong)

/-- 'laws.FnExactCycleGraph': WHATEVER THE INPUT: true; the input reads as it did. -/
def fnExactCycleGraphSpec : ChangeSpec := { name := "fnExactCycleGraph", fn := fun _ => fun
  | [d] => { results := [.lit (.bool true)], args := [d] }
  | _ => none }
def fnExactCycleGraphRow : OpenClaim := { program := "ytnnhnbpgabbflaa", sum := "c87b641469edc69e6bbc43cf3098d44dc136adbf902973317c2e2e3370b1ebbf", func := "loop.example/g03200/laws.FnExactCycleGraph", spec := "fnExactCycleGraph", unfollowed := true, recurses := true, apart := false }
def FnExactCycleGraphSaid : Prop := fnExactCycleGraphRow.holds Try.pinned (OpenSpec.ofChange fnExactCycleGraphSpec)

/-- ITS FALSE NEIGHBOUR: 'it returns false'. Refute it at one input. -/
def fnExactCycleGraphWrong : ChangeSpec := { name := "fnExactCycleGraph", fn := fun _ => fun
  | [d] => { results := [.lit (.bool false)], args := [d] }
  | _ => none }
def FnExactCycleGraphWrongFalsely : Prop := fnExactCycleGraphRow.holds Try.pinned (OpenSpec.ofChange fnExactCycleGraphWrong)

/- THE SECOND FORM. 'bulk': how many values and letters a reading holds, each counted each time it is reached (what is shared counts as often as it is met; a slice's spare places count too). A statement '..UptoSaid' is the law's where the arguments, and the package variables that the reading takes, are together of bulk at most 1048576: NARROWER than '..Said'. Prove '..Said' where nothing that the law and all that it calls make is longer than what came in: it says more and counts as full. Else prove '..UptoSaid'. A law counts once. -/
mutual
def uptoBulk {H : Type} : DataW H → Nat
  | .lit (.string bytes) => bytes.length + 1
  | .lit _ => 1
  | .nil => 1
  | .ptr d => uptoBulk d + 1
  | .slice elems spare => uptoBulkAll elems + uptoBulkAll spare + 1
  | .agg parts => uptoBulkAll parts + 1
  | .iface _ d => uptoBulk d + 1
  | .map entries => uptoBulkEntries entries + 1
  | .held _ => 1
def uptoBulkAll {H : Type} : List (DataW H) → Nat
  | [] => 0
  | d :: r => uptoBulk d + uptoBulkAll r
def uptoBulkEntries {H : Type} : List (Lit × DataW H) → Nat
  | [] => 0
  | x :: r => uptoBulkEntry x + uptoBulkEntries r
def uptoBulkEntry {H : Type} : Lit × DataW H → Nat
  | (.string bytes, d) => bytes.length + uptoBulk d + 1
  | (_, d) => uptoBulk d + 1
 end
def uptoSmall : (H : Type) → List (DataW H) → Bool := fun _ ds => decide (uptoBulkAll ds ≤ 1048576)
def OpenSpec.upto (s : _root_.Go.ChangeSpec) : _root_.Go.OpenSpec := { _root_.Go.OpenSpec.ofChange s with cond := some uptoSmall }

/-- 'laws.FnExactConstants', WHERE WHAT IT READS IS OF BULK AT MOST 1048576: true; the input reads as it did. -/
def fnExactConstantsUptoRow : OpenClaim := { program := "ytnnhnbpgabbflaa", sum := "c87b641469edc69e6bbc43cf3098d44dc136adbf902973317c2e2e3370b1ebbf", func := "loop.example/g03200/laws.FnExactConstants", spec := "fnExactConstants", apart := false, narrowed := true }
def FnExactConstantsUptoSaid : Prop := fnExactConstantsUptoRow.holds Try.pinned (OpenSpec.upto fnExactConstantsSpec)

/-- 'laws.FnExactIsName', WHERE WHAT IT READS IS OF BULK AT MOST 1048576: true; the input reads as it did. -/
def fnExactIsNameUptoRow : OpenClaim := { program := "ytnnhnbpgabbflaa", sum := "c87b641469edc69e6bbc43cf3098d44dc136adbf902973317c2e2e3370b1ebbf", func := "loop.example/g03200/laws.FnExactIsName", spec := "fnExactIsName", apart := false, narrowed := true }
def FnExactIsNameUptoSaid : Prop := fnExactIsNameUptoRow.holds Try.pinned (OpenSpec.upto fnExactIsNameSpec)

/-- 'laws.FnExactListSet', WHERE WHAT IT READS IS OF BULK AT MOST 1048576: true; the input reads as it did. -/
def fnExactListSetUptoRow : OpenClaim := { program := "ytnnhnbpgabbflaa", sum := "c87b641469edc69e6bbc43cf3098d44dc136adbf902973317c2e2e3370b1ebbf", func := "loop.example/g03200/laws.FnExactListSet", spec := "fnExactListSet", apart := false, narrowed := true }
def FnExactListSetUptoSaid : Prop := fnExactListSetUptoRow.holds Try.pinned (OpenSpec.upto fnExactListSetSpec)

/-- 'laws.FnExactCountSet', WHERE WHAT IT READS IS OF BULK AT MOST 1048576: true; the input reads as it did. -/
def fnExactCountSetUptoRow : OpenClaim := { program := "ytnnhnbpgabbflaa", sum := "c87b641469edc69e6bbc43cf3098d44dc136adbf902973317c2e2e3370b1ebbf", func := "loop.example/g03200/laws.FnExactCountSet", spec := "fnExactCountSet", apart := false, narrowed := true }
def FnExactCountSetUptoSaid : Prop := fnExactCountSetUptoRow.holds Try.pinned (OpenSpec.upto fnExactCountSetSpec)

/-- 'laws.FnExactSplitAny', WHERE WHAT IT READS IS OF BULK AT MOST 1048576: true; the input reads as it did. -/
def fnExactSplitAnyUptoRow : OpenClaim := { program := "ytnnhnbpgabbflaa", sum := "c87b641469edc69e6bbc43cf3098d44dc136adbf902973317c2e2e3370b1ebbf", func := "loop.example/g03200/laws.FnExactSplitAny", spec := "fnExactSplitAny", inPlace := ["internal/bytealg.IndexByteString"], apart := false, narrowed := true }
def FnExactSplitAnyUptoSaid : Prop := fnExactSplitAnyUptoRow.holds Try.pinned (OpenSpec.upto fnExactSplitAnySpec)

/-- 'laws.FnExactEmptyGraph', WHERE WHAT IT READS IS OF BULK AT MOST 1048576: true; the input reads as it did. -/
def fnExactEmptyGraphUptoRow : OpenClaim := { program := "ytnnhnbpgabbflaa", sum := "c87b641469edc69e6bbc43cf3098d44dc136adbf902973317c2e2e3370b1ebbf", func := "loop.example/g03200/laws.FnExactEmptyGraph", spec := "fnExactEmptyGraph", unfollowed := true, recurses := true, apart := false, narrowed := true }
def FnExactEmptyGraphUptoSaid : Prop := fnExactEmptyGraphUptoRow.holds Try.pinned (OpenSpec.upto fnExactEmptyGraphSpec)

/-- 'laws.FnExactPathGraph', WHERE WHAT IT READS IS OF BULK AT MOST 1048576: true; the input reads as it did. -/
def fnExactPathGraphUptoRow : OpenClaim := { program := "ytnnhnbpgabbflaa", sum := "c87b641469edc69e6bbc43cf3098d44dc136adbf902973317c2e2e3370b1ebbf", func := "loop.example/g03200/laws.FnExactPathGraph", spec := "fnExactPathGraph", unfollowed := true, recurses := true, apart := false, narrowed := true }
def FnExactPathGraphUptoSaid : Prop := fnExactPathGraphUptoRow.holds Try.pinned (OpenSpec.upto fnExactPathGraphSpec)

/-- 'laws.FnExactCompleteGraph', WHERE WHAT IT READS IS OF BULK AT MOST 1048576: true; the input reads as it did. -/
def fnExactCompleteGraphUptoRow : OpenClaim := { program := "ytnnhnbpgabbflaa", sum := "c87b641469edc69e6bbc43cf3098d44dc136adbf902973317c2e2e3370b1ebbf", func := "loop.example/g03200/laws.FnExactCompleteGraph", spec := "fnExactCompleteGraph", unfollowed := true, recurses := true, apart := false, narrowed := true }
def FnExactCompleteGraphUptoSaid : Prop := fnExactCompleteGraphUptoRow.holds Try.pinned (OpenSpec.upto fnExactCompleteGraphSpec)

/-- 'laws.FnExactSameGraph', WHERE WHAT IT READS IS OF BULK AT MOST 1048576: true; the input reads as it did. -/
def fnExactSameGraphUptoRow : OpenClaim := { program := "ytnnhnbpgabbflaa", sum := "c87b641469edc69e6bbc43cf3098d44dc136adbf902973317c2e2e3370b1ebbf", func := "loop.example/g03200/laws.FnExactSameGraph", spec := "fnExactSameGraph", apart := false, narrowed := true }
def FnExactSameGraphUptoSaid : Prop := fnExactSameGraphUptoRow.holds Try.pinned (OpenSpec.upto fnExactSameGraphSpec)

/-- 'laws.FnExactCycleGraph', WHERE WHAT IT READS IS OF BULK AT MOST 1048576: true; the input reads as it did. -/
def fnExactCycleGraphUptoRow : OpenClaim := { program := "ytnnhnbpgabbflaa", sum := "c87b641469edc69e6bbc43cf3098d44dc136adbf902973317c2e2e3370b1ebbf", func := "loop.example/g03200/laws.FnExactCycleGraph", spec := "fnExactCycleGraph", unfollowed := true, recurses := true, apart := false, narrowed := true }
def FnExactCycleGraphUptoSaid : Prop := fnExactCycleGraphUptoRow.holds Try.pinned (OpenSpec.upto fnExactCycleGraphSpec)

end Rows
end Go.Proofs.Ytnnhnbpgabbflaa

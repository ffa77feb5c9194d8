/-
  No cell of these rows narrows 'for every input' (looked for: loops, veiled, ifaces, maps, wideKeys, modest, calm, conditions, laid).
  DERIVED. THE GIVEN ROWS OF THIS SEAT. 11 by the template 'for every input the law returns true; each argument reads behind the call as it read before'; 0 by the template 'total and deterministic' (their statements: YthfjphkhpfmdcaaTotals.lean).
  GIVEN WITH THE SEED: the statements are not yours to turn. If you find one false, say at which input.
  Laid BY PROGRAM, IN A SANDBOX (cutbox-rows.mjs): the forced cells as the released guide's own fill.sh prints them over the translation 8c5c11cf513808ab… (all of the seat's roots in one cut). By AI agents, Wed Nov 11 2026. No macro, syntax, notation, axiom, sorry.
-/
import Derived.Test.YthfjphkhpfmdcaaChecked
import GoSem.Claim
import GoSem.ClaimJoined
import GoSem.ClaimMapViews
import Derived.JoinedTies
import Derived.KernelRfl
namespace Go.Proofs.Ythfjphkhpfmdcaa
/- THE CELL 'sum', in the pinned program and in every row, IS THE sha256 OF THE DUMP (.gsa) THAT YthfjphkhpfmdcaaProg.lean LOADS. Nothing in Lean hashes anything: it is a label: what it is worth is what the hold of that sum in a sandbox is worth. -/
noncomputable def Try.pinned : Pinned := { name := "ythfjphkhpfmdcaa", sum := "8c5c11cf513808abbb9dcd015405777c0a81a951a1b2811c25b1bcdc5620bae4", checked := Try.checked }
namespace Rows
def none {H : Type} : Left H := { results := [], args := [] }

/-- 'laws.FnExactGridGraph': WHATEVER THE INPUT: true; the input reads as it did. -/
def fnExactGridGraphSpec : ChangeSpec := { name := "fnExactGridGraph", fn := fun _ => fun
  | [d1, d2] => { results := [.lit (.bool true)], args := [d1, d2] }
  | _ => none }
def fnExactGridGraphRow : OpenClaim := { program := "ythfjphkhpfmdcaa", sum := "8c5c11cf513808abbb9dcd015405777c0a81a951a1b2811c25b1bcdc5620bae4", func := "loop.example/g03200/laws.FnExactGridGraph", spec := "fnExactGridGraph", unfollowed := true, recurses := true, apart := false }
def FnExactGridGraphSaid : Prop := fnExactGridGraphRow.holds Try.pinned (OpenSpec.ofChange fnExactGridGraphSpec)

/-- ITS FALSE NEIGHBOUR: 'it returns false'. Refute it at one input. -/
def fnExactGridGraphWrong : ChangeSpec := { name := "fnExactGridGraph", fn := fun _ => fun
  | [d1, d2] => { results := [.lit (.bool false)], args := [d1, d2] }
  | _ => none }
def FnExactGridGraphWrongFalsely : Prop := fnExactGridGraphRow.holds Try.pinned (OpenSpec.ofChange fnExactGridGraphWrong)

/-- 'laws.FnExactGraphOk': WHATEVER THE INPUT: true; the input reads as it did. -/
def fnExactGraphOkSpec : ChangeSpec := { name := "fnExactGraphOk", fn := fun _ => fun
  | [d] => { results := [.lit (.bool true)], args := [d] }
  | _ => none }
def fnExactGraphOkRow : OpenClaim := { program := "ythfjphkhpfmdcaa", sum := "8c5c11cf513808abbb9dcd015405777c0a81a951a1b2811c25b1bcdc5620bae4", func := "loop.example/g03200/laws.FnExactGraphOk", spec := "fnExactGraphOk", apart := false }
def FnExactGraphOkSaid : Prop := fnExactGraphOkRow.holds Try.pinned (OpenSpec.ofChange fnExactGraphOkSpec)

/-- ITS FALSE NEIGHBOUR: 'it returns false'. Refute it at one input. -/
def fnExactGraphOkWrong : ChangeSpec := { name := "fnExactGraphOk", fn := fun _ => fun
  | [d] => { results := [.lit (.bool false)], args := [d] }
  | _ => none }
def FnExactGraphOkWrongFalsely : Prop := fnExactGraphOkRow.holds Try.pinned (OpenSpec.ofChange fnExactGraphOkWrong)

/-- 'laws.FnExactSetOk': WHATEVER THE INPUT: true; the input reads as it did. -/
def fnExactSetOkSpec : ChangeSpec := { name := "fnExactSetOk", fn := fun _ => fun
  | [d1, d2] => { results := [.lit (.bool true)], args := [d1, d2] }
  | _ => none }
def fnExactSetOkRow : OpenClaim := { program := "ythfjphkhpfmdcaa", sum := "8c5c11cf513808abbb9dcd015405777c0a81a951a1b2811c25b1bcdc5620bae4", func := "loop.example/g03200/laws.FnExactSetOk", spec := "fnExactSetOk", apart := false }
def FnExactSetOkSaid : Prop := fnExactSetOkRow.holds Try.pinned (OpenSpec.ofChange fnExactSetOkSpec)

/-- ITS FALSE NEIGHBOUR: 'it returns false'. Refute it at one input. -/
def fnExactSetOkWrong : ChangeSpec := { name := "fnExactSetOk", fn := fun _ => fun
  | [d1, d2] => { results := [.lit (.bool false)], args := [d1, d2] }
  | _ => none }
def FnExactSetOkWrongFalsely : Prop := fnExactSetOkRow.holds Try.pinned (OpenSpec.ofChange fnExactSetOkWrong)

/-- 'laws.FnExactHasEdge': WHATEVER THE INPUT: true; the input reads as it did. -/
def fnExactHasEdgeSpec : ChangeSpec := { name := "fnExactHasEdge", fn := fun _ => fun
  | [d1, d2, d3] => { results := [.lit (.bool true)], args := [d1, d2, d3] }
  | _ => none }
def fnExactHasEdgeRow : OpenClaim := { program := "ythfjphkhpfmdcaa", sum := "8c5c11cf513808abbb9dcd015405777c0a81a951a1b2811c25b1bcdc5620bae4", func := "loop.example/g03200/laws.FnExactHasEdge", spec := "fnExactHasEdge", unfollowed := true, recurses := true, apart := false }
def FnExactHasEdgeSaid : Prop := fnExactHasEdgeRow.holds Try.pinned (OpenSpec.ofChange fnExactHasEdgeSpec)

/-- ITS FALSE NEIGHBOUR: 'it returns false'. Refute it at one input. -/
def fnExactHasEdgeWrong : ChangeSpec := { name := "fnExactHasEdge", fn := fun _ => fun
  | [d1, d2, d3] => { results := [.lit (.bool false)], args := [d1, d2, d3] }
  | _ => none }
def FnExactHasEdgeWrongFalsely : Prop := fnExactHasEdgeRow.holds Try.pinned (OpenSpec.ofChange fnExactHasEdgeWrong)

/-- 'laws.FnExactJoin': WHATEVER THE INPUT: true; the input reads as it did. -/
def fnExactJoinSpec : ChangeSpec := { name := "fnExactJoin", fn := fun _ => fun
  | [d1, d2] => { results := [.lit (.bool true)], args := [d1, d2] }
  | _ => none }
def fnExactJoinRow : OpenClaim := { program := "ythfjphkhpfmdcaa", sum := "8c5c11cf513808abbb9dcd015405777c0a81a951a1b2811c25b1bcdc5620bae4", func := "loop.example/g03200/laws.FnExactJoin", spec := "fnExactJoin", inPlace := ["internal/abi.NoEscape", "internal/bytealg.MakeNoZero"], apart := false }
def FnExactJoinSaid : Prop := fnExactJoinRow.holds Try.pinned (OpenSpec.ofChange fnExactJoinSpec)

/-- ITS FALSE NEIGHBOUR: 'it returns false'. Refute it at one input. -/
def fnExactJoinWrong : ChangeSpec := { name := "fnExactJoin", fn := fun _ => fun
  | [d1, d2] => { results := [.lit (.bool false)], args := [d1, d2] }
  | _ => none }
def FnExactJoinWrongFalsely : Prop := fnExactJoinRow.holds Try.pinned (OpenSpec.ofChange fnExactJoinWrong)

/-- 'laws.FnExactIsDominating': WHATEVER THE INPUT: true; the input reads as it did. -/
def fnExactIsDominatingSpec : ChangeSpec := { name := "fnExactIsDominating", fn := fun _ => fun
  | [d1, d2] => { results := [.lit (.bool true)], args := [d1, d2] }
  | _ => none }
def fnExactIsDominatingRow : OpenClaim := { program := "ythfjphkhpfmdcaa", sum := "8c5c11cf513808abbb9dcd015405777c0a81a951a1b2811c25b1bcdc5620bae4", func := "loop.example/g03200/laws.FnExactIsDominating", spec := "fnExactIsDominating", apart := false }
def FnExactIsDominatingSaid : Prop := fnExactIsDominatingRow.holds Try.pinned (OpenSpec.ofChange fnExactIsDominatingSpec)

/-- ITS FALSE NEIGHBOUR: 'it returns false'. Refute it at one input. -/
def fnExactIsDominatingWrong : ChangeSpec := { name := "fnExactIsDominating", fn := fun _ => fun
  | [d1, d2] => { results := [.lit (.bool false)], args := [d1, d2] }
  | _ => none }
def FnExactIsDominatingWrongFalsely : Prop := fnExactIsDominatingRow.holds Try.pinned (OpenSpec.ofChange fnExactIsDominatingWrong)

/-- 'laws.FnExactIsCover': WHATEVER THE INPUT: true; the input reads as it did. -/
def fnExactIsCoverSpec : ChangeSpec := { name := "fnExactIsCover", fn := fun _ => fun
  | [d1, d2, d3] => { results := [.lit (.bool true)], args := [d1, d2, d3] }
  | _ => none }
def fnExactIsCoverRow : OpenClaim := { program := "ythfjphkhpfmdcaa", sum := "8c5c11cf513808abbb9dcd015405777c0a81a951a1b2811c25b1bcdc5620bae4", func := "loop.example/g03200/laws.FnExactIsCover", spec := "fnExactIsCover", unfollowed := true, recurses := true, apart := false }
def FnExactIsCoverSaid : Prop := fnExactIsCoverRow.holds Try.pinned (OpenSpec.ofChange fnExactIsCoverSpec)

/-- ITS FALSE NEIGHBOUR: 'it returns false'. Refute it at one input. -/
def fnExactIsCoverWrong : ChangeSpec := { name := "fnExactIsCover", fn := fun _ => fun
  | [d1, d2, d3] => { results := [.lit (.bool false)], args := [d1, d2, d3] }
  | _ => none }
def FnExactIsCoverWrongFalsely : Prop := fnExactIsCoverRow.holds Try.pinned (OpenSpec.ofChange fnExactIsCoverWrong)

/-- 'laws.FnExactAroundSet': WHATEVER THE INPUT: true; the input reads as it did. -/
def fnExactAroundSetSpec : ChangeSpec := { name := "fnExactAroundSet", fn := fun _ => fun
  | [d1, d2] => { results := [.lit (.bool true)], args := [d1, d2] }
  | _ => none }
def fnExactAroundSetRow : OpenClaim := { program := "ythfjphkhpfmdcaa", sum := "8c5c11cf513808abbb9dcd015405777c0a81a951a1b2811c25b1bcdc5620bae4", func := "loop.example/g03200/laws.FnExactAroundSet", spec := "fnExactAroundSet", apart := false }
def FnExactAroundSetSaid : Prop := fnExactAroundSetRow.holds Try.pinned (OpenSpec.ofChange fnExactAroundSetSpec)

/-- ITS FALSE NEIGHBOUR: 'it returns false'. Refute it at one input. -/
def fnExactAroundSetWrong : ChangeSpec := { name := "fnExactAroundSet", fn := fun _ => fun
  | [d1, d2] => { results := [.lit (.bool false)], args := [d1, d2] }
  | _ => none }
def FnExactAroundSetWrongFalsely : Prop := fnExactAroundSetRow.holds Try.pinned (OpenSpec.ofChange fnExactAroundSetWrong)

/-- 'laws.FnExactIsIndependent': WHATEVER THE INPUT: true; the input reads as it did. -/
def fnExactIsIndependentSpec : ChangeSpec := { name := "fnExactIsIndependent", fn := fun _ => fun
  | [d1, d2] => { results := [.lit (.bool true)], args := [d1, d2] }
  | _ => none }
def fnExactIsIndependentRow : OpenClaim := { program := "ythfjphkhpfmdcaa", sum := "8c5c11cf513808abbb9dcd015405777c0a81a951a1b2811c25b1bcdc5620bae4", func := "loop.example/g03200/laws.FnExactIsIndependent", spec := "fnExactIsIndependent", apart := false }
def FnExactIsIndependentSaid : Prop := fnExactIsIndependentRow.holds Try.pinned (OpenSpec.ofChange fnExactIsIndependentSpec)

/-- ITS FALSE NEIGHBOUR: 'it returns false'. Refute it at one input. -/
def fnExactIsIndependentWrong : ChangeSpec := { name := "fnExactIsIndependent", fn := fun _ => fun
  | [d1, d2] => { results := [.lit (.bool false)], args := [d1, d2] }
  | _ => none }
def FnExactIsIndependentWrongFalsely : Prop := fnExactIsIndependentRow.holds Try.pinned (OpenSpec.ofChange fnExactIsIndependentWrong)

/-- 'laws.FnExactIsClique': WHATEVER THE INPUT: true; the input reads as it did. -/
def fnExactIsCliqueSpec : ChangeSpec := { name := "fnExactIsClique", fn := fun _ => fun
  | [d1, d2] => { results := [.lit (.bool true)], args := [d1, d2] }
  | _ => none }
def fnExactIsCliqueRow : OpenClaim := { program := "ythfjphkhpfmdcaa", sum := "8c5c11cf513808abbb9dcd015405777c0a81a951a1b2811c25b1bcdc5620bae4", func := "loop.example/g03200/laws.FnExactIsClique", spec := "fnExactIsClique", apart := false }
def FnExactIsCliqueSaid : Prop := fnExactIsCliqueRow.holds Try.pinned (OpenSpec.ofChange fnExactIsCliqueSpec)

/-- ITS FALSE NEIGHBOUR: 'it returns false'. Refute it at one input. -/
def fnExactIsCliqueWrong : ChangeSpec := { name := "fnExactIsClique", fn := fun _ => fun
  | [d1, d2] => { results := [.lit (.bool false)], args := [d1, d2] }
  | _ => none }
def FnExactIsCliqueWrongFalsely : Prop := fnExactIsCliqueRow.holds Try.pinned (OpenSpec.ofChange fnExactIsCliqueWrong)

/-- 'laws.FnExactPadZeros': WHATEVER THE INPUT: true; the input reads as it did. -/
def fnExactPadZerosSpec : ChangeSpec := { name := "fnExactPadZeros", fn := fun _ => fun
  | [d1, d2] => { results := [.lit (.bool true)], args := [d1, d2] }
  | _ => none }
def fnExactPadZerosRow : OpenClaim := { program := "ythfjphkhpfmdcaa", sum := "8c5c11cf513808abbb9dcd015405777c0a81a951a1b2811c25b1bcdc5620bae4", func := "loop.example/g03200/laws.FnExactPadZeros", spec := "fnExactPadZeros", inPlace := ["internal/abi.NoEscape", "internal/bytealg.MakeNoZero"], apart := false }
def FnExactPadZerosSaid : Prop := fnExactPadZerosRow.holds Try.pinned (OpenSpec.ofChange fnExactPadZerosSpec)

/-- ITS FALSE NEIGHBOUR: 'it returns false'. Refute it at one input. -/
def fnExactPadZerosWrong : ChangeSpec := { name := "fnExactPadZeros", fn := fun _ => fun
  | [d1, d2] => { results := [.lit (.bool false)], args := [d1, d2] }
  | _ => none }
def FnExactPadZerosWrongFalsely : Prop := fnExactPadZerosRow.holds Try.pinned (OpenSpec.ofChange fnExactPadZerosWrong)

/- THE SECOND FORM. 'bulk': how many values and letters a reading holds, each counted each time it is reached (what is shared counts as often as it is met; a slice's spare places count too). A statement '..UptoSaid' is the law's where the arguments, and the package variables that the reading takes, are together of bulk at most 1048576: NARROWER than '..Said'. Prove '..Said' where nothing that the law and all that it calls make is longer than what came in: it says more and counts as full. Else prove '..UptoSaid'. A law counts once. -/
mutual
def uptoBulk {H : Type} : DataW H → Nat
  | .lit (.string bytes) => bytes.length + 1
  | .lit _ => 1
  | .nil => 1
  | .ptr d => uptoBulk d + 1
  | .slice elems spare => uptoBulkAll elems + uptoBulkAll spare + 1
  | .agg parts => uptoBulkAll parts + 1
  | .iface _ d => uptoBulk d + 1
  | .map entries => uptoBulkEntries entries + 1
  | .held _ => 1
def uptoBulkAll {H : Type} : List (DataW H) → Nat
  | [] => 0
  | d :: r => uptoBulk d + uptoBulkAll r
def uptoBulkEntries {H : Type} : List (Lit × DataW H) → Nat
  | [] => 0
  | x :: r => uptoBulkEntry x + uptoBulkEntries r
def uptoBulkEntry {H : Type} : Lit × DataW H → Nat
  | (.string bytes, d) => bytes.length + uptoBulk d + 1
  | (_, d) => uptoBulk d + 1
 end
def uptoSmall : (H : Type) → List (DataW H) → Bool := fun _ ds => decide (uptoBulkAll ds ≤ 1048576)
def OpenSpec.upto (s : _root_.Go.ChangeSpec) : _root_.Go.OpenSpec := { _root_.Go.OpenSpec.ofChange s with cond := some uptoSmall }

/-- 'laws.FnExactGridGraph', WHERE WHAT IT READS IS OF BULK AT MOST 1048576: true; the input reads as it did. -/
def fnExactGridGraphUptoRow : OpenClaim := { program := "ythfjphkhpfmdcaa", sum := "8c5c11cf513808abbb9dcd015405777c0a81a951a1b2811c25b1bcdc5620bae4", func := "loop.example/g03200/laws.FnExactGridGraph", spec := "fnExactGridGraph", unfollowed := true, recurses := true, apart := false, narrowed := true }
def FnExactGridGraphUptoSaid : Prop := fnExactGridGraphUptoRow.holds Try.pinned (OpenSpec.upto fnExactGridGraphSpec)

/-- 'laws.FnExactGraphOk', WHERE WHAT IT READS IS OF BULK AT MOST 1048576: true; the input reads as it did. -/
def fnExactGraphOkUptoRow : OpenClaim := { program := "ythfjphkhpfmdcaa", sum := "8c5c11cf513808abbb9dcd015405777c0a81a951a1b2811c25b1bcdc5620bae4", func := "loop.example/g03200/laws.FnExactGraphOk", spec := "fnExactGraphOk", apart := false, narrowed := true }
def FnExactGraphOkUptoSaid : Prop := fnExactGraphOkUptoRow.holds Try.pinned (OpenSpec.upto fnExactGraphOkSpec)

/-- 'laws.FnExactSetOk', WHERE WHAT IT READS IS OF BULK AT MOST 1048576: true; the input reads as it did. -/
def fnExactSetOkUptoRow : OpenClaim := { program := "ythfjphkhpfmdcaa", sum := "8c5c11cf513808abbb9dcd015405777c0a81a951a1b2811c25b1bcdc5620bae4", func := "loop.example/g03200/laws.FnExactSetOk", spec := "fnExactSetOk", apart := false, narrowed := true }
def FnExactSetOkUptoSaid : Prop := fnExactSetOkUptoRow.holds Try.pinned (OpenSpec.upto fnExactSetOkSpec)

/-- 'laws.FnExactHasEdge', WHERE WHAT IT READS IS OF BULK AT MOST 1048576: true; the input reads as it did. -/
def fnExactHasEdgeUptoRow : OpenClaim := { program := "ythfjphkhpfmdcaa", sum := "8c5c11cf513808abbb9dcd015405777c0a81a951a1b2811c25b1bcdc5620bae4", func := "loop.example/g03200/laws.FnExactHasEdge", spec := "fnExactHasEdge", unfollowed := true, recurses := true, apart := false, narrowed := true }
def FnExactHasEdgeUptoSaid : Prop := fnExactHasEdgeUptoRow.holds Try.pinned (OpenSpec.upto fnExactHasEdgeSpec)

/-- 'laws.FnExactJoin', WHERE WHAT IT READS IS OF BULK AT MOST 1048576: true; the input reads as it did. -/
def fnExactJoinUptoRow : OpenClaim := { program := "ythfjphkhpfmdcaa", sum := "8c5c11cf513808abbb9dcd015405777c0a81a951a1b2811c25b1bcdc5620bae4", func := "loop.example/g03200/laws.FnExactJoin", spec := "fnExactJoin", inPlace := ["internal/abi.NoEscape", "internal/bytealg.MakeNoZero"], apart := false, narrowed := true }
def FnExactJoinUptoSaid : Prop := fnExactJoinUptoRow.holds Try.pinned (OpenSpec.upto fnExactJoinSpec)

/-- 'laws.FnExactIsDominating', WHERE WHAT IT READS IS OF BULK AT MOST 1048576: true; the input reads as it did. -/
def fnExactIsDominatingUptoRow : OpenClaim := { program := "ythfjphkhpfmdcaa", sum := "8c5c11cf513808abbb9dcd015405777c0a81a951a1b2811c25b1bcdc5620bae4", func := "loop.example/g03200/laws.FnExactIsDominating", spec := "fnExactIsDominating", apart := false, narrowed := true }
def FnExactIsDominatingUptoSaid : Prop := fnExactIsDominatingUptoRow.holds Try.pinned (OpenSpec.upto fnExactIsDominatingSpec)

/-- 'laws.FnExactIsCover', WHERE WHAT IT READS IS OF BULK AT MOST 1048576: true; the input reads as it did. -/
def fnExactIsCoverUptoRow : OpenClaim := { program := "ythfjphkhpfmdcaa", sum := "8c5c11cf513808abbb9dcd015405777c0a81a951a1b2811c25b1bcdc5620bae4", func := "loop.example/g03200/laws.FnExactIsCover", spec := "fnExactIsCover", unfollowed := true, recurses := true, apart := false, narrowed := true }
def FnExactIsCoverUptoSaid : Prop := fnExactIsCoverUptoRow.holds Try.pinned (OpenSpec.upto fnExactIsCoverSpec)

/-- 'laws.FnExactAroundSet', WHERE WHAT IT READS IS OF BULK AT MOST 1048576: true; the input reads as it did. -/
def fnExactAroundSetUptoRow : OpenClaim := { program := "ythfjphkhpfmdcaa", sum := "8c5c11cf513808abbb9dcd015405777c0a81a951a1b2811c25b1bcdc5620bae4", func := "loop.example/g03200/laws.FnExactAroundSet", spec := "fnExactAroundSet", apart := false, narrowed := true }
def FnExactAroundSetUptoSaid : Prop := fnExactAroundSetUptoRow.holds Try.pinned (OpenSpec.upto fnExactAroundSetSpec)

/-- 'laws.FnExactIsIndependent', WHERE WHAT IT READS IS OF BULK AT MOST 1048576: true; the input reads as it did. -/
def fnExactIsIndependentUptoRow : OpenClaim := { program := "ythfjphkhpfmdcaa", sum := "8c5c11cf513808abbb9dcd015405777c0a81a951a1b2811c25b1bcdc5620bae4", func := "loop.example/g03200/laws.FnExactIsIndependent", spec := "fnExactIsIndependent", apart := false, narrowed := true }
def FnExactIsIndependentUptoSaid : Prop := fnExactIsIndependentUptoRow.holds Try.pinned (OpenSpec.upto fnExactIsIndependentSpec)

/-- 'laws.FnExactIsClique', WHERE WHAT IT READS IS OF BULK AT MOST 1048576: true; the input reads as it did. -/
def fnExactIsCliqueUptoRow : OpenClaim := { program := "ythfjphkhpfmdcaa", sum := "8c5c11cf513808abbb9dcd015405777c0a81a951a1b2811c25b1bcdc5620bae4", func := "loop.example/g03200/laws.FnExactIsClique", spec := "fnExactIsClique", apart := false, narrowed := true }
def FnExactIsCliqueUptoSaid : Prop := fnExactIsCliqueUptoRow.holds Try.pinned (OpenSpec.upto fnExactIsCliqueSpec)

/-- 'laws.FnExactPadZeros', WHERE WHAT IT READS IS OF BULK AT MOST 1048576: true; the input reads as it did. -/
def fnExactPadZerosUptoRow : OpenClaim := { program := "ythfjphkhpfmdcaa", sum := "8c5c11cf513808abbb9dcd015405777c0a81a951a1b2811c25b1bcdc5620bae4", func := "loop.example/g03200/laws.FnExactPadZeros", spec := "fnExactPadZeros", inPlace := ["internal/abi.NoEscape", "internal/bytealg.MakeNoZero"], apart := false, narrowed := true }
def FnExactPadZerosUptoSaid : Prop := fnExactPadZerosUptoRow.holds Try.pinned (OpenSpec.upto fnExactPadZerosSpec)

end Rows
end Go.Proofs.Ythfjphkhpfmdcaa

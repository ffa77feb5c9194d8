/-
  No cell of these rows narrows 'for every input' (looked for: loops, veiled, ifaces, maps, wideKeys, modest, calm, conditions, laid).
  DERIVED. THE GIVEN ROWS OF THIS SEAT. 7 by the template 'for every input the law returns true; each argument reads behind the call as it read before'; 0 by the template 'total and deterministic' (their statements: YtbmpehclflbbaaaTotals.lean).
  GIVEN WITH THE SEED: the statements are not yours to turn. If you find one false, say at which input.
  Laid BY PROGRAM, IN A SANDBOX (cutbox-rows.mjs): the forced cells as the released guide's own fill.sh prints them over the translation 0e823259bab3e24c… (all of the seat's roots in one cut). By AI agents, Wed Nov 11 2026. No macro, syntax, notation, axiom, sorry.
-/
import Derived.Test.YtbmpehclflbbaaaChecked
import GoSem.Claim
import GoSem.ClaimJoined
import GoSem.ClaimMapViews
import Derived.JoinedTies
import Derived.KernelRfl
namespace Go.Proofs.Ytbmpehclflbbaaa
/- THE CELL 'sum', in the pinned program and in every row, IS THE sha256 OF THE DUMP (.gsa) THAT YtbmpehclflbbaaaProg.lean LOADS. Nothing in Lean hashes anything: it is a label: what it is worth is what the hold of that sum in a sandbox is worth. -/
noncomputable def Try.pinned : Pinned := { name := "ytbmpehclflbbaaa", sum := "0e823259bab3e24cf454555443a8a8ca6041dbe5521903a51313ad440e81564a", checked := Try.checked }
namespace Rows
def none {H : Type} : Left H := { results := [], args := [] }

/-- 'laws.FnExactNeighborsOf': WHATEVER THE INPUT: true; the input reads as it did. -/
def fnExactNeighborsOfSpec : ChangeSpec := { name := "fnExactNeighborsOf", fn := fun _ => fun
  | [d1, d2] => { results := [.lit (.bool true)], args := [d1, d2] }
  | _ => none }
def fnExactNeighborsOfRow : OpenClaim := { program := "ytbmpehclflbbaaa", sum := "0e823259bab3e24cf454555443a8a8ca6041dbe5521903a51313ad440e81564a", func := "loop.example/g03200/laws.FnExactNeighborsOf", spec := "fnExactNeighborsOf", unfollowed := true, recurses := true, apart := false }
def FnExactNeighborsOfSaid : Prop := fnExactNeighborsOfRow.holds Try.pinned (OpenSpec.ofChange fnExactNeighborsOfSpec)

/-- ITS FALSE NEIGHBOUR: 'it returns false'. Refute it at one input. -/
def fnExactNeighborsOfWrong : ChangeSpec := { name := "fnExactNeighborsOf", fn := fun _ => fun
  | [d1, d2] => { results := [.lit (.bool false)], args := [d1, d2] }
  | _ => none }
def FnExactNeighborsOfWrongFalsely : Prop := fnExactNeighborsOfRow.holds Try.pinned (OpenSpec.ofChange fnExactNeighborsOfWrong)

/-- 'laws.FnExactCountEdges': WHATEVER THE INPUT: true; the input reads as it did. -/
def fnExactCountEdgesSpec : ChangeSpec := { name := "fnExactCountEdges", fn := fun _ => fun
  | [d] => { results := [.lit (.bool true)], args := [d] }
  | _ => none }
def fnExactCountEdgesRow : OpenClaim := { program := "ytbmpehclflbbaaa", sum := "0e823259bab3e24cf454555443a8a8ca6041dbe5521903a51313ad440e81564a", func := "loop.example/g03200/laws.FnExactCountEdges", spec := "fnExactCountEdges", apart := false }
def FnExactCountEdgesSaid : Prop := fnExactCountEdgesRow.holds Try.pinned (OpenSpec.ofChange fnExactCountEdgesSpec)

/-- ITS FALSE NEIGHBOUR: 'it returns false'. Refute it at one input. -/
def fnExactCountEdgesWrong : ChangeSpec := { name := "fnExactCountEdges", fn := fun _ => fun
  | [d] => { results := [.lit (.bool false)], args := [d] }
  | _ => none }
def FnExactCountEdgesWrongFalsely : Prop := fnExactCountEdgesRow.holds Try.pinned (OpenSpec.ofChange fnExactCountEdgesWrong)

/-- 'laws.FnExactCoverOf': WHATEVER THE INPUT: true; the input reads as it did. -/
def fnExactCoverOfSpec : ChangeSpec := { name := "fnExactCoverOf", fn := fun _ => fun
  | [d1, d2] => { results := [.lit (.bool true)], args := [d1, d2] }
  | _ => none }
def fnExactCoverOfRow : OpenClaim := { program := "ytbmpehclflbbaaa", sum := "0e823259bab3e24cf454555443a8a8ca6041dbe5521903a51313ad440e81564a", func := "loop.example/g03200/laws.FnExactCoverOf", spec := "fnExactCoverOf", unfollowed := true, recurses := true, apart := false }
def FnExactCoverOfSaid : Prop := fnExactCoverOfRow.holds Try.pinned (OpenSpec.ofChange fnExactCoverOfSpec)

/-- ITS FALSE NEIGHBOUR: 'it returns false'. Refute it at one input. -/
def fnExactCoverOfWrong : ChangeSpec := { name := "fnExactCoverOf", fn := fun _ => fun
  | [d1, d2] => { results := [.lit (.bool false)], args := [d1, d2] }
  | _ => none }
def FnExactCoverOfWrongFalsely : Prop := fnExactCoverOfRow.holds Try.pinned (OpenSpec.ofChange fnExactCoverOfWrong)

/-- 'laws.FnExactAddEdge': WHATEVER THE INPUT: true; the input reads as it did. -/
def fnExactAddEdgeSpec : ChangeSpec := { name := "fnExactAddEdge", fn := fun _ => fun
  | [d1, d2, d3] => { results := [.lit (.bool true)], args := [d1, d2, d3] }
  | _ => none }
def fnExactAddEdgeRow : OpenClaim := { program := "ytbmpehclflbbaaa", sum := "0e823259bab3e24cf454555443a8a8ca6041dbe5521903a51313ad440e81564a", func := "loop.example/g03200/laws.FnExactAddEdge", spec := "fnExactAddEdge", unfollowed := true, recurses := true, apart := false }
def FnExactAddEdgeSaid : Prop := fnExactAddEdgeRow.holds Try.pinned (OpenSpec.ofChange fnExactAddEdgeSpec)

/-- ITS FALSE NEIGHBOUR: 'it returns false'. Refute it at one input. -/
def fnExactAddEdgeWrong : ChangeSpec := { name := "fnExactAddEdge", fn := fun _ => fun
  | [d1, d2, d3] => { results := [.lit (.bool false)], args := [d1, d2, d3] }
  | _ => none }
def FnExactAddEdgeWrongFalsely : Prop := fnExactAddEdgeRow.holds Try.pinned (OpenSpec.ofChange fnExactAddEdgeWrong)

/-- 'laws.FnExactFewestDominating': WHATEVER THE INPUT: true; the input reads as it did. -/
def fnExactFewestDominatingSpec : ChangeSpec := { name := "fnExactFewestDominating", fn := fun _ => fun
  | [d] => { results := [.lit (.bool true)], args := [d] }
  | _ => none }
def fnExactFewestDominatingRow : OpenClaim := { program := "ytbmpehclflbbaaa", sum := "0e823259bab3e24cf454555443a8a8ca6041dbe5521903a51313ad440e81564a", func := "loop.example/g03200/laws.FnExactFewestDominating", spec := "fnExactFewestDominating", apart := false }
def FnExactFewestDominatingSaid : Prop := fnExactFewestDominatingRow.holds Try.pinned (OpenSpec.ofChange fnExactFewestDominatingSpec)

/-- ITS FALSE NEIGHBOUR: 'it returns false'. Refute it at one input. -/
def fnExactFewestDominatingWrong : ChangeSpec := { name := "fnExactFewestDominating", fn := fun _ => fun
  | [d] => { results := [.lit (.bool false)], args := [d] }
  | _ => none }
def FnExactFewestDominatingWrongFalsely : Prop := fnExactFewestDominatingRow.holds Try.pinned (OpenSpec.ofChange fnExactFewestDominatingWrong)

/-- 'laws.FnExactMostIndependent': WHATEVER THE INPUT: true; the input reads as it did. -/
def fnExactMostIndependentSpec : ChangeSpec := { name := "fnExactMostIndependent", fn := fun _ => fun
  | [d] => { results := [.lit (.bool true)], args := [d] }
  | _ => none }
def fnExactMostIndependentRow : OpenClaim := { program := "ytbmpehclflbbaaa", sum := "0e823259bab3e24cf454555443a8a8ca6041dbe5521903a51313ad440e81564a", func := "loop.example/g03200/laws.FnExactMostIndependent", spec := "fnExactMostIndependent", apart := false }
def FnExactMostIndependentSaid : Prop := fnExactMostIndependentRow.holds Try.pinned (OpenSpec.ofChange fnExactMostIndependentSpec)

/-- ITS FALSE NEIGHBOUR: 'it returns false'. Refute it at one input. -/
def fnExactMostIndependentWrong : ChangeSpec := { name := "fnExactMostIndependent", fn := fun _ => fun
  | [d] => { results := [.lit (.bool false)], args := [d] }
  | _ => none }
def FnExactMostIndependentWrongFalsely : Prop := fnExactMostIndependentRow.holds Try.pinned (OpenSpec.ofChange fnExactMostIndependentWrong)

/-- 'laws.FnExactIsConnected': WHATEVER THE INPUT: true; the input reads as it did. -/
def fnExactIsConnectedSpec : ChangeSpec := { name := "fnExactIsConnected", fn := fun _ => fun
  | [d] => { results := [.lit (.bool true)], args := [d] }
  | _ => none }
def fnExactIsConnectedRow : OpenClaim := { program := "ytbmpehclflbbaaa", sum := "0e823259bab3e24cf454555443a8a8ca6041dbe5521903a51313ad440e81564a", func := "loop.example/g03200/laws.FnExactIsConnected", spec := "fnExactIsConnected", apart := false }
def FnExactIsConnectedSaid : Prop := fnExactIsConnectedRow.holds Try.pinned (OpenSpec.ofChange fnExactIsConnectedSpec)

/-- ITS FALSE NEIGHBOUR: 'it returns false'. Refute it at one input. -/
def fnExactIsConnectedWrong : ChangeSpec := { name := "fnExactIsConnected", fn := fun _ => fun
  | [d] => { results := [.lit (.bool false)], args := [d] }
  | _ => none }
def FnExactIsConnectedWrongFalsely : Prop := fnExactIsConnectedRow.holds Try.pinned (OpenSpec.ofChange fnExactIsConnectedWrong)

/- THE SECOND FORM. 'bulk': how many values and letters a reading holds, each counted each time it is reached (what is shared counts as often as it is met; a slice's spare places count too). A statement '..UptoSaid' is the law's where the arguments, and the package variables that the reading takes, are together of bulk at most 1048576: NARROWER than '..Said'. Prove '..Said' where nothing that the law and all that it calls make is longer than what came in: it says more and counts as full. Else prove '..UptoSaid'. A law counts once. -/
mutual
def uptoBulk {H : Type} : DataW H → Nat
  | .lit (.string bytes) => bytes.length + 1
  | .lit _ => 1
  | .nil => 1
  | .ptr d => uptoBulk d + 1
  | .slice elems spare => uptoBulkAll elems + uptoBulkAll spare + 1
  | .agg parts => uptoBulkAll parts + 1
  | .iface _ d => uptoBulk d + 1
  | .map entries => uptoBulkEntries entries + 1
  | .held _ => 1
def uptoBulkAll {H : Type} : List (DataW H) → Nat
  | [] => 0
  | d :: r => uptoBulk d + uptoBulkAll r
def uptoBulkEntries {H : Type} : List (Lit × DataW H) → Nat
  | [] => 0
  | x :: r => uptoBulkEntry x + uptoBulkEntries r
def uptoBulkEntry {H : Type} : Lit × DataW H → Nat
  | (.string bytes, d) => bytes.length + uptoBulk d + 1
  | (_, d) => uptoBulk d + 1
 end
def uptoSmall : (H : Type) → List (DataW H) → Bool := fun _ ds => decide (uptoBulkAll ds ≤ 1048576)
def OpenSpec.upto (s : _root_.Go.ChangeSpec) : _root_.Go.OpenSpec := { _root_.Go.OpenSpec.ofChange s with cond := some uptoSmall }

/-- 'laws.FnExactNeighborsOf', WHERE WHAT IT READS IS OF BULK AT MOST 1048576: true; the input reads as it did. -/
def fnExactNeighborsOfUptoRow : OpenClaim := { program := "ytbmpehclflbbaaa", sum := "0e823259bab3e24cf454555443a8a8ca6041dbe5521903a51313ad440e81564a", func := "loop.example/g03200/laws.FnExactNeighborsOf", spec := "fnExactNeighborsOf", unfollowed := true, recurses := true, apart := false, narrowed := true }
def FnExactNeighborsOfUptoSaid : Prop := fnExactNeighborsOfUptoRow.holds Try.pinned (OpenSpec.upto fnExactNeighborsOfSpec)

/-- 'laws.FnExactCountEdges', WHERE WHAT IT READS IS OF BULK AT MOST 1048576: true; the input reads as it did. -/
def fnExactCountEdgesUptoRow : OpenClaim := { program := "ytbmpehclflbbaaa", sum := "0e823259bab3e24cf454555443a8a8ca6041dbe5521903a51313ad440e81564a", func := "loop.example/g03200/laws.FnExactCountEdges", spec := "fnExactCountEdges", apart := false, narrowed := true }
def FnExactCountEdgesUptoSaid : Prop := fnExactCountEdgesUptoRow.holds Try.pinned (OpenSpec.upto fnExactCountEdgesSpec)

/-- 'laws.FnExactCoverOf', WHERE WHAT IT READS IS OF BULK AT MOST 1048576: true; the input reads as it did. -/
def fnExactCoverOfUptoRow : OpenClaim := { program := "ytbmpehclflbbaaa", sum := "0e823259bab3e24cf454555443a8a8ca6041dbe5521903a51313ad440e81564a", func := "loop.example/g03200/laws.FnExactCoverOf", spec := "fnExactCoverOf", unfollowed := true, recurses := true, apart := false, narrowed := true }
def FnExactCoverOfUptoSaid : Prop := fnExactCoverOfUptoRow.holds Try.pinned (OpenSpec.upto fnExactCoverOfSpec)

/-- 'laws.FnExactAddEdge', WHERE WHAT IT READS IS OF BULK AT MOST 1048576: true; the input reads as it did. -/
def fnExactAddEdgeUptoRow : OpenClaim := { program := "ytbmpehclflbbaaa", sum := "0e823259bab3e24cf454555443a8a8ca6041dbe5521903a51313ad440e81564a", func := "loop.example/g03200/laws.FnExactAddEdge", spec := "fnExactAddEdge", unfollowed := true, recurses := true, apart := false, narrowed := true }
def FnExactAddEdgeUptoSaid : Prop := fnExactAddEdgeUptoRow.holds Try.pinned (OpenSpec.upto fnExactAddEdgeSpec)

/-- 'laws.FnExactFewestDominating', WHERE WHAT IT READS IS OF BULK AT MOST 1048576: true; the input reads as it did. -/
def fnExactFewestDominatingUptoRow : OpenClaim := { program := "ytbmpehclflbbaaa", sum := "0e823259bab3e24cf454555443a8a8ca6041dbe5521903a51313ad440e81564a", func := "loop.example/g03200/laws.FnExactFewestDominating", spec := "fnExactFewestDominating", apart := false, narrowed := true }
def FnExactFewestDominatingUptoSaid : Prop := fnExactFewestDominatingUptoRow.holds Try.pinned (OpenSpec.upto fnExactFewestDominatingSpec)

/-- 'laws.FnExactMostIndependent', WHERE WHAT IT READS IS OF BULK AT MOST 1048576: true; the input reads as it did. -/
def fnExactMostIndependentUptoRow : OpenClaim := { program := "ytbmpehclflbbaaa", sum := "0e823259bab3e24cf454555443a8a8ca6041dbe5521903a51313ad440e81564a", func := "loop.example/g03200/laws.FnExactMostIndependent", spec := "fnExactMostIndependent", apart := false, narrowed := true }
def FnExactMostIndependentUptoSaid : Prop := fnExactMostIndependentUptoRow.holds Try.pinned (OpenSpec.upto fnExactMostIndependentSpec)

/-- 'laws.FnExactIsConnected', WHERE WHAT IT READS IS OF BULK AT MOST 1048576: true; the input reads as it did. -/
def fnExactIsConnectedUptoRow : OpenClaim := { program := "ytbmpehclflbbaaa", sum := "0e823259bab3e24cf454555443a8a8ca6041dbe5521903a51313ad440e81564a", func := "loop.example/g03200/laws.FnExactIsConnected", spec := "fnExactIsConnected", apart := false, narrowed := true }
def FnExactIsConnectedUptoSaid : Prop := fnExactIsConnectedUptoRow.holds Try.pinned (OpenSpec.upto fnExactIsConnectedSpec)

end Rows
end Go.Proofs.Ytbmpehclflbbaaa

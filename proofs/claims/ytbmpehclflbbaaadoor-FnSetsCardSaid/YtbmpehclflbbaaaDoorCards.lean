/-
  DERIVED. GIVEN WITH THE SEED: THE CARDS: each row of YtbmpehclflbbaaaDoorRows.lean that lists a variable, with what it lists TIED to the program's text (the seventh form; the later family's looks); each row that meets fmt, with fmt's text TOLD by the authors' own Lean function (tested against real Go, not proved from fmt's source: count such statements apart). THE CARD IS WHAT COUNTS. Prove the row's statement (the work); the ties are given (YtbmpehclflbbaaaDoorTie.lean); close each card by the builder's one call (the guide's Derived/Test/ToyasCard.lean, 'card_holds'). Laid BY PROGRAM, IN A SANDBOX (cutbox-door.mjs). By AI agents, Wed Nov 11 2026. No macro, syntax, notation, axiom, sorry.
-/
import Derived.Test.YtbmpehclflbbaaaDoorRows
import GoSem.ClaimSeven
namespace Go.Proofs.YtbmpehclflbbaaaDoor
namespace Rows

/-- THE TIED CARD OF 'laws.FnSets'. -/
def fnSetsCard : Claim7 := { stood := { row := fnSetsRow, standIns := [], harness := (true, "27257f7c8904de718712d0b8510389c31e828b2218688861e76aab110e26697e"), looks := false }, kinds := [], alts := [], laidByText := true, laidKinds := [.data, .data], laidTests := true, laidLooks := .later }
def FnSetsCardSaid : Prop := Claim7.holds Tryd.pinned (.plain (OpenSpec.ofChange fnSetsSpec)) fnSetsCard

/-- THE TIED CARD OF 'laws.FnExactIsLinked'. -/
def fnExactIsLinkedCard : Claim7 := { stood := { row := fnExactIsLinkedRow, standIns := [], harness := (true, "27257f7c8904de718712d0b8510389c31e828b2218688861e76aab110e26697e"), looks := false }, kinds := [], alts := [], laidByText := true, laidKinds := [.data, .data], laidTests := true, laidLooks := .later }
def FnExactIsLinkedCardSaid : Prop := Claim7.holds Tryd.pinned (.plain (OpenSpec.ofChange fnExactIsLinkedSpec)) fnExactIsLinkedCard

/-- THE TIED CARD OF 'laws.FnExactFormatInt'. -/
def fnExactFormatIntCard : Claim7 := { stood := { row := fnExactFormatIntRow, standIns := [], harness := (true, "27257f7c8904de718712d0b8510389c31e828b2218688861e76aab110e26697e"), looks := false }, kinds := [], alts := [], laidByText := true, laidKinds := [.data, .data, .data], laidTests := true, laidLooks := .later }
def FnExactFormatIntCardSaid : Prop := Claim7.holds Tryd.pinned (.plain (OpenSpec.ofChange fnExactFormatIntSpec)) fnExactFormatIntCard

/-- THE TIED CARD OF 'laws.FnExactCliqueCover'. -/
def fnExactCliqueCoverCard : Claim7 := { stood := { row := fnExactCliqueCoverRow, standIns := [], harness := (true, "27257f7c8904de718712d0b8510389c31e828b2218688861e76aab110e26697e"), looks := false }, kinds := [], alts := [], laidByText := true, laidKinds := [.data, .data], laidTests := true, laidLooks := .later }
def FnExactCliqueCoverCardSaid : Prop := Claim7.holds Tryd.pinned (.plain (OpenSpec.ofChange fnExactCliqueCoverSpec)) fnExactCliqueCoverCard

/-- THE SECOND FORM's CARD OF 'laws.FnSets'. -/
def fnSetsUptoCard : Claim7 := { stood := { row := fnSetsUptoRow, standIns := [], harness := (true, "27257f7c8904de718712d0b8510389c31e828b2218688861e76aab110e26697e"), looks := false }, kinds := [], alts := [], laidByText := true, laidKinds := [.data, .data], laidTests := true, laidLooks := .later }
def FnSetsUptoCardSaid : Prop := Claim7.holds Tryd.pinned (.plain (OpenSpec.upto fnSetsSpec)) fnSetsUptoCard

/-- THE SECOND FORM's CARD OF 'laws.FnExactIsLinked'. -/
def fnExactIsLinkedUptoCard : Claim7 := { stood := { row := fnExactIsLinkedUptoRow, standIns := [], harness := (true, "27257f7c8904de718712d0b8510389c31e828b2218688861e76aab110e26697e"), looks := false }, kinds := [], alts := [], laidByText := true, laidKinds := [.data, .data], laidTests := true, laidLooks := .later }
def FnExactIsLinkedUptoCardSaid : Prop := Claim7.holds Tryd.pinned (.plain (OpenSpec.upto fnExactIsLinkedSpec)) fnExactIsLinkedUptoCard

/-- THE SECOND FORM's CARD OF 'laws.FnExactFormatInt'. -/
def fnExactFormatIntUptoCard : Claim7 := { stood := { row := fnExactFormatIntUptoRow, standIns := [], harness := (true, "27257f7c8904de718712d0b8510389c31e828b2218688861e76aab110e26697e"), looks := false }, kinds := [], alts := [], laidByText := true, laidKinds := [.data, .data, .data], laidTests := true, laidLooks := .later }
def FnExactFormatIntUptoCardSaid : Prop := Claim7.holds Tryd.pinned (.plain (OpenSpec.upto fnExactFormatIntSpec)) fnExactFormatIntUptoCard

/-- THE SECOND FORM's CARD OF 'laws.FnExactCliqueCover'. -/
def fnExactCliqueCoverUptoCard : Claim7 := { stood := { row := fnExactCliqueCoverUptoRow, standIns := [], harness := (true, "27257f7c8904de718712d0b8510389c31e828b2218688861e76aab110e26697e"), looks := false }, kinds := [], alts := [], laidByText := true, laidKinds := [.data, .data], laidTests := true, laidLooks := .later }
def FnExactCliqueCoverUptoCardSaid : Prop := Claim7.holds Tryd.pinned (.plain (OpenSpec.upto fnExactCliqueCoverSpec)) fnExactCliqueCoverUptoCard
end Rows
end Go.Proofs.YtbmpehclflbbaaaDoor

/-
  DERIVED. GIVEN WITH THE SEED: THE CARDS: each row of YtdgmbbjoifneiaaGreatDoorRows.lean that lists a variable, with what it lists TIED to the program's text (the seventh form; the later family's looks); each row that meets fmt, with fmt's text TOLD by the authors' own Lean function (tested against real Go, not proved from fmt's source: count such statements apart). THE CARD IS WHAT COUNTS. Prove the row's statement (the work); the ties are given (YtdgmbbjoifneiaaGreatDoorTie.lean); close each card by the builder's one call (the guide's Derived/Test/ToyasCard.lean, 'card_holds'). Laid BY PROGRAM, IN A SANDBOX (cutbox-door.mjs). By AI agents, Wed Nov 11 2026. No macro, syntax, notation, axiom, sorry.
-/
import Derived.Test.YtdgmbbjoifneiaaGreatDoorRows
import GoSem.ClaimSeven
namespace Go.Proofs.YtdgmbbjoifneiaaGreatDoor
namespace Rows

/-- THE TIED CARD OF 'laws.FnPolygons'. -/
def fnPolygonsCard : Claim7 := { stood := { row := fnPolygonsRow, standIns := [], harness := (true, "f25557dfd308f9873b58b6b286a9cdb2b721285b61b8ade3527a483430a1fa43"), looks := true }, kinds := [], alts := [], laidByText := true, laidKinds := [.data, .data, .data, .data, .sentinel, .sentinel, .pinned], laidTests := true, laidLooks := .later }
def FnPolygonsCardSaid : Prop := Claim7.holds Tryz.pinned (.plain (OpenSpec.ofChange fnPolygonsSpec)) fnPolygonsCard

/-- THE SECOND FORM's CARD OF 'laws.FnPolygons'. -/
def fnPolygonsUptoCard : Claim7 := { stood := { row := fnPolygonsUptoRow, standIns := [], harness := (true, "f25557dfd308f9873b58b6b286a9cdb2b721285b61b8ade3527a483430a1fa43"), looks := true }, kinds := [], alts := [], laidByText := true, laidKinds := [.data, .data, .data, .data, .sentinel, .sentinel, .pinned], laidTests := true, laidLooks := .later }
def FnPolygonsUptoCardSaid : Prop := Claim7.holds Tryz.pinned (.plain (OpenSpec.upto fnPolygonsSpec)) fnPolygonsUptoCard
end Rows
end Go.Proofs.YtdgmbbjoifneiaaGreatDoor

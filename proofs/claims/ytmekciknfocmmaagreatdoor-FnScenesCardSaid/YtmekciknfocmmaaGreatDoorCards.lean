/-
  DERIVED. GIVEN WITH THE SEED: THE CARDS: each row of YtmekciknfocmmaaGreatDoorRows.lean that lists a variable, with what it lists TIED to the program's text (the seventh form; the later family's looks); each row that meets fmt, with fmt's text TOLD by the authors' own Lean function (tested against real Go, not proved from fmt's source: count such statements apart). THE CARD IS WHAT COUNTS. Prove the row's statement (the work); the ties are given (YtmekciknfocmmaaGreatDoorTie.lean); close each card by the builder's one call (the guide's Derived/Test/ToyasCard.lean, 'card_holds'). Laid BY PROGRAM, IN A SANDBOX (cutbox-door.mjs). By AI agents, Wed Nov 11 2026. No macro, syntax, notation, axiom, sorry.
-/
import Derived.Test.YtmekciknfocmmaaGreatDoorRows
import GoSem.ClaimSeven
namespace Go.Proofs.YtmekciknfocmmaaGreatDoor
namespace Rows

/-- THE TIED CARD OF 'laws.FnScenes'. -/
def fnScenesCard : Claim7 := { stood := { row := fnScenesRow, standIns := [], harness := (true, "a802b4c22df1aa2ba4107616754a3a92ba5f5ddb9bce1afa2283ad0bf1e7c1e7"), looks := true }, kinds := [], alts := [], laidByText := true, laidKinds := [.data, .data, .data, .data, .sentinel, .sentinel, .pinned], laidTests := true, laidLooks := .later }
def FnScenesCardSaid : Prop := Claim7.holds Tryz.pinned (.plain (OpenSpec.ofChange fnScenesSpec)) fnScenesCard

/-- THE SECOND FORM's CARD OF 'laws.FnScenes'. -/
def fnScenesUptoCard : Claim7 := { stood := { row := fnScenesUptoRow, standIns := [], harness := (true, "a802b4c22df1aa2ba4107616754a3a92ba5f5ddb9bce1afa2283ad0bf1e7c1e7"), looks := true }, kinds := [], alts := [], laidByText := true, laidKinds := [.data, .data, .data, .data, .sentinel, .sentinel, .pinned], laidTests := true, laidLooks := .later }
def FnScenesUptoCardSaid : Prop := Claim7.holds Tryz.pinned (.plain (OpenSpec.upto fnScenesSpec)) fnScenesUptoCard
end Rows
end Go.Proofs.YtmekciknfocmmaaGreatDoor

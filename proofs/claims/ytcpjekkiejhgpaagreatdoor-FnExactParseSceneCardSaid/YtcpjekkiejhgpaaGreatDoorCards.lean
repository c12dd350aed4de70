/-
  DERIVED. GIVEN WITH THE SEED: THE CARDS: each row of YtcpjekkiejhgpaaGreatDoorRows.lean that lists a variable, with what it lists TIED to the program's text (the seventh form; the later family's looks); each row that meets fmt, with fmt's text TOLD by the authors' own Lean function (tested against real Go, not proved from fmt's source: count such statements apart). THE CARD IS WHAT COUNTS. Prove the row's statement (the work); the ties are given (YtcpjekkiejhgpaaGreatDoorTie.lean); close each card by the builder's one call (the guide's Derived/Test/ToyasCard.lean, 'card_holds'). Laid BY PROGRAM, IN A SANDBOX (cutbox-door.mjs). By AI agents, Wed Nov 11 2026. No macro, syntax, notation, axiom, sorry.
-/
import Derived.Test.YtcpjekkiejhgpaaGreatDoorRows
import GoSem.ClaimSeven
namespace Go.Proofs.YtcpjekkiejhgpaaGreatDoor
namespace Rows

/-- THE TIED CARD OF 'laws.FnExactParseScene'. -/
def fnExactParseSceneCard : Claim7 := { stood := { row := fnExactParseSceneRow, standIns := [], harness := (true, "650fe09883a29171cb2bcbb87a9af5fd36df750a818dac4d0dee32a7f0176d91"), looks := true }, kinds := [], alts := [], laidByText := true, laidKinds := [.data, .data, .data, .data, .sentinel, .sentinel, .pinned], laidTests := true, laidLooks := .later }
def FnExactParseSceneCardSaid : Prop := Claim7.holds Tryz.pinned (.plain (OpenSpec.ofChange fnExactParseSceneSpec)) fnExactParseSceneCard

/-- THE SECOND FORM's CARD OF 'laws.FnExactParseScene'. -/
def fnExactParseSceneUptoCard : Claim7 := { stood := { row := fnExactParseSceneUptoRow, standIns := [], harness := (true, "650fe09883a29171cb2bcbb87a9af5fd36df750a818dac4d0dee32a7f0176d91"), looks := true }, kinds := [], alts := [], laidByText := true, laidKinds := [.data, .data, .data, .data, .sentinel, .sentinel, .pinned], laidTests := true, laidLooks := .later }
def FnExactParseSceneUptoCardSaid : Prop := Claim7.holds Tryz.pinned (.plain (OpenSpec.upto fnExactParseSceneSpec)) fnExactParseSceneUptoCard
end Rows
end Go.Proofs.YtcpjekkiejhgpaaGreatDoor

/-
  DERIVED. GIVEN WITH THE SEED: THE CARDS: each row of YtcpjekkiejhgpaaDoorRows.lean that lists a variable, with what it lists TIED to the program's text (the seventh form; the later family's looks); each row that meets fmt, with fmt's text TOLD by the authors' own Lean function (tested against real Go, not proved from fmt's source: count such statements apart). THE CARD IS WHAT COUNTS. Prove the row's statement (the work); the ties are given (YtcpjekkiejhgpaaDoorTie.lean); close each card by the builder's one call (the guide's Derived/Test/ToyasCard.lean, 'card_holds'). Laid BY PROGRAM, IN A SANDBOX (cutbox-door.mjs). By AI agents, Wed Nov 11 2026. No macro, syntax, notation, axiom, sorry.
-/
import Derived.Test.YtcpjekkiejhgpaaDoorRows
import GoSem.ClaimSeven
namespace Go.Proofs.YtcpjekkiejhgpaaDoor
namespace Rows

/-- THE TIED CARD OF 'laws.FnExactParsePolygon'. -/
def fnExactParsePolygonCard : Claim7 := { stood := { row := fnExactParsePolygonRow, standIns := [], harness := (true, "84fef0f04cd85e0320c4d0a275866a73943b9998c0773d831effc93a231325cf"), looks := true }, kinds := [], alts := [], laidByText := true, laidKinds := [.data, .data, .data, .data, .sentinel, .sentinel, .pinned], laidTests := true, laidLooks := .later }
def FnExactParsePolygonCardSaid : Prop := Claim7.holds Tryd.pinned (.plain (OpenSpec.ofChange fnExactParsePolygonSpec)) fnExactParsePolygonCard

/-- THE SECOND FORM's CARD OF 'laws.FnExactParsePolygon'. -/
def fnExactParsePolygonUptoCard : Claim7 := { stood := { row := fnExactParsePolygonUptoRow, standIns := [], harness := (true, "84fef0f04cd85e0320c4d0a275866a73943b9998c0773d831effc93a231325cf"), looks := true }, kinds := [], alts := [], laidByText := true, laidKinds := [.data, .data, .data, .data, .sentinel, .sentinel, .pinned], laidTests := true, laidLooks := .later }
def FnExactParsePolygonUptoCardSaid : Prop := Claim7.holds Tryd.pinned (.plain (OpenSpec.upto fnExactParsePolygonSpec)) fnExactParsePolygonUptoCard
end Rows
end Go.Proofs.YtcpjekkiejhgpaaDoor

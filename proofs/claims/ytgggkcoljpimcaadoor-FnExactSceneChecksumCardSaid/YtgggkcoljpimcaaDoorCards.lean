/-
  DERIVED. GIVEN WITH THE SEED: THE CARDS: each row of YtgggkcoljpimcaaDoorRows.lean that lists a variable, with what it lists TIED to the program's text (the seventh form; the later family's looks); each row that meets fmt, with fmt's text TOLD by the authors' own Lean function (tested against real Go, not proved from fmt's source: count such statements apart). THE CARD IS WHAT COUNTS. Prove the row's statement (the work); the ties are given (YtgggkcoljpimcaaDoorTie.lean); close each card by the builder's one call (the guide's Derived/Test/ToyasCard.lean, 'card_holds'). Laid BY PROGRAM, IN A SANDBOX (cutbox-door.mjs). By AI agents, Wed Nov 11 2026. No macro, syntax, notation, axiom, sorry.
-/
import Derived.Test.YtgggkcoljpimcaaDoorRows
import GoSem.ClaimSeven
namespace Go.Proofs.YtgggkcoljpimcaaDoor
namespace Rows

/-- THE TIED CARD OF 'laws.FnExactFormatPolygon'. -/
def fnExactFormatPolygonCard : Claim7 := { stood := { row := fnExactFormatPolygonRow, standIns := [], harness := (true, "75b46b1db571b4b89252af226afc55d9985b387aea1b107c75179e14e1c227e5"), looks := false }, kinds := [], alts := [], laidByText := true, laidKinds := [.data, .data, .data], laidTests := true, laidLooks := .later }
def FnExactFormatPolygonCardSaid : Prop := Claim7.holds Tryd.pinned (.plain (OpenSpec.ofChange fnExactFormatPolygonSpec)) fnExactFormatPolygonCard

/-- THE TIED CARD OF 'laws.FnExactFormatScene'. -/
def fnExactFormatSceneCard : Claim7 := { stood := { row := fnExactFormatSceneRow, standIns := [], harness := (true, "75b46b1db571b4b89252af226afc55d9985b387aea1b107c75179e14e1c227e5"), looks := false }, kinds := [], alts := [], laidByText := true, laidKinds := [.data, .data, .data], laidTests := true, laidLooks := .later }
def FnExactFormatSceneCardSaid : Prop := Claim7.holds Tryd.pinned (.plain (OpenSpec.ofChange fnExactFormatSceneSpec)) fnExactFormatSceneCard

/-- THE TIED CARD OF 'laws.FnExactSceneChecksum'. -/
def fnExactSceneChecksumCard : Claim7 := { stood := { row := fnExactSceneChecksumRow, standIns := [], harness := (true, "75b46b1db571b4b89252af226afc55d9985b387aea1b107c75179e14e1c227e5"), looks := false }, kinds := [], alts := [], laidByText := true, laidKinds := [.data, .data, .data], laidTests := true, laidLooks := .later }
def FnExactSceneChecksumCardSaid : Prop := Claim7.holds Tryd.pinned (.plain (OpenSpec.ofChange fnExactSceneChecksumSpec)) fnExactSceneChecksumCard

/-- THE SECOND FORM's CARD OF 'laws.FnExactFormatPolygon'. -/
def fnExactFormatPolygonUptoCard : Claim7 := { stood := { row := fnExactFormatPolygonUptoRow, standIns := [], harness := (true, "75b46b1db571b4b89252af226afc55d9985b387aea1b107c75179e14e1c227e5"), looks := false }, kinds := [], alts := [], laidByText := true, laidKinds := [.data, .data, .data], laidTests := true, laidLooks := .later }
def FnExactFormatPolygonUptoCardSaid : Prop := Claim7.holds Tryd.pinned (.plain (OpenSpec.upto fnExactFormatPolygonSpec)) fnExactFormatPolygonUptoCard

/-- THE SECOND FORM's CARD OF 'laws.FnExactFormatScene'. -/
def fnExactFormatSceneUptoCard : Claim7 := { stood := { row := fnExactFormatSceneUptoRow, standIns := [], harness := (true, "75b46b1db571b4b89252af226afc55d9985b387aea1b107c75179e14e1c227e5"), looks := false }, kinds := [], alts := [], laidByText := true, laidKinds := [.data, .data, .data], laidTests := true, laidLooks := .later }
def FnExactFormatSceneUptoCardSaid : Prop := Claim7.holds Tryd.pinned (.plain (OpenSpec.upto fnExactFormatSceneSpec)) fnExactFormatSceneUptoCard

/-- THE SECOND FORM's CARD OF 'laws.FnExactSceneChecksum'. -/
def fnExactSceneChecksumUptoCard : Claim7 := { stood := { row := fnExactSceneChecksumUptoRow, standIns := [], harness := (true, "75b46b1db571b4b89252af226afc55d9985b387aea1b107c75179e14e1c227e5"), looks := false }, kinds := [], alts := [], laidByText := true, laidKinds := [.data, .data, .data], laidTests := true, laidLooks := .later }
def FnExactSceneChecksumUptoCardSaid : Prop := Claim7.holds Tryd.pinned (.plain (OpenSpec.upto fnExactSceneChecksumSpec)) fnExactSceneChecksumUptoCard
end Rows
end Go.Proofs.YtgggkcoljpimcaaDoor

/-
  No cell of these rows narrows 'for every input' (looked for: loops, veiled, ifaces, maps, wideKeys, modest, calm, conditions, laid).
  DERIVED. THE GIVEN ROWS OF THIS SEAT. 11 by the template 'for every input the law returns true; each argument reads behind the call as it read before'; 0 by the template 'total and deterministic' (their statements: YthnkggacopepgaaGreatTotals.lean).
  GIVEN WITH THE SEED: the statements are not yours to turn. If you find one false, say at which input.
  Laid BY PROGRAM, IN A SANDBOX (cutbox-rows.mjs): the forced cells as the released guide's own fill.sh prints them over the translation 71bf68f2c019b67d… (all of the seat's roots in one cut). By AI agents, Wed Nov 11 2026. No macro, syntax, notation, axiom, sorry.
-/
import Derived.Test.YthnkggacopepgaaGreatChecked
import GoSem.Claim
import GoSem.ClaimJoined
import GoSem.ClaimMapViews
import Derived.JoinedTies
import Derived.KernelRfl
namespace Go.Proofs.YthnkggacopepgaaGreat
/- THE CELL 'sum', in the pinned program and in every row, IS THE sha256 OF THE DUMP (.gsa) THAT YthnkggacopepgaaGreatProg.lean LOADS. Nothing in Lean hashes anything: it is a label: what it is worth is what the hold of that sum in a sandbox is worth. -/
noncomputable def Tryz.pinned : Pinned := { name := "ythnkggacopepgaagreat", sum := "71bf68f2c019b67da1f139177fbb3de81080f2686f39f44a8bb5710eb78c1f3c", checked := Tryz.checked }
namespace Rows
def none {H : Type} : Left H := { results := [], args := [] }

/-- 'laws.FnExactContainsPoint': WHATEVER THE INPUT: true; the input reads as it did. -/
def fnExactContainsPointSpec : ChangeSpec := { name := "fnExactContainsPoint", fn := fun _ => fun
  | [d1, d2] => { results := [.lit (.bool true)], args := [d1, d2] }
  | _ => none }
def fnExactContainsPointRow : OpenClaim := { program := "ythnkggacopepgaagreat", sum := "71bf68f2c019b67da1f139177fbb3de81080f2686f39f44a8bb5710eb78c1f3c", func := "loop.example/g00811/laws.FnExactContainsPoint", spec := "fnExactContainsPoint", unfollowed := true, recurses := true, apart := false }
def FnExactContainsPointSaid : Prop := fnExactContainsPointRow.holds Tryz.pinned (OpenSpec.ofChange fnExactContainsPointSpec)

/-- ITS FALSE NEIGHBOUR: 'it returns false'. Refute it at one input. -/
def fnExactContainsPointWrong : ChangeSpec := { name := "fnExactContainsPoint", fn := fun _ => fun
  | [d1, d2] => { results := [.lit (.bool false)], args := [d1, d2] }
  | _ => none }
def FnExactContainsPointWrongFalsely : Prop := fnExactContainsPointRow.holds Tryz.pinned (OpenSpec.ofChange fnExactContainsPointWrong)

/-- 'laws.FnExactSegmentMeets': WHATEVER THE INPUT: true; the input reads as it did. -/
def fnExactSegmentMeetsSpec : ChangeSpec := { name := "fnExactSegmentMeets", fn := fun _ => fun
  | [d1, d2, d3] => { results := [.lit (.bool true)], args := [d1, d2, d3] }
  | _ => none }
def fnExactSegmentMeetsRow : OpenClaim := { program := "ythnkggacopepgaagreat", sum := "71bf68f2c019b67da1f139177fbb3de81080f2686f39f44a8bb5710eb78c1f3c", func := "loop.example/g00811/laws.FnExactSegmentMeets", spec := "fnExactSegmentMeets", unfollowed := true, recurses := true, apart := false }
def FnExactSegmentMeetsSaid : Prop := fnExactSegmentMeetsRow.holds Tryz.pinned (OpenSpec.ofChange fnExactSegmentMeetsSpec)

/-- ITS FALSE NEIGHBOUR: 'it returns false'. Refute it at one input. -/
def fnExactSegmentMeetsWrong : ChangeSpec := { name := "fnExactSegmentMeets", fn := fun _ => fun
  | [d1, d2, d3] => { results := [.lit (.bool false)], args := [d1, d2, d3] }
  | _ => none }
def FnExactSegmentMeetsWrongFalsely : Prop := fnExactSegmentMeetsRow.holds Tryz.pinned (OpenSpec.ofChange fnExactSegmentMeetsWrong)

/-- 'laws.FnExactDiscTouches': WHATEVER THE INPUT: true; the input reads as it did. -/
def fnExactDiscTouchesSpec : ChangeSpec := { name := "fnExactDiscTouches", fn := fun _ => fun
  | [d1, d2, d3] => { results := [.lit (.bool true)], args := [d1, d2, d3] }
  | _ => none }
def fnExactDiscTouchesRow : OpenClaim := { program := "ythnkggacopepgaagreat", sum := "71bf68f2c019b67da1f139177fbb3de81080f2686f39f44a8bb5710eb78c1f3c", func := "loop.example/g00811/laws.FnExactDiscTouches", spec := "fnExactDiscTouches", unfollowed := true, recurses := true, apart := false }
def FnExactDiscTouchesSaid : Prop := fnExactDiscTouchesRow.holds Tryz.pinned (OpenSpec.ofChange fnExactDiscTouchesSpec)

/-- ITS FALSE NEIGHBOUR: 'it returns false'. Refute it at one input. -/
def fnExactDiscTouchesWrong : ChangeSpec := { name := "fnExactDiscTouches", fn := fun _ => fun
  | [d1, d2, d3] => { results := [.lit (.bool false)], args := [d1, d2, d3] }
  | _ => none }
def FnExactDiscTouchesWrongFalsely : Prop := fnExactDiscTouchesRow.holds Tryz.pinned (OpenSpec.ofChange fnExactDiscTouchesWrong)

/-- 'laws.FnExactSquareToPolygon': WHATEVER THE INPUT: true; the input reads as it did. -/
def fnExactSquareToPolygonSpec : ChangeSpec := { name := "fnExactSquareToPolygon", fn := fun _ => fun
  | [d1, d2] => { results := [.lit (.bool true)], args := [d1, d2] }
  | _ => none }
def fnExactSquareToPolygonRow : OpenClaim := { program := "ythnkggacopepgaagreat", sum := "71bf68f2c019b67da1f139177fbb3de81080f2686f39f44a8bb5710eb78c1f3c", func := "loop.example/g00811/laws.FnExactSquareToPolygon", spec := "fnExactSquareToPolygon", unfollowed := true, recurses := true, apart := false }
def FnExactSquareToPolygonSaid : Prop := fnExactSquareToPolygonRow.holds Tryz.pinned (OpenSpec.ofChange fnExactSquareToPolygonSpec)

/-- ITS FALSE NEIGHBOUR: 'it returns false'. Refute it at one input. -/
def fnExactSquareToPolygonWrong : ChangeSpec := { name := "fnExactSquareToPolygon", fn := fun _ => fun
  | [d1, d2] => { results := [.lit (.bool false)], args := [d1, d2] }
  | _ => none }
def FnExactSquareToPolygonWrongFalsely : Prop := fnExactSquareToPolygonRow.holds Tryz.pinned (OpenSpec.ofChange fnExactSquareToPolygonWrong)

/-- 'laws.FnExactRobotCorners': WHATEVER THE INPUT: true; the input reads as it did. -/
def fnExactRobotCornersSpec : ChangeSpec := { name := "fnExactRobotCorners", fn := fun _ => fun
  | [d1, d2, d3] => { results := [.lit (.bool true)], args := [d1, d2, d3] }
  | _ => none }
def fnExactRobotCornersRow : OpenClaim := { program := "ythnkggacopepgaagreat", sum := "71bf68f2c019b67da1f139177fbb3de81080f2686f39f44a8bb5710eb78c1f3c", func := "loop.example/g00811/laws.FnExactRobotCorners", spec := "fnExactRobotCorners", unfollowed := true, recurses := true, apart := false }
def FnExactRobotCornersSaid : Prop := fnExactRobotCornersRow.holds Tryz.pinned (OpenSpec.ofChange fnExactRobotCornersSpec)

/-- ITS FALSE NEIGHBOUR: 'it returns false'. Refute it at one input. -/
def fnExactRobotCornersWrong : ChangeSpec := { name := "fnExactRobotCorners", fn := fun _ => fun
  | [d1, d2, d3] => { results := [.lit (.bool false)], args := [d1, d2, d3] }
  | _ => none }
def FnExactRobotCornersWrongFalsely : Prop := fnExactRobotCornersRow.holds Tryz.pinned (OpenSpec.ofChange fnExactRobotCornersWrong)

/-- 'laws.FnExactCanTurnAt': WHATEVER THE INPUT: true; the input reads as it did. -/
def fnExactCanTurnAtSpec : ChangeSpec := { name := "fnExactCanTurnAt", fn := fun _ => fun
  | [d1, d2] => { results := [.lit (.bool true)], args := [d1, d2] }
  | _ => none }
def fnExactCanTurnAtRow : OpenClaim := { program := "ythnkggacopepgaagreat", sum := "71bf68f2c019b67da1f139177fbb3de81080f2686f39f44a8bb5710eb78c1f3c", func := "loop.example/g00811/laws.FnExactCanTurnAt", spec := "fnExactCanTurnAt", unfollowed := true, recurses := true, apart := false }
def FnExactCanTurnAtSaid : Prop := fnExactCanTurnAtRow.holds Tryz.pinned (OpenSpec.ofChange fnExactCanTurnAtSpec)

/-- ITS FALSE NEIGHBOUR: 'it returns false'. Refute it at one input. -/
def fnExactCanTurnAtWrong : ChangeSpec := { name := "fnExactCanTurnAt", fn := fun _ => fun
  | [d1, d2] => { results := [.lit (.bool false)], args := [d1, d2] }
  | _ => none }
def FnExactCanTurnAtWrongFalsely : Prop := fnExactCanTurnAtRow.holds Tryz.pinned (OpenSpec.ofChange fnExactCanTurnAtWrong)

/-- 'laws.FnExactSweptCorners': WHATEVER THE INPUT: true; the input reads as it did. -/
def fnExactSweptCornersSpec : ChangeSpec := { name := "fnExactSweptCorners", fn := fun _ => fun
  | [d1, d2, d3, d4] => { results := [.lit (.bool true)], args := [d1, d2, d3, d4] }
  | _ => none }
def fnExactSweptCornersRow : OpenClaim := { program := "ythnkggacopepgaagreat", sum := "71bf68f2c019b67da1f139177fbb3de81080f2686f39f44a8bb5710eb78c1f3c", func := "loop.example/g00811/laws.FnExactSweptCorners", spec := "fnExactSweptCorners", unfollowed := true, recurses := true, apart := false }
def FnExactSweptCornersSaid : Prop := fnExactSweptCornersRow.holds Tryz.pinned (OpenSpec.ofChange fnExactSweptCornersSpec)

/-- ITS FALSE NEIGHBOUR: 'it returns false'. Refute it at one input. -/
def fnExactSweptCornersWrong : ChangeSpec := { name := "fnExactSweptCorners", fn := fun _ => fun
  | [d1, d2, d3, d4] => { results := [.lit (.bool false)], args := [d1, d2, d3, d4] }
  | _ => none }
def FnExactSweptCornersWrongFalsely : Prop := fnExactSweptCornersRow.holds Tryz.pinned (OpenSpec.ofChange fnExactSweptCornersWrong)

/-- 'laws.FnExactSquareBetween': WHATEVER THE INPUT: true; the input reads as it did. -/
def fnExactSquareBetweenSpec : ChangeSpec := { name := "fnExactSquareBetween", fn := fun _ => fun
  | [d1, d2, d3] => { results := [.lit (.bool true)], args := [d1, d2, d3] }
  | _ => none }
def fnExactSquareBetweenRow : OpenClaim := { program := "ythnkggacopepgaagreat", sum := "71bf68f2c019b67da1f139177fbb3de81080f2686f39f44a8bb5710eb78c1f3c", func := "loop.example/g00811/laws.FnExactSquareBetween", spec := "fnExactSquareBetween", unfollowed := true, recurses := true, apart := false }
def FnExactSquareBetweenSaid : Prop := fnExactSquareBetweenRow.holds Tryz.pinned (OpenSpec.ofChange fnExactSquareBetweenSpec)

/-- ITS FALSE NEIGHBOUR: 'it returns false'. Refute it at one input. -/
def fnExactSquareBetweenWrong : ChangeSpec := { name := "fnExactSquareBetween", fn := fun _ => fun
  | [d1, d2, d3] => { results := [.lit (.bool false)], args := [d1, d2, d3] }
  | _ => none }
def FnExactSquareBetweenWrongFalsely : Prop := fnExactSquareBetweenRow.holds Tryz.pinned (OpenSpec.ofChange fnExactSquareBetweenWrong)

/-- 'laws.FnExactOpenTables': WHATEVER THE INPUT: true; the input reads as it did. -/
def fnExactOpenTablesSpec : ChangeSpec := { name := "fnExactOpenTables", fn := fun _ => fun
  | [d] => { results := [.lit (.bool true)], args := [d] }
  | _ => none }
def fnExactOpenTablesRow : OpenClaim := { program := "ythnkggacopepgaagreat", sum := "71bf68f2c019b67da1f139177fbb3de81080f2686f39f44a8bb5710eb78c1f3c", func := "loop.example/g00811/laws.FnExactOpenTables", spec := "fnExactOpenTables", unfollowed := true, recurses := true, apart := false }
def FnExactOpenTablesSaid : Prop := fnExactOpenTablesRow.holds Tryz.pinned (OpenSpec.ofChange fnExactOpenTablesSpec)

/-- ITS FALSE NEIGHBOUR: 'it returns false'. Refute it at one input. -/
def fnExactOpenTablesWrong : ChangeSpec := { name := "fnExactOpenTables", fn := fun _ => fun
  | [d] => { results := [.lit (.bool false)], args := [d] }
  | _ => none }
def FnExactOpenTablesWrongFalsely : Prop := fnExactOpenTablesRow.holds Tryz.pinned (OpenSpec.ofChange fnExactOpenTablesWrong)

/-- 'laws.FnExactIsFree': WHATEVER THE INPUT: true; the input reads as it did. -/
def fnExactIsFreeSpec : ChangeSpec := { name := "fnExactIsFree", fn := fun _ => fun
  | [d1, d2, d3] => { results := [.lit (.bool true)], args := [d1, d2, d3] }
  | _ => none }
def fnExactIsFreeRow : OpenClaim := { program := "ythnkggacopepgaagreat", sum := "71bf68f2c019b67da1f139177fbb3de81080f2686f39f44a8bb5710eb78c1f3c", func := "loop.example/g00811/laws.FnExactIsFree", spec := "fnExactIsFree", unfollowed := true, recurses := true, apart := false }
def FnExactIsFreeSaid : Prop := fnExactIsFreeRow.holds Tryz.pinned (OpenSpec.ofChange fnExactIsFreeSpec)

/-- ITS FALSE NEIGHBOUR: 'it returns false'. Refute it at one input. -/
def fnExactIsFreeWrong : ChangeSpec := { name := "fnExactIsFree", fn := fun _ => fun
  | [d1, d2, d3] => { results := [.lit (.bool false)], args := [d1, d2, d3] }
  | _ => none }
def FnExactIsFreeWrongFalsely : Prop := fnExactIsFreeRow.holds Tryz.pinned (OpenSpec.ofChange fnExactIsFreeWrong)

/-- 'laws.FnExactIsFreeMove': WHATEVER THE INPUT: true; the input reads as it did. -/
def fnExactIsFreeMoveSpec : ChangeSpec := { name := "fnExactIsFreeMove", fn := fun _ => fun
  | [d1, d2, d3, d4] => { results := [.lit (.bool true)], args := [d1, d2, d3, d4] }
  | _ => none }
def fnExactIsFreeMoveRow : OpenClaim := { program := "ythnkggacopepgaagreat", sum := "71bf68f2c019b67da1f139177fbb3de81080f2686f39f44a8bb5710eb78c1f3c", func := "loop.example/g00811/laws.FnExactIsFreeMove", spec := "fnExactIsFreeMove", unfollowed := true, recurses := true, apart := false }
def FnExactIsFreeMoveSaid : Prop := fnExactIsFreeMoveRow.holds Tryz.pinned (OpenSpec.ofChange fnExactIsFreeMoveSpec)

/-- ITS FALSE NEIGHBOUR: 'it returns false'. Refute it at one input. -/
def fnExactIsFreeMoveWrong : ChangeSpec := { name := "fnExactIsFreeMove", fn := fun _ => fun
  | [d1, d2, d3, d4] => { results := [.lit (.bool false)], args := [d1, d2, d3, d4] }
  | _ => none }
def FnExactIsFreeMoveWrongFalsely : Prop := fnExactIsFreeMoveRow.holds Tryz.pinned (OpenSpec.ofChange fnExactIsFreeMoveWrong)

/- THE SECOND FORM. 'bulk': how many values and letters a reading holds, each counted each time it is reached (what is shared counts as often as it is met; a slice's spare places count too). A statement '..UptoSaid' is the law's where the arguments, and the package variables that the reading takes, are together of bulk at most 1048576: NARROWER than '..Said'. Prove '..Said' where nothing that the law and all that it calls make is longer than what came in: it says more and counts as full. Else prove '..UptoSaid'. A law counts once. -/
mutual
def uptoBulk {H : Type} : DataW H → Nat
  | .lit (.string bytes) => bytes.length + 1
  | .lit _ => 1
  | .nil => 1
  | .ptr d => uptoBulk d + 1
  | .slice elems spare => uptoBulkAll elems + uptoBulkAll spare + 1
  | .agg parts => uptoBulkAll parts + 1
  | .iface _ d => uptoBulk d + 1
  | .map entries => uptoBulkEntries entries + 1
  | .held _ => 1
def uptoBulkAll {H : Type} : List (DataW H) → Nat
  | [] => 0
  | d :: r => uptoBulk d + uptoBulkAll r
def uptoBulkEntries {H : Type} : List (Lit × DataW H) → Nat
  | [] => 0
  | x :: r => uptoBulkEntry x + uptoBulkEntries r
def uptoBulkEntry {H : Type} : Lit × DataW H → Nat
  | (.string bytes, d) => bytes.length + uptoBulk d + 1
  | (_, d) => uptoBulk d + 1
 end
def uptoSmall : (H : Type) → List (DataW H) → Bool := fun _ ds => decide (uptoBulkAll ds ≤ 1048576)
def OpenSpec.upto (s : _root_.Go.ChangeSpec) : _root_.Go.OpenSpec := { _root_.Go.OpenSpec.ofChange s with cond := some uptoSmall }

/-- 'laws.FnExactContainsPoint', WHERE WHAT IT READS IS OF BULK AT MOST 1048576: true; the input reads as it did. -/
def fnExactContainsPointUptoRow : OpenClaim := { program := "ythnkggacopepgaagreat", sum := "71bf68f2c019b67da1f139177fbb3de81080f2686f39f44a8bb5710eb78c1f3c", func := "loop.example/g00811/laws.FnExactContainsPoint", spec := "fnExactContainsPoint", unfollowed := true, recurses := true, apart := false, narrowed := true }
def FnExactContainsPointUptoSaid : Prop := fnExactContainsPointUptoRow.holds Tryz.pinned (OpenSpec.upto fnExactContainsPointSpec)

/-- 'laws.FnExactSegmentMeets', WHERE WHAT IT READS IS OF BULK AT MOST 1048576: true; the input reads as it did. -/
def fnExactSegmentMeetsUptoRow : OpenClaim := { program := "ythnkggacopepgaagreat", sum := "71bf68f2c019b67da1f139177fbb3de81080f2686f39f44a8bb5710eb78c1f3c", func := "loop.example/g00811/laws.FnExactSegmentMeets", spec := "fnExactSegmentMeets", unfollowed := true, recurses := true, apart := false, narrowed := true }
def FnExactSegmentMeetsUptoSaid : Prop := fnExactSegmentMeetsUptoRow.holds Tryz.pinned (OpenSpec.upto fnExactSegmentMeetsSpec)

/-- 'laws.FnExactDiscTouches', WHERE WHAT IT READS IS OF BULK AT MOST 1048576: true; the input reads as it did. -/
def fnExactDiscTouchesUptoRow : OpenClaim := { program := "ythnkggacopepgaagreat", sum := "71bf68f2c019b67da1f139177fbb3de81080f2686f39f44a8bb5710eb78c1f3c", func := "loop.example/g00811/laws.FnExactDiscTouches", spec := "fnExactDiscTouches", unfollowed := true, recurses := true, apart := false, narrowed := true }
def FnExactDiscTouchesUptoSaid : Prop := fnExactDiscTouchesUptoRow.holds Tryz.pinned (OpenSpec.upto fnExactDiscTouchesSpec)

/-- 'laws.FnExactSquareToPolygon', WHERE WHAT IT READS IS OF BULK AT MOST 1048576: true; the input reads as it did. -/
def fnExactSquareToPolygonUptoRow : OpenClaim := { program := "ythnkggacopepgaagreat", sum := "71bf68f2c019b67da1f139177fbb3de81080f2686f39f44a8bb5710eb78c1f3c", func := "loop.example/g00811/laws.FnExactSquareToPolygon", spec := "fnExactSquareToPolygon", unfollowed := true, recurses := true, apart := false, narrowed := true }
def FnExactSquareToPolygonUptoSaid : Prop := fnExactSquareToPolygonUptoRow.holds Tryz.pinned (OpenSpec.upto fnExactSquareToPolygonSpec)

/-- 'laws.FnExactRobotCorners', WHERE WHAT IT READS IS OF BULK AT MOST 1048576: true; the input reads as it did. -/
def fnExactRobotCornersUptoRow : OpenClaim := { program := "ythnkggacopepgaagreat", sum := "71bf68f2c019b67da1f139177fbb3de81080f2686f39f44a8bb5710eb78c1f3c", func := "loop.example/g00811/laws.FnExactRobotCorners", spec := "fnExactRobotCorners", unfollowed := true, recurses := true, apart := false, narrowed := true }
def FnExactRobotCornersUptoSaid : Prop := fnExactRobotCornersUptoRow.holds Tryz.pinned (OpenSpec.upto fnExactRobotCornersSpec)

/-- 'laws.FnExactCanTurnAt', WHERE WHAT IT READS IS OF BULK AT MOST 1048576: true; the input reads as it did. -/
def fnExactCanTurnAtUptoRow : OpenClaim := { program := "ythnkggacopepgaagreat", sum := "71bf68f2c019b67da1f139177fbb3de81080f2686f39f44a8bb5710eb78c1f3c", func := "loop.example/g00811/laws.FnExactCanTurnAt", spec := "fnExactCanTurnAt", unfollowed := true, recurses := true, apart := false, narrowed := true }
def FnExactCanTurnAtUptoSaid : Prop := fnExactCanTurnAtUptoRow.holds Tryz.pinned (OpenSpec.upto fnExactCanTurnAtSpec)

/-- 'laws.FnExactSweptCorners', WHERE WHAT IT READS IS OF BULK AT MOST 1048576: true; the input reads as it did. -/
def fnExactSweptCornersUptoRow : OpenClaim := { program := "ythnkggacopepgaagreat", sum := "71bf68f2c019b67da1f139177fbb3de81080f2686f39f44a8bb5710eb78c1f3c", func := "loop.example/g00811/laws.FnExactSweptCorners", spec := "fnExactSweptCorners", unfollowed := true, recurses := true, apart := false, narrowed := true }
def FnExactSweptCornersUptoSaid : Prop := fnExactSweptCornersUptoRow.holds Tryz.pinned (OpenSpec.upto fnExactSweptCornersSpec)

/-- 'laws.FnExactSquareBetween', WHERE WHAT IT READS IS OF BULK AT MOST 1048576: true; the input reads as it did. -/
def fnExactSquareBetweenUptoRow : OpenClaim := { program := "ythnkggacopepgaagreat", sum := "71bf68f2c019b67da1f139177fbb3de81080f2686f39f44a8bb5710eb78c1f3c", func := "loop.example/g00811/laws.FnExactSquareBetween", spec := "fnExactSquareBetween", unfollowed := true, recurses := true, apart := false, narrowed := true }
def FnExactSquareBetweenUptoSaid : Prop := fnExactSquareBetweenUptoRow.holds Tryz.pinned (OpenSpec.upto fnExactSquareBetweenSpec)

/-- 'laws.FnExactOpenTables', WHERE WHAT IT READS IS OF BULK AT MOST 1048576: true; the input reads as it did. -/
def fnExactOpenTablesUptoRow : OpenClaim := { program := "ythnkggacopepgaagreat", sum := "71bf68f2c019b67da1f139177fbb3de81080f2686f39f44a8bb5710eb78c1f3c", func := "loop.example/g00811/laws.FnExactOpenTables", spec := "fnExactOpenTables", unfollowed := true, recurses := true, apart := false, narrowed := true }
def FnExactOpenTablesUptoSaid : Prop := fnExactOpenTablesUptoRow.holds Tryz.pinned (OpenSpec.upto fnExactOpenTablesSpec)

/-- 'laws.FnExactIsFree', WHERE WHAT IT READS IS OF BULK AT MOST 1048576: true; the input reads as it did. -/
def fnExactIsFreeUptoRow : OpenClaim := { program := "ythnkggacopepgaagreat", sum := "71bf68f2c019b67da1f139177fbb3de81080f2686f39f44a8bb5710eb78c1f3c", func := "loop.example/g00811/laws.FnExactIsFree", spec := "fnExactIsFree", unfollowed := true, recurses := true, apart := false, narrowed := true }
def FnExactIsFreeUptoSaid : Prop := fnExactIsFreeUptoRow.holds Tryz.pinned (OpenSpec.upto fnExactIsFreeSpec)

/-- 'laws.FnExactIsFreeMove', WHERE WHAT IT READS IS OF BULK AT MOST 1048576: true; the input reads as it did. -/
def fnExactIsFreeMoveUptoRow : OpenClaim := { program := "ythnkggacopepgaagreat", sum := "71bf68f2c019b67da1f139177fbb3de81080f2686f39f44a8bb5710eb78c1f3c", func := "loop.example/g00811/laws.FnExactIsFreeMove", spec := "fnExactIsFreeMove", unfollowed := true, recurses := true, apart := false, narrowed := true }
def FnExactIsFreeMoveUptoSaid : Prop := fnExactIsFreeMoveUptoRow.holds Tryz.pinned (OpenSpec.upto fnExactIsFreeMoveSpec)

end Rows
end Go.Proofs.YthnkggacopepgaaGreat

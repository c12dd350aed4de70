/-
  No cell of these rows narrows 'for every input' (looked for: loops, veiled, ifaces, maps, wideKeys, modest, calm, conditions, laid).
  DERIVED. THE GIVEN ROWS OF THIS SEAT. 9 by the template 'for every input the law returns true; each argument reads behind the call as it read before'; 0 by the template 'total and deterministic' (their statements: YtemgpfojmdncjaaTotals.lean).
  GIVEN WITH THE SEED: the statements are not yours to turn. If you find one false, say at which input.
  Laid BY PROGRAM, IN A SANDBOX (cutbox-rows.mjs): the forced cells as the released guide's own fill.sh prints them over the translation 7fe492a2749055f3… (all of the seat's roots in one cut). By AI agents, Wed Nov 11 2026. No macro, syntax, notation, axiom, sorry.
-/
import Derived.Test.YtemgpfojmdncjaaChecked
import GoSem.Claim
import GoSem.ClaimJoined
import GoSem.ClaimMapViews
import Derived.JoinedTies
import Derived.KernelRfl
namespace Go.Proofs.Ytemgpfojmdncjaa
/- THE CELL 'sum', in the pinned program and in every row, IS THE sha256 OF THE DUMP (.gsa) THAT YtemgpfojmdncjaaProg.lean LOADS. Nothing in Lean hashes anything: it is a label: what it is worth is what the hold of that sum in a sandbox is worth. -/
noncomputable def Try.pinned : Pinned := { name := "ytemgpfojmdncjaa", sum := "7fe492a2749055f30851197e6a03cc654563421129d3a0906fe8fd5d75175f64", checked := Try.checked }
namespace Rows
def none {H : Type} : Left H := { results := [], args := [] }

/-- 'laws.FnExactCheckText': WHATEVER THE INPUT: true; the input reads as it did. -/
def fnExactCheckTextSpec : ChangeSpec := { name := "fnExactCheckText", fn := fun _ => fun
  | [d] => { results := [.lit (.bool true)], args := [d] }
  | _ => none }
def fnExactCheckTextRow : OpenClaim := { program := "ytemgpfojmdncjaa", sum := "7fe492a2749055f30851197e6a03cc654563421129d3a0906fe8fd5d75175f64", func := "loop.example/g00811/laws.FnExactCheckText", spec := "fnExactCheckText", apart := false }
def FnExactCheckTextSaid : Prop := fnExactCheckTextRow.holds Try.pinned (OpenSpec.ofChange fnExactCheckTextSpec)

/-- ITS FALSE NEIGHBOUR: 'it returns false'. Refute it at one input. -/
def fnExactCheckTextWrong : ChangeSpec := { name := "fnExactCheckText", fn := fun _ => fun
  | [d] => { results := [.lit (.bool false)], args := [d] }
  | _ => none }
def FnExactCheckTextWrongFalsely : Prop := fnExactCheckTextRow.holds Try.pinned (OpenSpec.ofChange fnExactCheckTextWrong)

/-- 'laws.FnExactLimitsOf': WHATEVER THE INPUT: true; the input reads as it did. -/
def fnExactLimitsOfSpec : ChangeSpec := { name := "fnExactLimitsOf", fn := fun _ => fun
  | [d1, d2] => { results := [.lit (.bool true)], args := [d1, d2] }
  | _ => none }
def fnExactLimitsOfRow : OpenClaim := { program := "ytemgpfojmdncjaa", sum := "7fe492a2749055f30851197e6a03cc654563421129d3a0906fe8fd5d75175f64", func := "loop.example/g00811/laws.FnExactLimitsOf", spec := "fnExactLimitsOf", unfollowed := true, recurses := true, apart := false }
def FnExactLimitsOfSaid : Prop := fnExactLimitsOfRow.holds Try.pinned (OpenSpec.ofChange fnExactLimitsOfSpec)

/-- ITS FALSE NEIGHBOUR: 'it returns false'. Refute it at one input. -/
def fnExactLimitsOfWrong : ChangeSpec := { name := "fnExactLimitsOf", fn := fun _ => fun
  | [d1, d2] => { results := [.lit (.bool false)], args := [d1, d2] }
  | _ => none }
def FnExactLimitsOfWrongFalsely : Prop := fnExactLimitsOfRow.holds Try.pinned (OpenSpec.ofChange fnExactLimitsOfWrong)

/-- 'laws.FnExactPlacementAfter': WHATEVER THE INPUT: true; the input reads as it did. -/
def fnExactPlacementAfterSpec : ChangeSpec := { name := "fnExactPlacementAfter", fn := fun _ => fun
  | [d1, d2, d3] => { results := [.lit (.bool true)], args := [d1, d2, d3] }
  | _ => none }
def fnExactPlacementAfterRow : OpenClaim := { program := "ytemgpfojmdncjaa", sum := "7fe492a2749055f30851197e6a03cc654563421129d3a0906fe8fd5d75175f64", func := "loop.example/g00811/laws.FnExactPlacementAfter", spec := "fnExactPlacementAfter", apart := false }
def FnExactPlacementAfterSaid : Prop := fnExactPlacementAfterRow.holds Try.pinned (OpenSpec.ofChange fnExactPlacementAfterSpec)

/-- ITS FALSE NEIGHBOUR: 'it returns false'. Refute it at one input. -/
def fnExactPlacementAfterWrong : ChangeSpec := { name := "fnExactPlacementAfter", fn := fun _ => fun
  | [d1, d2, d3] => { results := [.lit (.bool false)], args := [d1, d2, d3] }
  | _ => none }
def FnExactPlacementAfterWrongFalsely : Prop := fnExactPlacementAfterRow.holds Try.pinned (OpenSpec.ofChange fnExactPlacementAfterWrong)

/-- 'laws.FnExactRemoveObstacle': WHATEVER THE INPUT: true; the input reads as it did. -/
def fnExactRemoveObstacleSpec : ChangeSpec := { name := "fnExactRemoveObstacle", fn := fun _ => fun
  | [d1, d2] => { results := [.lit (.bool true)], args := [d1, d2] }
  | _ => none }
def fnExactRemoveObstacleRow : OpenClaim := { program := "ytemgpfojmdncjaa", sum := "7fe492a2749055f30851197e6a03cc654563421129d3a0906fe8fd5d75175f64", func := "loop.example/g00811/laws.FnExactRemoveObstacle", spec := "fnExactRemoveObstacle", unfollowed := true, recurses := true, apart := false }
def FnExactRemoveObstacleSaid : Prop := fnExactRemoveObstacleRow.holds Try.pinned (OpenSpec.ofChange fnExactRemoveObstacleSpec)

/-- ITS FALSE NEIGHBOUR: 'it returns false'. Refute it at one input. -/
def fnExactRemoveObstacleWrong : ChangeSpec := { name := "fnExactRemoveObstacle", fn := fun _ => fun
  | [d1, d2] => { results := [.lit (.bool false)], args := [d1, d2] }
  | _ => none }
def FnExactRemoveObstacleWrongFalsely : Prop := fnExactRemoveObstacleRow.holds Try.pinned (OpenSpec.ofChange fnExactRemoveObstacleWrong)

/-- 'laws.FnExactShiftObstacle': WHATEVER THE INPUT: true; the input reads as it did. -/
def fnExactShiftObstacleSpec : ChangeSpec := { name := "fnExactShiftObstacle", fn := fun _ => fun
  | [d1, d2, d3] => { results := [.lit (.bool true)], args := [d1, d2, d3] }
  | _ => none }
def fnExactShiftObstacleRow : OpenClaim := { program := "ytemgpfojmdncjaa", sum := "7fe492a2749055f30851197e6a03cc654563421129d3a0906fe8fd5d75175f64", func := "loop.example/g00811/laws.FnExactShiftObstacle", spec := "fnExactShiftObstacle", unfollowed := true, recurses := true, apart := false }
def FnExactShiftObstacleSaid : Prop := fnExactShiftObstacleRow.holds Try.pinned (OpenSpec.ofChange fnExactShiftObstacleSpec)

/-- ITS FALSE NEIGHBOUR: 'it returns false'. Refute it at one input. -/
def fnExactShiftObstacleWrong : ChangeSpec := { name := "fnExactShiftObstacle", fn := fun _ => fun
  | [d1, d2, d3] => { results := [.lit (.bool false)], args := [d1, d2, d3] }
  | _ => none }
def FnExactShiftObstacleWrongFalsely : Prop := fnExactShiftObstacleRow.holds Try.pinned (OpenSpec.ofChange fnExactShiftObstacleWrong)

/-- 'laws.FnExactReverseMotion': WHATEVER THE INPUT: true; the input reads as it did. -/
def fnExactReverseMotionSpec : ChangeSpec := { name := "fnExactReverseMotion", fn := fun _ => fun
  | [d1, d2] => { results := [.lit (.bool true)], args := [d1, d2] }
  | _ => none }
def fnExactReverseMotionRow : OpenClaim := { program := "ytemgpfojmdncjaa", sum := "7fe492a2749055f30851197e6a03cc654563421129d3a0906fe8fd5d75175f64", func := "loop.example/g00811/laws.FnExactReverseMotion", spec := "fnExactReverseMotion", apart := false }
def FnExactReverseMotionSaid : Prop := fnExactReverseMotionRow.holds Try.pinned (OpenSpec.ofChange fnExactReverseMotionSpec)

/-- ITS FALSE NEIGHBOUR: 'it returns false'. Refute it at one input. -/
def fnExactReverseMotionWrong : ChangeSpec := { name := "fnExactReverseMotion", fn := fun _ => fun
  | [d1, d2] => { results := [.lit (.bool false)], args := [d1, d2] }
  | _ => none }
def FnExactReverseMotionWrongFalsely : Prop := fnExactReverseMotionRow.holds Try.pinned (OpenSpec.ofChange fnExactReverseMotionWrong)

/-- 'laws.FnExactHullOf': WHATEVER THE INPUT: true; the input reads as it did. -/
def fnExactHullOfSpec : ChangeSpec := { name := "fnExactHullOf", fn := fun _ => fun
  | [d] => { results := [.lit (.bool true)], args := [d] }
  | _ => none }
def fnExactHullOfRow : OpenClaim := { program := "ytemgpfojmdncjaa", sum := "7fe492a2749055f30851197e6a03cc654563421129d3a0906fe8fd5d75175f64", func := "loop.example/g00811/laws.FnExactHullOf", spec := "fnExactHullOf", unfollowed := true, recurses := true, apart := false }
def FnExactHullOfSaid : Prop := fnExactHullOfRow.holds Try.pinned (OpenSpec.ofChange fnExactHullOfSpec)

/-- ITS FALSE NEIGHBOUR: 'it returns false'. Refute it at one input. -/
def fnExactHullOfWrong : ChangeSpec := { name := "fnExactHullOf", fn := fun _ => fun
  | [d] => { results := [.lit (.bool false)], args := [d] }
  | _ => none }
def FnExactHullOfWrongFalsely : Prop := fnExactHullOfRow.holds Try.pinned (OpenSpec.ofChange fnExactHullOfWrong)

/-- 'laws.FnExactSumPolygons': WHATEVER THE INPUT: true; the input reads as it did. -/
def fnExactSumPolygonsSpec : ChangeSpec := { name := "fnExactSumPolygons", fn := fun _ => fun
  | [d1, d2] => { results := [.lit (.bool true)], args := [d1, d2] }
  | _ => none }
def fnExactSumPolygonsRow : OpenClaim := { program := "ytemgpfojmdncjaa", sum := "7fe492a2749055f30851197e6a03cc654563421129d3a0906fe8fd5d75175f64", func := "loop.example/g00811/laws.FnExactSumPolygons", spec := "fnExactSumPolygons", unfollowed := true, recurses := true, apart := false }
def FnExactSumPolygonsSaid : Prop := fnExactSumPolygonsRow.holds Try.pinned (OpenSpec.ofChange fnExactSumPolygonsSpec)

/-- ITS FALSE NEIGHBOUR: 'it returns false'. Refute it at one input. -/
def fnExactSumPolygonsWrong : ChangeSpec := { name := "fnExactSumPolygons", fn := fun _ => fun
  | [d1, d2] => { results := [.lit (.bool false)], args := [d1, d2] }
  | _ => none }
def FnExactSumPolygonsWrongFalsely : Prop := fnExactSumPolygonsRow.holds Try.pinned (OpenSpec.ofChange fnExactSumPolygonsWrong)

/-- 'laws.FnExactObstacleFor': WHATEVER THE INPUT: true; the input reads as it did. -/
def fnExactObstacleForSpec : ChangeSpec := { name := "fnExactObstacleFor", fn := fun _ => fun
  | [d1, d2] => { results := [.lit (.bool true)], args := [d1, d2] }
  | _ => none }
def fnExactObstacleForRow : OpenClaim := { program := "ytemgpfojmdncjaa", sum := "7fe492a2749055f30851197e6a03cc654563421129d3a0906fe8fd5d75175f64", func := "loop.example/g00811/laws.FnExactObstacleFor", spec := "fnExactObstacleFor", unfollowed := true, recurses := true, apart := false }
def FnExactObstacleForSaid : Prop := fnExactObstacleForRow.holds Try.pinned (OpenSpec.ofChange fnExactObstacleForSpec)

/-- ITS FALSE NEIGHBOUR: 'it returns false'. Refute it at one input. -/
def fnExactObstacleForWrong : ChangeSpec := { name := "fnExactObstacleFor", fn := fun _ => fun
  | [d1, d2] => { results := [.lit (.bool false)], args := [d1, d2] }
  | _ => none }
def FnExactObstacleForWrongFalsely : Prop := fnExactObstacleForRow.holds Try.pinned (OpenSpec.ofChange fnExactObstacleForWrong)

/- THE SECOND FORM. 'bulk': how many values and letters a reading holds, each counted each time it is reached (what is shared counts as often as it is met; a slice's spare places count too). A statement '..UptoSaid' is the law's where the arguments, and the package variables that the reading takes, are together of bulk at most 1048576: NARROWER than '..Said'. Prove '..Said' where nothing that the law and all that it calls make is longer than what came in: it says more and counts as full. Else prove '..UptoSaid'. A law counts once. -/
mutual
def uptoBulk {H : Type} : DataW H → Nat
  | .lit (.string bytes) => bytes.length + 1
  | .lit _ => 1
  | .nil => 1
  | .ptr d => uptoBulk d + 1
  | .slice elems spare => uptoBulkAll elems + uptoBulkAll spare + 1
  | .agg parts => uptoBulkAll parts + 1
  | .iface _ d => uptoBulk d + 1
  | .map entries => uptoBulkEntries entries + 1
  | .held _ => 1
def uptoBulkAll {H : Type} : List (DataW H) → Nat
  | [] => 0
  | d :: r => uptoBulk d + uptoBulkAll r
def uptoBulkEntries {H : Type} : List (Lit × DataW H) → Nat
  | [] => 0
  | x :: r => uptoBulkEntry x + uptoBulkEntries r
def uptoBulkEntry {H : Type} : Lit × DataW H → Nat
  | (.string bytes, d) => bytes.length + uptoBulk d + 1
  | (_, d) => uptoBulk d + 1
 end
def uptoSmall : (H : Type) → List (DataW H) → Bool := fun _ ds => decide (uptoBulkAll ds ≤ 1048576)
def OpenSpec.upto (s : _root_.Go.ChangeSpec) : _root_.Go.OpenSpec := { _root_.Go.OpenSpec.ofChange s with cond := some uptoSmall }

/-- 'laws.FnExactCheckText', WHERE WHAT IT READS IS OF BULK AT MOST 1048576: true; the input reads as it did. -/
def fnExactCheckTextUptoRow : OpenClaim := { program := "ytemgpfojmdncjaa", sum := "7fe492a2749055f30851197e6a03cc654563421129d3a0906fe8fd5d75175f64", func := "loop.example/g00811/laws.FnExactCheckText", spec := "fnExactCheckText", apart := false, narrowed := true }
def FnExactCheckTextUptoSaid : Prop := fnExactCheckTextUptoRow.holds Try.pinned (OpenSpec.upto fnExactCheckTextSpec)

/-- 'laws.FnExactLimitsOf', WHERE WHAT IT READS IS OF BULK AT MOST 1048576: true; the input reads as it did. -/
def fnExactLimitsOfUptoRow : OpenClaim := { program := "ytemgpfojmdncjaa", sum := "7fe492a2749055f30851197e6a03cc654563421129d3a0906fe8fd5d75175f64", func := "loop.example/g00811/laws.FnExactLimitsOf", spec := "fnExactLimitsOf", unfollowed := true, recurses := true, apart := false, narrowed := true }
def FnExactLimitsOfUptoSaid : Prop := fnExactLimitsOfUptoRow.holds Try.pinned (OpenSpec.upto fnExactLimitsOfSpec)

/-- 'laws.FnExactPlacementAfter', WHERE WHAT IT READS IS OF BULK AT MOST 1048576: true; the input reads as it did. -/
def fnExactPlacementAfterUptoRow : OpenClaim := { program := "ytemgpfojmdncjaa", sum := "7fe492a2749055f30851197e6a03cc654563421129d3a0906fe8fd5d75175f64", func := "loop.example/g00811/laws.FnExactPlacementAfter", spec := "fnExactPlacementAfter", apart := false, narrowed := true }
def FnExactPlacementAfterUptoSaid : Prop := fnExactPlacementAfterUptoRow.holds Try.pinned (OpenSpec.upto fnExactPlacementAfterSpec)

/-- 'laws.FnExactRemoveObstacle', WHERE WHAT IT READS IS OF BULK AT MOST 1048576: true; the input reads as it did. -/
def fnExactRemoveObstacleUptoRow : OpenClaim := { program := "ytemgpfojmdncjaa", sum := "7fe492a2749055f30851197e6a03cc654563421129d3a0906fe8fd5d75175f64", func := "loop.example/g00811/laws.FnExactRemoveObstacle", spec := "fnExactRemoveObstacle", unfollowed := true, recurses := true, apart := false, narrowed := true }
def FnExactRemoveObstacleUptoSaid : Prop := fnExactRemoveObstacleUptoRow.holds Try.pinned (OpenSpec.upto fnExactRemoveObstacleSpec)

/-- 'laws.FnExactShiftObstacle', WHERE WHAT IT READS IS OF BULK AT MOST 1048576: true; the input reads as it did. -/
def fnExactShiftObstacleUptoRow : OpenClaim := { program := "ytemgpfojmdncjaa", sum := "7fe492a2749055f30851197e6a03cc654563421129d3a0906fe8fd5d75175f64", func := "loop.example/g00811/laws.FnExactShiftObstacle", spec := "fnExactShiftObstacle", unfollowed := true, recurses := true, apart := false, narrowed := true }
def FnExactShiftObstacleUptoSaid : Prop := fnExactShiftObstacleUptoRow.holds Try.pinned (OpenSpec.upto fnExactShiftObstacleSpec)

/-- 'laws.FnExactReverseMotion', WHERE WHAT IT READS IS OF BULK AT MOST 1048576: true; the input reads as it did. -/
def fnExactReverseMotionUptoRow : OpenClaim := { program := "ytemgpfojmdncjaa", sum := "7fe492a2749055f30851197e6a03cc654563421129d3a0906fe8fd5d75175f64", func := "loop.example/g00811/laws.FnExactReverseMotion", spec := "fnExactReverseMotion", apart := false, narrowed := true }
def FnExactReverseMotionUptoSaid : Prop := fnExactReverseMotionUptoRow.holds Try.pinned (OpenSpec.upto fnExactReverseMotionSpec)

/-- 'laws.FnExactHullOf', WHERE WHAT IT READS IS OF BULK AT MOST 1048576: true; the input reads as it did. -/
def fnExactHullOfUptoRow : OpenClaim := { program := "ytemgpfojmdncjaa", sum := "7fe492a2749055f30851197e6a03cc654563421129d3a0906fe8fd5d75175f64", func := "loop.example/g00811/laws.FnExactHullOf", spec := "fnExactHullOf", unfollowed := true, recurses := true, apart := false, narrowed := true }
def FnExactHullOfUptoSaid : Prop := fnExactHullOfUptoRow.holds Try.pinned (OpenSpec.upto fnExactHullOfSpec)

/-- 'laws.FnExactSumPolygons', WHERE WHAT IT READS IS OF BULK AT MOST 1048576: true; the input reads as it did. -/
def fnExactSumPolygonsUptoRow : OpenClaim := { program := "ytemgpfojmdncjaa", sum := "7fe492a2749055f30851197e6a03cc654563421129d3a0906fe8fd5d75175f64", func := "loop.example/g00811/laws.FnExactSumPolygons", spec := "fnExactSumPolygons", unfollowed := true, recurses := true, apart := false, narrowed := true }
def FnExactSumPolygonsUptoSaid : Prop := fnExactSumPolygonsUptoRow.holds Try.pinned (OpenSpec.upto fnExactSumPolygonsSpec)

/-- 'laws.FnExactObstacleFor', WHERE WHAT IT READS IS OF BULK AT MOST 1048576: true; the input reads as it did. -/
def fnExactObstacleForUptoRow : OpenClaim := { program := "ytemgpfojmdncjaa", sum := "7fe492a2749055f30851197e6a03cc654563421129d3a0906fe8fd5d75175f64", func := "loop.example/g00811/laws.FnExactObstacleFor", spec := "fnExactObstacleFor", unfollowed := true, recurses := true, apart := false, narrowed := true }
def FnExactObstacleForUptoSaid : Prop := fnExactObstacleForUptoRow.holds Try.pinned (OpenSpec.upto fnExactObstacleForSpec)

end Rows
end Go.Proofs.Ytemgpfojmdncjaa

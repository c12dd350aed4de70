/-
  No cell of these rows narrows 'for every input' (looked for: loops, veiled, ifaces, maps, wideKeys, modest, calm, conditions, laid).
  DERIVED. THE GIVEN ROWS OF THIS SEAT. 4 by the template 'for every input the law returns true; each argument reads behind the call as it read before'; 0 by the template 'total and deterministic' (their statements: YtaleabdmgaeipaaTotals.lean).
  GIVEN WITH THE SEED: the statements are not yours to turn. If you find one false, say at which input.
  Laid BY PROGRAM, IN A SANDBOX (cutbox-rows.mjs): the forced cells as the released guide's own fill.sh prints them over the translation c11829849d9a835f… (all of the seat's roots in one cut). By AI agents, Wed Nov 11 2026. No macro, syntax, notation, axiom, sorry.
-/
import Derived.Test.YtaleabdmgaeipaaChecked
import GoSem.Claim
import GoSem.ClaimJoined
import GoSem.ClaimMapViews
import Derived.JoinedTies
import Derived.KernelRfl
namespace Go.Proofs.Ytaleabdmgaeipaa
/- THE CELL 'sum', in the pinned program and in every row, IS THE sha256 OF THE DUMP (.gsa) THAT YtaleabdmgaeipaaProg.lean LOADS. Nothing in Lean hashes anything: it is a label: what it is worth is what the hold of that sum in a sandbox is worth. -/
noncomputable def Try.pinned : Pinned := { name := "ytaleabdmgaeipaa", sum := "c11829849d9a835f2d74dc9af6d6f94b43cbabf3a7a07fbb7ae584519b78cc6b", checked := Try.checked }
namespace Rows
def none {H : Type} : Left H := { results := [], args := [] }

/-- 'laws.FnExactHullOf': WHATEVER THE INPUT: true; the input reads as it did. -/
def fnExactHullOfSpec : ChangeSpec := { name := "fnExactHullOf", fn := fun _ => fun
  | [d] => { results := [.lit (.bool true)], args := [d] }
  | _ => none }
def fnExactHullOfRow : OpenClaim := { program := "ytaleabdmgaeipaa", sum := "c11829849d9a835f2d74dc9af6d6f94b43cbabf3a7a07fbb7ae584519b78cc6b", func := "loop.example/g00811/laws.FnExactHullOf", spec := "fnExactHullOf", unfollowed := true, recurses := true, apart := false }
def FnExactHullOfSaid : Prop := fnExactHullOfRow.holds Try.pinned (OpenSpec.ofChange fnExactHullOfSpec)

/-- ITS FALSE NEIGHBOUR: 'it returns false'. Refute it at one input. -/
def fnExactHullOfWrong : ChangeSpec := { name := "fnExactHullOf", fn := fun _ => fun
  | [d] => { results := [.lit (.bool false)], args := [d] }
  | _ => none }
def FnExactHullOfWrongFalsely : Prop := fnExactHullOfRow.holds Try.pinned (OpenSpec.ofChange fnExactHullOfWrong)

/-- 'laws.FnExactSumPolygons': WHATEVER THE INPUT: true; the input reads as it did. -/
def fnExactSumPolygonsSpec : ChangeSpec := { name := "fnExactSumPolygons", fn := fun _ => fun
  | [d1, d2] => { results := [.lit (.bool true)], args := [d1, d2] }
  | _ => none }
def fnExactSumPolygonsRow : OpenClaim := { program := "ytaleabdmgaeipaa", sum := "c11829849d9a835f2d74dc9af6d6f94b43cbabf3a7a07fbb7ae584519b78cc6b", func := "loop.example/g00811/laws.FnExactSumPolygons", spec := "fnExactSumPolygons", unfollowed := true, recurses := true, apart := false }
def FnExactSumPolygonsSaid : Prop := fnExactSumPolygonsRow.holds Try.pinned (OpenSpec.ofChange fnExactSumPolygonsSpec)

/-- ITS FALSE NEIGHBOUR: 'it returns false'. Refute it at one input. -/
def fnExactSumPolygonsWrong : ChangeSpec := { name := "fnExactSumPolygons", fn := fun _ => fun
  | [d1, d2] => { results := [.lit (.bool false)], args := [d1, d2] }
  | _ => none }
def FnExactSumPolygonsWrongFalsely : Prop := fnExactSumPolygonsRow.holds Try.pinned (OpenSpec.ofChange fnExactSumPolygonsWrong)

/-- 'laws.FnExactObstacleFor': WHATEVER THE INPUT: true; the input reads as it did. -/
def fnExactObstacleForSpec : ChangeSpec := { name := "fnExactObstacleFor", fn := fun _ => fun
  | [d1, d2] => { results := [.lit (.bool true)], args := [d1, d2] }
  | _ => none }
def fnExactObstacleForRow : OpenClaim := { program := "ytaleabdmgaeipaa", sum := "c11829849d9a835f2d74dc9af6d6f94b43cbabf3a7a07fbb7ae584519b78cc6b", func := "loop.example/g00811/laws.FnExactObstacleFor", spec := "fnExactObstacleFor", unfollowed := true, recurses := true, apart := false }
def FnExactObstacleForSaid : Prop := fnExactObstacleForRow.holds Try.pinned (OpenSpec.ofChange fnExactObstacleForSpec)

/-- ITS FALSE NEIGHBOUR: 'it returns false'. Refute it at one input. -/
def fnExactObstacleForWrong : ChangeSpec := { name := "fnExactObstacleFor", fn := fun _ => fun
  | [d1, d2] => { results := [.lit (.bool false)], args := [d1, d2] }
  | _ => none }
def FnExactObstacleForWrongFalsely : Prop := fnExactObstacleForRow.holds Try.pinned (OpenSpec.ofChange fnExactObstacleForWrong)

/-- 'laws.FnExactBlockedAreas': WHATEVER THE INPUT: true; the input reads as it did. -/
def fnExactBlockedAreasSpec : ChangeSpec := { name := "fnExactBlockedAreas", fn := fun _ => fun
  | [d1, d2] => { results := [.lit (.bool true)], args := [d1, d2] }
  | _ => none }
def fnExactBlockedAreasRow : OpenClaim := { program := "ytaleabdmgaeipaa", sum := "c11829849d9a835f2d74dc9af6d6f94b43cbabf3a7a07fbb7ae584519b78cc6b", func := "loop.example/g00811/laws.FnExactBlockedAreas", spec := "fnExactBlockedAreas", unfollowed := true, recurses := true, apart := false }
def FnExactBlockedAreasSaid : Prop := fnExactBlockedAreasRow.holds Try.pinned (OpenSpec.ofChange fnExactBlockedAreasSpec)

/-- ITS FALSE NEIGHBOUR: 'it returns false'. Refute it at one input. -/
def fnExactBlockedAreasWrong : ChangeSpec := { name := "fnExactBlockedAreas", fn := fun _ => fun
  | [d1, d2] => { results := [.lit (.bool false)], args := [d1, d2] }
  | _ => none }
def FnExactBlockedAreasWrongFalsely : Prop := fnExactBlockedAreasRow.holds Try.pinned (OpenSpec.ofChange fnExactBlockedAreasWrong)

/- THE SECOND FORM. 'bulk': how many values and letters a reading holds, each counted each time it is reached (what is shared counts as often as it is met; a slice's spare places count too). A statement '..UptoSaid' is the law's where the arguments, and the package variables that the reading takes, are together of bulk at most 1048576: NARROWER than '..Said'. Prove '..Said' where nothing that the law and all that it calls make is longer than what came in: it says more and counts as full. Else prove '..UptoSaid'. A law counts once. -/
mutual
def uptoBulk {H : Type} : DataW H → Nat
  | .lit (.string bytes) => bytes.length + 1
  | .lit _ => 1
  | .nil => 1
  | .ptr d => uptoBulk d + 1
  | .slice elems spare => uptoBulkAll elems + uptoBulkAll spare + 1
  | .agg parts => uptoBulkAll parts + 1
  | .iface _ d => uptoBulk d + 1
  | .map entries => uptoBulkEntries entries + 1
  | .held _ => 1
def uptoBulkAll {H : Type} : List (DataW H) → Nat
  | [] => 0
  | d :: r => uptoBulk d + uptoBulkAll r
def uptoBulkEntries {H : Type} : List (Lit × DataW H) → Nat
  | [] => 0
  | x :: r => uptoBulkEntry x + uptoBulkEntries r
def uptoBulkEntry {H : Type} : Lit × DataW H → Nat
  | (.string bytes, d) => bytes.length + uptoBulk d + 1
  | (_, d) => uptoBulk d + 1
 end
def uptoSmall : (H : Type) → List (DataW H) → Bool := fun _ ds => decide (uptoBulkAll ds ≤ 1048576)
def OpenSpec.upto (s : _root_.Go.ChangeSpec) : _root_.Go.OpenSpec := { _root_.Go.OpenSpec.ofChange s with cond := some uptoSmall }

/-- 'laws.FnExactHullOf', WHERE WHAT IT READS IS OF BULK AT MOST 1048576: true; the input reads as it did. -/
def fnExactHullOfUptoRow : OpenClaim := { program := "ytaleabdmgaeipaa", sum := "c11829849d9a835f2d74dc9af6d6f94b43cbabf3a7a07fbb7ae584519b78cc6b", func := "loop.example/g00811/laws.FnExactHullOf", spec := "fnExactHullOf", unfollowed := true, recurses := true, apart := false, narrowed := true }
def FnExactHullOfUptoSaid : Prop := fnExactHullOfUptoRow.holds Try.pinned (OpenSpec.upto fnExactHullOfSpec)

/-- 'laws.FnExactSumPolygons', WHERE WHAT IT READS IS OF BULK AT MOST 1048576: true; the input reads as it did. -/
def fnExactSumPolygonsUptoRow : OpenClaim := { program := "ytaleabdmgaeipaa", sum := "c11829849d9a835f2d74dc9af6d6f94b43cbabf3a7a07fbb7ae584519b78cc6b", func := "loop.example/g00811/laws.FnExactSumPolygons", spec := "fnExactSumPolygons", unfollowed := true, recurses := true, apart := false, narrowed := true }
def FnExactSumPolygonsUptoSaid : Prop := fnExactSumPolygonsUptoRow.holds Try.pinned (OpenSpec.upto fnExactSumPolygonsSpec)

/-- 'laws.FnExactObstacleFor', WHERE WHAT IT READS IS OF BULK AT MOST 1048576: true; the input reads as it did. -/
def fnExactObstacleForUptoRow : OpenClaim := { program := "ytaleabdmgaeipaa", sum := "c11829849d9a835f2d74dc9af6d6f94b43cbabf3a7a07fbb7ae584519b78cc6b", func := "loop.example/g00811/laws.FnExactObstacleFor", spec := "fnExactObstacleFor", unfollowed := true, recurses := true, apart := false, narrowed := true }
def FnExactObstacleForUptoSaid : Prop := fnExactObstacleForUptoRow.holds Try.pinned (OpenSpec.upto fnExactObstacleForSpec)

/-- 'laws.FnExactBlockedAreas', WHERE WHAT IT READS IS OF BULK AT MOST 1048576: true; the input reads as it did. -/
def fnExactBlockedAreasUptoRow : OpenClaim := { program := "ytaleabdmgaeipaa", sum := "c11829849d9a835f2d74dc9af6d6f94b43cbabf3a7a07fbb7ae584519b78cc6b", func := "loop.example/g00811/laws.FnExactBlockedAreas", spec := "fnExactBlockedAreas", unfollowed := true, recurses := true, apart := false, narrowed := true }
def FnExactBlockedAreasUptoSaid : Prop := fnExactBlockedAreasUptoRow.holds Try.pinned (OpenSpec.upto fnExactBlockedAreasSpec)

end Rows
end Go.Proofs.Ytaleabdmgaeipaa

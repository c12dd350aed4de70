/-
  No cell of these rows narrows 'for every input' (looked for: loops, veiled, ifaces, maps, wideKeys, modest, calm, conditions, laid).
  DERIVED. THE GIVEN ROWS OF THIS SEAT. 3 by the template 'for every input the law returns true; each argument reads behind the call as it read before'; 0 by the template 'total and deterministic' (their statements: YtppjhpglejehkaaGreatTotals.lean).
  GIVEN WITH THE SEED: the statements are not yours to turn. If you find one false, say at which input.
  Laid BY PROGRAM, IN A SANDBOX (cutbox-rows.mjs): the forced cells as the released guide's own fill.sh prints them over the translation 917171e08cb78f0d… (all of the seat's roots in one cut). By AI agents, Wed Nov 11 2026. No macro, syntax, notation, axiom, sorry.
-/
import Derived.Test.YtppjhpglejehkaaGreatChecked
import GoSem.Claim
import GoSem.ClaimJoined
import GoSem.ClaimMapViews
import Derived.JoinedTies
import Derived.KernelRfl
namespace Go.Proofs.YtppjhpglejehkaaGreat
/- THE CELL 'sum', in the pinned program and in every row, IS THE sha256 OF THE DUMP (.gsa) THAT YtppjhpglejehkaaGreatProg.lean LOADS. Nothing in Lean hashes anything: it is a label: what it is worth is what the hold of that sum in a sandbox is worth. -/
noncomputable def Tryz.pinned : Pinned := { name := "ytppjhpglejehkaagreat", sum := "917171e08cb78f0d9871f34b11e89c8e606224152ce20fb841bcbe43708c9ea4", checked := Tryz.checked }
namespace Rows
def none {H : Type} : Left H := { results := [], args := [] }

/-- 'laws.FnExactTurnSteps': WHATEVER THE INPUT: true; the input reads as it did. -/
def fnExactTurnStepsSpec : ChangeSpec := { name := "fnExactTurnSteps", fn := fun _ => fun
  | [d1, d2, d3, d4] => { results := [.lit (.bool true)], args := [d1, d2, d3, d4] }
  | _ => none }
def fnExactTurnStepsRow : OpenClaim := { program := "ytppjhpglejehkaagreat", sum := "917171e08cb78f0d9871f34b11e89c8e606224152ce20fb841bcbe43708c9ea4", func := "loop.example/g00811/laws.FnExactTurnSteps", spec := "fnExactTurnSteps", unfollowed := true, recurses := true, apart := false }
def FnExactTurnStepsSaid : Prop := fnExactTurnStepsRow.holds Tryz.pinned (OpenSpec.ofChange fnExactTurnStepsSpec)

/-- ITS FALSE NEIGHBOUR: 'it returns false'. Refute it at one input. -/
def fnExactTurnStepsWrong : ChangeSpec := { name := "fnExactTurnSteps", fn := fun _ => fun
  | [d1, d2, d3, d4] => { results := [.lit (.bool false)], args := [d1, d2, d3, d4] }
  | _ => none }
def FnExactTurnStepsWrongFalsely : Prop := fnExactTurnStepsRow.holds Tryz.pinned (OpenSpec.ofChange fnExactTurnStepsWrong)

/-- 'laws.FnExactTableAt': WHATEVER THE INPUT: true; the input reads as it did. -/
def fnExactTableAtSpec : ChangeSpec := { name := "fnExactTableAt", fn := fun _ => fun
  | [d1, d2] => { results := [.lit (.bool true)], args := [d1, d2] }
  | _ => none }
def fnExactTableAtRow : OpenClaim := { program := "ytppjhpglejehkaagreat", sum := "917171e08cb78f0d9871f34b11e89c8e606224152ce20fb841bcbe43708c9ea4", func := "loop.example/g00811/laws.FnExactTableAt", spec := "fnExactTableAt", unfollowed := true, recurses := true, apart := false }
def FnExactTableAtSaid : Prop := fnExactTableAtRow.holds Tryz.pinned (OpenSpec.ofChange fnExactTableAtSpec)

/-- ITS FALSE NEIGHBOUR: 'it returns false'. Refute it at one input. -/
def fnExactTableAtWrong : ChangeSpec := { name := "fnExactTableAt", fn := fun _ => fun
  | [d1, d2] => { results := [.lit (.bool false)], args := [d1, d2] }
  | _ => none }
def FnExactTableAtWrongFalsely : Prop := fnExactTableAtRow.holds Tryz.pinned (OpenSpec.ofChange fnExactTableAtWrong)

/-- 'laws.FnExactSectionAt': WHATEVER THE INPUT: true; the input reads as it did. -/
def fnExactSectionAtSpec : ChangeSpec := { name := "fnExactSectionAt", fn := fun _ => fun
  | [d1, d2] => { results := [.lit (.bool true)], args := [d1, d2] }
  | _ => none }
def fnExactSectionAtRow : OpenClaim := { program := "ytppjhpglejehkaagreat", sum := "917171e08cb78f0d9871f34b11e89c8e606224152ce20fb841bcbe43708c9ea4", func := "loop.example/g00811/laws.FnExactSectionAt", spec := "fnExactSectionAt", unfollowed := true, recurses := true, apart := false }
def FnExactSectionAtSaid : Prop := fnExactSectionAtRow.holds Tryz.pinned (OpenSpec.ofChange fnExactSectionAtSpec)

/-- ITS FALSE NEIGHBOUR: 'it returns false'. Refute it at one input. -/
def fnExactSectionAtWrong : ChangeSpec := { name := "fnExactSectionAt", fn := fun _ => fun
  | [d1, d2] => { results := [.lit (.bool false)], args := [d1, d2] }
  | _ => none }
def FnExactSectionAtWrongFalsely : Prop := fnExactSectionAtRow.holds Tryz.pinned (OpenSpec.ofChange fnExactSectionAtWrong)

/- THE SECOND FORM. 'bulk': how many values and letters a reading holds, each counted each time it is reached (what is shared counts as often as it is met; a slice's spare places count too). A statement '..UptoSaid' is the law's where the arguments, and the package variables that the reading takes, are together of bulk at most 1048576: NARROWER than '..Said'. Prove '..Said' where nothing that the law and all that it calls make is longer than what came in: it says more and counts as full. Else prove '..UptoSaid'. A law counts once. -/
mutual
def uptoBulk {H : Type} : DataW H → Nat
  | .lit (.string bytes) => bytes.length + 1
  | .lit _ => 1
  | .nil => 1
  | .ptr d => uptoBulk d + 1
  | .slice elems spare => uptoBulkAll elems + uptoBulkAll spare + 1
  | .agg parts => uptoBulkAll parts + 1
  | .iface _ d => uptoBulk d + 1
  | .map entries => uptoBulkEntries entries + 1
  | .held _ => 1
def uptoBulkAll {H : Type} : List (DataW H) → Nat
  | [] => 0
  | d :: r => uptoBulk d + uptoBulkAll r
def uptoBulkEntries {H : Type} : List (Lit × DataW H) → Nat
  | [] => 0
  | x :: r => uptoBulkEntry x + uptoBulkEntries r
def uptoBulkEntry {H : Type} : Lit × DataW H → Nat
  | (.string bytes, d) => bytes.length + uptoBulk d + 1
  | (_, d) => uptoBulk d + 1
 end
def uptoSmall : (H : Type) → List (DataW H) → Bool := fun _ ds => decide (uptoBulkAll ds ≤ 1048576)
def OpenSpec.upto (s : _root_.Go.ChangeSpec) : _root_.Go.OpenSpec := { _root_.Go.OpenSpec.ofChange s with cond := some uptoSmall }

/-- 'laws.FnExactTurnSteps', WHERE WHAT IT READS IS OF BULK AT MOST 1048576: true; the input reads as it did. -/
def fnExactTurnStepsUptoRow : OpenClaim := { program := "ytppjhpglejehkaagreat", sum := "917171e08cb78f0d9871f34b11e89c8e606224152ce20fb841bcbe43708c9ea4", func := "loop.example/g00811/laws.FnExactTurnSteps", spec := "fnExactTurnSteps", unfollowed := true, recurses := true, apart := false, narrowed := true }
def FnExactTurnStepsUptoSaid : Prop := fnExactTurnStepsUptoRow.holds Tryz.pinned (OpenSpec.upto fnExactTurnStepsSpec)

/-- 'laws.FnExactTableAt', WHERE WHAT IT READS IS OF BULK AT MOST 1048576: true; the input reads as it did. -/
def fnExactTableAtUptoRow : OpenClaim := { program := "ytppjhpglejehkaagreat", sum := "917171e08cb78f0d9871f34b11e89c8e606224152ce20fb841bcbe43708c9ea4", func := "loop.example/g00811/laws.FnExactTableAt", spec := "fnExactTableAt", unfollowed := true, recurses := true, apart := false, narrowed := true }
def FnExactTableAtUptoSaid : Prop := fnExactTableAtUptoRow.holds Tryz.pinned (OpenSpec.upto fnExactTableAtSpec)

/-- 'laws.FnExactSectionAt', WHERE WHAT IT READS IS OF BULK AT MOST 1048576: true; the input reads as it did. -/
def fnExactSectionAtUptoRow : OpenClaim := { program := "ytppjhpglejehkaagreat", sum := "917171e08cb78f0d9871f34b11e89c8e606224152ce20fb841bcbe43708c9ea4", func := "loop.example/g00811/laws.FnExactSectionAt", spec := "fnExactSectionAt", unfollowed := true, recurses := true, apart := false, narrowed := true }
def FnExactSectionAtUptoSaid : Prop := fnExactSectionAtUptoRow.holds Tryz.pinned (OpenSpec.upto fnExactSectionAtSpec)

end Rows
end Go.Proofs.YtppjhpglejehkaaGreat

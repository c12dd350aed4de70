/-
  No cell of these rows narrows 'for every input' (looked for: loops, veiled, ifaces, maps, wideKeys, modest, calm, conditions, laid).
  DERIVED. THE GIVEN ROWS OF THIS SEAT. 4 by the template 'for every input the law returns true; each argument reads behind the call as it read before'; 0 by the template 'total and deterministic' (their statements: YtndnhlhnjiopfaaGreatTotals.lean).
  GIVEN WITH THE SEED: the statements are not yours to turn. If you find one false, say at which input.
  Laid BY PROGRAM, IN A SANDBOX (cutbox-rows.mjs): the forced cells as the released guide's own fill.sh prints them over the translation cab8c5b1554c1147… (all of the seat's roots in one cut). By AI agents, Wed Nov 11 2026. No macro, syntax, notation, axiom, sorry.
-/
import Derived.Test.YtndnhlhnjiopfaaGreatChecked
import GoSem.Claim
import GoSem.ClaimJoined
import GoSem.ClaimMapViews
import Derived.JoinedTies
import Derived.KernelRfl
namespace Go.Proofs.YtndnhlhnjiopfaaGreat
/- THE CELL 'sum', in the pinned program and in every row, IS THE sha256 OF THE DUMP (.gsa) THAT YtndnhlhnjiopfaaGreatProg.lean LOADS. Nothing in Lean hashes anything: it is a label: what it is worth is what the hold of that sum in a sandbox is worth. -/
noncomputable def Tryz.pinned : Pinned := { name := "ytndnhlhnjiopfaagreat", sum := "cab8c5b1554c1147dc0788f85fda1a8615b08521c39573c10bd4a17e96291cb6", checked := Tryz.checked }
namespace Rows
def none {H : Type} : Left H := { results := [], args := [] }

/-- 'laws.FnSegments': WHATEVER THE INPUT: true; the input reads as it did. -/
def fnSegmentsSpec : ChangeSpec := { name := "fnSegments", fn := fun _ => fun
  | [d] => { results := [.lit (.bool true)], args := [d] }
  | _ => none }
def fnSegmentsRow : OpenClaim := { program := "ytndnhlhnjiopfaagreat", sum := "cab8c5b1554c1147dc0788f85fda1a8615b08521c39573c10bd4a17e96291cb6", func := "loop.example/g00811/laws.FnSegments", spec := "fnSegments", unfollowed := true, recurses := true, apart := false }
def FnSegmentsSaid : Prop := fnSegmentsRow.holds Tryz.pinned (OpenSpec.ofChange fnSegmentsSpec)

/-- ITS FALSE NEIGHBOUR: 'it returns false'. Refute it at one input. -/
def fnSegmentsWrong : ChangeSpec := { name := "fnSegments", fn := fun _ => fun
  | [d] => { results := [.lit (.bool false)], args := [d] }
  | _ => none }
def FnSegmentsWrongFalsely : Prop := fnSegmentsRow.holds Tryz.pinned (OpenSpec.ofChange fnSegmentsWrong)

/-- 'laws.FnDisc': WHATEVER THE INPUT: true; the input reads as it did. -/
def fnDiscSpec : ChangeSpec := { name := "fnDisc", fn := fun _ => fun
  | [d] => { results := [.lit (.bool true)], args := [d] }
  | _ => none }
def fnDiscRow : OpenClaim := { program := "ytndnhlhnjiopfaagreat", sum := "cab8c5b1554c1147dc0788f85fda1a8615b08521c39573c10bd4a17e96291cb6", func := "loop.example/g00811/laws.FnDisc", spec := "fnDisc", unfollowed := true, recurses := true, apart := false }
def FnDiscSaid : Prop := fnDiscRow.holds Tryz.pinned (OpenSpec.ofChange fnDiscSpec)

/-- ITS FALSE NEIGHBOUR: 'it returns false'. Refute it at one input. -/
def fnDiscWrong : ChangeSpec := { name := "fnDisc", fn := fun _ => fun
  | [d] => { results := [.lit (.bool false)], args := [d] }
  | _ => none }
def FnDiscWrongFalsely : Prop := fnDiscRow.holds Tryz.pinned (OpenSpec.ofChange fnDiscWrong)

/-- 'laws.FnDistances': WHATEVER THE INPUT: true; the input reads as it did. -/
def fnDistancesSpec : ChangeSpec := { name := "fnDistances", fn := fun _ => fun
  | [d] => { results := [.lit (.bool true)], args := [d] }
  | _ => none }
def fnDistancesRow : OpenClaim := { program := "ytndnhlhnjiopfaagreat", sum := "cab8c5b1554c1147dc0788f85fda1a8615b08521c39573c10bd4a17e96291cb6", func := "loop.example/g00811/laws.FnDistances", spec := "fnDistances", unfollowed := true, recurses := true, apart := false }
def FnDistancesSaid : Prop := fnDistancesRow.holds Tryz.pinned (OpenSpec.ofChange fnDistancesSpec)

/-- ITS FALSE NEIGHBOUR: 'it returns false'. Refute it at one input. -/
def fnDistancesWrong : ChangeSpec := { name := "fnDistances", fn := fun _ => fun
  | [d] => { results := [.lit (.bool false)], args := [d] }
  | _ => none }
def FnDistancesWrongFalsely : Prop := fnDistancesRow.holds Tryz.pinned (OpenSpec.ofChange fnDistancesWrong)

/-- 'laws.FnTouch': WHATEVER THE INPUT: true; the input reads as it did. -/
def fnTouchSpec : ChangeSpec := { name := "fnTouch", fn := fun _ => fun
  | [d] => { results := [.lit (.bool true)], args := [d] }
  | _ => none }
def fnTouchRow : OpenClaim := { program := "ytndnhlhnjiopfaagreat", sum := "cab8c5b1554c1147dc0788f85fda1a8615b08521c39573c10bd4a17e96291cb6", func := "loop.example/g00811/laws.FnTouch", spec := "fnTouch", unfollowed := true, recurses := true, apart := false }
def FnTouchSaid : Prop := fnTouchRow.holds Tryz.pinned (OpenSpec.ofChange fnTouchSpec)

/-- ITS FALSE NEIGHBOUR: 'it returns false'. Refute it at one input. -/
def fnTouchWrong : ChangeSpec := { name := "fnTouch", fn := fun _ => fun
  | [d] => { results := [.lit (.bool false)], args := [d] }
  | _ => none }
def FnTouchWrongFalsely : Prop := fnTouchRow.holds Tryz.pinned (OpenSpec.ofChange fnTouchWrong)

/- THE SECOND FORM. 'bulk': how many values and letters a reading holds, each counted each time it is reached (what is shared counts as often as it is met; a slice's spare places count too). A statement '..UptoSaid' is the law's where the arguments, and the package variables that the reading takes, are together of bulk at most 1048576: NARROWER than '..Said'. Prove '..Said' where nothing that the law and all that it calls make is longer than what came in: it says more and counts as full. Else prove '..UptoSaid'. A law counts once. -/
mutual
def uptoBulk {H : Type} : DataW H → Nat
  | .lit (.string bytes) => bytes.length + 1
  | .lit _ => 1
  | .nil => 1
  | .ptr d => uptoBulk d + 1
  | .slice elems spare => uptoBulkAll elems + uptoBulkAll spare + 1
  | .agg parts => uptoBulkAll parts + 1
  | .iface _ d => uptoBulk d + 1
  | .map entries => uptoBulkEntries entries + 1
  | .held _ => 1
def uptoBulkAll {H : Type} : List (DataW H) → Nat
  | [] => 0
  | d :: r => uptoBulk d + uptoBulkAll r
def uptoBulkEntries {H : Type} : List (Lit × DataW H) → Nat
  | [] => 0
  | x :: r => uptoBulkEntry x + uptoBulkEntries r
def uptoBulkEntry {H : Type} : Lit × DataW H → Nat
  | (.string bytes, d) => bytes.length + uptoBulk d + 1
  | (_, d) => uptoBulk d + 1
 end
def uptoSmall : (H : Type) → List (DataW H) → Bool := fun _ ds => decide (uptoBulkAll ds ≤ 1048576)
def OpenSpec.upto (s : _root_.Go.ChangeSpec) : _root_.Go.OpenSpec := { _root_.Go.OpenSpec.ofChange s with cond := some uptoSmall }

/-- 'laws.FnSegments', WHERE WHAT IT READS IS OF BULK AT MOST 1048576: true; the input reads as it did. -/
def fnSegmentsUptoRow : OpenClaim := { program := "ytndnhlhnjiopfaagreat", sum := "cab8c5b1554c1147dc0788f85fda1a8615b08521c39573c10bd4a17e96291cb6", func := "loop.example/g00811/laws.FnSegments", spec := "fnSegments", unfollowed := true, recurses := true, apart := false, narrowed := true }
def FnSegmentsUptoSaid : Prop := fnSegmentsUptoRow.holds Tryz.pinned (OpenSpec.upto fnSegmentsSpec)

/-- 'laws.FnDisc', WHERE WHAT IT READS IS OF BULK AT MOST 1048576: true; the input reads as it did. -/
def fnDiscUptoRow : OpenClaim := { program := "ytndnhlhnjiopfaagreat", sum := "cab8c5b1554c1147dc0788f85fda1a8615b08521c39573c10bd4a17e96291cb6", func := "loop.example/g00811/laws.FnDisc", spec := "fnDisc", unfollowed := true, recurses := true, apart := false, narrowed := true }
def FnDiscUptoSaid : Prop := fnDiscUptoRow.holds Tryz.pinned (OpenSpec.upto fnDiscSpec)

/-- 'laws.FnDistances', WHERE WHAT IT READS IS OF BULK AT MOST 1048576: true; the input reads as it did. -/
def fnDistancesUptoRow : OpenClaim := { program := "ytndnhlhnjiopfaagreat", sum := "cab8c5b1554c1147dc0788f85fda1a8615b08521c39573c10bd4a17e96291cb6", func := "loop.example/g00811/laws.FnDistances", spec := "fnDistances", unfollowed := true, recurses := true, apart := false, narrowed := true }
def FnDistancesUptoSaid : Prop := fnDistancesUptoRow.holds Tryz.pinned (OpenSpec.upto fnDistancesSpec)

/-- 'laws.FnTouch', WHERE WHAT IT READS IS OF BULK AT MOST 1048576: true; the input reads as it did. -/
def fnTouchUptoRow : OpenClaim := { program := "ytndnhlhnjiopfaagreat", sum := "cab8c5b1554c1147dc0788f85fda1a8615b08521c39573c10bd4a17e96291cb6", func := "loop.example/g00811/laws.FnTouch", spec := "fnTouch", unfollowed := true, recurses := true, apart := false, narrowed := true }
def FnTouchUptoSaid : Prop := fnTouchUptoRow.holds Tryz.pinned (OpenSpec.upto fnTouchSpec)

end Rows
end Go.Proofs.YtndnhlhnjiopfaaGreat

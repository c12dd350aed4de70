/-
  No cell of these rows narrows 'for every input' (looked for: loops, veiled, ifaces, maps, wideKeys, modest, calm, conditions, laid).
  DERIVED. THE GIVEN ROWS OF THIS SEAT. 3 by the template 'for every input the law returns true; each argument reads behind the call as it read before'; 0 by the template 'total and deterministic' (their statements: YtkffpiaagjcmpaaGreatTotals.lean).
  GIVEN WITH THE SEED: the statements are not yours to turn. If you find one false, say at which input.
  Laid BY PROGRAM, IN A SANDBOX (cutbox-rows.mjs): the forced cells as the released guide's own fill.sh prints them over the translation f3cd9cbacefff766… (all of the seat's roots in one cut). By AI agents, Wed Nov 11 2026. No macro, syntax, notation, axiom, sorry.
-/
import Derived.Test.YtkffpiaagjcmpaaGreatChecked
import GoSem.Claim
import GoSem.ClaimJoined
import GoSem.ClaimMapViews
import Derived.JoinedTies
import Derived.KernelRfl
namespace Go.Proofs.YtkffpiaagjcmpaaGreat
/- THE CELL 'sum', in the pinned program and in every row, IS THE sha256 OF THE DUMP (.gsa) THAT YtkffpiaagjcmpaaGreatProg.lean LOADS. Nothing in Lean hashes anything: it is a label: what it is worth is what the hold of that sum in a sandbox is worth. -/
noncomputable def Tryz.pinned : Pinned := { name := "ytkffpiaagjcmpaagreat", sum := "f3cd9cbacefff766bbed4e24e956251e1e1cdb7998211b29e56c7ccf6f02a964", checked := Tryz.checked }
namespace Rows
def none {H : Type} : Left H := { results := [], args := [] }

/-- 'laws.FnFree': WHATEVER THE INPUT: true; the input reads as it did. -/
def fnFreeSpec : ChangeSpec := { name := "fnFree", fn := fun _ => fun
  | [d] => { results := [.lit (.bool true)], args := [d] }
  | _ => none }
def fnFreeRow : OpenClaim := { program := "ytkffpiaagjcmpaagreat", sum := "f3cd9cbacefff766bbed4e24e956251e1e1cdb7998211b29e56c7ccf6f02a964", func := "loop.example/g00811/laws.FnFree", spec := "fnFree", unfollowed := true, recurses := true, apart := false }
def FnFreeSaid : Prop := fnFreeRow.holds Tryz.pinned (OpenSpec.ofChange fnFreeSpec)

/-- ITS FALSE NEIGHBOUR: 'it returns false'. Refute it at one input. -/
def fnFreeWrong : ChangeSpec := { name := "fnFree", fn := fun _ => fun
  | [d] => { results := [.lit (.bool false)], args := [d] }
  | _ => none }
def FnFreeWrongFalsely : Prop := fnFreeRow.holds Tryz.pinned (OpenSpec.ofChange fnFreeWrong)

/-- 'laws.FnFreeMove': WHATEVER THE INPUT: true; the input reads as it did. -/
def fnFreeMoveSpec : ChangeSpec := { name := "fnFreeMove", fn := fun _ => fun
  | [d] => { results := [.lit (.bool true)], args := [d] }
  | _ => none }
def fnFreeMoveRow : OpenClaim := { program := "ytkffpiaagjcmpaagreat", sum := "f3cd9cbacefff766bbed4e24e956251e1e1cdb7998211b29e56c7ccf6f02a964", func := "loop.example/g00811/laws.FnFreeMove", spec := "fnFreeMove", unfollowed := true, recurses := true, apart := false }
def FnFreeMoveSaid : Prop := fnFreeMoveRow.holds Tryz.pinned (OpenSpec.ofChange fnFreeMoveSpec)

/-- ITS FALSE NEIGHBOUR: 'it returns false'. Refute it at one input. -/
def fnFreeMoveWrong : ChangeSpec := { name := "fnFreeMove", fn := fun _ => fun
  | [d] => { results := [.lit (.bool false)], args := [d] }
  | _ => none }
def FnFreeMoveWrongFalsely : Prop := fnFreeMoveRow.holds Tryz.pinned (OpenSpec.ofChange fnFreeMoveWrong)

/-- 'laws.FnEvents': WHATEVER THE INPUT: true; the input reads as it did. -/
def fnEventsSpec : ChangeSpec := { name := "fnEvents", fn := fun _ => fun
  | [d] => { results := [.lit (.bool true)], args := [d] }
  | _ => none }
def fnEventsRow : OpenClaim := { program := "ytkffpiaagjcmpaagreat", sum := "f3cd9cbacefff766bbed4e24e956251e1e1cdb7998211b29e56c7ccf6f02a964", func := "loop.example/g00811/laws.FnEvents", spec := "fnEvents", unfollowed := true, recurses := true, apart := false }
def FnEventsSaid : Prop := fnEventsRow.holds Tryz.pinned (OpenSpec.ofChange fnEventsSpec)

/-- ITS FALSE NEIGHBOUR: 'it returns false'. Refute it at one input. -/
def fnEventsWrong : ChangeSpec := { name := "fnEvents", fn := fun _ => fun
  | [d] => { results := [.lit (.bool false)], args := [d] }
  | _ => none }
def FnEventsWrongFalsely : Prop := fnEventsRow.holds Tryz.pinned (OpenSpec.ofChange fnEventsWrong)

/- THE SECOND FORM. 'bulk': how many values and letters a reading holds, each counted each time it is reached (what is shared counts as often as it is met; a slice's spare places count too). A statement '..UptoSaid' is the law's where the arguments, and the package variables that the reading takes, are together of bulk at most 1048576: NARROWER than '..Said'. Prove '..Said' where nothing that the law and all that it calls make is longer than what came in: it says more and counts as full. Else prove '..UptoSaid'. A law counts once. -/
mutual
def uptoBulk {H : Type} : DataW H → Nat
  | .lit (.string bytes) => bytes.length + 1
  | .lit _ => 1
  | .nil => 1
  | .ptr d => uptoBulk d + 1
  | .slice elems spare => uptoBulkAll elems + uptoBulkAll spare + 1
  | .agg parts => uptoBulkAll parts + 1
  | .iface _ d => uptoBulk d + 1
  | .map entries => uptoBulkEntries entries + 1
  | .held _ => 1
def uptoBulkAll {H : Type} : List (DataW H) → Nat
  | [] => 0
  | d :: r => uptoBulk d + uptoBulkAll r
def uptoBulkEntries {H : Type} : List (Lit × DataW H) → Nat
  | [] => 0
  | x :: r => uptoBulkEntry x + uptoBulkEntries r
def uptoBulkEntry {H : Type} : Lit × DataW H → Nat
  | (.string bytes, d) => bytes.length + uptoBulk d + 1
  | (_, d) => uptoBulk d + 1
 end
def uptoSmall : (H : Type) → List (DataW H) → Bool := fun _ ds => decide (uptoBulkAll ds ≤ 1048576)
def OpenSpec.upto (s : _root_.Go.ChangeSpec) : _root_.Go.OpenSpec := { _root_.Go.OpenSpec.ofChange s with cond := some uptoSmall }

/-- 'laws.FnFree', WHERE WHAT IT READS IS OF BULK AT MOST 1048576: true; the input reads as it did. -/
def fnFreeUptoRow : OpenClaim := { program := "ytkffpiaagjcmpaagreat", sum := "f3cd9cbacefff766bbed4e24e956251e1e1cdb7998211b29e56c7ccf6f02a964", func := "loop.example/g00811/laws.FnFree", spec := "fnFree", unfollowed := true, recurses := true, apart := false, narrowed := true }
def FnFreeUptoSaid : Prop := fnFreeUptoRow.holds Tryz.pinned (OpenSpec.upto fnFreeSpec)

/-- 'laws.FnFreeMove', WHERE WHAT IT READS IS OF BULK AT MOST 1048576: true; the input reads as it did. -/
def fnFreeMoveUptoRow : OpenClaim := { program := "ytkffpiaagjcmpaagreat", sum := "f3cd9cbacefff766bbed4e24e956251e1e1cdb7998211b29e56c7ccf6f02a964", func := "loop.example/g00811/laws.FnFreeMove", spec := "fnFreeMove", unfollowed := true, recurses := true, apart := false, narrowed := true }
def FnFreeMoveUptoSaid : Prop := fnFreeMoveUptoRow.holds Tryz.pinned (OpenSpec.upto fnFreeMoveSpec)

/-- 'laws.FnEvents', WHERE WHAT IT READS IS OF BULK AT MOST 1048576: true; the input reads as it did. -/
def fnEventsUptoRow : OpenClaim := { program := "ytkffpiaagjcmpaagreat", sum := "f3cd9cbacefff766bbed4e24e956251e1e1cdb7998211b29e56c7ccf6f02a964", func := "loop.example/g00811/laws.FnEvents", spec := "fnEvents", unfollowed := true, recurses := true, apart := false, narrowed := true }
def FnEventsUptoSaid : Prop := fnEventsUptoRow.holds Tryz.pinned (OpenSpec.upto fnEventsSpec)

end Rows
end Go.Proofs.YtkffpiaagjcmpaaGreat

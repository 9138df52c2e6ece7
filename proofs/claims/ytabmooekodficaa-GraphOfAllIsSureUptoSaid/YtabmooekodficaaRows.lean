/-
  No cell of these rows narrows 'for every input' (looked for: loops, veiled, ifaces, maps, wideKeys, modest, calm, conditions, laid).
  DERIVED. THE GIVEN ROWS OF THIS SEAT. 3 by the template 'for every input the law returns true; each argument reads behind the call as it read before'; 0 by the template 'total and deterministic' (their statements: YtabmooekodficaaTotals.lean).
  GIVEN WITH THE SEED: the statements are not yours to turn. If you find one false, say at which input.
  Laid BY PROGRAM, IN A SANDBOX (cutbox-rows.mjs): the forced cells as the released guide's own fill.sh prints them over the translation c6079114126cbb3e… (all of the seat's roots in one cut). By AI agents, Wed Nov 11 2026. No macro, syntax, notation, axiom, sorry.
-/
import Derived.Test.YtabmooekodficaaChecked
import GoSem.Claim
import GoSem.ClaimJoined
import GoSem.ClaimMapViews
import Derived.JoinedTies
import Derived.KernelRfl
namespace Go.Proofs.Ytabmooekodficaa
/- THE CELL 'sum', in the pinned program and in every row, IS THE sha256 OF THE DUMP (.gsa) THAT YtabmooekodficaaProg.lean LOADS. Nothing in Lean hashes anything: it is a label: what it is worth is what the hold of that sum in a sandbox is worth. -/
noncomputable def Try.pinned : Pinned := { name := "ytabmooekodficaa", sum := "c6079114126cbb3e18a4d4d1aeb85804991bfdea9ea0510e17edfb1a19de3dca", checked := Try.checked }
namespace Rows
def none {H : Type} : Left H := { results := [], args := [] }

/-- 'antiquarylaw27.GraphWalksDown': WHATEVER THE INPUT: true; the input reads as it did. -/
def graphWalksDownSpec : ChangeSpec := { name := "graphWalksDown", fn := fun _ => fun
  | [d1, d2, d3, d4, d5, d6, d7] => { results := [.lit (.bool true)], args := [d1, d2, d3, d4, d5, d6, d7] }
  | _ => none }
def graphWalksDownRow : OpenClaim := { program := "ytabmooekodficaa", sum := "c6079114126cbb3e18a4d4d1aeb85804991bfdea9ea0510e17edfb1a19de3dca", func := "antiquary/antiquarylaw27.GraphWalksDown", spec := "graphWalksDown", unfollowed := true, recurses := true, apart := false }
def GraphWalksDownSaid : Prop := graphWalksDownRow.holds Try.pinned (OpenSpec.ofChange graphWalksDownSpec)

/-- ITS FALSE NEIGHBOUR: 'it returns false'. Refute it at one input. -/
def graphWalksDownWrong : ChangeSpec := { name := "graphWalksDown", fn := fun _ => fun
  | [d1, d2, d3, d4, d5, d6, d7] => { results := [.lit (.bool false)], args := [d1, d2, d3, d4, d5, d6, d7] }
  | _ => none }
def GraphWalksDownWrongFalsely : Prop := graphWalksDownRow.holds Try.pinned (OpenSpec.ofChange graphWalksDownWrong)

/-- 'antiquarylaw27.GraphBuildIsExact': WHATEVER THE INPUT: true; the input reads as it did. -/
def graphBuildIsExactSpec : ChangeSpec := { name := "graphBuildIsExact", fn := fun _ => fun
  | [d1, d2, d3] => { results := [.lit (.bool true)], args := [d1, d2, d3] }
  | _ => none }
def graphBuildIsExactRow : OpenClaim := { program := "ytabmooekodficaa", sum := "c6079114126cbb3e18a4d4d1aeb85804991bfdea9ea0510e17edfb1a19de3dca", func := "antiquary/antiquarylaw27.GraphBuildIsExact", spec := "graphBuildIsExact", unfollowed := true, recurses := true, apart := false }
def GraphBuildIsExactSaid : Prop := graphBuildIsExactRow.holds Try.pinned (OpenSpec.ofChange graphBuildIsExactSpec)

/-- ITS FALSE NEIGHBOUR: 'it returns false'. Refute it at one input. -/
def graphBuildIsExactWrong : ChangeSpec := { name := "graphBuildIsExact", fn := fun _ => fun
  | [d1, d2, d3] => { results := [.lit (.bool false)], args := [d1, d2, d3] }
  | _ => none }
def GraphBuildIsExactWrongFalsely : Prop := graphBuildIsExactRow.holds Try.pinned (OpenSpec.ofChange graphBuildIsExactWrong)

/-- 'antiquarylaw27.GraphOfAllIsSure': WHATEVER THE INPUT: true; the input reads as it did. -/
def graphOfAllIsSureSpec : ChangeSpec := { name := "graphOfAllIsSure", fn := fun _ => fun
  | [d1, d2, d3, d4, d5, d6] => { results := [.lit (.bool true)], args := [d1, d2, d3, d4, d5, d6] }
  | _ => none }
def graphOfAllIsSureRow : OpenClaim := { program := "ytabmooekodficaa", sum := "c6079114126cbb3e18a4d4d1aeb85804991bfdea9ea0510e17edfb1a19de3dca", func := "antiquary/antiquarylaw27.GraphOfAllIsSure", spec := "graphOfAllIsSure", unfollowed := true, recurses := true, apart := false }
def GraphOfAllIsSureSaid : Prop := graphOfAllIsSureRow.holds Try.pinned (OpenSpec.ofChange graphOfAllIsSureSpec)

/-- ITS FALSE NEIGHBOUR: 'it returns false'. Refute it at one input. -/
def graphOfAllIsSureWrong : ChangeSpec := { name := "graphOfAllIsSure", fn := fun _ => fun
  | [d1, d2, d3, d4, d5, d6] => { results := [.lit (.bool false)], args := [d1, d2, d3, d4, d5, d6] }
  | _ => none }
def GraphOfAllIsSureWrongFalsely : Prop := graphOfAllIsSureRow.holds Try.pinned (OpenSpec.ofChange graphOfAllIsSureWrong)

/- THE SECOND FORM. 'bulk': how many values and letters a reading holds, each counted each time it is reached (what is shared counts as often as it is met; a slice's spare places count too). A statement '..UptoSaid' is the law's where the arguments, and the package variables that the reading takes, are together of bulk at most 1048576: NARROWER than '..Said'. Prove '..Said' where nothing that the law and all that it calls make is longer than what came in: it says more and counts as full. Else prove '..UptoSaid'. A law counts once. -/
mutual
def uptoBulk {H : Type} : DataW H → Nat
  | .lit (.string bytes) => bytes.length + 1
  | .lit _ => 1
  | .nil => 1
  | .ptr d => uptoBulk d + 1
  | .slice elems spare => uptoBulkAll elems + uptoBulkAll spare + 1
  | .agg parts => uptoBulkAll parts + 1
  | .iface _ d => uptoBulk d + 1
  | .map entries => uptoBulkEntries entries + 1
  | .held _ => 1
def uptoBulkAll {H : Type} : List (DataW H) → Nat
  | [] => 0
  | d :: r => uptoBulk d + uptoBulkAll r
def uptoBulkEntries {H : Type} : List (Lit × DataW H) → Nat
  | [] => 0
  | x :: r => uptoBulkEntry x + uptoBulkEntries r
def uptoBulkEntry {H : Type} : Lit × DataW H → Nat
  | (.string bytes, d) => bytes.length + uptoBulk d + 1
  | (_, d) => uptoBulk d + 1
 end
def uptoSmall : (H : Type) → List (DataW H) → Bool := fun _ ds => decide (uptoBulkAll ds ≤ 1048576)
def OpenSpec.upto (s : _root_.Go.ChangeSpec) : _root_.Go.OpenSpec := { _root_.Go.OpenSpec.ofChange s with cond := some uptoSmall }

/-- 'antiquarylaw27.GraphWalksDown', WHERE WHAT IT READS IS OF BULK AT MOST 1048576: true; the input reads as it did. -/
def graphWalksDownUptoRow : OpenClaim := { program := "ytabmooekodficaa", sum := "c6079114126cbb3e18a4d4d1aeb85804991bfdea9ea0510e17edfb1a19de3dca", func := "antiquary/antiquarylaw27.GraphWalksDown", spec := "graphWalksDown", unfollowed := true, recurses := true, apart := false, narrowed := true }
def GraphWalksDownUptoSaid : Prop := graphWalksDownUptoRow.holds Try.pinned (OpenSpec.upto graphWalksDownSpec)

/-- 'antiquarylaw27.GraphBuildIsExact', WHERE WHAT IT READS IS OF BULK AT MOST 1048576: true; the input reads as it did. -/
def graphBuildIsExactUptoRow : OpenClaim := { program := "ytabmooekodficaa", sum := "c6079114126cbb3e18a4d4d1aeb85804991bfdea9ea0510e17edfb1a19de3dca", func := "antiquary/antiquarylaw27.GraphBuildIsExact", spec := "graphBuildIsExact", unfollowed := true, recurses := true, apart := false, narrowed := true }
def GraphBuildIsExactUptoSaid : Prop := graphBuildIsExactUptoRow.holds Try.pinned (OpenSpec.upto graphBuildIsExactSpec)

/-- 'antiquarylaw27.GraphOfAllIsSure', WHERE WHAT IT READS IS OF BULK AT MOST 1048576: true; the input reads as it did. -/
def graphOfAllIsSureUptoRow : OpenClaim := { program := "ytabmooekodficaa", sum := "c6079114126cbb3e18a4d4d1aeb85804991bfdea9ea0510e17edfb1a19de3dca", func := "antiquary/antiquarylaw27.GraphOfAllIsSure", spec := "graphOfAllIsSure", unfollowed := true, recurses := true, apart := false, narrowed := true }
def GraphOfAllIsSureUptoSaid : Prop := graphOfAllIsSureUptoRow.holds Try.pinned (OpenSpec.upto graphOfAllIsSureSpec)

end Rows
end Go.Proofs.Ytabmooekodficaa

/-
  No cell of these rows narrows 'for every input' (looked for: loops, veiled, ifaces, maps, wideKeys, modest, calm, conditions, laid).
  DERIVED. THE GIVEN ROWS OF THIS SEAT. 3 by the template 'for every input the law returns true; each argument reads behind the call as it read before'; 0 by the template 'total and deterministic' (their statements: YtabmooekodficaaGreatTotals.lean).
  GIVEN WITH THE SEED: the statements are not yours to turn. If you find one false, say at which input.
  Laid BY PROGRAM, IN A SANDBOX (cutbox-rows.mjs): the forced cells as the released guide's own fill.sh prints them over the translation ee153a4ce07b7c7b… (all of the seat's roots in one cut). By AI agents, Wed Nov 11 2026. No macro, syntax, notation, axiom, sorry.
-/
import Derived.Test.YtabmooekodficaaGreatChecked
import GoSem.Claim
import GoSem.ClaimJoined
import GoSem.ClaimMapViews
import Derived.JoinedTies
import Derived.KernelRfl
namespace Go.Proofs.YtabmooekodficaaGreat
/- THE CELL 'sum', in the pinned program and in every row, IS THE sha256 OF THE DUMP (.gsa) THAT YtabmooekodficaaGreatProg.lean LOADS. Nothing in Lean hashes anything: it is a label: what it is worth is what the hold of that sum in a sandbox is worth. -/
noncomputable def Tryz.pinned : Pinned := { name := "ytabmooekodficaagreat", sum := "ee153a4ce07b7c7b27bf4b0d81d505fb1c2dd527ccd58ace729aa96c8edd306b", checked := Tryz.checked }
namespace Rows
def none {H : Type} : Left H := { results := [], args := [] }

/-- 'antiquarylaw27.GraphWalksAsSpecified': WHATEVER THE INPUT: true; the input reads as it did. -/
def graphWalksAsSpecifiedSpec : ChangeSpec := { name := "graphWalksAsSpecified", fn := fun _ => fun
  | [d1, d2, d3, d4, d5, d6, d7] => { results := [.lit (.bool true)], args := [d1, d2, d3, d4, d5, d6, d7] }
  | _ => none }
def graphWalksAsSpecifiedRow : OpenClaim := { program := "ytabmooekodficaagreat", sum := "ee153a4ce07b7c7b27bf4b0d81d505fb1c2dd527ccd58ace729aa96c8edd306b", func := "antiquary/antiquarylaw27.GraphWalksAsSpecified", spec := "graphWalksAsSpecified", unfollowed := true, recurses := true, apart := false }
def GraphWalksAsSpecifiedSaid : Prop := graphWalksAsSpecifiedRow.holds Tryz.pinned (OpenSpec.ofChange graphWalksAsSpecifiedSpec)

/-- ITS FALSE NEIGHBOUR: 'it returns false'. Refute it at one input. -/
def graphWalksAsSpecifiedWrong : ChangeSpec := { name := "graphWalksAsSpecified", fn := fun _ => fun
  | [d1, d2, d3, d4, d5, d6, d7] => { results := [.lit (.bool false)], args := [d1, d2, d3, d4, d5, d6, d7] }
  | _ => none }
def GraphWalksAsSpecifiedWrongFalsely : Prop := graphWalksAsSpecifiedRow.holds Tryz.pinned (OpenSpec.ofChange graphWalksAsSpecifiedWrong)

/-- 'antiquarylaw27.GraphBuildsAsSpecified': WHATEVER THE INPUT: true; the input reads as it did. -/
def graphBuildsAsSpecifiedSpec : ChangeSpec := { name := "graphBuildsAsSpecified", fn := fun _ => fun
  | [d1, d2, d3, d4, d5] => { results := [.lit (.bool true)], args := [d1, d2, d3, d4, d5] }
  | _ => none }
def graphBuildsAsSpecifiedRow : OpenClaim := { program := "ytabmooekodficaagreat", sum := "ee153a4ce07b7c7b27bf4b0d81d505fb1c2dd527ccd58ace729aa96c8edd306b", func := "antiquary/antiquarylaw27.GraphBuildsAsSpecified", spec := "graphBuildsAsSpecified", unfollowed := true, recurses := true, apart := false }
def GraphBuildsAsSpecifiedSaid : Prop := graphBuildsAsSpecifiedRow.holds Tryz.pinned (OpenSpec.ofChange graphBuildsAsSpecifiedSpec)

/-- ITS FALSE NEIGHBOUR: 'it returns false'. Refute it at one input. -/
def graphBuildsAsSpecifiedWrong : ChangeSpec := { name := "graphBuildsAsSpecified", fn := fun _ => fun
  | [d1, d2, d3, d4, d5] => { results := [.lit (.bool false)], args := [d1, d2, d3, d4, d5] }
  | _ => none }
def GraphBuildsAsSpecifiedWrongFalsely : Prop := graphBuildsAsSpecifiedRow.holds Tryz.pinned (OpenSpec.ofChange graphBuildsAsSpecifiedWrong)

/-- 'antiquarylaw27.GraphFindsAll': WHATEVER THE INPUT: true; the input reads as it did. -/
def graphFindsAllSpec : ChangeSpec := { name := "graphFindsAll", fn := fun _ => fun
  | [d1, d2, d3, d4, d5, d6, d7, d8] => { results := [.lit (.bool true)], args := [d1, d2, d3, d4, d5, d6, d7, d8] }
  | _ => none }
def graphFindsAllRow : OpenClaim := { program := "ytabmooekodficaagreat", sum := "ee153a4ce07b7c7b27bf4b0d81d505fb1c2dd527ccd58ace729aa96c8edd306b", func := "antiquary/antiquarylaw27.GraphFindsAll", spec := "graphFindsAll", unfollowed := true, recurses := true, apart := false }
def GraphFindsAllSaid : Prop := graphFindsAllRow.holds Tryz.pinned (OpenSpec.ofChange graphFindsAllSpec)

/-- ITS FALSE NEIGHBOUR: 'it returns false'. Refute it at one input. -/
def graphFindsAllWrong : ChangeSpec := { name := "graphFindsAll", fn := fun _ => fun
  | [d1, d2, d3, d4, d5, d6, d7, d8] => { results := [.lit (.bool false)], args := [d1, d2, d3, d4, d5, d6, d7, d8] }
  | _ => none }
def GraphFindsAllWrongFalsely : Prop := graphFindsAllRow.holds Tryz.pinned (OpenSpec.ofChange graphFindsAllWrong)

/- THE SECOND FORM. 'bulk': how many values and letters a reading holds, each counted each time it is reached (what is shared counts as often as it is met; a slice's spare places count too). A statement '..UptoSaid' is the law's where the arguments, and the package variables that the reading takes, are together of bulk at most 1048576: NARROWER than '..Said'. Prove '..Said' where nothing that the law and all that it calls make is longer than what came in: it says more and counts as full. Else prove '..UptoSaid'. A law counts once. -/
mutual
def uptoBulk {H : Type} : DataW H → Nat
  | .lit (.string bytes) => bytes.length + 1
  | .lit _ => 1
  | .nil => 1
  | .ptr d => uptoBulk d + 1
  | .slice elems spare => uptoBulkAll elems + uptoBulkAll spare + 1
  | .agg parts => uptoBulkAll parts + 1
  | .iface _ d => uptoBulk d + 1
  | .map entries => uptoBulkEntries entries + 1
  | .held _ => 1
def uptoBulkAll {H : Type} : List (DataW H) → Nat
  | [] => 0
  | d :: r => uptoBulk d + uptoBulkAll r
def uptoBulkEntries {H : Type} : List (Lit × DataW H) → Nat
  | [] => 0
  | x :: r => uptoBulkEntry x + uptoBulkEntries r
def uptoBulkEntry {H : Type} : Lit × DataW H → Nat
  | (.string bytes, d) => bytes.length + uptoBulk d + 1
  | (_, d) => uptoBulk d + 1
 end
def uptoSmall : (H : Type) → List (DataW H) → Bool := fun _ ds => decide (uptoBulkAll ds ≤ 1048576)
def OpenSpec.upto (s : _root_.Go.ChangeSpec) : _root_.Go.OpenSpec := { _root_.Go.OpenSpec.ofChange s with cond := some uptoSmall }

/-- 'antiquarylaw27.GraphWalksAsSpecified', WHERE WHAT IT READS IS OF BULK AT MOST 1048576: true; the input reads as it did. -/
def graphWalksAsSpecifiedUptoRow : OpenClaim := { program := "ytabmooekodficaagreat", sum := "ee153a4ce07b7c7b27bf4b0d81d505fb1c2dd527ccd58ace729aa96c8edd306b", func := "antiquary/antiquarylaw27.GraphWalksAsSpecified", spec := "graphWalksAsSpecified", unfollowed := true, recurses := true, apart := false, narrowed := true }
def GraphWalksAsSpecifiedUptoSaid : Prop := graphWalksAsSpecifiedUptoRow.holds Tryz.pinned (OpenSpec.upto graphWalksAsSpecifiedSpec)

/-- 'antiquarylaw27.GraphBuildsAsSpecified', WHERE WHAT IT READS IS OF BULK AT MOST 1048576: true; the input reads as it did. -/
def graphBuildsAsSpecifiedUptoRow : OpenClaim := { program := "ytabmooekodficaagreat", sum := "ee153a4ce07b7c7b27bf4b0d81d505fb1c2dd527ccd58ace729aa96c8edd306b", func := "antiquary/antiquarylaw27.GraphBuildsAsSpecified", spec := "graphBuildsAsSpecified", unfollowed := true, recurses := true, apart := false, narrowed := true }
def GraphBuildsAsSpecifiedUptoSaid : Prop := graphBuildsAsSpecifiedUptoRow.holds Tryz.pinned (OpenSpec.upto graphBuildsAsSpecifiedSpec)

/-- 'antiquarylaw27.GraphFindsAll', WHERE WHAT IT READS IS OF BULK AT MOST 1048576: true; the input reads as it did. -/
def graphFindsAllUptoRow : OpenClaim := { program := "ytabmooekodficaagreat", sum := "ee153a4ce07b7c7b27bf4b0d81d505fb1c2dd527ccd58ace729aa96c8edd306b", func := "antiquary/antiquarylaw27.GraphFindsAll", spec := "graphFindsAll", unfollowed := true, recurses := true, apart := false, narrowed := true }
def GraphFindsAllUptoSaid : Prop := graphFindsAllUptoRow.holds Tryz.pinned (OpenSpec.upto graphFindsAllSpec)

end Rows
end Go.Proofs.YtabmooekodficaaGreat

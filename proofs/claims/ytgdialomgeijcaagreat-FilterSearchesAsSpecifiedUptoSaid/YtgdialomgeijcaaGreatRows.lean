/-
  NARROWER THAN 'FOR EVERY INPUT', by the rows' own cells (each row's printed sentence says how): FilterHoldsAsSpecified: loops · FilterChecksAsSpecified: loops · FilterSearchesAsSpecified: loops · FilterNormalKeeps: loops · FilterEmptyExactly: loops · FilterImpliesExactly: loops · FilterFollowsLogic: loops.
  DERIVED. THE GIVEN ROWS OF THIS SEAT. 7 by the template 'for every input the law returns true; each argument reads behind the call as it read before'; 0 by the template 'total and deterministic' (their statements: YtgdialomgeijcaaGreatTotals.lean).
  GIVEN WITH THE SEED: the statements are not yours to turn. If you find one false, say at which input.
  Laid BY PROGRAM, IN A SANDBOX (cutbox-rows.mjs): the forced cells as the released guide's own fill.sh prints them over the translation 250c27846444254f… (all of the seat's roots in one cut). By AI agents, Wed Nov 11 2026. No macro, syntax, notation, axiom, sorry.
-/
import Derived.Test.YtgdialomgeijcaaGreatChecked
import GoSem.Claim
import GoSem.ClaimJoined
import GoSem.ClaimMapViews
import Derived.JoinedTies
import Derived.KernelRfl
namespace Go.Proofs.YtgdialomgeijcaaGreat
/- THE CELL 'sum', in the pinned program and in every row, IS THE sha256 OF THE DUMP (.gsa) THAT YtgdialomgeijcaaGreatProg.lean LOADS. Nothing in Lean hashes anything: it is a label: what it is worth is what the hold of that sum in a sandbox is worth. -/
noncomputable def Tryz.pinned : Pinned := { name := "ytgdialomgeijcaagreat", sum := "250c27846444254f7c3435a50a150f441950c92ded091003541b9441c0dfb4c2", checked := Tryz.checked }
namespace Rows
def none {H : Type} : Left H := { results := [], args := [] }

/-- 'antiquarylaw17.FilterHoldsAsSpecified': WHATEVER THE INPUT: true; the input reads as it did. -/
def filterHoldsAsSpecifiedSpec : ChangeSpec := { name := "filterHoldsAsSpecified", fn := fun _ => fun
  | [d1, d2, d3] => { results := [.lit (.bool true)], args := [d1, d2, d3] }
  | _ => none }
def filterHoldsAsSpecifiedRow : OpenClaim := { program := "ytgdialomgeijcaagreat", sum := "250c27846444254f7c3435a50a150f441950c92ded091003541b9441c0dfb4c2", func := "antiquary/antiquarylaw17.FilterHoldsAsSpecified", spec := "filterHoldsAsSpecified", inPlace := ["internal/bytealg.abigen_runtime_cmpstring"], unfollowed := true, recurses := true, loops := true, apart := false }
def FilterHoldsAsSpecifiedSaid : Prop := filterHoldsAsSpecifiedRow.holds Tryz.pinned (OpenSpec.ofChange filterHoldsAsSpecifiedSpec)

/-- ITS FALSE NEIGHBOUR: 'it returns false'. Refute it at one input. -/
def filterHoldsAsSpecifiedWrong : ChangeSpec := { name := "filterHoldsAsSpecified", fn := fun _ => fun
  | [d1, d2, d3] => { results := [.lit (.bool false)], args := [d1, d2, d3] }
  | _ => none }
def FilterHoldsAsSpecifiedWrongFalsely : Prop := filterHoldsAsSpecifiedRow.holds Tryz.pinned (OpenSpec.ofChange filterHoldsAsSpecifiedWrong)

/-- 'antiquarylaw17.FilterChecksAsSpecified': WHATEVER THE INPUT: true; the input reads as it did. -/
def filterChecksAsSpecifiedSpec : ChangeSpec := { name := "filterChecksAsSpecified", fn := fun _ => fun
  | [d1, d2] => { results := [.lit (.bool true)], args := [d1, d2] }
  | _ => none }
def filterChecksAsSpecifiedRow : OpenClaim := { program := "ytgdialomgeijcaagreat", sum := "250c27846444254f7c3435a50a150f441950c92ded091003541b9441c0dfb4c2", func := "antiquary/antiquarylaw17.FilterChecksAsSpecified", spec := "filterChecksAsSpecified", inPlace := ["internal/bytealg.abigen_runtime_cmpstring"], unfollowed := true, recurses := true, loops := true, apart := false }
def FilterChecksAsSpecifiedSaid : Prop := filterChecksAsSpecifiedRow.holds Tryz.pinned (OpenSpec.ofChange filterChecksAsSpecifiedSpec)

/-- ITS FALSE NEIGHBOUR: 'it returns false'. Refute it at one input. -/
def filterChecksAsSpecifiedWrong : ChangeSpec := { name := "filterChecksAsSpecified", fn := fun _ => fun
  | [d1, d2] => { results := [.lit (.bool false)], args := [d1, d2] }
  | _ => none }
def FilterChecksAsSpecifiedWrongFalsely : Prop := filterChecksAsSpecifiedRow.holds Tryz.pinned (OpenSpec.ofChange filterChecksAsSpecifiedWrong)

/-- 'antiquarylaw17.FilterSearchesAsSpecified': WHATEVER THE INPUT: true; the input reads as it did. -/
def filterSearchesAsSpecifiedSpec : ChangeSpec := { name := "filterSearchesAsSpecified", fn := fun _ => fun
  | [d1, d2, d3] => { results := [.lit (.bool true)], args := [d1, d2, d3] }
  | _ => none }
def filterSearchesAsSpecifiedRow : OpenClaim := { program := "ytgdialomgeijcaagreat", sum := "250c27846444254f7c3435a50a150f441950c92ded091003541b9441c0dfb4c2", func := "antiquary/antiquarylaw17.FilterSearchesAsSpecified", spec := "filterSearchesAsSpecified", inPlace := ["internal/bytealg.abigen_runtime_cmpstring"], unfollowed := true, recurses := true, loops := true, apart := false }
def FilterSearchesAsSpecifiedSaid : Prop := filterSearchesAsSpecifiedRow.holds Tryz.pinned (OpenSpec.ofChange filterSearchesAsSpecifiedSpec)

/-- ITS FALSE NEIGHBOUR: 'it returns false'. Refute it at one input. -/
def filterSearchesAsSpecifiedWrong : ChangeSpec := { name := "filterSearchesAsSpecified", fn := fun _ => fun
  | [d1, d2, d3] => { results := [.lit (.bool false)], args := [d1, d2, d3] }
  | _ => none }
def FilterSearchesAsSpecifiedWrongFalsely : Prop := filterSearchesAsSpecifiedRow.holds Tryz.pinned (OpenSpec.ofChange filterSearchesAsSpecifiedWrong)

/-- 'antiquarylaw17.FilterNormalKeeps': WHATEVER THE INPUT: true; the input reads as it did. -/
def filterNormalKeepsSpec : ChangeSpec := { name := "filterNormalKeeps", fn := fun _ => fun
  | [d1, d2, d3] => { results := [.lit (.bool true)], args := [d1, d2, d3] }
  | _ => none }
def filterNormalKeepsRow : OpenClaim := { program := "ytgdialomgeijcaagreat", sum := "250c27846444254f7c3435a50a150f441950c92ded091003541b9441c0dfb4c2", func := "antiquary/antiquarylaw17.FilterNormalKeeps", spec := "filterNormalKeeps", inPlace := ["internal/bytealg.abigen_runtime_cmpstring"], unfollowed := true, recurses := true, loops := true, apart := false }
def FilterNormalKeepsSaid : Prop := filterNormalKeepsRow.holds Tryz.pinned (OpenSpec.ofChange filterNormalKeepsSpec)

/-- ITS FALSE NEIGHBOUR: 'it returns false'. Refute it at one input. -/
def filterNormalKeepsWrong : ChangeSpec := { name := "filterNormalKeeps", fn := fun _ => fun
  | [d1, d2, d3] => { results := [.lit (.bool false)], args := [d1, d2, d3] }
  | _ => none }
def FilterNormalKeepsWrongFalsely : Prop := filterNormalKeepsRow.holds Tryz.pinned (OpenSpec.ofChange filterNormalKeepsWrong)

/-- 'antiquarylaw17.FilterEmptyExactly': WHATEVER THE INPUT: true; the input reads as it did. -/
def filterEmptyExactlySpec : ChangeSpec := { name := "filterEmptyExactly", fn := fun _ => fun
  | [d1, d2, d3] => { results := [.lit (.bool true)], args := [d1, d2, d3] }
  | _ => none }
def filterEmptyExactlyRow : OpenClaim := { program := "ytgdialomgeijcaagreat", sum := "250c27846444254f7c3435a50a150f441950c92ded091003541b9441c0dfb4c2", func := "antiquary/antiquarylaw17.FilterEmptyExactly", spec := "filterEmptyExactly", inPlace := ["internal/bytealg.abigen_runtime_cmpstring"], unfollowed := true, recurses := true, loops := true, apart := false }
def FilterEmptyExactlySaid : Prop := filterEmptyExactlyRow.holds Tryz.pinned (OpenSpec.ofChange filterEmptyExactlySpec)

/-- ITS FALSE NEIGHBOUR: 'it returns false'. Refute it at one input. -/
def filterEmptyExactlyWrong : ChangeSpec := { name := "filterEmptyExactly", fn := fun _ => fun
  | [d1, d2, d3] => { results := [.lit (.bool false)], args := [d1, d2, d3] }
  | _ => none }
def FilterEmptyExactlyWrongFalsely : Prop := filterEmptyExactlyRow.holds Tryz.pinned (OpenSpec.ofChange filterEmptyExactlyWrong)

/-- 'antiquarylaw17.FilterImpliesExactly': WHATEVER THE INPUT: true; the input reads as it did. -/
def filterImpliesExactlySpec : ChangeSpec := { name := "filterImpliesExactly", fn := fun _ => fun
  | [d1, d2, d3, d4] => { results := [.lit (.bool true)], args := [d1, d2, d3, d4] }
  | _ => none }
def filterImpliesExactlyRow : OpenClaim := { program := "ytgdialomgeijcaagreat", sum := "250c27846444254f7c3435a50a150f441950c92ded091003541b9441c0dfb4c2", func := "antiquary/antiquarylaw17.FilterImpliesExactly", spec := "filterImpliesExactly", inPlace := ["internal/bytealg.abigen_runtime_cmpstring"], unfollowed := true, recurses := true, loops := true, apart := false }
def FilterImpliesExactlySaid : Prop := filterImpliesExactlyRow.holds Tryz.pinned (OpenSpec.ofChange filterImpliesExactlySpec)

/-- ITS FALSE NEIGHBOUR: 'it returns false'. Refute it at one input. -/
def filterImpliesExactlyWrong : ChangeSpec := { name := "filterImpliesExactly", fn := fun _ => fun
  | [d1, d2, d3, d4] => { results := [.lit (.bool false)], args := [d1, d2, d3, d4] }
  | _ => none }
def FilterImpliesExactlyWrongFalsely : Prop := filterImpliesExactlyRow.holds Tryz.pinned (OpenSpec.ofChange filterImpliesExactlyWrong)

/-- 'antiquarylaw17.FilterFollowsLogic': WHATEVER THE INPUT: true; the input reads as it did. -/
def filterFollowsLogicSpec : ChangeSpec := { name := "filterFollowsLogic", fn := fun _ => fun
  | [d1, d2, d3] => { results := [.lit (.bool true)], args := [d1, d2, d3] }
  | _ => none }
def filterFollowsLogicRow : OpenClaim := { program := "ytgdialomgeijcaagreat", sum := "250c27846444254f7c3435a50a150f441950c92ded091003541b9441c0dfb4c2", func := "antiquary/antiquarylaw17.FilterFollowsLogic", spec := "filterFollowsLogic", inPlace := ["internal/bytealg.abigen_runtime_cmpstring"], unfollowed := true, recurses := true, loops := true, apart := false }
def FilterFollowsLogicSaid : Prop := filterFollowsLogicRow.holds Tryz.pinned (OpenSpec.ofChange filterFollowsLogicSpec)

/-- ITS FALSE NEIGHBOUR: 'it returns false'. Refute it at one input. -/
def filterFollowsLogicWrong : ChangeSpec := { name := "filterFollowsLogic", fn := fun _ => fun
  | [d1, d2, d3] => { results := [.lit (.bool false)], args := [d1, d2, d3] }
  | _ => none }
def FilterFollowsLogicWrongFalsely : Prop := filterFollowsLogicRow.holds Tryz.pinned (OpenSpec.ofChange filterFollowsLogicWrong)

/- THE SECOND FORM. 'bulk': how many values and letters a reading holds, each counted each time it is reached (what is shared counts as often as it is met; a slice's spare places count too). A statement '..UptoSaid' is the law's where the arguments, and the package variables that the reading takes, are together of bulk at most 1048576: NARROWER than '..Said'. Prove '..Said' where nothing that the law and all that it calls make is longer than what came in: it says more and counts as full. Else prove '..UptoSaid'. A law counts once. -/
mutual
def uptoBulk {H : Type} : DataW H → Nat
  | .lit (.string bytes) => bytes.length + 1
  | .lit _ => 1
  | .nil => 1
  | .ptr d => uptoBulk d + 1
  | .slice elems spare => uptoBulkAll elems + uptoBulkAll spare + 1
  | .agg parts => uptoBulkAll parts + 1
  | .iface _ d => uptoBulk d + 1
  | .map entries => uptoBulkEntries entries + 1
  | .held _ => 1
def uptoBulkAll {H : Type} : List (DataW H) → Nat
  | [] => 0
  | d :: r => uptoBulk d + uptoBulkAll r
def uptoBulkEntries {H : Type} : List (Lit × DataW H) → Nat
  | [] => 0
  | x :: r => uptoBulkEntry x + uptoBulkEntries r
def uptoBulkEntry {H : Type} : Lit × DataW H → Nat
  | (.string bytes, d) => bytes.length + uptoBulk d + 1
  | (_, d) => uptoBulk d + 1
 end
def uptoSmall : (H : Type) → List (DataW H) → Bool := fun _ ds => decide (uptoBulkAll ds ≤ 1048576)
def OpenSpec.upto (s : _root_.Go.ChangeSpec) : _root_.Go.OpenSpec := { _root_.Go.OpenSpec.ofChange s with cond := some uptoSmall }

/-- 'antiquarylaw17.FilterHoldsAsSpecified', WHERE WHAT IT READS IS OF BULK AT MOST 1048576: true; the input reads as it did. -/
def filterHoldsAsSpecifiedUptoRow : OpenClaim := { program := "ytgdialomgeijcaagreat", sum := "250c27846444254f7c3435a50a150f441950c92ded091003541b9441c0dfb4c2", func := "antiquary/antiquarylaw17.FilterHoldsAsSpecified", spec := "filterHoldsAsSpecified", inPlace := ["internal/bytealg.abigen_runtime_cmpstring"], unfollowed := true, recurses := true, loops := true, apart := false, narrowed := true }
def FilterHoldsAsSpecifiedUptoSaid : Prop := filterHoldsAsSpecifiedUptoRow.holds Tryz.pinned (OpenSpec.upto filterHoldsAsSpecifiedSpec)

/-- 'antiquarylaw17.FilterChecksAsSpecified', WHERE WHAT IT READS IS OF BULK AT MOST 1048576: true; the input reads as it did. -/
def filterChecksAsSpecifiedUptoRow : OpenClaim := { program := "ytgdialomgeijcaagreat", sum := "250c27846444254f7c3435a50a150f441950c92ded091003541b9441c0dfb4c2", func := "antiquary/antiquarylaw17.FilterChecksAsSpecified", spec := "filterChecksAsSpecified", inPlace := ["internal/bytealg.abigen_runtime_cmpstring"], unfollowed := true, recurses := true, loops := true, apart := false, narrowed := true }
def FilterChecksAsSpecifiedUptoSaid : Prop := filterChecksAsSpecifiedUptoRow.holds Tryz.pinned (OpenSpec.upto filterChecksAsSpecifiedSpec)

/-- 'antiquarylaw17.FilterSearchesAsSpecified', WHERE WHAT IT READS IS OF BULK AT MOST 1048576: true; the input reads as it did. -/
def filterSearchesAsSpecifiedUptoRow : OpenClaim := { program := "ytgdialomgeijcaagreat", sum := "250c27846444254f7c3435a50a150f441950c92ded091003541b9441c0dfb4c2", func := "antiquary/antiquarylaw17.FilterSearchesAsSpecified", spec := "filterSearchesAsSpecified", inPlace := ["internal/bytealg.abigen_runtime_cmpstring"], unfollowed := true, recurses := true, loops := true, apart := false, narrowed := true }
def FilterSearchesAsSpecifiedUptoSaid : Prop := filterSearchesAsSpecifiedUptoRow.holds Tryz.pinned (OpenSpec.upto filterSearchesAsSpecifiedSpec)

/-- 'antiquarylaw17.FilterNormalKeeps', WHERE WHAT IT READS IS OF BULK AT MOST 1048576: true; the input reads as it did. -/
def filterNormalKeepsUptoRow : OpenClaim := { program := "ytgdialomgeijcaagreat", sum := "250c27846444254f7c3435a50a150f441950c92ded091003541b9441c0dfb4c2", func := "antiquary/antiquarylaw17.FilterNormalKeeps", spec := "filterNormalKeeps", inPlace := ["internal/bytealg.abigen_runtime_cmpstring"], unfollowed := true, recurses := true, loops := true, apart := false, narrowed := true }
def FilterNormalKeepsUptoSaid : Prop := filterNormalKeepsUptoRow.holds Tryz.pinned (OpenSpec.upto filterNormalKeepsSpec)

/-- 'antiquarylaw17.FilterEmptyExactly', WHERE WHAT IT READS IS OF BULK AT MOST 1048576: true; the input reads as it did. -/
def filterEmptyExactlyUptoRow : OpenClaim := { program := "ytgdialomgeijcaagreat", sum := "250c27846444254f7c3435a50a150f441950c92ded091003541b9441c0dfb4c2", func := "antiquary/antiquarylaw17.FilterEmptyExactly", spec := "filterEmptyExactly", inPlace := ["internal/bytealg.abigen_runtime_cmpstring"], unfollowed := true, recurses := true, loops := true, apart := false, narrowed := true }
def FilterEmptyExactlyUptoSaid : Prop := filterEmptyExactlyUptoRow.holds Tryz.pinned (OpenSpec.upto filterEmptyExactlySpec)

/-- 'antiquarylaw17.FilterImpliesExactly', WHERE WHAT IT READS IS OF BULK AT MOST 1048576: true; the input reads as it did. -/
def filterImpliesExactlyUptoRow : OpenClaim := { program := "ytgdialomgeijcaagreat", sum := "250c27846444254f7c3435a50a150f441950c92ded091003541b9441c0dfb4c2", func := "antiquary/antiquarylaw17.FilterImpliesExactly", spec := "filterImpliesExactly", inPlace := ["internal/bytealg.abigen_runtime_cmpstring"], unfollowed := true, recurses := true, loops := true, apart := false, narrowed := true }
def FilterImpliesExactlyUptoSaid : Prop := filterImpliesExactlyUptoRow.holds Tryz.pinned (OpenSpec.upto filterImpliesExactlySpec)

/-- 'antiquarylaw17.FilterFollowsLogic', WHERE WHAT IT READS IS OF BULK AT MOST 1048576: true; the input reads as it did. -/
def filterFollowsLogicUptoRow : OpenClaim := { program := "ytgdialomgeijcaagreat", sum := "250c27846444254f7c3435a50a150f441950c92ded091003541b9441c0dfb4c2", func := "antiquary/antiquarylaw17.FilterFollowsLogic", spec := "filterFollowsLogic", inPlace := ["internal/bytealg.abigen_runtime_cmpstring"], unfollowed := true, recurses := true, loops := true, apart := false, narrowed := true }
def FilterFollowsLogicUptoSaid : Prop := filterFollowsLogicUptoRow.holds Tryz.pinned (OpenSpec.upto filterFollowsLogicSpec)

end Rows
end Go.Proofs.YtgdialomgeijcaaGreat

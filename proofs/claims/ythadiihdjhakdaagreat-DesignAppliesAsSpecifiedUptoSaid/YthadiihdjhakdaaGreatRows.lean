/-
  NARROWER THAN 'FOR EVERY INPUT', by the rows' own cells (each row's printed sentence says how): DesignScansAsSpecified: loops · DesignKeepsHistory: loops · DesignRevealsNothing: loops · DesignScanIsExact: loops.
  DERIVED. THE GIVEN ROWS OF THIS SEAT. 8 by the template 'for every input the law returns true; each argument reads behind the call as it read before'; 0 by the template 'total and deterministic' (their statements: YthadiihdjhakdaaGreatTotals.lean).
  GIVEN WITH THE SEED: the statements are not yours to turn. If you find one false, say at which input.
  Laid BY PROGRAM, IN A SANDBOX (cutbox-rows.mjs): the forced cells as the released guide's own fill.sh prints them over the translation febdc2ac0c7500de… (all of the seat's roots in one cut). By AI agents, Wed Nov 11 2026. No macro, syntax, notation, axiom, sorry.
-/
import Derived.Test.YthadiihdjhakdaaGreatChecked
import GoSem.Claim
import GoSem.ClaimJoined
import GoSem.ClaimMapViews
import Derived.JoinedTies
import Derived.KernelRfl
namespace Go.Proofs.YthadiihdjhakdaaGreat
/- THE CELL 'sum', in the pinned program and in every row, IS THE sha256 OF THE DUMP (.gsa) THAT YthadiihdjhakdaaGreatProg.lean LOADS. Nothing in Lean hashes anything: it is a label: what it is worth is what the hold of that sum in a sandbox is worth. -/
noncomputable def Tryz.pinned : Pinned := { name := "ythadiihdjhakdaagreat", sum := "febdc2ac0c7500de0897be07b0f69deeb8318f71b0e721b7a10c91baae447c40", checked := Tryz.checked }
namespace Rows
def none {H : Type} : Left H := { results := [], args := [] }

/-- 'antiquarylaw19.DesignScansAsSpecified': WHATEVER THE INPUT: true; the input reads as it did. -/
def designScansAsSpecifiedSpec : ChangeSpec := { name := "designScansAsSpecified", fn := fun _ => fun
  | [d1, d2, d3] => { results := [.lit (.bool true)], args := [d1, d2, d3] }
  | _ => none }
def designScansAsSpecifiedRow : OpenClaim := { program := "ythadiihdjhakdaagreat", sum := "febdc2ac0c7500de0897be07b0f69deeb8318f71b0e721b7a10c91baae447c40", func := "antiquary/antiquarylaw19.DesignScansAsSpecified", spec := "designScansAsSpecified", unfollowed := true, recurses := true, loops := true, apart := false }
def DesignScansAsSpecifiedSaid : Prop := designScansAsSpecifiedRow.holds Tryz.pinned (OpenSpec.ofChange designScansAsSpecifiedSpec)

/-- ITS FALSE NEIGHBOUR: 'it returns false'. Refute it at one input. -/
def designScansAsSpecifiedWrong : ChangeSpec := { name := "designScansAsSpecified", fn := fun _ => fun
  | [d1, d2, d3] => { results := [.lit (.bool false)], args := [d1, d2, d3] }
  | _ => none }
def DesignScansAsSpecifiedWrongFalsely : Prop := designScansAsSpecifiedRow.holds Tryz.pinned (OpenSpec.ofChange designScansAsSpecifiedWrong)

/-- 'antiquarylaw19.DesignShowsOneVersion': WHATEVER THE INPUT: true; the input reads as it did. -/
def designShowsOneVersionSpec : ChangeSpec := { name := "designShowsOneVersion", fn := fun _ => fun
  | [d1, d2, d3] => { results := [.lit (.bool true)], args := [d1, d2, d3] }
  | _ => none }
def designShowsOneVersionRow : OpenClaim := { program := "ythadiihdjhakdaagreat", sum := "febdc2ac0c7500de0897be07b0f69deeb8318f71b0e721b7a10c91baae447c40", func := "antiquary/antiquarylaw19.DesignShowsOneVersion", spec := "designShowsOneVersion", unfollowed := true, recurses := true, apart := false }
def DesignShowsOneVersionSaid : Prop := designShowsOneVersionRow.holds Tryz.pinned (OpenSpec.ofChange designShowsOneVersionSpec)

/-- ITS FALSE NEIGHBOUR: 'it returns false'. Refute it at one input. -/
def designShowsOneVersionWrong : ChangeSpec := { name := "designShowsOneVersion", fn := fun _ => fun
  | [d1, d2, d3] => { results := [.lit (.bool false)], args := [d1, d2, d3] }
  | _ => none }
def DesignShowsOneVersionWrongFalsely : Prop := designShowsOneVersionRow.holds Tryz.pinned (OpenSpec.ofChange designShowsOneVersionWrong)

/-- 'antiquarylaw19.DesignKeepsHistory': WHATEVER THE INPUT: true; the input reads as it did. -/
def designKeepsHistorySpec : ChangeSpec := { name := "designKeepsHistory", fn := fun _ => fun
  | [d1, d2, d3, d4] => { results := [.lit (.bool true)], args := [d1, d2, d3, d4] }
  | _ => none }
def designKeepsHistoryRow : OpenClaim := { program := "ythadiihdjhakdaagreat", sum := "febdc2ac0c7500de0897be07b0f69deeb8318f71b0e721b7a10c91baae447c40", func := "antiquary/antiquarylaw19.DesignKeepsHistory", spec := "designKeepsHistory", unfollowed := true, recurses := true, loops := true, apart := false }
def DesignKeepsHistorySaid : Prop := designKeepsHistoryRow.holds Tryz.pinned (OpenSpec.ofChange designKeepsHistorySpec)

/-- ITS FALSE NEIGHBOUR: 'it returns false'. Refute it at one input. -/
def designKeepsHistoryWrong : ChangeSpec := { name := "designKeepsHistory", fn := fun _ => fun
  | [d1, d2, d3, d4] => { results := [.lit (.bool false)], args := [d1, d2, d3, d4] }
  | _ => none }
def DesignKeepsHistoryWrongFalsely : Prop := designKeepsHistoryRow.holds Tryz.pinned (OpenSpec.ofChange designKeepsHistoryWrong)

/-- 'antiquarylaw19.DesignKeepsEmbargoes': WHATEVER THE INPUT: true; the input reads as it did. -/
def designKeepsEmbargoesSpec : ChangeSpec := { name := "designKeepsEmbargoes", fn := fun _ => fun
  | [d1, d2, d3] => { results := [.lit (.bool true)], args := [d1, d2, d3] }
  | _ => none }
def designKeepsEmbargoesRow : OpenClaim := { program := "ythadiihdjhakdaagreat", sum := "febdc2ac0c7500de0897be07b0f69deeb8318f71b0e721b7a10c91baae447c40", func := "antiquary/antiquarylaw19.DesignKeepsEmbargoes", spec := "designKeepsEmbargoes", unfollowed := true, recurses := true, apart := false }
def DesignKeepsEmbargoesSaid : Prop := designKeepsEmbargoesRow.holds Tryz.pinned (OpenSpec.ofChange designKeepsEmbargoesSpec)

/-- ITS FALSE NEIGHBOUR: 'it returns false'. Refute it at one input. -/
def designKeepsEmbargoesWrong : ChangeSpec := { name := "designKeepsEmbargoes", fn := fun _ => fun
  | [d1, d2, d3] => { results := [.lit (.bool false)], args := [d1, d2, d3] }
  | _ => none }
def DesignKeepsEmbargoesWrongFalsely : Prop := designKeepsEmbargoesRow.holds Tryz.pinned (OpenSpec.ofChange designKeepsEmbargoesWrong)

/-- 'antiquarylaw19.DesignChangesContents': WHATEVER THE INPUT: true; the input reads as it did. -/
def designChangesContentsSpec : ChangeSpec := { name := "designChangesContents", fn := fun _ => fun
  | [d1, d2, d3, d4] => { results := [.lit (.bool true)], args := [d1, d2, d3, d4] }
  | _ => none }
def designChangesContentsRow : OpenClaim := { program := "ythadiihdjhakdaagreat", sum := "febdc2ac0c7500de0897be07b0f69deeb8318f71b0e721b7a10c91baae447c40", func := "antiquary/antiquarylaw19.DesignChangesContents", spec := "designChangesContents", unfollowed := true, recurses := true, apart := false }
def DesignChangesContentsSaid : Prop := designChangesContentsRow.holds Tryz.pinned (OpenSpec.ofChange designChangesContentsSpec)

/-- ITS FALSE NEIGHBOUR: 'it returns false'. Refute it at one input. -/
def designChangesContentsWrong : ChangeSpec := { name := "designChangesContents", fn := fun _ => fun
  | [d1, d2, d3, d4] => { results := [.lit (.bool false)], args := [d1, d2, d3, d4] }
  | _ => none }
def DesignChangesContentsWrongFalsely : Prop := designChangesContentsRow.holds Tryz.pinned (OpenSpec.ofChange designChangesContentsWrong)

/-- 'antiquarylaw19.DesignAppliesAsSpecified': WHATEVER THE INPUT: true; the input reads as it did. -/
def designAppliesAsSpecifiedSpec : ChangeSpec := { name := "designAppliesAsSpecified", fn := fun _ => fun
  | [d1, d2, d3] => { results := [.lit (.bool true)], args := [d1, d2, d3] }
  | _ => none }
def designAppliesAsSpecifiedRow : OpenClaim := { program := "ythadiihdjhakdaagreat", sum := "febdc2ac0c7500de0897be07b0f69deeb8318f71b0e721b7a10c91baae447c40", func := "antiquary/antiquarylaw19.DesignAppliesAsSpecified", spec := "designAppliesAsSpecified", unfollowed := true, recurses := true, apart := false }
def DesignAppliesAsSpecifiedSaid : Prop := designAppliesAsSpecifiedRow.holds Tryz.pinned (OpenSpec.ofChange designAppliesAsSpecifiedSpec)

/-- ITS FALSE NEIGHBOUR: 'it returns false'. Refute it at one input. -/
def designAppliesAsSpecifiedWrong : ChangeSpec := { name := "designAppliesAsSpecified", fn := fun _ => fun
  | [d1, d2, d3] => { results := [.lit (.bool false)], args := [d1, d2, d3] }
  | _ => none }
def DesignAppliesAsSpecifiedWrongFalsely : Prop := designAppliesAsSpecifiedRow.holds Tryz.pinned (OpenSpec.ofChange designAppliesAsSpecifiedWrong)

/-- 'antiquarylaw19.DesignRevealsNothing': WHATEVER THE INPUT: true; the input reads as it did. -/
def designRevealsNothingSpec : ChangeSpec := { name := "designRevealsNothing", fn := fun _ => fun
  | [d1, d2, d3, d4] => { results := [.lit (.bool true)], args := [d1, d2, d3, d4] }
  | _ => none }
def designRevealsNothingRow : OpenClaim := { program := "ythadiihdjhakdaagreat", sum := "febdc2ac0c7500de0897be07b0f69deeb8318f71b0e721b7a10c91baae447c40", func := "antiquary/antiquarylaw19.DesignRevealsNothing", spec := "designRevealsNothing", unfollowed := true, recurses := true, loops := true, apart := false }
def DesignRevealsNothingSaid : Prop := designRevealsNothingRow.holds Tryz.pinned (OpenSpec.ofChange designRevealsNothingSpec)

/-- ITS FALSE NEIGHBOUR: 'it returns false'. Refute it at one input. -/
def designRevealsNothingWrong : ChangeSpec := { name := "designRevealsNothing", fn := fun _ => fun
  | [d1, d2, d3, d4] => { results := [.lit (.bool false)], args := [d1, d2, d3, d4] }
  | _ => none }
def DesignRevealsNothingWrongFalsely : Prop := designRevealsNothingRow.holds Tryz.pinned (OpenSpec.ofChange designRevealsNothingWrong)

/-- 'antiquarylaw19.DesignScanIsExact': WHATEVER THE INPUT: true; the input reads as it did. -/
def designScanIsExactSpec : ChangeSpec := { name := "designScanIsExact", fn := fun _ => fun
  | [d1, d2, d3] => { results := [.lit (.bool true)], args := [d1, d2, d3] }
  | _ => none }
def designScanIsExactRow : OpenClaim := { program := "ythadiihdjhakdaagreat", sum := "febdc2ac0c7500de0897be07b0f69deeb8318f71b0e721b7a10c91baae447c40", func := "antiquary/antiquarylaw19.DesignScanIsExact", spec := "designScanIsExact", unfollowed := true, recurses := true, loops := true, apart := false }
def DesignScanIsExactSaid : Prop := designScanIsExactRow.holds Tryz.pinned (OpenSpec.ofChange designScanIsExactSpec)

/-- ITS FALSE NEIGHBOUR: 'it returns false'. Refute it at one input. -/
def designScanIsExactWrong : ChangeSpec := { name := "designScanIsExact", fn := fun _ => fun
  | [d1, d2, d3] => { results := [.lit (.bool false)], args := [d1, d2, d3] }
  | _ => none }
def DesignScanIsExactWrongFalsely : Prop := designScanIsExactRow.holds Tryz.pinned (OpenSpec.ofChange designScanIsExactWrong)

/- THE SECOND FORM. 'bulk': how many values and letters a reading holds, each counted each time it is reached (what is shared counts as often as it is met; a slice's spare places count too). A statement '..UptoSaid' is the law's where the arguments, and the package variables that the reading takes, are together of bulk at most 1048576: NARROWER than '..Said'. Prove '..Said' where nothing that the law and all that it calls make is longer than what came in: it says more and counts as full. Else prove '..UptoSaid'. A law counts once. -/
mutual
def uptoBulk {H : Type} : DataW H → Nat
  | .lit (.string bytes) => bytes.length + 1
  | .lit _ => 1
  | .nil => 1
  | .ptr d => uptoBulk d + 1
  | .slice elems spare => uptoBulkAll elems + uptoBulkAll spare + 1
  | .agg parts => uptoBulkAll parts + 1
  | .iface _ d => uptoBulk d + 1
  | .map entries => uptoBulkEntries entries + 1
  | .held _ => 1
def uptoBulkAll {H : Type} : List (DataW H) → Nat
  | [] => 0
  | d :: r => uptoBulk d + uptoBulkAll r
def uptoBulkEntries {H : Type} : List (Lit × DataW H) → Nat
  | [] => 0
  | x :: r => uptoBulkEntry x + uptoBulkEntries r
def uptoBulkEntry {H : Type} : Lit × DataW H → Nat
  | (.string bytes, d) => bytes.length + uptoBulk d + 1
  | (_, d) => uptoBulk d + 1
 end
def uptoSmall : (H : Type) → List (DataW H) → Bool := fun _ ds => decide (uptoBulkAll ds ≤ 1048576)
def OpenSpec.upto (s : _root_.Go.ChangeSpec) : _root_.Go.OpenSpec := { _root_.Go.OpenSpec.ofChange s with cond := some uptoSmall }

/-- 'antiquarylaw19.DesignScansAsSpecified', WHERE WHAT IT READS IS OF BULK AT MOST 1048576: true; the input reads as it did. -/
def designScansAsSpecifiedUptoRow : OpenClaim := { program := "ythadiihdjhakdaagreat", sum := "febdc2ac0c7500de0897be07b0f69deeb8318f71b0e721b7a10c91baae447c40", func := "antiquary/antiquarylaw19.DesignScansAsSpecified", spec := "designScansAsSpecified", unfollowed := true, recurses := true, loops := true, apart := false, narrowed := true }
def DesignScansAsSpecifiedUptoSaid : Prop := designScansAsSpecifiedUptoRow.holds Tryz.pinned (OpenSpec.upto designScansAsSpecifiedSpec)

/-- 'antiquarylaw19.DesignShowsOneVersion', WHERE WHAT IT READS IS OF BULK AT MOST 1048576: true; the input reads as it did. -/
def designShowsOneVersionUptoRow : OpenClaim := { program := "ythadiihdjhakdaagreat", sum := "febdc2ac0c7500de0897be07b0f69deeb8318f71b0e721b7a10c91baae447c40", func := "antiquary/antiquarylaw19.DesignShowsOneVersion", spec := "designShowsOneVersion", unfollowed := true, recurses := true, apart := false, narrowed := true }
def DesignShowsOneVersionUptoSaid : Prop := designShowsOneVersionUptoRow.holds Tryz.pinned (OpenSpec.upto designShowsOneVersionSpec)

/-- 'antiquarylaw19.DesignKeepsHistory', WHERE WHAT IT READS IS OF BULK AT MOST 1048576: true; the input reads as it did. -/
def designKeepsHistoryUptoRow : OpenClaim := { program := "ythadiihdjhakdaagreat", sum := "febdc2ac0c7500de0897be07b0f69deeb8318f71b0e721b7a10c91baae447c40", func := "antiquary/antiquarylaw19.DesignKeepsHistory", spec := "designKeepsHistory", unfollowed := true, recurses := true, loops := true, apart := false, narrowed := true }
def DesignKeepsHistoryUptoSaid : Prop := designKeepsHistoryUptoRow.holds Tryz.pinned (OpenSpec.upto designKeepsHistorySpec)

/-- 'antiquarylaw19.DesignKeepsEmbargoes', WHERE WHAT IT READS IS OF BULK AT MOST 1048576: true; the input reads as it did. -/
def designKeepsEmbargoesUptoRow : OpenClaim := { program := "ythadiihdjhakdaagreat", sum := "febdc2ac0c7500de0897be07b0f69deeb8318f71b0e721b7a10c91baae447c40", func := "antiquary/antiquarylaw19.DesignKeepsEmbargoes", spec := "designKeepsEmbargoes", unfollowed := true, recurses := true, apart := false, narrowed := true }
def DesignKeepsEmbargoesUptoSaid : Prop := designKeepsEmbargoesUptoRow.holds Tryz.pinned (OpenSpec.upto designKeepsEmbargoesSpec)

/-- 'antiquarylaw19.DesignChangesContents', WHERE WHAT IT READS IS OF BULK AT MOST 1048576: true; the input reads as it did. -/
def designChangesContentsUptoRow : OpenClaim := { program := "ythadiihdjhakdaagreat", sum := "febdc2ac0c7500de0897be07b0f69deeb8318f71b0e721b7a10c91baae447c40", func := "antiquary/antiquarylaw19.DesignChangesContents", spec := "designChangesContents", unfollowed := true, recurses := true, apart := false, narrowed := true }
def DesignChangesContentsUptoSaid : Prop := designChangesContentsUptoRow.holds Tryz.pinned (OpenSpec.upto designChangesContentsSpec)

/-- 'antiquarylaw19.DesignAppliesAsSpecified', WHERE WHAT IT READS IS OF BULK AT MOST 1048576: true; the input reads as it did. -/
def designAppliesAsSpecifiedUptoRow : OpenClaim := { program := "ythadiihdjhakdaagreat", sum := "febdc2ac0c7500de0897be07b0f69deeb8318f71b0e721b7a10c91baae447c40", func := "antiquary/antiquarylaw19.DesignAppliesAsSpecified", spec := "designAppliesAsSpecified", unfollowed := true, recurses := true, apart := false, narrowed := true }
def DesignAppliesAsSpecifiedUptoSaid : Prop := designAppliesAsSpecifiedUptoRow.holds Tryz.pinned (OpenSpec.upto designAppliesAsSpecifiedSpec)

/-- 'antiquarylaw19.DesignRevealsNothing', WHERE WHAT IT READS IS OF BULK AT MOST 1048576: true; the input reads as it did. -/
def designRevealsNothingUptoRow : OpenClaim := { program := "ythadiihdjhakdaagreat", sum := "febdc2ac0c7500de0897be07b0f69deeb8318f71b0e721b7a10c91baae447c40", func := "antiquary/antiquarylaw19.DesignRevealsNothing", spec := "designRevealsNothing", unfollowed := true, recurses := true, loops := true, apart := false, narrowed := true }
def DesignRevealsNothingUptoSaid : Prop := designRevealsNothingUptoRow.holds Tryz.pinned (OpenSpec.upto designRevealsNothingSpec)

/-- 'antiquarylaw19.DesignScanIsExact', WHERE WHAT IT READS IS OF BULK AT MOST 1048576: true; the input reads as it did. -/
def designScanIsExactUptoRow : OpenClaim := { program := "ythadiihdjhakdaagreat", sum := "febdc2ac0c7500de0897be07b0f69deeb8318f71b0e721b7a10c91baae447c40", func := "antiquary/antiquarylaw19.DesignScanIsExact", spec := "designScanIsExact", unfollowed := true, recurses := true, loops := true, apart := false, narrowed := true }
def DesignScanIsExactUptoSaid : Prop := designScanIsExactUptoRow.holds Tryz.pinned (OpenSpec.upto designScanIsExactSpec)

end Rows
end Go.Proofs.YthadiihdjhakdaaGreat

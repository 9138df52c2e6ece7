/-
  NARROWER THAN 'FOR EVERY INPUT', by the rows' own cells (each row's printed sentence says how): RetainFloorsAsSpecified: loops, laid · RetainForgetsInSteps: laid · RetainForgetsAsSpecified: laid · RetainObeysLaws: loops, laid · RetainGivesReceipts: laid · RetainKeepsAnswers: loops, laid.
  DERIVED. THE GIVEN ROWS OF THIS SEAT. 6 by the template 'for every input the law returns true; each argument reads behind the call as it read before'; 0 by the template 'total and deterministic' (their statements: YteniejlbjfigdaaGreatDoorTotals.lean).
  GIVEN WITH THE SEED: the statements are not yours to turn. If you find one false, say at which input.
  Laid BY PROGRAM, IN A SANDBOX (cutbox-rows.mjs): the forced cells as the released guide's own fill.sh prints them over the translation 0a20f1a9c79b8dc1… (all of the seat's roots in one cut). By AI agents, Wed Nov 11 2026. No macro, syntax, notation, axiom, sorry.
-/
import Derived.Test.YteniejlbjfigdaaGreatDoorChecked
import GoSem.Claim
import GoSem.ClaimJoined
import GoSem.ClaimMapViews
import Derived.JoinedTies
import Derived.KernelRfl
namespace Go.Proofs.YteniejlbjfigdaaGreatDoor
/- THE CELL 'sum', in the pinned program and in every row, IS THE sha256 OF THE DUMP (.gsa) THAT YteniejlbjfigdaaGreatDoorProg.lean LOADS. Nothing in Lean hashes anything: it is a label: what it is worth is what the hold of that sum in a sandbox is worth. -/
noncomputable def Tryz.pinned : Pinned := { name := "yteniejlbjfigdaagreatdoor", sum := "0a20f1a9c79b8dc1ec6242dde02b71061971dc272424f2852ba56f82959c7bca", checked := Tryz.checked }
namespace Rows
def none {H : Type} : Left H := { results := [], args := [] }

/- WHAT THE LISTED PACKAGE-LEVEL VARIABLES READ AS WHEN THE CALL BEGINS. Each datum BY PROGRAM (the guide's laid-datum.mjs) off the statement by which the dump's own 'gosem.cut.vars' lays the variable. In a bare row this is a premise. The card (YteniejlbjfigdaaGreatDoorCards.lean) ties it to the program's text. -/
def laid_antiquary_hash_constants {H : Type} : DataW H := .agg [.lit (.int .u32 1116352408), .lit (.int .u32 1899447441), .lit (.int .u32 3049323471), .lit (.int .u32 3921009573), .lit (.int .u32 961987163), .lit (.int .u32 1508970993), .lit (.int .u32 2453635748), .lit (.int .u32 2870763221), .lit (.int .u32 3624381080), .lit (.int .u32 310598401), .lit (.int .u32 607225278), .lit (.int .u32 1426881987), .lit (.int .u32 1925078388), .lit (.int .u32 2162078206), .lit (.int .u32 2614888103), .lit (.int .u32 3248222580), .lit (.int .u32 3835390401), .lit (.int .u32 4022224774), .lit (.int .u32 264347078), .lit (.int .u32 604807628), .lit (.int .u32 770255983), .lit (.int .u32 1249150122), .lit (.int .u32 1555081692), .lit (.int .u32 1996064986), .lit (.int .u32 2554220882), .lit (.int .u32 2821834349), .lit (.int .u32 2952996808), .lit (.int .u32 3210313671), .lit (.int .u32 3336571891), .lit (.int .u32 3584528711), .lit (.int .u32 113926993), .lit (.int .u32 338241895), .lit (.int .u32 666307205), .lit (.int .u32 773529912), .lit (.int .u32 1294757372), .lit (.int .u32 1396182291), .lit (.int .u32 1695183700), .lit (.int .u32 1986661051), .lit (.int .u32 2177026350), .lit (.int .u32 2456956037), .lit (.int .u32 2730485921), .lit (.int .u32 2820302411), .lit (.int .u32 3259730800), .lit (.int .u32 3345764771), .lit (.int .u32 3516065817), .lit (.int .u32 3600352804), .lit (.int .u32 4094571909), .lit (.int .u32 275423344), .lit (.int .u32 430227734), .lit (.int .u32 506948616), .lit (.int .u32 659060556), .lit (.int .u32 883997877), .lit (.int .u32 958139571), .lit (.int .u32 1322822218), .lit (.int .u32 1537002063), .lit (.int .u32 1747873779), .lit (.int .u32 1955562222), .lit (.int .u32 2024104815), .lit (.int .u32 2227730452), .lit (.int .u32 2361852424), .lit (.int .u32 2428436474), .lit (.int .u32 2756734187), .lit (.int .u32 3204031479), .lit (.int .u32 3329325298)]
def laid_antiquary_antiquaryref02_constants {H : Type} : DataW H := .agg [.lit (.int .u32 1116352408), .lit (.int .u32 1899447441), .lit (.int .u32 3049323471), .lit (.int .u32 3921009573), .lit (.int .u32 961987163), .lit (.int .u32 1508970993), .lit (.int .u32 2453635748), .lit (.int .u32 2870763221), .lit (.int .u32 3624381080), .lit (.int .u32 310598401), .lit (.int .u32 607225278), .lit (.int .u32 1426881987), .lit (.int .u32 1925078388), .lit (.int .u32 2162078206), .lit (.int .u32 2614888103), .lit (.int .u32 3248222580), .lit (.int .u32 3835390401), .lit (.int .u32 4022224774), .lit (.int .u32 264347078), .lit (.int .u32 604807628), .lit (.int .u32 770255983), .lit (.int .u32 1249150122), .lit (.int .u32 1555081692), .lit (.int .u32 1996064986), .lit (.int .u32 2554220882), .lit (.int .u32 2821834349), .lit (.int .u32 2952996808), .lit (.int .u32 3210313671), .lit (.int .u32 3336571891), .lit (.int .u32 3584528711), .lit (.int .u32 113926993), .lit (.int .u32 338241895), .lit (.int .u32 666307205), .lit (.int .u32 773529912), .lit (.int .u32 1294757372), .lit (.int .u32 1396182291), .lit (.int .u32 1695183700), .lit (.int .u32 1986661051), .lit (.int .u32 2177026350), .lit (.int .u32 2456956037), .lit (.int .u32 2730485921), .lit (.int .u32 2820302411), .lit (.int .u32 3259730800), .lit (.int .u32 3345764771), .lit (.int .u32 3516065817), .lit (.int .u32 3600352804), .lit (.int .u32 4094571909), .lit (.int .u32 275423344), .lit (.int .u32 430227734), .lit (.int .u32 506948616), .lit (.int .u32 659060556), .lit (.int .u32 883997877), .lit (.int .u32 958139571), .lit (.int .u32 1322822218), .lit (.int .u32 1537002063), .lit (.int .u32 1747873779), .lit (.int .u32 1955562222), .lit (.int .u32 2024104815), .lit (.int .u32 2227730452), .lit (.int .u32 2361852424), .lit (.int .u32 2428436474), .lit (.int .u32 2756734187), .lit (.int .u32 3204031479), .lit (.int .u32 3329325298)]

/-- 'antiquarylaw21.RetainFloorsAsSpecified': WHATEVER THE INPUT: true; the input reads as it did. -/
def retainFloorsAsSpecifiedSpec : ChangeSpec := { name := "retainFloorsAsSpecified", fn := fun _ => fun
  | [d1, d2, d3] => { results := [.lit (.bool true)], args := [d1, d2, d3] }
  | _ => none }
def retainFloorsAsSpecifiedRow : OpenClaim := { program := "yteniejlbjfigdaagreatdoor", sum := "0a20f1a9c79b8dc1ec6242dde02b71061971dc272424f2852ba56f82959c7bca", func := "antiquary/antiquarylaw21.RetainFloorsAsSpecified", spec := "retainFloorsAsSpecified", unfollowed := true, recurses := true, named := ["antiquary/hash.constants"], loops := true, apart := false, laid := [("antiquary/hash.constants", laid_antiquary_hash_constants)] }
def RetainFloorsAsSpecifiedSaid : Prop := retainFloorsAsSpecifiedRow.holds Tryz.pinned (OpenSpec.ofChange retainFloorsAsSpecifiedSpec)

/-- ITS FALSE NEIGHBOUR: 'it returns false'. Refute it at one input. -/
def retainFloorsAsSpecifiedWrong : ChangeSpec := { name := "retainFloorsAsSpecified", fn := fun _ => fun
  | [d1, d2, d3] => { results := [.lit (.bool false)], args := [d1, d2, d3] }
  | _ => none }
def RetainFloorsAsSpecifiedWrongFalsely : Prop := retainFloorsAsSpecifiedRow.holds Tryz.pinned (OpenSpec.ofChange retainFloorsAsSpecifiedWrong)

/-- 'antiquarylaw21.RetainForgetsInSteps': WHATEVER THE INPUT: true; the input reads as it did. -/
def retainForgetsInStepsSpec : ChangeSpec := { name := "retainForgetsInSteps", fn := fun _ => fun
  | [d1, d2, d3, d4] => { results := [.lit (.bool true)], args := [d1, d2, d3, d4] }
  | _ => none }
def retainForgetsInStepsRow : OpenClaim := { program := "yteniejlbjfigdaagreatdoor", sum := "0a20f1a9c79b8dc1ec6242dde02b71061971dc272424f2852ba56f82959c7bca", func := "antiquary/antiquarylaw21.RetainForgetsInSteps", spec := "retainForgetsInSteps", unfollowed := true, recurses := true, named := ["antiquary/hash.constants"], apart := false, laid := [("antiquary/hash.constants", laid_antiquary_hash_constants)] }
def RetainForgetsInStepsSaid : Prop := retainForgetsInStepsRow.holds Tryz.pinned (OpenSpec.ofChange retainForgetsInStepsSpec)

/-- ITS FALSE NEIGHBOUR: 'it returns false'. Refute it at one input. -/
def retainForgetsInStepsWrong : ChangeSpec := { name := "retainForgetsInSteps", fn := fun _ => fun
  | [d1, d2, d3, d4] => { results := [.lit (.bool false)], args := [d1, d2, d3, d4] }
  | _ => none }
def RetainForgetsInStepsWrongFalsely : Prop := retainForgetsInStepsRow.holds Tryz.pinned (OpenSpec.ofChange retainForgetsInStepsWrong)

/-- 'antiquarylaw21.RetainForgetsAsSpecified': WHATEVER THE INPUT: true; the input reads as it did. -/
def retainForgetsAsSpecifiedSpec : ChangeSpec := { name := "retainForgetsAsSpecified", fn := fun _ => fun
  | [d1, d2, d3, d4, d5] => { results := [.lit (.bool true)], args := [d1, d2, d3, d4, d5] }
  | _ => none }
def retainForgetsAsSpecifiedRow : OpenClaim := { program := "yteniejlbjfigdaagreatdoor", sum := "0a20f1a9c79b8dc1ec6242dde02b71061971dc272424f2852ba56f82959c7bca", func := "antiquary/antiquarylaw21.RetainForgetsAsSpecified", spec := "retainForgetsAsSpecified", unfollowed := true, recurses := true, named := ["antiquary/hash.constants", "antiquary/antiquaryref02.constants"], apart := false, laid := [("antiquary/antiquaryref02.constants", laid_antiquary_antiquaryref02_constants), ("antiquary/hash.constants", laid_antiquary_hash_constants)] }
def RetainForgetsAsSpecifiedSaid : Prop := retainForgetsAsSpecifiedRow.holds Tryz.pinned (OpenSpec.ofChange retainForgetsAsSpecifiedSpec)

/-- ITS FALSE NEIGHBOUR: 'it returns false'. Refute it at one input. -/
def retainForgetsAsSpecifiedWrong : ChangeSpec := { name := "retainForgetsAsSpecified", fn := fun _ => fun
  | [d1, d2, d3, d4, d5] => { results := [.lit (.bool false)], args := [d1, d2, d3, d4, d5] }
  | _ => none }
def RetainForgetsAsSpecifiedWrongFalsely : Prop := retainForgetsAsSpecifiedRow.holds Tryz.pinned (OpenSpec.ofChange retainForgetsAsSpecifiedWrong)

/-- 'antiquarylaw21.RetainObeysLaws': WHATEVER THE INPUT: true; the input reads as it did. -/
def retainObeysLawsSpec : ChangeSpec := { name := "retainObeysLaws", fn := fun _ => fun
  | [d1, d2, d3] => { results := [.lit (.bool true)], args := [d1, d2, d3] }
  | _ => none }
def retainObeysLawsRow : OpenClaim := { program := "yteniejlbjfigdaagreatdoor", sum := "0a20f1a9c79b8dc1ec6242dde02b71061971dc272424f2852ba56f82959c7bca", func := "antiquary/antiquarylaw21.RetainObeysLaws", spec := "retainObeysLaws", unfollowed := true, recurses := true, named := ["antiquary/hash.constants"], loops := true, apart := false, laid := [("antiquary/hash.constants", laid_antiquary_hash_constants)] }
def RetainObeysLawsSaid : Prop := retainObeysLawsRow.holds Tryz.pinned (OpenSpec.ofChange retainObeysLawsSpec)

/-- ITS FALSE NEIGHBOUR: 'it returns false'. Refute it at one input. -/
def retainObeysLawsWrong : ChangeSpec := { name := "retainObeysLaws", fn := fun _ => fun
  | [d1, d2, d3] => { results := [.lit (.bool false)], args := [d1, d2, d3] }
  | _ => none }
def RetainObeysLawsWrongFalsely : Prop := retainObeysLawsRow.holds Tryz.pinned (OpenSpec.ofChange retainObeysLawsWrong)

/-- 'antiquarylaw21.RetainGivesReceipts': WHATEVER THE INPUT: true; the input reads as it did. -/
def retainGivesReceiptsSpec : ChangeSpec := { name := "retainGivesReceipts", fn := fun _ => fun
  | [d1, d2, d3, d4] => { results := [.lit (.bool true)], args := [d1, d2, d3, d4] }
  | _ => none }
def retainGivesReceiptsRow : OpenClaim := { program := "yteniejlbjfigdaagreatdoor", sum := "0a20f1a9c79b8dc1ec6242dde02b71061971dc272424f2852ba56f82959c7bca", func := "antiquary/antiquarylaw21.RetainGivesReceipts", spec := "retainGivesReceipts", unfollowed := true, recurses := true, named := ["antiquary/hash.constants", "antiquary/antiquaryref02.constants"], apart := false, laid := [("antiquary/antiquaryref02.constants", laid_antiquary_antiquaryref02_constants), ("antiquary/hash.constants", laid_antiquary_hash_constants)] }
def RetainGivesReceiptsSaid : Prop := retainGivesReceiptsRow.holds Tryz.pinned (OpenSpec.ofChange retainGivesReceiptsSpec)

/-- ITS FALSE NEIGHBOUR: 'it returns false'. Refute it at one input. -/
def retainGivesReceiptsWrong : ChangeSpec := { name := "retainGivesReceipts", fn := fun _ => fun
  | [d1, d2, d3, d4] => { results := [.lit (.bool false)], args := [d1, d2, d3, d4] }
  | _ => none }
def RetainGivesReceiptsWrongFalsely : Prop := retainGivesReceiptsRow.holds Tryz.pinned (OpenSpec.ofChange retainGivesReceiptsWrong)

/-- 'antiquarylaw21.RetainKeepsAnswers': WHATEVER THE INPUT: true; the input reads as it did. -/
def retainKeepsAnswersSpec : ChangeSpec := { name := "retainKeepsAnswers", fn := fun _ => fun
  | [d1, d2, d3, d4, d5] => { results := [.lit (.bool true)], args := [d1, d2, d3, d4, d5] }
  | _ => none }
def retainKeepsAnswersRow : OpenClaim := { program := "yteniejlbjfigdaagreatdoor", sum := "0a20f1a9c79b8dc1ec6242dde02b71061971dc272424f2852ba56f82959c7bca", func := "antiquary/antiquarylaw21.RetainKeepsAnswers", spec := "retainKeepsAnswers", unfollowed := true, recurses := true, named := ["antiquary/hash.constants"], loops := true, apart := false, laid := [("antiquary/hash.constants", laid_antiquary_hash_constants)] }
def RetainKeepsAnswersSaid : Prop := retainKeepsAnswersRow.holds Tryz.pinned (OpenSpec.ofChange retainKeepsAnswersSpec)

/-- ITS FALSE NEIGHBOUR: 'it returns false'. Refute it at one input. -/
def retainKeepsAnswersWrong : ChangeSpec := { name := "retainKeepsAnswers", fn := fun _ => fun
  | [d1, d2, d3, d4, d5] => { results := [.lit (.bool false)], args := [d1, d2, d3, d4, d5] }
  | _ => none }
def RetainKeepsAnswersWrongFalsely : Prop := retainKeepsAnswersRow.holds Tryz.pinned (OpenSpec.ofChange retainKeepsAnswersWrong)

/- THE SECOND FORM. 'bulk': how many values and letters a reading holds, each counted each time it is reached (what is shared counts as often as it is met; a slice's spare places count too). A statement '..UptoSaid' is the law's where the arguments, and the package variables that the reading takes, are together of bulk at most 1048576: NARROWER than '..Said'. Prove '..Said' where nothing that the law and all that it calls make is longer than what came in: it says more and counts as full. Else prove '..UptoSaid'. A law counts once. -/
mutual
def uptoBulk {H : Type} : DataW H → Nat
  | .lit (.string bytes) => bytes.length + 1
  | .lit _ => 1
  | .nil => 1
  | .ptr d => uptoBulk d + 1
  | .slice elems spare => uptoBulkAll elems + uptoBulkAll spare + 1
  | .agg parts => uptoBulkAll parts + 1
  | .iface _ d => uptoBulk d + 1
  | .map entries => uptoBulkEntries entries + 1
  | .held _ => 1
def uptoBulkAll {H : Type} : List (DataW H) → Nat
  | [] => 0
  | d :: r => uptoBulk d + uptoBulkAll r
def uptoBulkEntries {H : Type} : List (Lit × DataW H) → Nat
  | [] => 0
  | x :: r => uptoBulkEntry x + uptoBulkEntries r
def uptoBulkEntry {H : Type} : Lit × DataW H → Nat
  | (.string bytes, d) => bytes.length + uptoBulk d + 1
  | (_, d) => uptoBulk d + 1
 end
def uptoSmall : (H : Type) → List (DataW H) → Bool := fun _ ds => decide (uptoBulkAll ds ≤ 1048576)
def OpenSpec.upto (s : _root_.Go.ChangeSpec) : _root_.Go.OpenSpec := { _root_.Go.OpenSpec.ofChange s with cond := some uptoSmall }

/-- 'antiquarylaw21.RetainFloorsAsSpecified', WHERE WHAT IT READS IS OF BULK AT MOST 1048576: true; the input reads as it did. -/
def retainFloorsAsSpecifiedUptoRow : OpenClaim := { program := "yteniejlbjfigdaagreatdoor", sum := "0a20f1a9c79b8dc1ec6242dde02b71061971dc272424f2852ba56f82959c7bca", func := "antiquary/antiquarylaw21.RetainFloorsAsSpecified", spec := "retainFloorsAsSpecified", unfollowed := true, recurses := true, named := ["antiquary/hash.constants"], loops := true, apart := false, laid := [("antiquary/hash.constants", laid_antiquary_hash_constants)], narrowed := true }
def RetainFloorsAsSpecifiedUptoSaid : Prop := retainFloorsAsSpecifiedUptoRow.holds Tryz.pinned (OpenSpec.upto retainFloorsAsSpecifiedSpec)

/-- 'antiquarylaw21.RetainForgetsInSteps', WHERE WHAT IT READS IS OF BULK AT MOST 1048576: true; the input reads as it did. -/
def retainForgetsInStepsUptoRow : OpenClaim := { program := "yteniejlbjfigdaagreatdoor", sum := "0a20f1a9c79b8dc1ec6242dde02b71061971dc272424f2852ba56f82959c7bca", func := "antiquary/antiquarylaw21.RetainForgetsInSteps", spec := "retainForgetsInSteps", unfollowed := true, recurses := true, named := ["antiquary/hash.constants"], apart := false, laid := [("antiquary/hash.constants", laid_antiquary_hash_constants)], narrowed := true }
def RetainForgetsInStepsUptoSaid : Prop := retainForgetsInStepsUptoRow.holds Tryz.pinned (OpenSpec.upto retainForgetsInStepsSpec)

/-- 'antiquarylaw21.RetainForgetsAsSpecified', WHERE WHAT IT READS IS OF BULK AT MOST 1048576: true; the input reads as it did. -/
def retainForgetsAsSpecifiedUptoRow : OpenClaim := { program := "yteniejlbjfigdaagreatdoor", sum := "0a20f1a9c79b8dc1ec6242dde02b71061971dc272424f2852ba56f82959c7bca", func := "antiquary/antiquarylaw21.RetainForgetsAsSpecified", spec := "retainForgetsAsSpecified", unfollowed := true, recurses := true, named := ["antiquary/hash.constants", "antiquary/antiquaryref02.constants"], apart := false, laid := [("antiquary/antiquaryref02.constants", laid_antiquary_antiquaryref02_constants), ("antiquary/hash.constants", laid_antiquary_hash_constants)], narrowed := true }
def RetainForgetsAsSpecifiedUptoSaid : Prop := retainForgetsAsSpecifiedUptoRow.holds Tryz.pinned (OpenSpec.upto retainForgetsAsSpecifiedSpec)

/-- 'antiquarylaw21.RetainObeysLaws', WHERE WHAT IT READS IS OF BULK AT MOST 1048576: true; the input reads as it did. -/
def retainObeysLawsUptoRow : OpenClaim := { program := "yteniejlbjfigdaagreatdoor", sum := "0a20f1a9c79b8dc1ec6242dde02b71061971dc272424f2852ba56f82959c7bca", func := "antiquary/antiquarylaw21.RetainObeysLaws", spec := "retainObeysLaws", unfollowed := true, recurses := true, named := ["antiquary/hash.constants"], loops := true, apart := false, laid := [("antiquary/hash.constants", laid_antiquary_hash_constants)], narrowed := true }
def RetainObeysLawsUptoSaid : Prop := retainObeysLawsUptoRow.holds Tryz.pinned (OpenSpec.upto retainObeysLawsSpec)

/-- 'antiquarylaw21.RetainGivesReceipts', WHERE WHAT IT READS IS OF BULK AT MOST 1048576: true; the input reads as it did. -/
def retainGivesReceiptsUptoRow : OpenClaim := { program := "yteniejlbjfigdaagreatdoor", sum := "0a20f1a9c79b8dc1ec6242dde02b71061971dc272424f2852ba56f82959c7bca", func := "antiquary/antiquarylaw21.RetainGivesReceipts", spec := "retainGivesReceipts", unfollowed := true, recurses := true, named := ["antiquary/hash.constants", "antiquary/antiquaryref02.constants"], apart := false, laid := [("antiquary/antiquaryref02.constants", laid_antiquary_antiquaryref02_constants), ("antiquary/hash.constants", laid_antiquary_hash_constants)], narrowed := true }
def RetainGivesReceiptsUptoSaid : Prop := retainGivesReceiptsUptoRow.holds Tryz.pinned (OpenSpec.upto retainGivesReceiptsSpec)

/-- 'antiquarylaw21.RetainKeepsAnswers', WHERE WHAT IT READS IS OF BULK AT MOST 1048576: true; the input reads as it did. -/
def retainKeepsAnswersUptoRow : OpenClaim := { program := "yteniejlbjfigdaagreatdoor", sum := "0a20f1a9c79b8dc1ec6242dde02b71061971dc272424f2852ba56f82959c7bca", func := "antiquary/antiquarylaw21.RetainKeepsAnswers", spec := "retainKeepsAnswers", unfollowed := true, recurses := true, named := ["antiquary/hash.constants"], loops := true, apart := false, laid := [("antiquary/hash.constants", laid_antiquary_hash_constants)], narrowed := true }
def RetainKeepsAnswersUptoSaid : Prop := retainKeepsAnswersUptoRow.holds Tryz.pinned (OpenSpec.upto retainKeepsAnswersSpec)

end Rows
end Go.Proofs.YteniejlbjfigdaaGreatDoor

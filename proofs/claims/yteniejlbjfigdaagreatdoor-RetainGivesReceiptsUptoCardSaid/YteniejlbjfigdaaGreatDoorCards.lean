/-
  DERIVED. GIVEN WITH THE SEED: THE CARDS: each row of YteniejlbjfigdaaGreatDoorRows.lean that lists a variable, with what it lists TIED to the program's text (the seventh form; the later family's looks); each row that meets fmt, with fmt's text TOLD by the authors' own Lean function (tested against real Go, not proved from fmt's source: count such statements apart). THE CARD IS WHAT COUNTS. Prove the row's statement (the work); the ties are given (YteniejlbjfigdaaGreatDoorTie.lean); close each card by the builder's one call (the guide's Derived/Test/ToyasCard.lean, 'card_holds'). Laid BY PROGRAM, IN A SANDBOX (cutbox-door.mjs). By AI agents, Wed Nov 11 2026. No macro, syntax, notation, axiom, sorry.
-/
import Derived.Test.YteniejlbjfigdaaGreatDoorRows
import GoSem.ClaimSeven
namespace Go.Proofs.YteniejlbjfigdaaGreatDoor
namespace Rows

/-- THE TIED CARD OF 'antiquarylaw21.RetainFloorsAsSpecified'. -/
def retainFloorsAsSpecifiedCard : Claim7 := { stood := { row := retainFloorsAsSpecifiedRow, standIns := [], harness := (true, "fe6d4fa0c82a6d413740a2a0eaf5db0bf732f64df4635f9578ab0d9d03aa0395"), looks := false }, kinds := [], alts := [], laidByText := true, laidKinds := [.data], laidTests := true, laidLooks := .later }
def RetainFloorsAsSpecifiedCardSaid : Prop := Claim7.holds Tryz.pinned (.plain (OpenSpec.ofChange retainFloorsAsSpecifiedSpec)) retainFloorsAsSpecifiedCard

/-- THE TIED CARD OF 'antiquarylaw21.RetainForgetsInSteps'. -/
def retainForgetsInStepsCard : Claim7 := { stood := { row := retainForgetsInStepsRow, standIns := [], harness := (true, "fe6d4fa0c82a6d413740a2a0eaf5db0bf732f64df4635f9578ab0d9d03aa0395"), looks := false }, kinds := [], alts := [], laidByText := true, laidKinds := [.data], laidTests := true, laidLooks := .later }
def RetainForgetsInStepsCardSaid : Prop := Claim7.holds Tryz.pinned (.plain (OpenSpec.ofChange retainForgetsInStepsSpec)) retainForgetsInStepsCard

/-- THE TIED CARD OF 'antiquarylaw21.RetainForgetsAsSpecified'. -/
def retainForgetsAsSpecifiedCard : Claim7 := { stood := { row := retainForgetsAsSpecifiedRow, standIns := [], harness := (true, "fe6d4fa0c82a6d413740a2a0eaf5db0bf732f64df4635f9578ab0d9d03aa0395"), looks := false }, kinds := [], alts := [], laidByText := true, laidKinds := [.data, .data], laidTests := true, laidLooks := .later }
def RetainForgetsAsSpecifiedCardSaid : Prop := Claim7.holds Tryz.pinned (.plain (OpenSpec.ofChange retainForgetsAsSpecifiedSpec)) retainForgetsAsSpecifiedCard

/-- THE TIED CARD OF 'antiquarylaw21.RetainObeysLaws'. -/
def retainObeysLawsCard : Claim7 := { stood := { row := retainObeysLawsRow, standIns := [], harness := (true, "fe6d4fa0c82a6d413740a2a0eaf5db0bf732f64df4635f9578ab0d9d03aa0395"), looks := false }, kinds := [], alts := [], laidByText := true, laidKinds := [.data], laidTests := true, laidLooks := .later }
def RetainObeysLawsCardSaid : Prop := Claim7.holds Tryz.pinned (.plain (OpenSpec.ofChange retainObeysLawsSpec)) retainObeysLawsCard

/-- THE TIED CARD OF 'antiquarylaw21.RetainGivesReceipts'. -/
def retainGivesReceiptsCard : Claim7 := { stood := { row := retainGivesReceiptsRow, standIns := [], harness := (true, "fe6d4fa0c82a6d413740a2a0eaf5db0bf732f64df4635f9578ab0d9d03aa0395"), looks := false }, kinds := [], alts := [], laidByText := true, laidKinds := [.data, .data], laidTests := true, laidLooks := .later }
def RetainGivesReceiptsCardSaid : Prop := Claim7.holds Tryz.pinned (.plain (OpenSpec.ofChange retainGivesReceiptsSpec)) retainGivesReceiptsCard

/-- THE TIED CARD OF 'antiquarylaw21.RetainKeepsAnswers'. -/
def retainKeepsAnswersCard : Claim7 := { stood := { row := retainKeepsAnswersRow, standIns := [], harness := (true, "fe6d4fa0c82a6d413740a2a0eaf5db0bf732f64df4635f9578ab0d9d03aa0395"), looks := false }, kinds := [], alts := [], laidByText := true, laidKinds := [.data], laidTests := true, laidLooks := .later }
def RetainKeepsAnswersCardSaid : Prop := Claim7.holds Tryz.pinned (.plain (OpenSpec.ofChange retainKeepsAnswersSpec)) retainKeepsAnswersCard

/-- THE SECOND FORM's CARD OF 'antiquarylaw21.RetainFloorsAsSpecified'. -/
def retainFloorsAsSpecifiedUptoCard : Claim7 := { stood := { row := retainFloorsAsSpecifiedUptoRow, standIns := [], harness := (true, "fe6d4fa0c82a6d413740a2a0eaf5db0bf732f64df4635f9578ab0d9d03aa0395"), looks := false }, kinds := [], alts := [], laidByText := true, laidKinds := [.data], laidTests := true, laidLooks := .later }
def RetainFloorsAsSpecifiedUptoCardSaid : Prop := Claim7.holds Tryz.pinned (.plain (OpenSpec.upto retainFloorsAsSpecifiedSpec)) retainFloorsAsSpecifiedUptoCard

/-- THE SECOND FORM's CARD OF 'antiquarylaw21.RetainForgetsInSteps'. -/
def retainForgetsInStepsUptoCard : Claim7 := { stood := { row := retainForgetsInStepsUptoRow, standIns := [], harness := (true, "fe6d4fa0c82a6d413740a2a0eaf5db0bf732f64df4635f9578ab0d9d03aa0395"), looks := false }, kinds := [], alts := [], laidByText := true, laidKinds := [.data], laidTests := true, laidLooks := .later }
def RetainForgetsInStepsUptoCardSaid : Prop := Claim7.holds Tryz.pinned (.plain (OpenSpec.upto retainForgetsInStepsSpec)) retainForgetsInStepsUptoCard

/-- THE SECOND FORM's CARD OF 'antiquarylaw21.RetainForgetsAsSpecified'. -/
def retainForgetsAsSpecifiedUptoCard : Claim7 := { stood := { row := retainForgetsAsSpecifiedUptoRow, standIns := [], harness := (true, "fe6d4fa0c82a6d413740a2a0eaf5db0bf732f64df4635f9578ab0d9d03aa0395"), looks := false }, kinds := [], alts := [], laidByText := true, laidKinds := [.data, .data], laidTests := true, laidLooks := .later }
def RetainForgetsAsSpecifiedUptoCardSaid : Prop := Claim7.holds Tryz.pinned (.plain (OpenSpec.upto retainForgetsAsSpecifiedSpec)) retainForgetsAsSpecifiedUptoCard

/-- THE SECOND FORM's CARD OF 'antiquarylaw21.RetainObeysLaws'. -/
def retainObeysLawsUptoCard : Claim7 := { stood := { row := retainObeysLawsUptoRow, standIns := [], harness := (true, "fe6d4fa0c82a6d413740a2a0eaf5db0bf732f64df4635f9578ab0d9d03aa0395"), looks := false }, kinds := [], alts := [], laidByText := true, laidKinds := [.data], laidTests := true, laidLooks := .later }
def RetainObeysLawsUptoCardSaid : Prop := Claim7.holds Tryz.pinned (.plain (OpenSpec.upto retainObeysLawsSpec)) retainObeysLawsUptoCard

/-- THE SECOND FORM's CARD OF 'antiquarylaw21.RetainGivesReceipts'. -/
def retainGivesReceiptsUptoCard : Claim7 := { stood := { row := retainGivesReceiptsUptoRow, standIns := [], harness := (true, "fe6d4fa0c82a6d413740a2a0eaf5db0bf732f64df4635f9578ab0d9d03aa0395"), looks := false }, kinds := [], alts := [], laidByText := true, laidKinds := [.data, .data], laidTests := true, laidLooks := .later }
def RetainGivesReceiptsUptoCardSaid : Prop := Claim7.holds Tryz.pinned (.plain (OpenSpec.upto retainGivesReceiptsSpec)) retainGivesReceiptsUptoCard

/-- THE SECOND FORM's CARD OF 'antiquarylaw21.RetainKeepsAnswers'. -/
def retainKeepsAnswersUptoCard : Claim7 := { stood := { row := retainKeepsAnswersUptoRow, standIns := [], harness := (true, "fe6d4fa0c82a6d413740a2a0eaf5db0bf732f64df4635f9578ab0d9d03aa0395"), looks := false }, kinds := [], alts := [], laidByText := true, laidKinds := [.data], laidTests := true, laidLooks := .later }
def RetainKeepsAnswersUptoCardSaid : Prop := Claim7.holds Tryz.pinned (.plain (OpenSpec.upto retainKeepsAnswersSpec)) retainKeepsAnswersUptoCard
end Rows
end Go.Proofs.YteniejlbjfigdaaGreatDoor

/-
  DERIVED. GIVEN WITH THE SEED: THE CARDS: each row of YtdcnajadcbedkaaGreatDoorRows.lean that lists a variable, with what it lists TIED to the program's text (the seventh form; the later family's looks); each row that meets fmt, with fmt's text TOLD by the authors' own Lean function (tested against real Go, not proved from fmt's source: count such statements apart). THE CARD IS WHAT COUNTS. Prove the row's statement (the work); the ties are given (YtdcnajadcbedkaaGreatDoorTie.lean); close each card by the builder's one call (the guide's Derived/Test/ToyasCard.lean, 'card_holds'). Laid BY PROGRAM, IN A SANDBOX (cutbox-door.mjs). By AI agents, Wed Nov 11 2026. No macro, syntax, notation, axiom, sorry.
-/
import Derived.Test.YtdcnajadcbedkaaGreatDoorRows
import GoSem.ClaimSeven
namespace Go.Proofs.YtdcnajadcbedkaaGreatDoor
namespace Rows

/-- THE TIED CARD OF 'antiquarylaw36.DaybookSealsAsSpecified'. -/
def daybookSealsAsSpecifiedCard : Claim7 := { stood := { row := daybookSealsAsSpecifiedRow, standIns := [], harness := (true, "e502f13113e57464f8f95f980d47d6ecbfb88231ba6e5a3bbed30b224fdb3e93"), looks := false }, kinds := [], alts := [], laidByText := true, laidKinds := [.data, .data], laidTests := true, laidLooks := .later }
def DaybookSealsAsSpecifiedCardSaid : Prop := Claim7.holds Tryz.pinned (.plain (OpenSpec.ofChange daybookSealsAsSpecifiedSpec)) daybookSealsAsSpecifiedCard

/-- THE TIED CARD OF 'antiquarylaw36.DaybookIsAChain'. -/
def daybookIsAChainCard : Claim7 := { stood := { row := daybookIsAChainRow, standIns := [], harness := (true, "e502f13113e57464f8f95f980d47d6ecbfb88231ba6e5a3bbed30b224fdb3e93"), looks := false }, kinds := [], alts := [], laidByText := true, laidKinds := [.data], laidTests := true, laidLooks := .later }
def DaybookIsAChainCardSaid : Prop := Claim7.holds Tryz.pinned (.plain (OpenSpec.ofChange daybookIsAChainSpec)) daybookIsAChainCard

/-- THE TIED CARD OF 'antiquarylaw36.DaybookGrowsAsSpecified'. -/
def daybookGrowsAsSpecifiedCard : Claim7 := { stood := { row := daybookGrowsAsSpecifiedRow, standIns := [], harness := (true, "e502f13113e57464f8f95f980d47d6ecbfb88231ba6e5a3bbed30b224fdb3e93"), looks := false }, kinds := [], alts := [], laidByText := true, laidKinds := [.data, .data], laidTests := true, laidLooks := .later }
def DaybookGrowsAsSpecifiedCardSaid : Prop := Claim7.holds Tryz.pinned (.plain (OpenSpec.ofChange daybookGrowsAsSpecifiedSpec)) daybookGrowsAsSpecifiedCard

/-- THE TIED CARD OF 'antiquarylaw36.DaybookHidesAsSpecified'. -/
def daybookHidesAsSpecifiedCard : Claim7 := { stood := { row := daybookHidesAsSpecifiedRow, standIns := [], harness := (true, "e502f13113e57464f8f95f980d47d6ecbfb88231ba6e5a3bbed30b224fdb3e93"), looks := false }, kinds := [], alts := [], laidByText := true, laidKinds := [.data, .data], laidTests := true, laidLooks := .later }
def DaybookHidesAsSpecifiedCardSaid : Prop := Claim7.holds Tryz.pinned (.plain (OpenSpec.ofChange daybookHidesAsSpecifiedSpec)) daybookHidesAsSpecifiedCard

/-- THE TIED CARD OF 'antiquarylaw36.DaybookOpensTheVault'. -/
def daybookOpensTheVaultCard : Claim7 := { stood := { row := daybookOpensTheVaultRow, standIns := [], harness := (true, "e502f13113e57464f8f95f980d47d6ecbfb88231ba6e5a3bbed30b224fdb3e93"), looks := false }, kinds := [], alts := [], laidByText := true, laidKinds := [.data, .data], laidTests := true, laidLooks := .later }
def DaybookOpensTheVaultCardSaid : Prop := Claim7.holds Tryz.pinned (.plain (OpenSpec.ofChange daybookOpensTheVaultSpec)) daybookOpensTheVaultCard

/-- THE TIED CARD OF 'antiquarylaw36.DaybookCodes'. -/
def daybookCodesCard : Claim7 := { stood := { row := daybookCodesRow, standIns := [], harness := (true, "e502f13113e57464f8f95f980d47d6ecbfb88231ba6e5a3bbed30b224fdb3e93"), looks := false }, kinds := [], alts := [], laidByText := true, laidKinds := [.data], laidTests := true, laidLooks := .later }
def DaybookCodesCardSaid : Prop := Claim7.holds Tryz.pinned (.plain (OpenSpec.ofChange daybookCodesSpec)) daybookCodesCard

/-- THE TIED CARD OF 'antiquarylaw36.DaybookKeepsSecrets'. -/
def daybookKeepsSecretsCard : Claim7 := { stood := { row := daybookKeepsSecretsRow, standIns := [], harness := (true, "e502f13113e57464f8f95f980d47d6ecbfb88231ba6e5a3bbed30b224fdb3e93"), looks := false }, kinds := [], alts := [], laidByText := true, laidKinds := [.data], laidTests := true, laidLooks := .later }
def DaybookKeepsSecretsCardSaid : Prop := Claim7.holds Tryz.pinned (.plain (OpenSpec.ofChange daybookKeepsSecretsSpec)) daybookKeepsSecretsCard

/-- THE SECOND FORM's CARD OF 'antiquarylaw36.DaybookSealsAsSpecified'. -/
def daybookSealsAsSpecifiedUptoCard : Claim7 := { stood := { row := daybookSealsAsSpecifiedUptoRow, standIns := [], harness := (true, "e502f13113e57464f8f95f980d47d6ecbfb88231ba6e5a3bbed30b224fdb3e93"), looks := false }, kinds := [], alts := [], laidByText := true, laidKinds := [.data, .data], laidTests := true, laidLooks := .later }
def DaybookSealsAsSpecifiedUptoCardSaid : Prop := Claim7.holds Tryz.pinned (.plain (OpenSpec.upto daybookSealsAsSpecifiedSpec)) daybookSealsAsSpecifiedUptoCard

/-- THE SECOND FORM's CARD OF 'antiquarylaw36.DaybookIsAChain'. -/
def daybookIsAChainUptoCard : Claim7 := { stood := { row := daybookIsAChainUptoRow, standIns := [], harness := (true, "e502f13113e57464f8f95f980d47d6ecbfb88231ba6e5a3bbed30b224fdb3e93"), looks := false }, kinds := [], alts := [], laidByText := true, laidKinds := [.data], laidTests := true, laidLooks := .later }
def DaybookIsAChainUptoCardSaid : Prop := Claim7.holds Tryz.pinned (.plain (OpenSpec.upto daybookIsAChainSpec)) daybookIsAChainUptoCard

/-- THE SECOND FORM's CARD OF 'antiquarylaw36.DaybookGrowsAsSpecified'. -/
def daybookGrowsAsSpecifiedUptoCard : Claim7 := { stood := { row := daybookGrowsAsSpecifiedUptoRow, standIns := [], harness := (true, "e502f13113e57464f8f95f980d47d6ecbfb88231ba6e5a3bbed30b224fdb3e93"), looks := false }, kinds := [], alts := [], laidByText := true, laidKinds := [.data, .data], laidTests := true, laidLooks := .later }
def DaybookGrowsAsSpecifiedUptoCardSaid : Prop := Claim7.holds Tryz.pinned (.plain (OpenSpec.upto daybookGrowsAsSpecifiedSpec)) daybookGrowsAsSpecifiedUptoCard

/-- THE SECOND FORM's CARD OF 'antiquarylaw36.DaybookHidesAsSpecified'. -/
def daybookHidesAsSpecifiedUptoCard : Claim7 := { stood := { row := daybookHidesAsSpecifiedUptoRow, standIns := [], harness := (true, "e502f13113e57464f8f95f980d47d6ecbfb88231ba6e5a3bbed30b224fdb3e93"), looks := false }, kinds := [], alts := [], laidByText := true, laidKinds := [.data, .data], laidTests := true, laidLooks := .later }
def DaybookHidesAsSpecifiedUptoCardSaid : Prop := Claim7.holds Tryz.pinned (.plain (OpenSpec.upto daybookHidesAsSpecifiedSpec)) daybookHidesAsSpecifiedUptoCard

/-- THE SECOND FORM's CARD OF 'antiquarylaw36.DaybookOpensTheVault'. -/
def daybookOpensTheVaultUptoCard : Claim7 := { stood := { row := daybookOpensTheVaultUptoRow, standIns := [], harness := (true, "e502f13113e57464f8f95f980d47d6ecbfb88231ba6e5a3bbed30b224fdb3e93"), looks := false }, kinds := [], alts := [], laidByText := true, laidKinds := [.data, .data], laidTests := true, laidLooks := .later }
def DaybookOpensTheVaultUptoCardSaid : Prop := Claim7.holds Tryz.pinned (.plain (OpenSpec.upto daybookOpensTheVaultSpec)) daybookOpensTheVaultUptoCard

/-- THE SECOND FORM's CARD OF 'antiquarylaw36.DaybookCodes'. -/
def daybookCodesUptoCard : Claim7 := { stood := { row := daybookCodesUptoRow, standIns := [], harness := (true, "e502f13113e57464f8f95f980d47d6ecbfb88231ba6e5a3bbed30b224fdb3e93"), looks := false }, kinds := [], alts := [], laidByText := true, laidKinds := [.data], laidTests := true, laidLooks := .later }
def DaybookCodesUptoCardSaid : Prop := Claim7.holds Tryz.pinned (.plain (OpenSpec.upto daybookCodesSpec)) daybookCodesUptoCard

/-- THE SECOND FORM's CARD OF 'antiquarylaw36.DaybookKeepsSecrets'. -/
def daybookKeepsSecretsUptoCard : Claim7 := { stood := { row := daybookKeepsSecretsUptoRow, standIns := [], harness := (true, "e502f13113e57464f8f95f980d47d6ecbfb88231ba6e5a3bbed30b224fdb3e93"), looks := false }, kinds := [], alts := [], laidByText := true, laidKinds := [.data], laidTests := true, laidLooks := .later }
def DaybookKeepsSecretsUptoCardSaid : Prop := Claim7.holds Tryz.pinned (.plain (OpenSpec.upto daybookKeepsSecretsSpec)) daybookKeepsSecretsUptoCard
end Rows
end Go.Proofs.YtdcnajadcbedkaaGreatDoor

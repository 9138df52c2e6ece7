/-
  DERIVED. GIVEN WITH THE SEED: THE PROGRAM's TIES (one call each: nine closed facts by the kernel) AND EACH ROW's TIE, after the 31st guide's Derived/Test/Toyas{Tie, Card}.lean. No idea stands in it: it is a product of the set-up. Laid BY PROGRAM, IN A SANDBOX (cutbox-door.mjs). By AI agents, Wed Nov 11 2026. No macro, syntax, notation, axiom, sorry.
-/
import Derived.Test.YtdcnajadcbedkaaGreatDoorRows
import Derived.LaidByTextLater
import Derived.SevenTiedAt
import Derived.LaidSub
import Derived.LaidOnce
namespace Go.Proofs.YtdcnajadcbedkaaGreatDoor
open Go
set_option maxRecDepth 100000
theorem seatTie1 : Tryz.prog.laidByTextLater [("antiquary/antiquaryref02.constants", Rows.laid_antiquary_antiquaryref02_constants), ("antiquary/hash.constants", Rows.laid_antiquary_hash_constants)] [.data, .data] true :=
  Program.laidByTextLater_by_one 19 8 65 (by kernel_rfl) (by kernel_rfl) (by kernel_rfl) (by kernel_rfl) (by kernel_rfl) (by kernel_rfl) (fun _ _ => by kernel_rfl)
theorem noOwnUnsafe : Tryz.pinned.checked.prog.headLifts.contains "ownunsafe" = false := by kernel_rfl
theorem tie : Tryz.prog.laidByTextLater [("antiquary/antiquaryref02.constants", Rows.laid_antiquary_antiquaryref02_constants), ("antiquary/hash.constants", Rows.laid_antiquary_hash_constants)] [.data, .data] true :=
  Program.laidByTextLater.sub seatTie1 ["antiquary/antiquaryref02.constants", "antiquary/hash.constants"] (by kernel_rfl) (by kernel_rfl)
theorem daybookSealsAsSpecified_row_tie : Rows.daybookSealsAsSpecifiedRow.laidByTextAt .later Tryz.pinned [.data, .data] true :=
  OpenClaim.laidByTextAt_later rfl rfl tie noOwnUnsafe
theorem daybookGrowsAsSpecified_row_tie : Rows.daybookGrowsAsSpecifiedRow.laidByTextAt .later Tryz.pinned [.data, .data] true :=
  OpenClaim.laidByTextAt_later rfl rfl tie noOwnUnsafe
theorem daybookHidesAsSpecified_row_tie : Rows.daybookHidesAsSpecifiedRow.laidByTextAt .later Tryz.pinned [.data, .data] true :=
  OpenClaim.laidByTextAt_later rfl rfl tie noOwnUnsafe
theorem daybookOpensTheVault_row_tie : Rows.daybookOpensTheVaultRow.laidByTextAt .later Tryz.pinned [.data, .data] true :=
  OpenClaim.laidByTextAt_later rfl rfl tie noOwnUnsafe
theorem tie2 : Tryz.prog.laidByTextLater [("antiquary/hash.constants", Rows.laid_antiquary_hash_constants)] [.data] true :=
  Program.laidByTextLater.sub seatTie1 ["antiquary/hash.constants"] (by kernel_rfl) (by kernel_rfl)
theorem daybookIsAChain_row_tie : Rows.daybookIsAChainRow.laidByTextAt .later Tryz.pinned [.data] true :=
  OpenClaim.laidByTextAt_later rfl rfl tie2 noOwnUnsafe
theorem daybookCodes_row_tie : Rows.daybookCodesRow.laidByTextAt .later Tryz.pinned [.data] true :=
  OpenClaim.laidByTextAt_later rfl rfl tie2 noOwnUnsafe
theorem daybookKeepsSecrets_row_tie : Rows.daybookKeepsSecretsRow.laidByTextAt .later Tryz.pinned [.data] true :=
  OpenClaim.laidByTextAt_later rfl rfl tie2 noOwnUnsafe
theorem daybookSealsAsSpecifiedUpto_row_tie : Rows.daybookSealsAsSpecifiedUptoRow.laidByTextAt .later Tryz.pinned [.data, .data] true :=
  OpenClaim.laidByTextAt_later rfl rfl tie noOwnUnsafe
theorem daybookIsAChainUpto_row_tie : Rows.daybookIsAChainUptoRow.laidByTextAt .later Tryz.pinned [.data] true :=
  OpenClaim.laidByTextAt_later rfl rfl tie2 noOwnUnsafe
theorem daybookGrowsAsSpecifiedUpto_row_tie : Rows.daybookGrowsAsSpecifiedUptoRow.laidByTextAt .later Tryz.pinned [.data, .data] true :=
  OpenClaim.laidByTextAt_later rfl rfl tie noOwnUnsafe
theorem daybookHidesAsSpecifiedUpto_row_tie : Rows.daybookHidesAsSpecifiedUptoRow.laidByTextAt .later Tryz.pinned [.data, .data] true :=
  OpenClaim.laidByTextAt_later rfl rfl tie noOwnUnsafe
theorem daybookOpensTheVaultUpto_row_tie : Rows.daybookOpensTheVaultUptoRow.laidByTextAt .later Tryz.pinned [.data, .data] true :=
  OpenClaim.laidByTextAt_later rfl rfl tie noOwnUnsafe
theorem daybookCodesUpto_row_tie : Rows.daybookCodesUptoRow.laidByTextAt .later Tryz.pinned [.data] true :=
  OpenClaim.laidByTextAt_later rfl rfl tie2 noOwnUnsafe
theorem daybookKeepsSecretsUpto_row_tie : Rows.daybookKeepsSecretsUptoRow.laidByTextAt .later Tryz.pinned [.data] true :=
  OpenClaim.laidByTextAt_later rfl rfl tie2 noOwnUnsafe
end Go.Proofs.YtdcnajadcbedkaaGreatDoor

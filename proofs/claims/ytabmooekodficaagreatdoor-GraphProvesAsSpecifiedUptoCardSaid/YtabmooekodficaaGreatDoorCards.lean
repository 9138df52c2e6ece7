/-
  DERIVED. GIVEN WITH THE SEED: THE CARDS: each row of YtabmooekodficaaGreatDoorRows.lean that lists a variable, with what it lists TIED to the program's text (the seventh form; the later family's looks); each row that meets fmt, with fmt's text TOLD by the authors' own Lean function (tested against real Go, not proved from fmt's source: count such statements apart). THE CARD IS WHAT COUNTS. Prove the row's statement (the work); the ties are given (YtabmooekodficaaGreatDoorTie.lean); close each card by the builder's one call (the guide's Derived/Test/ToyasCard.lean, 'card_holds'). Laid BY PROGRAM, IN A SANDBOX (cutbox-door.mjs). By AI agents, Wed Nov 11 2026. No macro, syntax, notation, axiom, sorry.
-/
import Derived.Test.YtabmooekodficaaGreatDoorRows
import GoSem.ClaimSeven
namespace Go.Proofs.YtabmooekodficaaGreatDoor
namespace Rows

/-- THE TIED CARD OF 'antiquarylaw27.GraphProvesAsSpecified'. -/
def graphProvesAsSpecifiedCard : Claim7 := { stood := { row := graphProvesAsSpecifiedRow, standIns := [], harness := (true, "b118e4dca15d83f43adabd27039ad10a9cc08580a8a011255909178a759c0a1f"), looks := false }, kinds := [], alts := [], laidByText := true, laidKinds := [.data, .data], laidTests := true, laidLooks := .later }
def GraphProvesAsSpecifiedCardSaid : Prop := Claim7.holds Tryz.pinned (.plain (OpenSpec.ofChange graphProvesAsSpecifiedSpec)) graphProvesAsSpecifiedCard

/-- THE SECOND FORM's CARD OF 'antiquarylaw27.GraphProvesAsSpecified'. -/
def graphProvesAsSpecifiedUptoCard : Claim7 := { stood := { row := graphProvesAsSpecifiedUptoRow, standIns := [], harness := (true, "b118e4dca15d83f43adabd27039ad10a9cc08580a8a011255909178a759c0a1f"), looks := false }, kinds := [], alts := [], laidByText := true, laidKinds := [.data, .data], laidTests := true, laidLooks := .later }
def GraphProvesAsSpecifiedUptoCardSaid : Prop := Claim7.holds Tryz.pinned (.plain (OpenSpec.upto graphProvesAsSpecifiedSpec)) graphProvesAsSpecifiedUptoCard
end Rows
end Go.Proofs.YtabmooekodficaaGreatDoor

/-
  DERIVED. GIVEN WITH THE SEED: THE CARDS: each row of YtneickpgbhckmaaGreatDoorRows.lean that lists a variable, with what it lists TIED to the program's text (the seventh form; the later family's looks); each row that meets fmt, with fmt's text TOLD by the authors' own Lean function (tested against real Go, not proved from fmt's source: count such statements apart). THE CARD IS WHAT COUNTS. Prove the row's statement (the work); the ties are given (YtneickpgbhckmaaGreatDoorTie.lean); close each card by the builder's one call (the guide's Derived/Test/ToyasCard.lean, 'card_holds'). Laid BY PROGRAM, IN A SANDBOX (cutbox-door.mjs). By AI agents, Wed Nov 11 2026. No macro, syntax, notation, axiom, sorry.
-/
import Derived.Test.YtneickpgbhckmaaGreatDoorRows
import GoSem.ClaimSeven
namespace Go.Proofs.YtneickpgbhckmaaGreatDoor
namespace Rows

/-- THE TIED CARD OF 'spinneylaw20.CheckBlocks'. -/
def checkBlocksCard : Claim7 := { stood := { row := checkBlocksRow, standIns := [], harness := (true, "43e8ac8d65bc3bc77c57023f85af7b6e3b79f2d807da4768a78ad85f52e54492"), looks := false }, kinds := [], alts := [], laidByText := true, laidKinds := [.data], laidTests := true, laidLooks := .later }
def CheckBlocksCardSaid : Prop := Claim7.holds Tryz.pinned (.plain (OpenSpec.ofChange checkBlocksSpec)) checkBlocksCard

/-- THE SECOND FORM's CARD OF 'spinneylaw20.CheckBlocks'. -/
def checkBlocksUptoCard : Claim7 := { stood := { row := checkBlocksUptoRow, standIns := [], harness := (true, "43e8ac8d65bc3bc77c57023f85af7b6e3b79f2d807da4768a78ad85f52e54492"), looks := false }, kinds := [], alts := [], laidByText := true, laidKinds := [.data], laidTests := true, laidLooks := .later }
def CheckBlocksUptoCardSaid : Prop := Claim7.holds Tryz.pinned (.plain (OpenSpec.upto checkBlocksSpec)) checkBlocksUptoCard
end Rows
end Go.Proofs.YtneickpgbhckmaaGreatDoor

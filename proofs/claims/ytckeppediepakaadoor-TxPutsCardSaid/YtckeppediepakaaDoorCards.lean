/-
  DERIVED. GIVEN WITH THE SEED: THE CARDS: each row of YtckeppediepakaaDoorRows.lean that lists a variable, with what it lists TIED to the program's text (the seventh form; the later family's looks); each row that meets fmt, with fmt's text TOLD by the authors' own Lean function (tested against real Go, not proved from fmt's source: count such statements apart). THE CARD IS WHAT COUNTS. Prove the row's statement (the work); the ties are given (YtckeppediepakaaDoorTie.lean); close each card by the builder's one call (the guide's Derived/Test/ToyasCard.lean, 'card_holds'). Laid BY PROGRAM, IN A SANDBOX (cutbox-door.mjs). By AI agents, Wed Nov 11 2026. No macro, syntax, notation, axiom, sorry.
-/
import Derived.Test.YtckeppediepakaaDoorRows
import GoSem.ClaimSeven
namespace Go.Proofs.YtckeppediepakaaDoor
namespace Rows

/-- THE TIED CARD OF 'spinneylaw05.TxPuts'. -/
def txPutsCard : Claim7 := { stood := { row := txPutsRow, standIns := [], harness := (true, "2f4745b87ef9d95a96679c0078704a2e3f47ba6e77df8057d1d3b20845c0c4c3"), looks := false }, kinds := [], alts := [], laidByText := true, laidKinds := [.data], laidTests := true, laidLooks := .later }
def TxPutsCardSaid : Prop := Claim7.holds Tryd.pinned (.plain (OpenSpec.ofChange txPutsSpec)) txPutsCard

/-- THE SECOND FORM's CARD OF 'spinneylaw05.TxPuts'. -/
def txPutsUptoCard : Claim7 := { stood := { row := txPutsUptoRow, standIns := [], harness := (true, "2f4745b87ef9d95a96679c0078704a2e3f47ba6e77df8057d1d3b20845c0c4c3"), looks := false }, kinds := [], alts := [], laidByText := true, laidKinds := [.data], laidTests := true, laidLooks := .later }
def TxPutsUptoCardSaid : Prop := Claim7.holds Tryd.pinned (.plain (OpenSpec.upto txPutsSpec)) txPutsUptoCard
end Rows
end Go.Proofs.YtckeppediepakaaDoor

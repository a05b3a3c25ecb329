/-
  DERIVED. GIVEN WITH THE SEED: THE CARDS: each row of YtneickpgbhckmaaDoorRows.lean that lists a variable, with what it lists TIED to the program's text (the seventh form; the later family's looks); each row that meets fmt, with fmt's text TOLD by the authors' own Lean function (tested against real Go, not proved from fmt's source: count such statements apart). THE CARD IS WHAT COUNTS. Prove the row's statement (the work); the ties are given (YtneickpgbhckmaaDoorTie.lean); close each card by the builder's one call (the guide's Derived/Test/ToyasCard.lean, 'card_holds'). Laid BY PROGRAM, IN A SANDBOX (cutbox-door.mjs). By AI agents, Wed Nov 11 2026. No macro, syntax, notation, axiom, sorry.
-/
import Derived.Test.YtneickpgbhckmaaDoorRows
import GoSem.ClaimSeven
namespace Go.Proofs.YtneickpgbhckmaaDoor
namespace Rows

/-- THE TIED CARD OF 'spinneylaw20.CheckTxs'. -/
def checkTxsCard : Claim7 := { stood := { row := checkTxsRow, standIns := [], harness := (true, "e26440d463e2120dd3966de49fc51e64118e56e448ed5195040b38ecae2096f7"), looks := false }, kinds := [], alts := [], laidByText := true, laidKinds := [.data], laidTests := true, laidLooks := .later }
def CheckTxsCardSaid : Prop := Claim7.holds Tryd.pinned (.plain (OpenSpec.ofChange checkTxsSpec)) checkTxsCard

/-- THE TIED CARD OF 'spinneylaw20.CheckHeader'. -/
def checkHeaderCard : Claim7 := { stood := { row := checkHeaderRow, standIns := [], harness := (true, "e26440d463e2120dd3966de49fc51e64118e56e448ed5195040b38ecae2096f7"), looks := false }, kinds := [], alts := [], laidByText := true, laidKinds := [.data], laidTests := true, laidLooks := .later }
def CheckHeaderCardSaid : Prop := Claim7.holds Tryd.pinned (.plain (OpenSpec.ofChange checkHeaderSpec)) checkHeaderCard

/-- THE TIED CARD OF 'spinneylaw20.CheckValues'. -/
def checkValuesCard : Claim7 := { stood := { row := checkValuesRow, standIns := [], harness := (true, "e26440d463e2120dd3966de49fc51e64118e56e448ed5195040b38ecae2096f7"), looks := false }, kinds := [], alts := [], laidByText := true, laidKinds := [.data], laidTests := true, laidLooks := .later }
def CheckValuesCardSaid : Prop := Claim7.holds Tryd.pinned (.plain (OpenSpec.ofChange checkValuesSpec)) checkValuesCard

/-- THE TIED CARD OF 'spinneylaw20.CheckKnown'. -/
def checkKnownCard : Claim7 := { stood := { row := checkKnownRow, standIns := [], harness := (true, "e26440d463e2120dd3966de49fc51e64118e56e448ed5195040b38ecae2096f7"), looks := false }, kinds := [], alts := [], laidByText := true, laidKinds := [.data], laidTests := true, laidLooks := .later }
def CheckKnownCardSaid : Prop := Claim7.holds Tryd.pinned (.plain (OpenSpec.ofChange checkKnownSpec)) checkKnownCard

/-- THE TIED CARD OF 'spinneylaw20.CheckSame'. -/
def checkSameCard : Claim7 := { stood := { row := checkSameRow, standIns := [], harness := (true, "e26440d463e2120dd3966de49fc51e64118e56e448ed5195040b38ecae2096f7"), looks := false }, kinds := [], alts := [], laidByText := true, laidKinds := [.data], laidTests := true, laidLooks := .later }
def CheckSameCardSaid : Prop := Claim7.holds Tryd.pinned (.plain (OpenSpec.ofChange checkSameSpec)) checkSameCard

/-- THE SECOND FORM's CARD OF 'spinneylaw20.CheckTxs'. -/
def checkTxsUptoCard : Claim7 := { stood := { row := checkTxsUptoRow, standIns := [], harness := (true, "e26440d463e2120dd3966de49fc51e64118e56e448ed5195040b38ecae2096f7"), looks := false }, kinds := [], alts := [], laidByText := true, laidKinds := [.data], laidTests := true, laidLooks := .later }
def CheckTxsUptoCardSaid : Prop := Claim7.holds Tryd.pinned (.plain (OpenSpec.upto checkTxsSpec)) checkTxsUptoCard

/-- THE SECOND FORM's CARD OF 'spinneylaw20.CheckHeader'. -/
def checkHeaderUptoCard : Claim7 := { stood := { row := checkHeaderUptoRow, standIns := [], harness := (true, "e26440d463e2120dd3966de49fc51e64118e56e448ed5195040b38ecae2096f7"), looks := false }, kinds := [], alts := [], laidByText := true, laidKinds := [.data], laidTests := true, laidLooks := .later }
def CheckHeaderUptoCardSaid : Prop := Claim7.holds Tryd.pinned (.plain (OpenSpec.upto checkHeaderSpec)) checkHeaderUptoCard

/-- THE SECOND FORM's CARD OF 'spinneylaw20.CheckValues'. -/
def checkValuesUptoCard : Claim7 := { stood := { row := checkValuesUptoRow, standIns := [], harness := (true, "e26440d463e2120dd3966de49fc51e64118e56e448ed5195040b38ecae2096f7"), looks := false }, kinds := [], alts := [], laidByText := true, laidKinds := [.data], laidTests := true, laidLooks := .later }
def CheckValuesUptoCardSaid : Prop := Claim7.holds Tryd.pinned (.plain (OpenSpec.upto checkValuesSpec)) checkValuesUptoCard

/-- THE SECOND FORM's CARD OF 'spinneylaw20.CheckKnown'. -/
def checkKnownUptoCard : Claim7 := { stood := { row := checkKnownUptoRow, standIns := [], harness := (true, "e26440d463e2120dd3966de49fc51e64118e56e448ed5195040b38ecae2096f7"), looks := false }, kinds := [], alts := [], laidByText := true, laidKinds := [.data], laidTests := true, laidLooks := .later }
def CheckKnownUptoCardSaid : Prop := Claim7.holds Tryd.pinned (.plain (OpenSpec.upto checkKnownSpec)) checkKnownUptoCard

/-- THE SECOND FORM's CARD OF 'spinneylaw20.CheckSame'. -/
def checkSameUptoCard : Claim7 := { stood := { row := checkSameUptoRow, standIns := [], harness := (true, "e26440d463e2120dd3966de49fc51e64118e56e448ed5195040b38ecae2096f7"), looks := false }, kinds := [], alts := [], laidByText := true, laidKinds := [.data], laidTests := true, laidLooks := .later }
def CheckSameUptoCardSaid : Prop := Claim7.holds Tryd.pinned (.plain (OpenSpec.upto checkSameSpec)) checkSameUptoCard
end Rows
end Go.Proofs.YtneickpgbhckmaaDoor

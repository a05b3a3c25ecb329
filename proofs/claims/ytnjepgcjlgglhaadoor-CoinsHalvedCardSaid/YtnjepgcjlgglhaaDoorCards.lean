/-
  DERIVED. GIVEN WITH THE SEED: THE CARDS: each row of YtnjepgcjlgglhaaDoorRows.lean that lists a variable, with what it lists TIED to the program's text (the seventh form; the later family's looks); each row that meets fmt, with fmt's text TOLD by the authors' own Lean function (tested against real Go, not proved from fmt's source: count such statements apart). THE CARD IS WHAT COUNTS. Prove the row's statement (the work); the ties are given (YtnjepgcjlgglhaaDoorTie.lean); close each card by the builder's one call (the guide's Derived/Test/ToyasCard.lean, 'card_holds'). Laid BY PROGRAM, IN A SANDBOX (cutbox-door.mjs). By AI agents, Wed Nov 11 2026. No macro, syntax, notation, axiom, sorry.
-/
import Derived.Test.YtnjepgcjlgglhaaDoorRows
import GoSem.ClaimSeven
namespace Go.Proofs.YtnjepgcjlgglhaaDoor
namespace Rows

/-- THE TIED CARD OF 'spinneylaw22.CoinsSets'. -/
def coinsSetsCard : Claim7 := { stood := { row := coinsSetsRow, standIns := [], harness := (true, "3721ae586317c8a766cc20095eb2ffbdeafb63e99b7d32665985bc42ca5e5656"), looks := true }, kinds := [], alts := [], laidByText := true, laidKinds := [.data], laidTests := true, laidLooks := .later }
def CoinsSetsCardSaid : Prop := Claim7.holds Tryd.pinned (.plain (OpenSpec.ofChange coinsSetsSpec)) coinsSetsCard

/-- THE TIED CARD OF 'spinneylaw22.CoinsKnown'. -/
def coinsKnownCard : Claim7 := { stood := { row := coinsKnownRow, standIns := [], harness := (true, "3721ae586317c8a766cc20095eb2ffbdeafb63e99b7d32665985bc42ca5e5656"), looks := true }, kinds := [], alts := [], laidByText := true, laidKinds := [.data], laidTests := true, laidLooks := .later }
def CoinsKnownCardSaid : Prop := Claim7.holds Tryd.pinned (.plain (OpenSpec.ofChange coinsKnownSpec)) coinsKnownCard

/-- THE TIED CARD OF 'spinneylaw22.CoinsConnect'. -/
def coinsConnectCard : Claim7 := { stood := { row := coinsConnectRow, standIns := [], harness := (true, "3721ae586317c8a766cc20095eb2ffbdeafb63e99b7d32665985bc42ca5e5656"), looks := true }, kinds := [], alts := [], laidByText := true, laidKinds := [.data], laidTests := true, laidLooks := .later }
def CoinsConnectCardSaid : Prop := Claim7.holds Tryd.pinned (.plain (OpenSpec.ofChange coinsConnectSpec)) coinsConnectCard

/-- THE TIED CARD OF 'spinneylaw22.CoinsKept'. -/
def coinsKeptCard : Claim7 := { stood := { row := coinsKeptRow, standIns := [], harness := (true, "3721ae586317c8a766cc20095eb2ffbdeafb63e99b7d32665985bc42ca5e5656"), looks := true }, kinds := [], alts := [], laidByText := true, laidKinds := [.data], laidTests := true, laidLooks := .later }
def CoinsKeptCardSaid : Prop := Claim7.holds Tryd.pinned (.plain (OpenSpec.ofChange coinsKeptSpec)) coinsKeptCard

/-- THE TIED CARD OF 'spinneylaw22.CoinsSame'. -/
def coinsSameCard : Claim7 := { stood := { row := coinsSameRow, standIns := [], harness := (true, "3721ae586317c8a766cc20095eb2ffbdeafb63e99b7d32665985bc42ca5e5656"), looks := true }, kinds := [], alts := [], laidByText := true, laidKinds := [.data], laidTests := true, laidLooks := .later }
def CoinsSameCardSaid : Prop := Claim7.holds Tryd.pinned (.plain (OpenSpec.ofChange coinsSameSpec)) coinsSameCard

/-- THE TIED CARD OF 'spinneylaw22.CoinsHalved'. -/
def coinsHalvedCard : Claim7 := { stood := { row := coinsHalvedRow, standIns := [], harness := (true, "3721ae586317c8a766cc20095eb2ffbdeafb63e99b7d32665985bc42ca5e5656"), looks := true }, kinds := [], alts := [], laidByText := true, laidKinds := [.data], laidTests := true, laidLooks := .later }
def CoinsHalvedCardSaid : Prop := Claim7.holds Tryd.pinned (.plain (OpenSpec.ofChange coinsHalvedSpec)) coinsHalvedCard

/-- THE TIED CARD OF 'spinneylaw22.CoinsContext'. -/
def coinsContextCard : Claim7 := { stood := { row := coinsContextRow, standIns := [], harness := (true, "3721ae586317c8a766cc20095eb2ffbdeafb63e99b7d32665985bc42ca5e5656"), looks := true }, kinds := [], alts := [], laidByText := true, laidKinds := [.data], laidTests := true, laidLooks := .later }
def CoinsContextCardSaid : Prop := Claim7.holds Tryd.pinned (.plain (OpenSpec.ofChange coinsContextSpec)) coinsContextCard

/-- THE TIED CARD OF 'spinneylaw22.CoinsBack'. -/
def coinsBackCard : Claim7 := { stood := { row := coinsBackRow, standIns := [], harness := (true, "3721ae586317c8a766cc20095eb2ffbdeafb63e99b7d32665985bc42ca5e5656"), looks := true }, kinds := [], alts := [], laidByText := true, laidKinds := [.data], laidTests := true, laidLooks := .later }
def CoinsBackCardSaid : Prop := Claim7.holds Tryd.pinned (.plain (OpenSpec.ofChange coinsBackSpec)) coinsBackCard

/-- THE SECOND FORM's CARD OF 'spinneylaw22.CoinsSets'. -/
def coinsSetsUptoCard : Claim7 := { stood := { row := coinsSetsUptoRow, standIns := [], harness := (true, "3721ae586317c8a766cc20095eb2ffbdeafb63e99b7d32665985bc42ca5e5656"), looks := true }, kinds := [], alts := [], laidByText := true, laidKinds := [.data], laidTests := true, laidLooks := .later }
def CoinsSetsUptoCardSaid : Prop := Claim7.holds Tryd.pinned (.plain (OpenSpec.upto coinsSetsSpec)) coinsSetsUptoCard

/-- THE SECOND FORM's CARD OF 'spinneylaw22.CoinsKnown'. -/
def coinsKnownUptoCard : Claim7 := { stood := { row := coinsKnownUptoRow, standIns := [], harness := (true, "3721ae586317c8a766cc20095eb2ffbdeafb63e99b7d32665985bc42ca5e5656"), looks := true }, kinds := [], alts := [], laidByText := true, laidKinds := [.data], laidTests := true, laidLooks := .later }
def CoinsKnownUptoCardSaid : Prop := Claim7.holds Tryd.pinned (.plain (OpenSpec.upto coinsKnownSpec)) coinsKnownUptoCard

/-- THE SECOND FORM's CARD OF 'spinneylaw22.CoinsConnect'. -/
def coinsConnectUptoCard : Claim7 := { stood := { row := coinsConnectUptoRow, standIns := [], harness := (true, "3721ae586317c8a766cc20095eb2ffbdeafb63e99b7d32665985bc42ca5e5656"), looks := true }, kinds := [], alts := [], laidByText := true, laidKinds := [.data], laidTests := true, laidLooks := .later }
def CoinsConnectUptoCardSaid : Prop := Claim7.holds Tryd.pinned (.plain (OpenSpec.upto coinsConnectSpec)) coinsConnectUptoCard

/-- THE SECOND FORM's CARD OF 'spinneylaw22.CoinsKept'. -/
def coinsKeptUptoCard : Claim7 := { stood := { row := coinsKeptUptoRow, standIns := [], harness := (true, "3721ae586317c8a766cc20095eb2ffbdeafb63e99b7d32665985bc42ca5e5656"), looks := true }, kinds := [], alts := [], laidByText := true, laidKinds := [.data], laidTests := true, laidLooks := .later }
def CoinsKeptUptoCardSaid : Prop := Claim7.holds Tryd.pinned (.plain (OpenSpec.upto coinsKeptSpec)) coinsKeptUptoCard

/-- THE SECOND FORM's CARD OF 'spinneylaw22.CoinsSame'. -/
def coinsSameUptoCard : Claim7 := { stood := { row := coinsSameUptoRow, standIns := [], harness := (true, "3721ae586317c8a766cc20095eb2ffbdeafb63e99b7d32665985bc42ca5e5656"), looks := true }, kinds := [], alts := [], laidByText := true, laidKinds := [.data], laidTests := true, laidLooks := .later }
def CoinsSameUptoCardSaid : Prop := Claim7.holds Tryd.pinned (.plain (OpenSpec.upto coinsSameSpec)) coinsSameUptoCard

/-- THE SECOND FORM's CARD OF 'spinneylaw22.CoinsHalved'. -/
def coinsHalvedUptoCard : Claim7 := { stood := { row := coinsHalvedUptoRow, standIns := [], harness := (true, "3721ae586317c8a766cc20095eb2ffbdeafb63e99b7d32665985bc42ca5e5656"), looks := true }, kinds := [], alts := [], laidByText := true, laidKinds := [.data], laidTests := true, laidLooks := .later }
def CoinsHalvedUptoCardSaid : Prop := Claim7.holds Tryd.pinned (.plain (OpenSpec.upto coinsHalvedSpec)) coinsHalvedUptoCard

/-- THE SECOND FORM's CARD OF 'spinneylaw22.CoinsContext'. -/
def coinsContextUptoCard : Claim7 := { stood := { row := coinsContextUptoRow, standIns := [], harness := (true, "3721ae586317c8a766cc20095eb2ffbdeafb63e99b7d32665985bc42ca5e5656"), looks := true }, kinds := [], alts := [], laidByText := true, laidKinds := [.data], laidTests := true, laidLooks := .later }
def CoinsContextUptoCardSaid : Prop := Claim7.holds Tryd.pinned (.plain (OpenSpec.upto coinsContextSpec)) coinsContextUptoCard

/-- THE SECOND FORM's CARD OF 'spinneylaw22.CoinsBack'. -/
def coinsBackUptoCard : Claim7 := { stood := { row := coinsBackUptoRow, standIns := [], harness := (true, "3721ae586317c8a766cc20095eb2ffbdeafb63e99b7d32665985bc42ca5e5656"), looks := true }, kinds := [], alts := [], laidByText := true, laidKinds := [.data], laidTests := true, laidLooks := .later }
def CoinsBackUptoCardSaid : Prop := Claim7.holds Tryd.pinned (.plain (OpenSpec.upto coinsBackSpec)) coinsBackUptoCard
end Rows
end Go.Proofs.YtnjepgcjlgglhaaDoor

/-
  NARROWER THAN 'FOR EVERY INPUT', by the rows' own cells (each row's printed sentence says how): CoinsSets: laid · CoinsKnown: laid · CoinsConnect: laid · CoinsKept: laid · CoinsSame: laid · CoinsHalved: laid · CoinsContext: laid · CoinsBack: laid.
  DERIVED. THE GIVEN ROWS OF THIS SEAT. 8 by the template 'for every input the law returns true; each argument reads behind the call as it read before'; 0 by the template 'total and deterministic' (their statements: YtnjepgcjlgglhaaDoorTotals.lean).
  GIVEN WITH THE SEED: the statements are not yours to turn. If you find one false, say at which input.
  Laid BY PROGRAM, IN A SANDBOX (cutbox-rows.mjs): the forced cells as the released guide's own fill.sh prints them over the translation 3f9d7e779eae89ee… (all of the seat's roots in one cut). By AI agents, Wed Nov 11 2026. No macro, syntax, notation, axiom, sorry.
-/
import Derived.Test.YtnjepgcjlgglhaaDoorChecked
import GoSem.Claim
import GoSem.ClaimJoined
import GoSem.ClaimMapViews
import Derived.JoinedTies
import Derived.KernelRfl
namespace Go.Proofs.YtnjepgcjlgglhaaDoor
/- THE CELL 'sum', in the pinned program and in every row, IS THE sha256 OF THE DUMP (.gsa) THAT YtnjepgcjlgglhaaDoorProg.lean LOADS. Nothing in Lean hashes anything: it is a label: what it is worth is what the hold of that sum in a sandbox is worth. -/
noncomputable def Tryd.pinned : Pinned := { name := "ytnjepgcjlgglhaadoor", sum := "3f9d7e779eae89ee724595014bb1d131ce8a0d1bd6030f48c857d5ea685a0af8", checked := Tryd.checked }
namespace Rows
def none {H : Type} : Left H := { results := [], args := [] }

/- WHAT THE LISTED PACKAGE-LEVEL VARIABLES READ AS WHEN THE CALL BEGINS. Each datum BY PROGRAM (the guide's laid-datum.mjs) off the statement by which the dump's own 'gosem.cut.vars' lays the variable. In a bare row this is a premise. The card (YtnjepgcjlgglhaaDoorCards.lean) ties it to the program's text. -/
def laid_spinney_sha_roundNumbers {H : Type} : DataW H := .agg [.lit (.int .u32 1116352408), .lit (.int .u32 1899447441), .lit (.int .u32 3049323471), .lit (.int .u32 3921009573), .lit (.int .u32 961987163), .lit (.int .u32 1508970993), .lit (.int .u32 2453635748), .lit (.int .u32 2870763221), .lit (.int .u32 3624381080), .lit (.int .u32 310598401), .lit (.int .u32 607225278), .lit (.int .u32 1426881987), .lit (.int .u32 1925078388), .lit (.int .u32 2162078206), .lit (.int .u32 2614888103), .lit (.int .u32 3248222580), .lit (.int .u32 3835390401), .lit (.int .u32 4022224774), .lit (.int .u32 264347078), .lit (.int .u32 604807628), .lit (.int .u32 770255983), .lit (.int .u32 1249150122), .lit (.int .u32 1555081692), .lit (.int .u32 1996064986), .lit (.int .u32 2554220882), .lit (.int .u32 2821834349), .lit (.int .u32 2952996808), .lit (.int .u32 3210313671), .lit (.int .u32 3336571891), .lit (.int .u32 3584528711), .lit (.int .u32 113926993), .lit (.int .u32 338241895), .lit (.int .u32 666307205), .lit (.int .u32 773529912), .lit (.int .u32 1294757372), .lit (.int .u32 1396182291), .lit (.int .u32 1695183700), .lit (.int .u32 1986661051), .lit (.int .u32 2177026350), .lit (.int .u32 2456956037), .lit (.int .u32 2730485921), .lit (.int .u32 2820302411), .lit (.int .u32 3259730800), .lit (.int .u32 3345764771), .lit (.int .u32 3516065817), .lit (.int .u32 3600352804), .lit (.int .u32 4094571909), .lit (.int .u32 275423344), .lit (.int .u32 430227734), .lit (.int .u32 506948616), .lit (.int .u32 659060556), .lit (.int .u32 883997877), .lit (.int .u32 958139571), .lit (.int .u32 1322822218), .lit (.int .u32 1537002063), .lit (.int .u32 1747873779), .lit (.int .u32 1955562222), .lit (.int .u32 2024104815), .lit (.int .u32 2227730452), .lit (.int .u32 2361852424), .lit (.int .u32 2428436474), .lit (.int .u32 2756734187), .lit (.int .u32 3204031479), .lit (.int .u32 3329325298)]

/-- 'spinneylaw22.CoinsSets': WHATEVER THE INPUT: true; the input reads as it did. -/
def coinsSetsSpec : ChangeSpec := { name := "coinsSets", fn := fun _ => fun
  | [d] => { results := [.lit (.bool true)], args := [d] }
  | _ => none }
def coinsSetsRow : OpenClaim := { program := "ytnjepgcjlgglhaadoor", sum := "3f9d7e779eae89ee724595014bb1d131ce8a0d1bd6030f48c857d5ea685a0af8", func := "spinney/spinneylaw22.CoinsSets", spec := "coinsSets", inPlace := ["maps.clone"], unfollowed := true, recurses := true, named := ["spinney/sha.roundNumbers"], plainKeys := false, apart := false, laid := [("spinney/sha.roundNumbers", laid_spinney_sha_roundNumbers)] }
def CoinsSetsSaid : Prop := coinsSetsRow.holds Tryd.pinned (OpenSpec.ofChange coinsSetsSpec)

/-- ITS FALSE NEIGHBOUR: 'it returns false'. Refute it at one input. -/
def coinsSetsWrong : ChangeSpec := { name := "coinsSets", fn := fun _ => fun
  | [d] => { results := [.lit (.bool false)], args := [d] }
  | _ => none }
def CoinsSetsWrongFalsely : Prop := coinsSetsRow.holds Tryd.pinned (OpenSpec.ofChange coinsSetsWrong)

/-- 'spinneylaw22.CoinsKnown': WHATEVER THE INPUT: true; the input reads as it did. -/
def coinsKnownSpec : ChangeSpec := { name := "coinsKnown", fn := fun _ => fun
  | [] => { results := [.lit (.bool true)], args := [] }
  | _ => none }
def coinsKnownRow : OpenClaim := { program := "ytnjepgcjlgglhaadoor", sum := "3f9d7e779eae89ee724595014bb1d131ce8a0d1bd6030f48c857d5ea685a0af8", func := "spinney/spinneylaw22.CoinsKnown", spec := "coinsKnown", inPlace := ["maps.clone"], unfollowed := true, recurses := true, named := ["spinney/sha.roundNumbers"], plainKeys := false, apart := false, laid := [("spinney/sha.roundNumbers", laid_spinney_sha_roundNumbers)] }
def CoinsKnownSaid : Prop := coinsKnownRow.holds Tryd.pinned (OpenSpec.ofChange coinsKnownSpec)

/-- ITS FALSE NEIGHBOUR: 'it returns false'. Refute it at one input. -/
def coinsKnownWrong : ChangeSpec := { name := "coinsKnown", fn := fun _ => fun
  | [] => { results := [.lit (.bool false)], args := [] }
  | _ => none }
def CoinsKnownWrongFalsely : Prop := coinsKnownRow.holds Tryd.pinned (OpenSpec.ofChange coinsKnownWrong)

/-- 'spinneylaw22.CoinsConnect': WHATEVER THE INPUT: true; the input reads as it did. -/
def coinsConnectSpec : ChangeSpec := { name := "coinsConnect", fn := fun _ => fun
  | [d1, d2] => { results := [.lit (.bool true)], args := [d1, d2] }
  | _ => none }
def coinsConnectRow : OpenClaim := { program := "ytnjepgcjlgglhaadoor", sum := "3f9d7e779eae89ee724595014bb1d131ce8a0d1bd6030f48c857d5ea685a0af8", func := "spinney/spinneylaw22.CoinsConnect", spec := "coinsConnect", unfollowed := true, recurses := true, named := ["spinney/sha.roundNumbers"], plainKeys := false, apart := false, laid := [("spinney/sha.roundNumbers", laid_spinney_sha_roundNumbers)] }
def CoinsConnectSaid : Prop := coinsConnectRow.holds Tryd.pinned (OpenSpec.ofChange coinsConnectSpec)

/-- ITS FALSE NEIGHBOUR: 'it returns false'. Refute it at one input. -/
def coinsConnectWrong : ChangeSpec := { name := "coinsConnect", fn := fun _ => fun
  | [d1, d2] => { results := [.lit (.bool false)], args := [d1, d2] }
  | _ => none }
def CoinsConnectWrongFalsely : Prop := coinsConnectRow.holds Tryd.pinned (OpenSpec.ofChange coinsConnectWrong)

/-- 'spinneylaw22.CoinsKept': WHATEVER THE INPUT: true; the input reads as it did. -/
def coinsKeptSpec : ChangeSpec := { name := "coinsKept", fn := fun _ => fun
  | [d1, d2] => { results := [.lit (.bool true)], args := [d1, d2] }
  | _ => none }
def coinsKeptRow : OpenClaim := { program := "ytnjepgcjlgglhaadoor", sum := "3f9d7e779eae89ee724595014bb1d131ce8a0d1bd6030f48c857d5ea685a0af8", func := "spinney/spinneylaw22.CoinsKept", spec := "coinsKept", unfollowed := true, recurses := true, named := ["spinney/sha.roundNumbers"], plainKeys := false, apart := false, laid := [("spinney/sha.roundNumbers", laid_spinney_sha_roundNumbers)] }
def CoinsKeptSaid : Prop := coinsKeptRow.holds Tryd.pinned (OpenSpec.ofChange coinsKeptSpec)

/-- ITS FALSE NEIGHBOUR: 'it returns false'. Refute it at one input. -/
def coinsKeptWrong : ChangeSpec := { name := "coinsKept", fn := fun _ => fun
  | [d1, d2] => { results := [.lit (.bool false)], args := [d1, d2] }
  | _ => none }
def CoinsKeptWrongFalsely : Prop := coinsKeptRow.holds Tryd.pinned (OpenSpec.ofChange coinsKeptWrong)

/-- 'spinneylaw22.CoinsSame': WHATEVER THE INPUT: true; the input reads as it did. -/
def coinsSameSpec : ChangeSpec := { name := "coinsSame", fn := fun _ => fun
  | [d1, d2, d3] => { results := [.lit (.bool true)], args := [d1, d2, d3] }
  | _ => none }
def coinsSameRow : OpenClaim := { program := "ytnjepgcjlgglhaadoor", sum := "3f9d7e779eae89ee724595014bb1d131ce8a0d1bd6030f48c857d5ea685a0af8", func := "spinney/spinneylaw22.CoinsSame", spec := "coinsSame", unfollowed := true, recurses := true, named := ["spinney/sha.roundNumbers"], plainKeys := false, apart := false, laid := [("spinney/sha.roundNumbers", laid_spinney_sha_roundNumbers)] }
def CoinsSameSaid : Prop := coinsSameRow.holds Tryd.pinned (OpenSpec.ofChange coinsSameSpec)

/-- ITS FALSE NEIGHBOUR: 'it returns false'. Refute it at one input. -/
def coinsSameWrong : ChangeSpec := { name := "coinsSame", fn := fun _ => fun
  | [d1, d2, d3] => { results := [.lit (.bool false)], args := [d1, d2, d3] }
  | _ => none }
def CoinsSameWrongFalsely : Prop := coinsSameRow.holds Tryd.pinned (OpenSpec.ofChange coinsSameWrong)

/-- 'spinneylaw22.CoinsHalved': WHATEVER THE INPUT: true; the input reads as it did. -/
def coinsHalvedSpec : ChangeSpec := { name := "coinsHalved", fn := fun _ => fun
  | [d1, d2, d3] => { results := [.lit (.bool true)], args := [d1, d2, d3] }
  | _ => none }
def coinsHalvedRow : OpenClaim := { program := "ytnjepgcjlgglhaadoor", sum := "3f9d7e779eae89ee724595014bb1d131ce8a0d1bd6030f48c857d5ea685a0af8", func := "spinney/spinneylaw22.CoinsHalved", spec := "coinsHalved", unfollowed := true, recurses := true, named := ["spinney/sha.roundNumbers"], plainKeys := false, apart := false, laid := [("spinney/sha.roundNumbers", laid_spinney_sha_roundNumbers)] }
def CoinsHalvedSaid : Prop := coinsHalvedRow.holds Tryd.pinned (OpenSpec.ofChange coinsHalvedSpec)

/-- ITS FALSE NEIGHBOUR: 'it returns false'. Refute it at one input. -/
def coinsHalvedWrong : ChangeSpec := { name := "coinsHalved", fn := fun _ => fun
  | [d1, d2, d3] => { results := [.lit (.bool false)], args := [d1, d2, d3] }
  | _ => none }
def CoinsHalvedWrongFalsely : Prop := coinsHalvedRow.holds Tryd.pinned (OpenSpec.ofChange coinsHalvedWrong)

/-- 'spinneylaw22.CoinsContext': WHATEVER THE INPUT: true; the input reads as it did. -/
def coinsContextSpec : ChangeSpec := { name := "coinsContext", fn := fun _ => fun
  | [d1, d2, d3] => { results := [.lit (.bool true)], args := [d1, d2, d3] }
  | _ => none }
def coinsContextRow : OpenClaim := { program := "ytnjepgcjlgglhaadoor", sum := "3f9d7e779eae89ee724595014bb1d131ce8a0d1bd6030f48c857d5ea685a0af8", func := "spinney/spinneylaw22.CoinsContext", spec := "coinsContext", unfollowed := true, recurses := true, named := ["spinney/sha.roundNumbers"], plainKeys := false, apart := false, laid := [("spinney/sha.roundNumbers", laid_spinney_sha_roundNumbers)] }
def CoinsContextSaid : Prop := coinsContextRow.holds Tryd.pinned (OpenSpec.ofChange coinsContextSpec)

/-- ITS FALSE NEIGHBOUR: 'it returns false'. Refute it at one input. -/
def coinsContextWrong : ChangeSpec := { name := "coinsContext", fn := fun _ => fun
  | [d1, d2, d3] => { results := [.lit (.bool false)], args := [d1, d2, d3] }
  | _ => none }
def CoinsContextWrongFalsely : Prop := coinsContextRow.holds Tryd.pinned (OpenSpec.ofChange coinsContextWrong)

/-- 'spinneylaw22.CoinsBack': WHATEVER THE INPUT: true; the input reads as it did. -/
def coinsBackSpec : ChangeSpec := { name := "coinsBack", fn := fun _ => fun
  | [d1, d2] => { results := [.lit (.bool true)], args := [d1, d2] }
  | _ => none }
def coinsBackRow : OpenClaim := { program := "ytnjepgcjlgglhaadoor", sum := "3f9d7e779eae89ee724595014bb1d131ce8a0d1bd6030f48c857d5ea685a0af8", func := "spinney/spinneylaw22.CoinsBack", spec := "coinsBack", unfollowed := true, recurses := true, named := ["spinney/sha.roundNumbers"], plainKeys := false, apart := false, laid := [("spinney/sha.roundNumbers", laid_spinney_sha_roundNumbers)] }
def CoinsBackSaid : Prop := coinsBackRow.holds Tryd.pinned (OpenSpec.ofChange coinsBackSpec)

/-- ITS FALSE NEIGHBOUR: 'it returns false'. Refute it at one input. -/
def coinsBackWrong : ChangeSpec := { name := "coinsBack", fn := fun _ => fun
  | [d1, d2] => { results := [.lit (.bool false)], args := [d1, d2] }
  | _ => none }
def CoinsBackWrongFalsely : Prop := coinsBackRow.holds Tryd.pinned (OpenSpec.ofChange coinsBackWrong)

/- THE SECOND FORM. 'bulk': how many values and letters a reading holds, each counted each time it is reached (what is shared counts as often as it is met; a slice's spare places count too). A statement '..UptoSaid' is the law's where the arguments, and the package variables that the reading takes, are together of bulk at most 1048576: NARROWER than '..Said'. Prove '..Said' where nothing that the law and all that it calls make is longer than what came in: it says more and counts as full. Else prove '..UptoSaid'. A law counts once. -/
mutual
def uptoBulk {H : Type} : DataW H → Nat
  | .lit (.string bytes) => bytes.length + 1
  | .lit _ => 1
  | .nil => 1
  | .ptr d => uptoBulk d + 1
  | .slice elems spare => uptoBulkAll elems + uptoBulkAll spare + 1
  | .agg parts => uptoBulkAll parts + 1
  | .iface _ d => uptoBulk d + 1
  | .map entries => uptoBulkEntries entries + 1
  | .held _ => 1
def uptoBulkAll {H : Type} : List (DataW H) → Nat
  | [] => 0
  | d :: r => uptoBulk d + uptoBulkAll r
def uptoBulkEntries {H : Type} : List (Lit × DataW H) → Nat
  | [] => 0
  | x :: r => uptoBulkEntry x + uptoBulkEntries r
def uptoBulkEntry {H : Type} : Lit × DataW H → Nat
  | (.string bytes, d) => bytes.length + uptoBulk d + 1
  | (_, d) => uptoBulk d + 1
 end
def uptoSmall : (H : Type) → List (DataW H) → Bool := fun _ ds => decide (uptoBulkAll ds ≤ 1048576)
def OpenSpec.upto (s : _root_.Go.ChangeSpec) : _root_.Go.OpenSpec := { _root_.Go.OpenSpec.ofChange s with cond := some uptoSmall }

/-- 'spinneylaw22.CoinsSets', WHERE WHAT IT READS IS OF BULK AT MOST 1048576: true; the input reads as it did. -/
def coinsSetsUptoRow : OpenClaim := { program := "ytnjepgcjlgglhaadoor", sum := "3f9d7e779eae89ee724595014bb1d131ce8a0d1bd6030f48c857d5ea685a0af8", func := "spinney/spinneylaw22.CoinsSets", spec := "coinsSets", inPlace := ["maps.clone"], unfollowed := true, recurses := true, named := ["spinney/sha.roundNumbers"], plainKeys := false, apart := false, laid := [("spinney/sha.roundNumbers", laid_spinney_sha_roundNumbers)], narrowed := true }
def CoinsSetsUptoSaid : Prop := coinsSetsUptoRow.holds Tryd.pinned (OpenSpec.upto coinsSetsSpec)

/-- 'spinneylaw22.CoinsKnown', WHERE WHAT IT READS IS OF BULK AT MOST 1048576: true; the input reads as it did. -/
def coinsKnownUptoRow : OpenClaim := { program := "ytnjepgcjlgglhaadoor", sum := "3f9d7e779eae89ee724595014bb1d131ce8a0d1bd6030f48c857d5ea685a0af8", func := "spinney/spinneylaw22.CoinsKnown", spec := "coinsKnown", inPlace := ["maps.clone"], unfollowed := true, recurses := true, named := ["spinney/sha.roundNumbers"], plainKeys := false, apart := false, laid := [("spinney/sha.roundNumbers", laid_spinney_sha_roundNumbers)], narrowed := true }
def CoinsKnownUptoSaid : Prop := coinsKnownUptoRow.holds Tryd.pinned (OpenSpec.upto coinsKnownSpec)

/-- 'spinneylaw22.CoinsConnect', WHERE WHAT IT READS IS OF BULK AT MOST 1048576: true; the input reads as it did. -/
def coinsConnectUptoRow : OpenClaim := { program := "ytnjepgcjlgglhaadoor", sum := "3f9d7e779eae89ee724595014bb1d131ce8a0d1bd6030f48c857d5ea685a0af8", func := "spinney/spinneylaw22.CoinsConnect", spec := "coinsConnect", unfollowed := true, recurses := true, named := ["spinney/sha.roundNumbers"], plainKeys := false, apart := false, laid := [("spinney/sha.roundNumbers", laid_spinney_sha_roundNumbers)], narrowed := true }
def CoinsConnectUptoSaid : Prop := coinsConnectUptoRow.holds Tryd.pinned (OpenSpec.upto coinsConnectSpec)

/-- 'spinneylaw22.CoinsKept', WHERE WHAT IT READS IS OF BULK AT MOST 1048576: true; the input reads as it did. -/
def coinsKeptUptoRow : OpenClaim := { program := "ytnjepgcjlgglhaadoor", sum := "3f9d7e779eae89ee724595014bb1d131ce8a0d1bd6030f48c857d5ea685a0af8", func := "spinney/spinneylaw22.CoinsKept", spec := "coinsKept", unfollowed := true, recurses := true, named := ["spinney/sha.roundNumbers"], plainKeys := false, apart := false, laid := [("spinney/sha.roundNumbers", laid_spinney_sha_roundNumbers)], narrowed := true }
def CoinsKeptUptoSaid : Prop := coinsKeptUptoRow.holds Tryd.pinned (OpenSpec.upto coinsKeptSpec)

/-- 'spinneylaw22.CoinsSame', WHERE WHAT IT READS IS OF BULK AT MOST 1048576: true; the input reads as it did. -/
def coinsSameUptoRow : OpenClaim := { program := "ytnjepgcjlgglhaadoor", sum := "3f9d7e779eae89ee724595014bb1d131ce8a0d1bd6030f48c857d5ea685a0af8", func := "spinney/spinneylaw22.CoinsSame", spec := "coinsSame", unfollowed := true, recurses := true, named := ["spinney/sha.roundNumbers"], plainKeys := false, apart := false, laid := [("spinney/sha.roundNumbers", laid_spinney_sha_roundNumbers)], narrowed := true }
def CoinsSameUptoSaid : Prop := coinsSameUptoRow.holds Tryd.pinned (OpenSpec.upto coinsSameSpec)

/-- 'spinneylaw22.CoinsHalved', WHERE WHAT IT READS IS OF BULK AT MOST 1048576: true; the input reads as it did. -/
def coinsHalvedUptoRow : OpenClaim := { program := "ytnjepgcjlgglhaadoor", sum := "3f9d7e779eae89ee724595014bb1d131ce8a0d1bd6030f48c857d5ea685a0af8", func := "spinney/spinneylaw22.CoinsHalved", spec := "coinsHalved", unfollowed := true, recurses := true, named := ["spinney/sha.roundNumbers"], plainKeys := false, apart := false, laid := [("spinney/sha.roundNumbers", laid_spinney_sha_roundNumbers)], narrowed := true }
def CoinsHalvedUptoSaid : Prop := coinsHalvedUptoRow.holds Tryd.pinned (OpenSpec.upto coinsHalvedSpec)

/-- 'spinneylaw22.CoinsContext', WHERE WHAT IT READS IS OF BULK AT MOST 1048576: true; the input reads as it did. -/
def coinsContextUptoRow : OpenClaim := { program := "ytnjepgcjlgglhaadoor", sum := "3f9d7e779eae89ee724595014bb1d131ce8a0d1bd6030f48c857d5ea685a0af8", func := "spinney/spinneylaw22.CoinsContext", spec := "coinsContext", unfollowed := true, recurses := true, named := ["spinney/sha.roundNumbers"], plainKeys := false, apart := false, laid := [("spinney/sha.roundNumbers", laid_spinney_sha_roundNumbers)], narrowed := true }
def CoinsContextUptoSaid : Prop := coinsContextUptoRow.holds Tryd.pinned (OpenSpec.upto coinsContextSpec)

/-- 'spinneylaw22.CoinsBack', WHERE WHAT IT READS IS OF BULK AT MOST 1048576: true; the input reads as it did. -/
def coinsBackUptoRow : OpenClaim := { program := "ytnjepgcjlgglhaadoor", sum := "3f9d7e779eae89ee724595014bb1d131ce8a0d1bd6030f48c857d5ea685a0af8", func := "spinney/spinneylaw22.CoinsBack", spec := "coinsBack", unfollowed := true, recurses := true, named := ["spinney/sha.roundNumbers"], plainKeys := false, apart := false, laid := [("spinney/sha.roundNumbers", laid_spinney_sha_roundNumbers)], narrowed := true }
def CoinsBackUptoSaid : Prop := coinsBackUptoRow.holds Tryd.pinned (OpenSpec.upto coinsBackSpec)

end Rows
end Go.Proofs.YtnjepgcjlgglhaaDoor

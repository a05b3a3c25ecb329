/-
  No cell of these rows narrows 'for every input' (looked for: loops, veiled, ifaces, maps, wideKeys, modest, calm, conditions, laid).
  DERIVED. THE GIVEN ROWS OF THIS SEAT. 3 by the template 'for every input the law returns true; each argument reads behind the call as it read before'; 0 by the template 'total and deterministic' (their statements: YtfcccfehojbihaaTotals.lean).
  GIVEN WITH THE SEED: the statements are not yours to turn. If you find one false, say at which input.
  Laid BY PROGRAM, IN A SANDBOX (cutbox-rows.mjs): the forced cells as the released guide's own fill.sh prints them over the translation 2e1b25c286f36ca6… (all of the seat's roots in one cut). By AI agents, Wed Nov 11 2026. No macro, syntax, notation, axiom, sorry.
-/
import Derived.Test.YtfcccfehojbihaaChecked
import GoSem.Claim
import GoSem.ClaimJoined
import GoSem.ClaimMapViews
import Derived.JoinedTies
import Derived.KernelRfl
namespace Go.Proofs.Ytfcccfehojbihaa
/- THE CELL 'sum', in the pinned program and in every row, IS THE sha256 OF THE DUMP (.gsa) THAT YtfcccfehojbihaaProg.lean LOADS. Nothing in Lean hashes anything: it is a label: what it is worth is what the hold of that sum in a sandbox is worth. -/
noncomputable def Try.pinned : Pinned := { name := "ytfcccfehojbihaa", sum := "2e1b25c286f36ca67b35b19c33c7ce8bc0a3e466ede9e18ddb6acc3dd7e898fc", checked := Try.checked }
namespace Rows
def none {H : Type} : Left H := { results := [], args := [] }

/-- 'spinneylaw23.DeviceOrder': WHATEVER THE INPUT: true; the input reads as it did. -/
def deviceOrderSpec : ChangeSpec := { name := "deviceOrder", fn := fun _ => fun
  | [d1, d2, d3] => { results := [.lit (.bool true)], args := [d1, d2, d3] }
  | _ => none }
def deviceOrderRow : OpenClaim := { program := "ytfcccfehojbihaa", sum := "2e1b25c286f36ca67b35b19c33c7ce8bc0a3e466ede9e18ddb6acc3dd7e898fc", func := "spinney/spinneylaw23.DeviceOrder", spec := "deviceOrder", unfollowed := true, recurses := true, apart := false }
def DeviceOrderSaid : Prop := deviceOrderRow.holds Try.pinned (OpenSpec.ofChange deviceOrderSpec)

/-- ITS FALSE NEIGHBOUR: 'it returns false'. Refute it at one input. -/
def deviceOrderWrong : ChangeSpec := { name := "deviceOrder", fn := fun _ => fun
  | [d1, d2, d3] => { results := [.lit (.bool false)], args := [d1, d2, d3] }
  | _ => none }
def DeviceOrderWrongFalsely : Prop := deviceOrderRow.holds Try.pinned (OpenSpec.ofChange deviceOrderWrong)

/-- 'spinneylaw23.DevicePlays': WHATEVER THE INPUT: true; the input reads as it did. -/
def devicePlaysSpec : ChangeSpec := { name := "devicePlays", fn := fun _ => fun
  | [d1, d2] => { results := [.lit (.bool true)], args := [d1, d2] }
  | _ => none }
def devicePlaysRow : OpenClaim := { program := "ytfcccfehojbihaa", sum := "2e1b25c286f36ca67b35b19c33c7ce8bc0a3e466ede9e18ddb6acc3dd7e898fc", func := "spinney/spinneylaw23.DevicePlays", spec := "devicePlays", unfollowed := true, recurses := true, apart := false }
def DevicePlaysSaid : Prop := devicePlaysRow.holds Try.pinned (OpenSpec.ofChange devicePlaysSpec)

/-- ITS FALSE NEIGHBOUR: 'it returns false'. Refute it at one input. -/
def devicePlaysWrong : ChangeSpec := { name := "devicePlays", fn := fun _ => fun
  | [d1, d2] => { results := [.lit (.bool false)], args := [d1, d2] }
  | _ => none }
def DevicePlaysWrongFalsely : Prop := devicePlaysRow.holds Try.pinned (OpenSpec.ofChange devicePlaysWrong)

/-- 'spinneylaw23.DeviceKnown': WHATEVER THE INPUT: true; the input reads as it did. -/
def deviceKnownSpec : ChangeSpec := { name := "deviceKnown", fn := fun _ => fun
  | [] => { results := [.lit (.bool true)], args := [] }
  | _ => none }
def deviceKnownRow : OpenClaim := { program := "ytfcccfehojbihaa", sum := "2e1b25c286f36ca67b35b19c33c7ce8bc0a3e466ede9e18ddb6acc3dd7e898fc", func := "spinney/spinneylaw23.DeviceKnown", spec := "deviceKnown", unfollowed := true, recurses := true, apart := false }
def DeviceKnownSaid : Prop := deviceKnownRow.holds Try.pinned (OpenSpec.ofChange deviceKnownSpec)

/-- ITS FALSE NEIGHBOUR: 'it returns false'. Refute it at one input. -/
def deviceKnownWrong : ChangeSpec := { name := "deviceKnown", fn := fun _ => fun
  | [] => { results := [.lit (.bool false)], args := [] }
  | _ => none }
def DeviceKnownWrongFalsely : Prop := deviceKnownRow.holds Try.pinned (OpenSpec.ofChange deviceKnownWrong)

/- THE SECOND FORM. 'bulk': how many values and letters a reading holds, each counted each time it is reached (what is shared counts as often as it is met; a slice's spare places count too). A statement '..UptoSaid' is the law's where the arguments, and the package variables that the reading takes, are together of bulk at most 1048576: NARROWER than '..Said'. Prove '..Said' where nothing that the law and all that it calls make is longer than what came in: it says more and counts as full. Else prove '..UptoSaid'. A law counts once. -/
mutual
def uptoBulk {H : Type} : DataW H → Nat
  | .lit (.string bytes) => bytes.length + 1
  | .lit _ => 1
  | .nil => 1
  | .ptr d => uptoBulk d + 1
  | .slice elems spare => uptoBulkAll elems + uptoBulkAll spare + 1
  | .agg parts => uptoBulkAll parts + 1
  | .iface _ d => uptoBulk d + 1
  | .map entries => uptoBulkEntries entries + 1
  | .held _ => 1
def uptoBulkAll {H : Type} : List (DataW H) → Nat
  | [] => 0
  | d :: r => uptoBulk d + uptoBulkAll r
def uptoBulkEntries {H : Type} : List (Lit × DataW H) → Nat
  | [] => 0
  | x :: r => uptoBulkEntry x + uptoBulkEntries r
def uptoBulkEntry {H : Type} : Lit × DataW H → Nat
  | (.string bytes, d) => bytes.length + uptoBulk d + 1
  | (_, d) => uptoBulk d + 1
 end
def uptoSmall : (H : Type) → List (DataW H) → Bool := fun _ ds => decide (uptoBulkAll ds ≤ 1048576)
def OpenSpec.upto (s : _root_.Go.ChangeSpec) : _root_.Go.OpenSpec := { _root_.Go.OpenSpec.ofChange s with cond := some uptoSmall }

/-- 'spinneylaw23.DeviceOrder', WHERE WHAT IT READS IS OF BULK AT MOST 1048576: true; the input reads as it did. -/
def deviceOrderUptoRow : OpenClaim := { program := "ytfcccfehojbihaa", sum := "2e1b25c286f36ca67b35b19c33c7ce8bc0a3e466ede9e18ddb6acc3dd7e898fc", func := "spinney/spinneylaw23.DeviceOrder", spec := "deviceOrder", unfollowed := true, recurses := true, apart := false, narrowed := true }
def DeviceOrderUptoSaid : Prop := deviceOrderUptoRow.holds Try.pinned (OpenSpec.upto deviceOrderSpec)

/-- 'spinneylaw23.DevicePlays', WHERE WHAT IT READS IS OF BULK AT MOST 1048576: true; the input reads as it did. -/
def devicePlaysUptoRow : OpenClaim := { program := "ytfcccfehojbihaa", sum := "2e1b25c286f36ca67b35b19c33c7ce8bc0a3e466ede9e18ddb6acc3dd7e898fc", func := "spinney/spinneylaw23.DevicePlays", spec := "devicePlays", unfollowed := true, recurses := true, apart := false, narrowed := true }
def DevicePlaysUptoSaid : Prop := devicePlaysUptoRow.holds Try.pinned (OpenSpec.upto devicePlaysSpec)

/-- 'spinneylaw23.DeviceKnown', WHERE WHAT IT READS IS OF BULK AT MOST 1048576: true; the input reads as it did. -/
def deviceKnownUptoRow : OpenClaim := { program := "ytfcccfehojbihaa", sum := "2e1b25c286f36ca67b35b19c33c7ce8bc0a3e466ede9e18ddb6acc3dd7e898fc", func := "spinney/spinneylaw23.DeviceKnown", spec := "deviceKnown", unfollowed := true, recurses := true, apart := false, narrowed := true }
def DeviceKnownUptoSaid : Prop := deviceKnownUptoRow.holds Try.pinned (OpenSpec.upto deviceKnownSpec)

end Rows
end Go.Proofs.Ytfcccfehojbihaa

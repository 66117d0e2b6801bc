/-
  No cell of these rows narrows 'for every input' (looked for: loops, veiled, ifaces, maps, wideKeys, modest, calm, conditions, laid).
  DERIVED. THE GIVEN ROWS OF THIS SEAT. 3 by the template 'for every input the law returns true; each argument reads behind the call as it read before'; 0 by the template 'total and deterministic' (their statements: YtgnahbjpockdmabTotals.lean).
  GIVEN WITH THE SEED: the statements are not yours to turn. If you find one false, say at which input.
  Laid BY PROGRAM, IN A SANDBOX (cutbox-rows.mjs): the forced cells as the released guide's own fill.sh prints them over the translation ae1be50fda5290a3… (all of the seat's roots in one cut). By AI agents, Wed Nov 11 2026. No macro, syntax, notation, axiom, sorry.
-/
import Derived.Test.YtgnahbjpockdmabChecked
import GoSem.Claim
import GoSem.ClaimJoined
import GoSem.ClaimMapViews
import Derived.JoinedTies
import Derived.KernelRfl
namespace Go.Proofs.Ytgnahbjpockdmab
/- THE CELL 'sum', in the pinned program and in every row, IS THE sha256 OF THE DUMP (.gsa) THAT YtgnahbjpockdmabProg.lean LOADS. Nothing in Lean hashes anything: it is a label: what it is worth is what the hold of that sum in a sandbox is worth. -/
noncomputable def Try.pinned : Pinned := { name := "ytgnahbjpockdmab", sum := "ae1be50fda5290a308aed342249d54c4244c8b9bec755f19ea6c74ebb16739b8", checked := Try.checked }
namespace Rows
def none {H : Type} : Left H := { results := [], args := [] }

/-- 'hinterlandlaw14.FleetRenews': WHATEVER THE INPUT: true; the input reads as it did. -/
def fleetRenewsSpec : ChangeSpec := { name := "fleetRenews", fn := fun _ => fun
  | [d1, d2, d3, d4] => { results := [.lit (.bool true)], args := [d1, d2, d3, d4] }
  | _ => none }
def fleetRenewsRow : OpenClaim := { program := "ytgnahbjpockdmab", sum := "ae1be50fda5290a308aed342249d54c4244c8b9bec755f19ea6c74ebb16739b8", func := "hinterland/hinterlandlaw14.FleetRenews", spec := "fleetRenews", unfollowed := true, recurses := true, apart := false }
def FleetRenewsSaid : Prop := fleetRenewsRow.holds Try.pinned (OpenSpec.ofChange fleetRenewsSpec)

/-- ITS FALSE NEIGHBOUR: 'it returns false'. Refute it at one input. -/
def fleetRenewsWrong : ChangeSpec := { name := "fleetRenews", fn := fun _ => fun
  | [d1, d2, d3, d4] => { results := [.lit (.bool false)], args := [d1, d2, d3, d4] }
  | _ => none }
def FleetRenewsWrongFalsely : Prop := fleetRenewsRow.holds Try.pinned (OpenSpec.ofChange fleetRenewsWrong)

/-- 'hinterlandlaw14.FleetDays': WHATEVER THE INPUT: true; the input reads as it did. -/
def fleetDaysSpec : ChangeSpec := { name := "fleetDays", fn := fun _ => fun
  | [d1, d2, d3] => { results := [.lit (.bool true)], args := [d1, d2, d3] }
  | _ => none }
def fleetDaysRow : OpenClaim := { program := "ytgnahbjpockdmab", sum := "ae1be50fda5290a308aed342249d54c4244c8b9bec755f19ea6c74ebb16739b8", func := "hinterland/hinterlandlaw14.FleetDays", spec := "fleetDays", unfollowed := true, recurses := true, apart := false }
def FleetDaysSaid : Prop := fleetDaysRow.holds Try.pinned (OpenSpec.ofChange fleetDaysSpec)

/-- ITS FALSE NEIGHBOUR: 'it returns false'. Refute it at one input. -/
def fleetDaysWrong : ChangeSpec := { name := "fleetDays", fn := fun _ => fun
  | [d1, d2, d3] => { results := [.lit (.bool false)], args := [d1, d2, d3] }
  | _ => none }
def FleetDaysWrongFalsely : Prop := fleetDaysRow.holds Try.pinned (OpenSpec.ofChange fleetDaysWrong)

/-- 'hinterlandlaw14.FleetWorthsFall': WHATEVER THE INPUT: true; the input reads as it did. -/
def fleetWorthsFallSpec : ChangeSpec := { name := "fleetWorthsFall", fn := fun _ => fun
  | [d1, d2, d3, d4] => { results := [.lit (.bool true)], args := [d1, d2, d3, d4] }
  | _ => none }
def fleetWorthsFallRow : OpenClaim := { program := "ytgnahbjpockdmab", sum := "ae1be50fda5290a308aed342249d54c4244c8b9bec755f19ea6c74ebb16739b8", func := "hinterland/hinterlandlaw14.FleetWorthsFall", spec := "fleetWorthsFall", unfollowed := true, recurses := true, apart := false }
def FleetWorthsFallSaid : Prop := fleetWorthsFallRow.holds Try.pinned (OpenSpec.ofChange fleetWorthsFallSpec)

/-- ITS FALSE NEIGHBOUR: 'it returns false'. Refute it at one input. -/
def fleetWorthsFallWrong : ChangeSpec := { name := "fleetWorthsFall", fn := fun _ => fun
  | [d1, d2, d3, d4] => { results := [.lit (.bool false)], args := [d1, d2, d3, d4] }
  | _ => none }
def FleetWorthsFallWrongFalsely : Prop := fleetWorthsFallRow.holds Try.pinned (OpenSpec.ofChange fleetWorthsFallWrong)

/- THE SECOND FORM. 'bulk': how many values and letters a reading holds, each counted each time it is reached (what is shared counts as often as it is met; a slice's spare places count too). A statement '..UptoSaid' is the law's where the arguments, and the package variables that the reading takes, are together of bulk at most 1048576: NARROWER than '..Said'. Prove '..Said' where nothing that the law and all that it calls make is longer than what came in: it says more and counts as full. Else prove '..UptoSaid'. A law counts once. -/
mutual
def uptoBulk {H : Type} : DataW H → Nat
  | .lit (.string bytes) => bytes.length + 1
  | .lit _ => 1
  | .nil => 1
  | .ptr d => uptoBulk d + 1
  | .slice elems spare => uptoBulkAll elems + uptoBulkAll spare + 1
  | .agg parts => uptoBulkAll parts + 1
  | .iface _ d => uptoBulk d + 1
  | .map entries => uptoBulkEntries entries + 1
  | .held _ => 1
def uptoBulkAll {H : Type} : List (DataW H) → Nat
  | [] => 0
  | d :: r => uptoBulk d + uptoBulkAll r
def uptoBulkEntries {H : Type} : List (Lit × DataW H) → Nat
  | [] => 0
  | x :: r => uptoBulkEntry x + uptoBulkEntries r
def uptoBulkEntry {H : Type} : Lit × DataW H → Nat
  | (.string bytes, d) => bytes.length + uptoBulk d + 1
  | (_, d) => uptoBulk d + 1
 end
def uptoSmall : (H : Type) → List (DataW H) → Bool := fun _ ds => decide (uptoBulkAll ds ≤ 1048576)
def OpenSpec.upto (s : _root_.Go.ChangeSpec) : _root_.Go.OpenSpec := { _root_.Go.OpenSpec.ofChange s with cond := some uptoSmall }

/-- 'hinterlandlaw14.FleetRenews', WHERE WHAT IT READS IS OF BULK AT MOST 1048576: true; the input reads as it did. -/
def fleetRenewsUptoRow : OpenClaim := { program := "ytgnahbjpockdmab", sum := "ae1be50fda5290a308aed342249d54c4244c8b9bec755f19ea6c74ebb16739b8", func := "hinterland/hinterlandlaw14.FleetRenews", spec := "fleetRenews", unfollowed := true, recurses := true, apart := false, narrowed := true }
def FleetRenewsUptoSaid : Prop := fleetRenewsUptoRow.holds Try.pinned (OpenSpec.upto fleetRenewsSpec)

/-- 'hinterlandlaw14.FleetDays', WHERE WHAT IT READS IS OF BULK AT MOST 1048576: true; the input reads as it did. -/
def fleetDaysUptoRow : OpenClaim := { program := "ytgnahbjpockdmab", sum := "ae1be50fda5290a308aed342249d54c4244c8b9bec755f19ea6c74ebb16739b8", func := "hinterland/hinterlandlaw14.FleetDays", spec := "fleetDays", unfollowed := true, recurses := true, apart := false, narrowed := true }
def FleetDaysUptoSaid : Prop := fleetDaysUptoRow.holds Try.pinned (OpenSpec.upto fleetDaysSpec)

/-- 'hinterlandlaw14.FleetWorthsFall', WHERE WHAT IT READS IS OF BULK AT MOST 1048576: true; the input reads as it did. -/
def fleetWorthsFallUptoRow : OpenClaim := { program := "ytgnahbjpockdmab", sum := "ae1be50fda5290a308aed342249d54c4244c8b9bec755f19ea6c74ebb16739b8", func := "hinterland/hinterlandlaw14.FleetWorthsFall", spec := "fleetWorthsFall", unfollowed := true, recurses := true, apart := false, narrowed := true }
def FleetWorthsFallUptoSaid : Prop := fleetWorthsFallUptoRow.holds Try.pinned (OpenSpec.upto fleetWorthsFallSpec)

end Rows
end Go.Proofs.Ytgnahbjpockdmab

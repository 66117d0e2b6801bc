/-
  No cell of these rows narrows 'for every input' (looked for: loops, veiled, ifaces, maps, wideKeys, modest, calm, conditions, laid).
  DERIVED. THE GIVEN ROWS OF THIS SEAT. 10 by the template 'for every input the law returns true; each argument reads behind the call as it read before'; 0 by the template 'total and deterministic' (their statements: YtmgccgiomnkbmaaTotals.lean).
  GIVEN WITH THE SEED: the statements are not yours to turn. If you find one false, say at which input.
  Laid BY PROGRAM, IN A SANDBOX (cutbox-rows.mjs): the forced cells as the released guide's own fill.sh prints them over the translation 1d50b327981ba961… (all of the seat's roots in one cut). By AI agents, Wed Nov 11 2026. No macro, syntax, notation, axiom, sorry.
-/
import Derived.Test.YtmgccgiomnkbmaaChecked
import GoSem.Claim
import GoSem.ClaimJoined
import GoSem.ClaimMapViews
import Derived.JoinedTies
import Derived.KernelRfl
namespace Go.Proofs.Ytmgccgiomnkbmaa
/- THE CELL 'sum', in the pinned program and in every row, IS THE sha256 OF THE DUMP (.gsa) THAT YtmgccgiomnkbmaaProg.lean LOADS. Nothing in Lean hashes anything: it is a label: what it is worth is what the hold of that sum in a sandbox is worth. -/
noncomputable def Try.pinned : Pinned := { name := "ytmgccgiomnkbmaa", sum := "1d50b327981ba96102254d81b333b1876e37ac5aa01f8e28f26a8b14e89e5642", checked := Try.checked }
namespace Rows
def none {H : Type} : Left H := { results := [], args := [] }

/-- 'hinterlandlaw01.RollOrder': WHATEVER THE INPUT: true; the input reads as it did. -/
def rollOrderSpec : ChangeSpec := { name := "rollOrder", fn := fun _ => fun
  | [d1, d2] => { results := [.lit (.bool true)], args := [d1, d2] }
  | _ => none }
def rollOrderRow : OpenClaim := { program := "ytmgccgiomnkbmaa", sum := "1d50b327981ba96102254d81b333b1876e37ac5aa01f8e28f26a8b14e89e5642", func := "hinterland/hinterlandlaw01.RollOrder", spec := "rollOrder", apart := false }
def RollOrderSaid : Prop := rollOrderRow.holds Try.pinned (OpenSpec.ofChange rollOrderSpec)

/-- ITS FALSE NEIGHBOUR: 'it returns false'. Refute it at one input. -/
def rollOrderWrong : ChangeSpec := { name := "rollOrder", fn := fun _ => fun
  | [d1, d2] => { results := [.lit (.bool false)], args := [d1, d2] }
  | _ => none }
def RollOrderWrongFalsely : Prop := rollOrderRow.holds Try.pinned (OpenSpec.ofChange rollOrderWrong)

/-- 'hinterlandlaw01.RollSkips': WHATEVER THE INPUT: true; the input reads as it did. -/
def rollSkipsSpec : ChangeSpec := { name := "rollSkips", fn := fun _ => fun
  | [d1, d2, d3] => { results := [.lit (.bool true)], args := [d1, d2, d3] }
  | _ => none }
def rollSkipsRow : OpenClaim := { program := "ytmgccgiomnkbmaa", sum := "1d50b327981ba96102254d81b333b1876e37ac5aa01f8e28f26a8b14e89e5642", func := "hinterland/hinterlandlaw01.RollSkips", spec := "rollSkips", apart := false }
def RollSkipsSaid : Prop := rollSkipsRow.holds Try.pinned (OpenSpec.ofChange rollSkipsSpec)

/-- ITS FALSE NEIGHBOUR: 'it returns false'. Refute it at one input. -/
def rollSkipsWrong : ChangeSpec := { name := "rollSkips", fn := fun _ => fun
  | [d1, d2, d3] => { results := [.lit (.bool false)], args := [d1, d2, d3] }
  | _ => none }
def RollSkipsWrongFalsely : Prop := rollSkipsRow.holds Try.pinned (OpenSpec.ofChange rollSkipsWrong)

/-- 'hinterlandlaw01.RollStreams': WHATEVER THE INPUT: true; the input reads as it did. -/
def rollStreamsSpec : ChangeSpec := { name := "rollStreams", fn := fun _ => fun
  | [d1, d2] => { results := [.lit (.bool true)], args := [d1, d2] }
  | _ => none }
def rollStreamsRow : OpenClaim := { program := "ytmgccgiomnkbmaa", sum := "1d50b327981ba96102254d81b333b1876e37ac5aa01f8e28f26a8b14e89e5642", func := "hinterland/hinterlandlaw01.RollStreams", spec := "rollStreams", apart := false }
def RollStreamsSaid : Prop := rollStreamsRow.holds Try.pinned (OpenSpec.ofChange rollStreamsSpec)

/-- ITS FALSE NEIGHBOUR: 'it returns false'. Refute it at one input. -/
def rollStreamsWrong : ChangeSpec := { name := "rollStreams", fn := fun _ => fun
  | [d1, d2] => { results := [.lit (.bool false)], args := [d1, d2] }
  | _ => none }
def RollStreamsWrongFalsely : Prop := rollStreamsRow.holds Try.pinned (OpenSpec.ofChange rollStreamsWrong)

/-- 'hinterlandlaw01.RollEnds': WHATEVER THE INPUT: true; the input reads as it did. -/
def rollEndsSpec : ChangeSpec := { name := "rollEnds", fn := fun _ => fun
  | [d] => { results := [.lit (.bool true)], args := [d] }
  | _ => none }
def rollEndsRow : OpenClaim := { program := "ytmgccgiomnkbmaa", sum := "1d50b327981ba96102254d81b333b1876e37ac5aa01f8e28f26a8b14e89e5642", func := "hinterland/hinterlandlaw01.RollEnds", spec := "rollEnds", apart := false }
def RollEndsSaid : Prop := rollEndsRow.holds Try.pinned (OpenSpec.ofChange rollEndsSpec)

/-- ITS FALSE NEIGHBOUR: 'it returns false'. Refute it at one input. -/
def rollEndsWrong : ChangeSpec := { name := "rollEnds", fn := fun _ => fun
  | [d] => { results := [.lit (.bool false)], args := [d] }
  | _ => none }
def RollEndsWrongFalsely : Prop := rollEndsRow.holds Try.pinned (OpenSpec.ofChange rollEndsWrong)

/-- 'hinterlandlaw01.RollDates': WHATEVER THE INPUT: true; the input reads as it did. -/
def rollDatesSpec : ChangeSpec := { name := "rollDates", fn := fun _ => fun
  | [d] => { results := [.lit (.bool true)], args := [d] }
  | _ => none }
def rollDatesRow : OpenClaim := { program := "ytmgccgiomnkbmaa", sum := "1d50b327981ba96102254d81b333b1876e37ac5aa01f8e28f26a8b14e89e5642", func := "hinterland/hinterlandlaw01.RollDates", spec := "rollDates", apart := false }
def RollDatesSaid : Prop := rollDatesRow.holds Try.pinned (OpenSpec.ofChange rollDatesSpec)

/-- ITS FALSE NEIGHBOUR: 'it returns false'. Refute it at one input. -/
def rollDatesWrong : ChangeSpec := { name := "rollDates", fn := fun _ => fun
  | [d] => { results := [.lit (.bool false)], args := [d] }
  | _ => none }
def RollDatesWrongFalsely : Prop := rollDatesRow.holds Try.pinned (OpenSpec.ofChange rollDatesWrong)

/-- 'hinterlandlaw01.RollDays': WHATEVER THE INPUT: true; the input reads as it did. -/
def rollDaysSpec : ChangeSpec := { name := "rollDays", fn := fun _ => fun
  | [d] => { results := [.lit (.bool true)], args := [d] }
  | _ => none }
def rollDaysRow : OpenClaim := { program := "ytmgccgiomnkbmaa", sum := "1d50b327981ba96102254d81b333b1876e37ac5aa01f8e28f26a8b14e89e5642", func := "hinterland/hinterlandlaw01.RollDays", spec := "rollDays", apart := false }
def RollDaysSaid : Prop := rollDaysRow.holds Try.pinned (OpenSpec.ofChange rollDaysSpec)

/-- ITS FALSE NEIGHBOUR: 'it returns false'. Refute it at one input. -/
def rollDaysWrong : ChangeSpec := { name := "rollDays", fn := fun _ => fun
  | [d] => { results := [.lit (.bool false)], args := [d] }
  | _ => none }
def RollDaysWrongFalsely : Prop := rollDaysRow.holds Try.pinned (OpenSpec.ofChange rollDaysWrong)

/-- 'hinterlandlaw01.RollBelow': WHATEVER THE INPUT: true; the input reads as it did. -/
def rollBelowSpec : ChangeSpec := { name := "rollBelow", fn := fun _ => fun
  | [d1, d2] => { results := [.lit (.bool true)], args := [d1, d2] }
  | _ => none }
def rollBelowRow : OpenClaim := { program := "ytmgccgiomnkbmaa", sum := "1d50b327981ba96102254d81b333b1876e37ac5aa01f8e28f26a8b14e89e5642", func := "hinterland/hinterlandlaw01.RollBelow", spec := "rollBelow", apart := false }
def RollBelowSaid : Prop := rollBelowRow.holds Try.pinned (OpenSpec.ofChange rollBelowSpec)

/-- ITS FALSE NEIGHBOUR: 'it returns false'. Refute it at one input. -/
def rollBelowWrong : ChangeSpec := { name := "rollBelow", fn := fun _ => fun
  | [d1, d2] => { results := [.lit (.bool false)], args := [d1, d2] }
  | _ => none }
def RollBelowWrongFalsely : Prop := rollBelowRow.holds Try.pinned (OpenSpec.ofChange rollBelowWrong)

/-- 'hinterlandlaw01.RollChances': WHATEVER THE INPUT: true; the input reads as it did. -/
def rollChancesSpec : ChangeSpec := { name := "rollChances", fn := fun _ => fun
  | [d1, d2, d3] => { results := [.lit (.bool true)], args := [d1, d2, d3] }
  | _ => none }
def rollChancesRow : OpenClaim := { program := "ytmgccgiomnkbmaa", sum := "1d50b327981ba96102254d81b333b1876e37ac5aa01f8e28f26a8b14e89e5642", func := "hinterland/hinterlandlaw01.RollChances", spec := "rollChances", apart := false }
def RollChancesSaid : Prop := rollChancesRow.holds Try.pinned (OpenSpec.ofChange rollChancesSpec)

/-- ITS FALSE NEIGHBOUR: 'it returns false'. Refute it at one input. -/
def rollChancesWrong : ChangeSpec := { name := "rollChances", fn := fun _ => fun
  | [d1, d2, d3] => { results := [.lit (.bool false)], args := [d1, d2, d3] }
  | _ => none }
def RollChancesWrongFalsely : Prop := rollChancesRow.holds Try.pinned (OpenSpec.ofChange rollChancesWrong)

/-- 'hinterlandlaw01.RollPicks': WHATEVER THE INPUT: true; the input reads as it did. -/
def rollPicksSpec : ChangeSpec := { name := "rollPicks", fn := fun _ => fun
  | [d1, d2] => { results := [.lit (.bool true)], args := [d1, d2] }
  | _ => none }
def rollPicksRow : OpenClaim := { program := "ytmgccgiomnkbmaa", sum := "1d50b327981ba96102254d81b333b1876e37ac5aa01f8e28f26a8b14e89e5642", func := "hinterland/hinterlandlaw01.RollPicks", spec := "rollPicks", unfollowed := true, recurses := true, apart := false }
def RollPicksSaid : Prop := rollPicksRow.holds Try.pinned (OpenSpec.ofChange rollPicksSpec)

/-- ITS FALSE NEIGHBOUR: 'it returns false'. Refute it at one input. -/
def rollPicksWrong : ChangeSpec := { name := "rollPicks", fn := fun _ => fun
  | [d1, d2] => { results := [.lit (.bool false)], args := [d1, d2] }
  | _ => none }
def RollPicksWrongFalsely : Prop := rollPicksRow.holds Try.pinned (OpenSpec.ofChange rollPicksWrong)

/-- 'hinterlandlaw01.RollShuffles': WHATEVER THE INPUT: true; the input reads as it did. -/
def rollShufflesSpec : ChangeSpec := { name := "rollShuffles", fn := fun _ => fun
  | [d1, d2] => { results := [.lit (.bool true)], args := [d1, d2] }
  | _ => none }
def rollShufflesRow : OpenClaim := { program := "ytmgccgiomnkbmaa", sum := "1d50b327981ba96102254d81b333b1876e37ac5aa01f8e28f26a8b14e89e5642", func := "hinterland/hinterlandlaw01.RollShuffles", spec := "rollShuffles", unfollowed := true, recurses := true, apart := false }
def RollShufflesSaid : Prop := rollShufflesRow.holds Try.pinned (OpenSpec.ofChange rollShufflesSpec)

/-- ITS FALSE NEIGHBOUR: 'it returns false'. Refute it at one input. -/
def rollShufflesWrong : ChangeSpec := { name := "rollShuffles", fn := fun _ => fun
  | [d1, d2] => { results := [.lit (.bool false)], args := [d1, d2] }
  | _ => none }
def RollShufflesWrongFalsely : Prop := rollShufflesRow.holds Try.pinned (OpenSpec.ofChange rollShufflesWrong)

/- THE SECOND FORM. 'bulk': how many values and letters a reading holds, each counted each time it is reached (what is shared counts as often as it is met; a slice's spare places count too). A statement '..UptoSaid' is the law's where the arguments, and the package variables that the reading takes, are together of bulk at most 1048576: NARROWER than '..Said'. Prove '..Said' where nothing that the law and all that it calls make is longer than what came in: it says more and counts as full. Else prove '..UptoSaid'. A law counts once. -/
mutual
def uptoBulk {H : Type} : DataW H → Nat
  | .lit (.string bytes) => bytes.length + 1
  | .lit _ => 1
  | .nil => 1
  | .ptr d => uptoBulk d + 1
  | .slice elems spare => uptoBulkAll elems + uptoBulkAll spare + 1
  | .agg parts => uptoBulkAll parts + 1
  | .iface _ d => uptoBulk d + 1
  | .map entries => uptoBulkEntries entries + 1
  | .held _ => 1
def uptoBulkAll {H : Type} : List (DataW H) → Nat
  | [] => 0
  | d :: r => uptoBulk d + uptoBulkAll r
def uptoBulkEntries {H : Type} : List (Lit × DataW H) → Nat
  | [] => 0
  | x :: r => uptoBulkEntry x + uptoBulkEntries r
def uptoBulkEntry {H : Type} : Lit × DataW H → Nat
  | (.string bytes, d) => bytes.length + uptoBulk d + 1
  | (_, d) => uptoBulk d + 1
 end
def uptoSmall : (H : Type) → List (DataW H) → Bool := fun _ ds => decide (uptoBulkAll ds ≤ 1048576)
def OpenSpec.upto (s : _root_.Go.ChangeSpec) : _root_.Go.OpenSpec := { _root_.Go.OpenSpec.ofChange s with cond := some uptoSmall }

/-- 'hinterlandlaw01.RollOrder', WHERE WHAT IT READS IS OF BULK AT MOST 1048576: true; the input reads as it did. -/
def rollOrderUptoRow : OpenClaim := { program := "ytmgccgiomnkbmaa", sum := "1d50b327981ba96102254d81b333b1876e37ac5aa01f8e28f26a8b14e89e5642", func := "hinterland/hinterlandlaw01.RollOrder", spec := "rollOrder", apart := false, narrowed := true }
def RollOrderUptoSaid : Prop := rollOrderUptoRow.holds Try.pinned (OpenSpec.upto rollOrderSpec)

/-- 'hinterlandlaw01.RollSkips', WHERE WHAT IT READS IS OF BULK AT MOST 1048576: true; the input reads as it did. -/
def rollSkipsUptoRow : OpenClaim := { program := "ytmgccgiomnkbmaa", sum := "1d50b327981ba96102254d81b333b1876e37ac5aa01f8e28f26a8b14e89e5642", func := "hinterland/hinterlandlaw01.RollSkips", spec := "rollSkips", apart := false, narrowed := true }
def RollSkipsUptoSaid : Prop := rollSkipsUptoRow.holds Try.pinned (OpenSpec.upto rollSkipsSpec)

/-- 'hinterlandlaw01.RollStreams', WHERE WHAT IT READS IS OF BULK AT MOST 1048576: true; the input reads as it did. -/
def rollStreamsUptoRow : OpenClaim := { program := "ytmgccgiomnkbmaa", sum := "1d50b327981ba96102254d81b333b1876e37ac5aa01f8e28f26a8b14e89e5642", func := "hinterland/hinterlandlaw01.RollStreams", spec := "rollStreams", apart := false, narrowed := true }
def RollStreamsUptoSaid : Prop := rollStreamsUptoRow.holds Try.pinned (OpenSpec.upto rollStreamsSpec)

/-- 'hinterlandlaw01.RollEnds', WHERE WHAT IT READS IS OF BULK AT MOST 1048576: true; the input reads as it did. -/
def rollEndsUptoRow : OpenClaim := { program := "ytmgccgiomnkbmaa", sum := "1d50b327981ba96102254d81b333b1876e37ac5aa01f8e28f26a8b14e89e5642", func := "hinterland/hinterlandlaw01.RollEnds", spec := "rollEnds", apart := false, narrowed := true }
def RollEndsUptoSaid : Prop := rollEndsUptoRow.holds Try.pinned (OpenSpec.upto rollEndsSpec)

/-- 'hinterlandlaw01.RollDates', WHERE WHAT IT READS IS OF BULK AT MOST 1048576: true; the input reads as it did. -/
def rollDatesUptoRow : OpenClaim := { program := "ytmgccgiomnkbmaa", sum := "1d50b327981ba96102254d81b333b1876e37ac5aa01f8e28f26a8b14e89e5642", func := "hinterland/hinterlandlaw01.RollDates", spec := "rollDates", apart := false, narrowed := true }
def RollDatesUptoSaid : Prop := rollDatesUptoRow.holds Try.pinned (OpenSpec.upto rollDatesSpec)

/-- 'hinterlandlaw01.RollDays', WHERE WHAT IT READS IS OF BULK AT MOST 1048576: true; the input reads as it did. -/
def rollDaysUptoRow : OpenClaim := { program := "ytmgccgiomnkbmaa", sum := "1d50b327981ba96102254d81b333b1876e37ac5aa01f8e28f26a8b14e89e5642", func := "hinterland/hinterlandlaw01.RollDays", spec := "rollDays", apart := false, narrowed := true }
def RollDaysUptoSaid : Prop := rollDaysUptoRow.holds Try.pinned (OpenSpec.upto rollDaysSpec)

/-- 'hinterlandlaw01.RollBelow', WHERE WHAT IT READS IS OF BULK AT MOST 1048576: true; the input reads as it did. -/
def rollBelowUptoRow : OpenClaim := { program := "ytmgccgiomnkbmaa", sum := "1d50b327981ba96102254d81b333b1876e37ac5aa01f8e28f26a8b14e89e5642", func := "hinterland/hinterlandlaw01.RollBelow", spec := "rollBelow", apart := false, narrowed := true }
def RollBelowUptoSaid : Prop := rollBelowUptoRow.holds Try.pinned (OpenSpec.upto rollBelowSpec)

/-- 'hinterlandlaw01.RollChances', WHERE WHAT IT READS IS OF BULK AT MOST 1048576: true; the input reads as it did. -/
def rollChancesUptoRow : OpenClaim := { program := "ytmgccgiomnkbmaa", sum := "1d50b327981ba96102254d81b333b1876e37ac5aa01f8e28f26a8b14e89e5642", func := "hinterland/hinterlandlaw01.RollChances", spec := "rollChances", apart := false, narrowed := true }
def RollChancesUptoSaid : Prop := rollChancesUptoRow.holds Try.pinned (OpenSpec.upto rollChancesSpec)

/-- 'hinterlandlaw01.RollPicks', WHERE WHAT IT READS IS OF BULK AT MOST 1048576: true; the input reads as it did. -/
def rollPicksUptoRow : OpenClaim := { program := "ytmgccgiomnkbmaa", sum := "1d50b327981ba96102254d81b333b1876e37ac5aa01f8e28f26a8b14e89e5642", func := "hinterland/hinterlandlaw01.RollPicks", spec := "rollPicks", unfollowed := true, recurses := true, apart := false, narrowed := true }
def RollPicksUptoSaid : Prop := rollPicksUptoRow.holds Try.pinned (OpenSpec.upto rollPicksSpec)

/-- 'hinterlandlaw01.RollShuffles', WHERE WHAT IT READS IS OF BULK AT MOST 1048576: true; the input reads as it did. -/
def rollShufflesUptoRow : OpenClaim := { program := "ytmgccgiomnkbmaa", sum := "1d50b327981ba96102254d81b333b1876e37ac5aa01f8e28f26a8b14e89e5642", func := "hinterland/hinterlandlaw01.RollShuffles", spec := "rollShuffles", unfollowed := true, recurses := true, apart := false, narrowed := true }
def RollShufflesUptoSaid : Prop := rollShufflesUptoRow.holds Try.pinned (OpenSpec.upto rollShufflesSpec)

end Rows
end Go.Proofs.Ytmgccgiomnkbmaa

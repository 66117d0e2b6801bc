/-
  No cell of these rows narrows 'for every input' (looked for: loops, veiled, ifaces, maps, wideKeys, modest, calm, conditions, laid).
  DERIVED. THE GIVEN ROWS OF THIS SEAT. 12 by the template 'for every input the law returns true; each argument reads behind the call as it read before'; 0 by the template 'total and deterministic' (their statements: YtchflcnegpnkkaaTotals.lean).
  GIVEN WITH THE SEED: the statements are not yours to turn. If you find one false, say at which input.
  Laid BY PROGRAM, IN A SANDBOX (cutbox-rows.mjs): the forced cells as the released guide's own fill.sh prints them over the translation 733761cfdd44b230… (all of the seat's roots in one cut). By AI agents, Wed Nov 11 2026. No macro, syntax, notation, axiom, sorry.
-/
import Derived.Test.YtchflcnegpnkkaaChecked
import GoSem.Claim
import GoSem.ClaimJoined
import GoSem.ClaimMapViews
import Derived.JoinedTies
import Derived.KernelRfl
namespace Go.Proofs.Ytchflcnegpnkkaa
/- THE CELL 'sum', in the pinned program and in every row, IS THE sha256 OF THE DUMP (.gsa) THAT YtchflcnegpnkkaaProg.lean LOADS. Nothing in Lean hashes anything: it is a label: what it is worth is what the hold of that sum in a sandbox is worth. -/
noncomputable def Try.pinned : Pinned := { name := "ytchflcnegpnkkaa", sum := "733761cfdd44b230e45b127f2316618ca748eb32d048a2638b15fae52910f4f3", checked := Try.checked }
namespace Rows
def none {H : Type} : Left H := { results := [], args := [] }

/-- 'hinterlandlaw02.LandValidates': WHATEVER THE INPUT: true; the input reads as it did. -/
def landValidatesSpec : ChangeSpec := { name := "landValidates", fn := fun _ => fun
  | [d] => { results := [.lit (.bool true)], args := [d] }
  | _ => none }
def landValidatesRow : OpenClaim := { program := "ytchflcnegpnkkaa", sum := "733761cfdd44b230e45b127f2316618ca748eb32d048a2638b15fae52910f4f3", func := "hinterland/hinterlandlaw02.LandValidates", spec := "landValidates", apart := false }
def LandValidatesSaid : Prop := landValidatesRow.holds Try.pinned (OpenSpec.ofChange landValidatesSpec)

/-- ITS FALSE NEIGHBOUR: 'it returns false'. Refute it at one input. -/
def landValidatesWrong : ChangeSpec := { name := "landValidates", fn := fun _ => fun
  | [d] => { results := [.lit (.bool false)], args := [d] }
  | _ => none }
def LandValidatesWrongFalsely : Prop := landValidatesRow.holds Try.pinned (OpenSpec.ofChange landValidatesWrong)

/-- 'hinterlandlaw02.LandShifts': WHATEVER THE INPUT: true; the input reads as it did. -/
def landShiftsSpec : ChangeSpec := { name := "landShifts", fn := fun _ => fun
  | [d1, d2, d3, d4, d5] => { results := [.lit (.bool true)], args := [d1, d2, d3, d4, d5] }
  | _ => none }
def landShiftsRow : OpenClaim := { program := "ytchflcnegpnkkaa", sum := "733761cfdd44b230e45b127f2316618ca748eb32d048a2638b15fae52910f4f3", func := "hinterland/hinterlandlaw02.LandShifts", spec := "landShifts", apart := false }
def LandShiftsSaid : Prop := landShiftsRow.holds Try.pinned (OpenSpec.ofChange landShiftsSpec)

/-- ITS FALSE NEIGHBOUR: 'it returns false'. Refute it at one input. -/
def landShiftsWrong : ChangeSpec := { name := "landShifts", fn := fun _ => fun
  | [d1, d2, d3, d4, d5] => { results := [.lit (.bool false)], args := [d1, d2, d3, d4, d5] }
  | _ => none }
def LandShiftsWrongFalsely : Prop := landShiftsRow.holds Try.pinned (OpenSpec.ofChange landShiftsWrong)

/-- 'hinterlandlaw02.LandShiftsLeast': WHATEVER THE INPUT: true; the input reads as it did. -/
def landShiftsLeastSpec : ChangeSpec := { name := "landShiftsLeast", fn := fun _ => fun
  | [d1, d2, d3, d4, d5] => { results := [.lit (.bool true)], args := [d1, d2, d3, d4, d5] }
  | _ => none }
def landShiftsLeastRow : OpenClaim := { program := "ytchflcnegpnkkaa", sum := "733761cfdd44b230e45b127f2316618ca748eb32d048a2638b15fae52910f4f3", func := "hinterland/hinterlandlaw02.LandShiftsLeast", spec := "landShiftsLeast", apart := false }
def LandShiftsLeastSaid : Prop := landShiftsLeastRow.holds Try.pinned (OpenSpec.ofChange landShiftsLeastSpec)

/-- ITS FALSE NEIGHBOUR: 'it returns false'. Refute it at one input. -/
def landShiftsLeastWrong : ChangeSpec := { name := "landShiftsLeast", fn := fun _ => fun
  | [d1, d2, d3, d4, d5] => { results := [.lit (.bool false)], args := [d1, d2, d3, d4, d5] }
  | _ => none }
def LandShiftsLeastWrongFalsely : Prop := landShiftsLeastRow.holds Try.pinned (OpenSpec.ofChange landShiftsLeastWrong)

/-- 'hinterlandlaw02.LandLevels': WHATEVER THE INPUT: true; the input reads as it did. -/
def landLevelsSpec : ChangeSpec := { name := "landLevels", fn := fun _ => fun
  | [d1, d2, d3, d4] => { results := [.lit (.bool true)], args := [d1, d2, d3, d4] }
  | _ => none }
def landLevelsRow : OpenClaim := { program := "ytchflcnegpnkkaa", sum := "733761cfdd44b230e45b127f2316618ca748eb32d048a2638b15fae52910f4f3", func := "hinterland/hinterlandlaw02.LandLevels", spec := "landLevels", apart := false }
def LandLevelsSaid : Prop := landLevelsRow.holds Try.pinned (OpenSpec.ofChange landLevelsSpec)

/-- ITS FALSE NEIGHBOUR: 'it returns false'. Refute it at one input. -/
def landLevelsWrong : ChangeSpec := { name := "landLevels", fn := fun _ => fun
  | [d1, d2, d3, d4] => { results := [.lit (.bool false)], args := [d1, d2, d3, d4] }
  | _ => none }
def LandLevelsWrongFalsely : Prop := landLevelsRow.holds Try.pinned (OpenSpec.ofChange landLevelsWrong)

/-- 'hinterlandlaw02.LandParses': WHATEVER THE INPUT: true; the input reads as it did. -/
def landParsesSpec : ChangeSpec := { name := "landParses", fn := fun _ => fun
  | [d] => { results := [.lit (.bool true)], args := [d] }
  | _ => none }
def landParsesRow : OpenClaim := { program := "ytchflcnegpnkkaa", sum := "733761cfdd44b230e45b127f2316618ca748eb32d048a2638b15fae52910f4f3", func := "hinterland/hinterlandlaw02.LandParses", spec := "landParses", apart := false }
def LandParsesSaid : Prop := landParsesRow.holds Try.pinned (OpenSpec.ofChange landParsesSpec)

/-- ITS FALSE NEIGHBOUR: 'it returns false'. Refute it at one input. -/
def landParsesWrong : ChangeSpec := { name := "landParses", fn := fun _ => fun
  | [d] => { results := [.lit (.bool false)], args := [d] }
  | _ => none }
def LandParsesWrongFalsely : Prop := landParsesRow.holds Try.pinned (OpenSpec.ofChange landParsesWrong)

/-- 'hinterlandlaw02.LandSlopes': WHATEVER THE INPUT: true; the input reads as it did. -/
def landSlopesSpec : ChangeSpec := { name := "landSlopes", fn := fun _ => fun
  | [d1, d2] => { results := [.lit (.bool true)], args := [d1, d2] }
  | _ => none }
def landSlopesRow : OpenClaim := { program := "ytchflcnegpnkkaa", sum := "733761cfdd44b230e45b127f2316618ca748eb32d048a2638b15fae52910f4f3", func := "hinterland/hinterlandlaw02.LandSlopes", spec := "landSlopes", apart := false }
def LandSlopesSaid : Prop := landSlopesRow.holds Try.pinned (OpenSpec.ofChange landSlopesSpec)

/-- ITS FALSE NEIGHBOUR: 'it returns false'. Refute it at one input. -/
def landSlopesWrong : ChangeSpec := { name := "landSlopes", fn := fun _ => fun
  | [d1, d2] => { results := [.lit (.bool false)], args := [d1, d2] }
  | _ => none }
def LandSlopesWrongFalsely : Prop := landSlopesRow.holds Try.pinned (OpenSpec.ofChange landSlopesWrong)

/-- 'hinterlandlaw02.LandSettles': WHATEVER THE INPUT: true; the input reads as it did. -/
def landSettlesSpec : ChangeSpec := { name := "landSettles", fn := fun _ => fun
  | [d1, d2, d3] => { results := [.lit (.bool true)], args := [d1, d2, d3] }
  | _ => none }
def landSettlesRow : OpenClaim := { program := "ytchflcnegpnkkaa", sum := "733761cfdd44b230e45b127f2316618ca748eb32d048a2638b15fae52910f4f3", func := "hinterland/hinterlandlaw02.LandSettles", spec := "landSettles", apart := false }
def LandSettlesSaid : Prop := landSettlesRow.holds Try.pinned (OpenSpec.ofChange landSettlesSpec)

/-- ITS FALSE NEIGHBOUR: 'it returns false'. Refute it at one input. -/
def landSettlesWrong : ChangeSpec := { name := "landSettles", fn := fun _ => fun
  | [d1, d2, d3] => { results := [.lit (.bool false)], args := [d1, d2, d3] }
  | _ => none }
def LandSettlesWrongFalsely : Prop := landSettlesRow.holds Try.pinned (OpenSpec.ofChange landSettlesWrong)

/-- 'hinterlandlaw02.LandSettlesMost': WHATEVER THE INPUT: true; the input reads as it did. -/
def landSettlesMostSpec : ChangeSpec := { name := "landSettlesMost", fn := fun _ => fun
  | [d1, d2, d3, d4] => { results := [.lit (.bool true)], args := [d1, d2, d3, d4] }
  | _ => none }
def landSettlesMostRow : OpenClaim := { program := "ytchflcnegpnkkaa", sum := "733761cfdd44b230e45b127f2316618ca748eb32d048a2638b15fae52910f4f3", func := "hinterland/hinterlandlaw02.LandSettlesMost", spec := "landSettlesMost", apart := false }
def LandSettlesMostSaid : Prop := landSettlesMostRow.holds Try.pinned (OpenSpec.ofChange landSettlesMostSpec)

/-- ITS FALSE NEIGHBOUR: 'it returns false'. Refute it at one input. -/
def landSettlesMostWrong : ChangeSpec := { name := "landSettlesMost", fn := fun _ => fun
  | [d1, d2, d3, d4] => { results := [.lit (.bool false)], args := [d1, d2, d3, d4] }
  | _ => none }
def LandSettlesMostWrongFalsely : Prop := landSettlesMostRow.holds Try.pinned (OpenSpec.ofChange landSettlesMostWrong)

/-- 'hinterlandlaw02.LandSnows': WHATEVER THE INPUT: true; the input reads as it did. -/
def landSnowsSpec : ChangeSpec := { name := "landSnows", fn := fun _ => fun
  | [d1, d2, d3, d4] => { results := [.lit (.bool true)], args := [d1, d2, d3, d4] }
  | _ => none }
def landSnowsRow : OpenClaim := { program := "ytchflcnegpnkkaa", sum := "733761cfdd44b230e45b127f2316618ca748eb32d048a2638b15fae52910f4f3", func := "hinterland/hinterlandlaw02.LandSnows", spec := "landSnows", apart := false }
def LandSnowsSaid : Prop := landSnowsRow.holds Try.pinned (OpenSpec.ofChange landSnowsSpec)

/-- ITS FALSE NEIGHBOUR: 'it returns false'. Refute it at one input. -/
def landSnowsWrong : ChangeSpec := { name := "landSnows", fn := fun _ => fun
  | [d1, d2, d3, d4] => { results := [.lit (.bool false)], args := [d1, d2, d3, d4] }
  | _ => none }
def LandSnowsWrongFalsely : Prop := landSnowsRow.holds Try.pinned (OpenSpec.ofChange landSnowsWrong)

/-- 'hinterlandlaw02.LandTexts': WHATEVER THE INPUT: true; the input reads as it did. -/
def landTextsSpec : ChangeSpec := { name := "landTexts", fn := fun _ => fun
  | [d] => { results := [.lit (.bool true)], args := [d] }
  | _ => none }
def landTextsRow : OpenClaim := { program := "ytchflcnegpnkkaa", sum := "733761cfdd44b230e45b127f2316618ca748eb32d048a2638b15fae52910f4f3", func := "hinterland/hinterlandlaw02.LandTexts", spec := "landTexts", apart := false }
def LandTextsSaid : Prop := landTextsRow.holds Try.pinned (OpenSpec.ofChange landTextsSpec)

/-- ITS FALSE NEIGHBOUR: 'it returns false'. Refute it at one input. -/
def landTextsWrong : ChangeSpec := { name := "landTexts", fn := fun _ => fun
  | [d] => { results := [.lit (.bool false)], args := [d] }
  | _ => none }
def LandTextsWrongFalsely : Prop := landTextsRow.holds Try.pinned (OpenSpec.ofChange landTextsWrong)

/-- 'hinterlandlaw02.LandRivers': WHATEVER THE INPUT: true; the input reads as it did. -/
def landRiversSpec : ChangeSpec := { name := "landRivers", fn := fun _ => fun
  | [d1, d2] => { results := [.lit (.bool true)], args := [d1, d2] }
  | _ => none }
def landRiversRow : OpenClaim := { program := "ytchflcnegpnkkaa", sum := "733761cfdd44b230e45b127f2316618ca748eb32d048a2638b15fae52910f4f3", func := "hinterland/hinterlandlaw02.LandRivers", spec := "landRivers", apart := false }
def LandRiversSaid : Prop := landRiversRow.holds Try.pinned (OpenSpec.ofChange landRiversSpec)

/-- ITS FALSE NEIGHBOUR: 'it returns false'. Refute it at one input. -/
def landRiversWrong : ChangeSpec := { name := "landRivers", fn := fun _ => fun
  | [d1, d2] => { results := [.lit (.bool false)], args := [d1, d2] }
  | _ => none }
def LandRiversWrongFalsely : Prop := landRiversRow.holds Try.pinned (OpenSpec.ofChange landRiversWrong)

/-- 'hinterlandlaw02.LandLevelsFlat': WHATEVER THE INPUT: true; the input reads as it did. -/
def landLevelsFlatSpec : ChangeSpec := { name := "landLevelsFlat", fn := fun _ => fun
  | [d1, d2, d3] => { results := [.lit (.bool true)], args := [d1, d2, d3] }
  | _ => none }
def landLevelsFlatRow : OpenClaim := { program := "ytchflcnegpnkkaa", sum := "733761cfdd44b230e45b127f2316618ca748eb32d048a2638b15fae52910f4f3", func := "hinterland/hinterlandlaw02.LandLevelsFlat", spec := "landLevelsFlat", apart := false }
def LandLevelsFlatSaid : Prop := landLevelsFlatRow.holds Try.pinned (OpenSpec.ofChange landLevelsFlatSpec)

/-- ITS FALSE NEIGHBOUR: 'it returns false'. Refute it at one input. -/
def landLevelsFlatWrong : ChangeSpec := { name := "landLevelsFlat", fn := fun _ => fun
  | [d1, d2, d3] => { results := [.lit (.bool false)], args := [d1, d2, d3] }
  | _ => none }
def LandLevelsFlatWrongFalsely : Prop := landLevelsFlatRow.holds Try.pinned (OpenSpec.ofChange landLevelsFlatWrong)

/- THE SECOND FORM. 'bulk': how many values and letters a reading holds, each counted each time it is reached (what is shared counts as often as it is met; a slice's spare places count too). A statement '..UptoSaid' is the law's where the arguments, and the package variables that the reading takes, are together of bulk at most 1048576: NARROWER than '..Said'. Prove '..Said' where nothing that the law and all that it calls make is longer than what came in: it says more and counts as full. Else prove '..UptoSaid'. A law counts once. -/
mutual
def uptoBulk {H : Type} : DataW H → Nat
  | .lit (.string bytes) => bytes.length + 1
  | .lit _ => 1
  | .nil => 1
  | .ptr d => uptoBulk d + 1
  | .slice elems spare => uptoBulkAll elems + uptoBulkAll spare + 1
  | .agg parts => uptoBulkAll parts + 1
  | .iface _ d => uptoBulk d + 1
  | .map entries => uptoBulkEntries entries + 1
  | .held _ => 1
def uptoBulkAll {H : Type} : List (DataW H) → Nat
  | [] => 0
  | d :: r => uptoBulk d + uptoBulkAll r
def uptoBulkEntries {H : Type} : List (Lit × DataW H) → Nat
  | [] => 0
  | x :: r => uptoBulkEntry x + uptoBulkEntries r
def uptoBulkEntry {H : Type} : Lit × DataW H → Nat
  | (.string bytes, d) => bytes.length + uptoBulk d + 1
  | (_, d) => uptoBulk d + 1
 end
def uptoSmall : (H : Type) → List (DataW H) → Bool := fun _ ds => decide (uptoBulkAll ds ≤ 1048576)
def OpenSpec.upto (s : _root_.Go.ChangeSpec) : _root_.Go.OpenSpec := { _root_.Go.OpenSpec.ofChange s with cond := some uptoSmall }

/-- 'hinterlandlaw02.LandValidates', WHERE WHAT IT READS IS OF BULK AT MOST 1048576: true; the input reads as it did. -/
def landValidatesUptoRow : OpenClaim := { program := "ytchflcnegpnkkaa", sum := "733761cfdd44b230e45b127f2316618ca748eb32d048a2638b15fae52910f4f3", func := "hinterland/hinterlandlaw02.LandValidates", spec := "landValidates", apart := false, narrowed := true }
def LandValidatesUptoSaid : Prop := landValidatesUptoRow.holds Try.pinned (OpenSpec.upto landValidatesSpec)

/-- 'hinterlandlaw02.LandShifts', WHERE WHAT IT READS IS OF BULK AT MOST 1048576: true; the input reads as it did. -/
def landShiftsUptoRow : OpenClaim := { program := "ytchflcnegpnkkaa", sum := "733761cfdd44b230e45b127f2316618ca748eb32d048a2638b15fae52910f4f3", func := "hinterland/hinterlandlaw02.LandShifts", spec := "landShifts", apart := false, narrowed := true }
def LandShiftsUptoSaid : Prop := landShiftsUptoRow.holds Try.pinned (OpenSpec.upto landShiftsSpec)

/-- 'hinterlandlaw02.LandShiftsLeast', WHERE WHAT IT READS IS OF BULK AT MOST 1048576: true; the input reads as it did. -/
def landShiftsLeastUptoRow : OpenClaim := { program := "ytchflcnegpnkkaa", sum := "733761cfdd44b230e45b127f2316618ca748eb32d048a2638b15fae52910f4f3", func := "hinterland/hinterlandlaw02.LandShiftsLeast", spec := "landShiftsLeast", apart := false, narrowed := true }
def LandShiftsLeastUptoSaid : Prop := landShiftsLeastUptoRow.holds Try.pinned (OpenSpec.upto landShiftsLeastSpec)

/-- 'hinterlandlaw02.LandLevels', WHERE WHAT IT READS IS OF BULK AT MOST 1048576: true; the input reads as it did. -/
def landLevelsUptoRow : OpenClaim := { program := "ytchflcnegpnkkaa", sum := "733761cfdd44b230e45b127f2316618ca748eb32d048a2638b15fae52910f4f3", func := "hinterland/hinterlandlaw02.LandLevels", spec := "landLevels", apart := false, narrowed := true }
def LandLevelsUptoSaid : Prop := landLevelsUptoRow.holds Try.pinned (OpenSpec.upto landLevelsSpec)

/-- 'hinterlandlaw02.LandParses', WHERE WHAT IT READS IS OF BULK AT MOST 1048576: true; the input reads as it did. -/
def landParsesUptoRow : OpenClaim := { program := "ytchflcnegpnkkaa", sum := "733761cfdd44b230e45b127f2316618ca748eb32d048a2638b15fae52910f4f3", func := "hinterland/hinterlandlaw02.LandParses", spec := "landParses", apart := false, narrowed := true }
def LandParsesUptoSaid : Prop := landParsesUptoRow.holds Try.pinned (OpenSpec.upto landParsesSpec)

/-- 'hinterlandlaw02.LandSlopes', WHERE WHAT IT READS IS OF BULK AT MOST 1048576: true; the input reads as it did. -/
def landSlopesUptoRow : OpenClaim := { program := "ytchflcnegpnkkaa", sum := "733761cfdd44b230e45b127f2316618ca748eb32d048a2638b15fae52910f4f3", func := "hinterland/hinterlandlaw02.LandSlopes", spec := "landSlopes", apart := false, narrowed := true }
def LandSlopesUptoSaid : Prop := landSlopesUptoRow.holds Try.pinned (OpenSpec.upto landSlopesSpec)

/-- 'hinterlandlaw02.LandSettles', WHERE WHAT IT READS IS OF BULK AT MOST 1048576: true; the input reads as it did. -/
def landSettlesUptoRow : OpenClaim := { program := "ytchflcnegpnkkaa", sum := "733761cfdd44b230e45b127f2316618ca748eb32d048a2638b15fae52910f4f3", func := "hinterland/hinterlandlaw02.LandSettles", spec := "landSettles", apart := false, narrowed := true }
def LandSettlesUptoSaid : Prop := landSettlesUptoRow.holds Try.pinned (OpenSpec.upto landSettlesSpec)

/-- 'hinterlandlaw02.LandSettlesMost', WHERE WHAT IT READS IS OF BULK AT MOST 1048576: true; the input reads as it did. -/
def landSettlesMostUptoRow : OpenClaim := { program := "ytchflcnegpnkkaa", sum := "733761cfdd44b230e45b127f2316618ca748eb32d048a2638b15fae52910f4f3", func := "hinterland/hinterlandlaw02.LandSettlesMost", spec := "landSettlesMost", apart := false, narrowed := true }
def LandSettlesMostUptoSaid : Prop := landSettlesMostUptoRow.holds Try.pinned (OpenSpec.upto landSettlesMostSpec)

/-- 'hinterlandlaw02.LandSnows', WHERE WHAT IT READS IS OF BULK AT MOST 1048576: true; the input reads as it did. -/
def landSnowsUptoRow : OpenClaim := { program := "ytchflcnegpnkkaa", sum := "733761cfdd44b230e45b127f2316618ca748eb32d048a2638b15fae52910f4f3", func := "hinterland/hinterlandlaw02.LandSnows", spec := "landSnows", apart := false, narrowed := true }
def LandSnowsUptoSaid : Prop := landSnowsUptoRow.holds Try.pinned (OpenSpec.upto landSnowsSpec)

/-- 'hinterlandlaw02.LandTexts', WHERE WHAT IT READS IS OF BULK AT MOST 1048576: true; the input reads as it did. -/
def landTextsUptoRow : OpenClaim := { program := "ytchflcnegpnkkaa", sum := "733761cfdd44b230e45b127f2316618ca748eb32d048a2638b15fae52910f4f3", func := "hinterland/hinterlandlaw02.LandTexts", spec := "landTexts", apart := false, narrowed := true }
def LandTextsUptoSaid : Prop := landTextsUptoRow.holds Try.pinned (OpenSpec.upto landTextsSpec)

/-- 'hinterlandlaw02.LandRivers', WHERE WHAT IT READS IS OF BULK AT MOST 1048576: true; the input reads as it did. -/
def landRiversUptoRow : OpenClaim := { program := "ytchflcnegpnkkaa", sum := "733761cfdd44b230e45b127f2316618ca748eb32d048a2638b15fae52910f4f3", func := "hinterland/hinterlandlaw02.LandRivers", spec := "landRivers", apart := false, narrowed := true }
def LandRiversUptoSaid : Prop := landRiversUptoRow.holds Try.pinned (OpenSpec.upto landRiversSpec)

/-- 'hinterlandlaw02.LandLevelsFlat', WHERE WHAT IT READS IS OF BULK AT MOST 1048576: true; the input reads as it did. -/
def landLevelsFlatUptoRow : OpenClaim := { program := "ytchflcnegpnkkaa", sum := "733761cfdd44b230e45b127f2316618ca748eb32d048a2638b15fae52910f4f3", func := "hinterland/hinterlandlaw02.LandLevelsFlat", spec := "landLevelsFlat", apart := false, narrowed := true }
def LandLevelsFlatUptoSaid : Prop := landLevelsFlatUptoRow.holds Try.pinned (OpenSpec.upto landLevelsFlatSpec)

end Rows
end Go.Proofs.Ytchflcnegpnkkaa

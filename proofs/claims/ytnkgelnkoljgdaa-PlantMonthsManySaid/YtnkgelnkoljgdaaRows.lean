/-
  No cell of these rows narrows 'for every input' (looked for: loops, veiled, ifaces, maps, wideKeys, modest, calm, conditions, laid).
  DERIVED. THE GIVEN ROWS OF THIS SEAT. 10 by the template 'for every input the law returns true; each argument reads behind the call as it read before'; 0 by the template 'total and deterministic' (their statements: YtnkgelnkoljgdaaTotals.lean).
  GIVEN WITH THE SEED: the statements are not yours to turn. If you find one false, say at which input.
  Laid BY PROGRAM, IN A SANDBOX (cutbox-rows.mjs): the forced cells as the released guide's own fill.sh prints them over the translation 1b7e634038dd9ca1… (all of the seat's roots in one cut). By AI agents, Wed Nov 11 2026. No macro, syntax, notation, axiom, sorry.
-/
import Derived.Test.YtnkgelnkoljgdaaChecked
import GoSem.Claim
import GoSem.ClaimJoined
import GoSem.ClaimMapViews
import Derived.JoinedTies
import Derived.KernelRfl
namespace Go.Proofs.Ytnkgelnkoljgdaa
/- THE CELL 'sum', in the pinned program and in every row, IS THE sha256 OF THE DUMP (.gsa) THAT YtnkgelnkoljgdaaProg.lean LOADS. Nothing in Lean hashes anything: it is a label: what it is worth is what the hold of that sum in a sandbox is worth. -/
noncomputable def Try.pinned : Pinned := { name := "ytnkgelnkoljgdaa", sum := "1b7e634038dd9ca1ee0a7be166b799c666f2cc9ff33c8e9d9f39a4e5b76fd48b", checked := Try.checked }
namespace Rows
def none {H : Type} : Left H := { results := [], args := [] }

/-- 'hinterlandlaw10.PlantValidates': WHATEVER THE INPUT: true; the input reads as it did. -/
def plantValidatesSpec : ChangeSpec := { name := "plantValidates", fn := fun _ => fun
  | [d1, d2] => { results := [.lit (.bool true)], args := [d1, d2] }
  | _ => none }
def plantValidatesRow : OpenClaim := { program := "ytnkgelnkoljgdaa", sum := "1b7e634038dd9ca1ee0a7be166b799c666f2cc9ff33c8e9d9f39a4e5b76fd48b", func := "hinterland/hinterlandlaw10.PlantValidates", spec := "plantValidates", apart := false }
def PlantValidatesSaid : Prop := plantValidatesRow.holds Try.pinned (OpenSpec.ofChange plantValidatesSpec)

/-- ITS FALSE NEIGHBOUR: 'it returns false'. Refute it at one input. -/
def plantValidatesWrong : ChangeSpec := { name := "plantValidates", fn := fun _ => fun
  | [d1, d2] => { results := [.lit (.bool false)], args := [d1, d2] }
  | _ => none }
def PlantValidatesWrongFalsely : Prop := plantValidatesRow.holds Try.pinned (OpenSpec.ofChange plantValidatesWrong)

/-- 'hinterlandlaw10.PlantNews': WHATEVER THE INPUT: true; the input reads as it did. -/
def plantNewsSpec : ChangeSpec := { name := "plantNews", fn := fun _ => fun
  | [d1, d2, d3] => { results := [.lit (.bool true)], args := [d1, d2, d3] }
  | _ => none }
def plantNewsRow : OpenClaim := { program := "ytnkgelnkoljgdaa", sum := "1b7e634038dd9ca1ee0a7be166b799c666f2cc9ff33c8e9d9f39a4e5b76fd48b", func := "hinterland/hinterlandlaw10.PlantNews", spec := "plantNews", apart := false }
def PlantNewsSaid : Prop := plantNewsRow.holds Try.pinned (OpenSpec.ofChange plantNewsSpec)

/-- ITS FALSE NEIGHBOUR: 'it returns false'. Refute it at one input. -/
def plantNewsWrong : ChangeSpec := { name := "plantNews", fn := fun _ => fun
  | [d1, d2, d3] => { results := [.lit (.bool false)], args := [d1, d2, d3] }
  | _ => none }
def PlantNewsWrongFalsely : Prop := plantNewsRow.holds Try.pinned (OpenSpec.ofChange plantNewsWrong)

/-- 'hinterlandlaw10.PlantBrings': WHATEVER THE INPUT: true; the input reads as it did. -/
def plantBringsSpec : ChangeSpec := { name := "plantBrings", fn := fun _ => fun
  | [d1, d2, d3, d4] => { results := [.lit (.bool true)], args := [d1, d2, d3, d4] }
  | _ => none }
def plantBringsRow : OpenClaim := { program := "ytnkgelnkoljgdaa", sum := "1b7e634038dd9ca1ee0a7be166b799c666f2cc9ff33c8e9d9f39a4e5b76fd48b", func := "hinterland/hinterlandlaw10.PlantBrings", spec := "plantBrings", apart := false }
def PlantBringsSaid : Prop := plantBringsRow.holds Try.pinned (OpenSpec.ofChange plantBringsSpec)

/-- ITS FALSE NEIGHBOUR: 'it returns false'. Refute it at one input. -/
def plantBringsWrong : ChangeSpec := { name := "plantBrings", fn := fun _ => fun
  | [d1, d2, d3, d4] => { results := [.lit (.bool false)], args := [d1, d2, d3, d4] }
  | _ => none }
def PlantBringsWrongFalsely : Prop := plantBringsRow.holds Try.pinned (OpenSpec.ofChange plantBringsWrong)

/-- 'hinterlandlaw10.PlantBringsParts': WHATEVER THE INPUT: true; the input reads as it did. -/
def plantBringsPartsSpec : ChangeSpec := { name := "plantBringsParts", fn := fun _ => fun
  | [d1, d2, d3, d4, d5] => { results := [.lit (.bool true)], args := [d1, d2, d3, d4, d5] }
  | _ => none }
def plantBringsPartsRow : OpenClaim := { program := "ytnkgelnkoljgdaa", sum := "1b7e634038dd9ca1ee0a7be166b799c666f2cc9ff33c8e9d9f39a4e5b76fd48b", func := "hinterland/hinterlandlaw10.PlantBringsParts", spec := "plantBringsParts", apart := false }
def PlantBringsPartsSaid : Prop := plantBringsPartsRow.holds Try.pinned (OpenSpec.ofChange plantBringsPartsSpec)

/-- ITS FALSE NEIGHBOUR: 'it returns false'. Refute it at one input. -/
def plantBringsPartsWrong : ChangeSpec := { name := "plantBringsParts", fn := fun _ => fun
  | [d1, d2, d3, d4, d5] => { results := [.lit (.bool false)], args := [d1, d2, d3, d4, d5] }
  | _ => none }
def PlantBringsPartsWrongFalsely : Prop := plantBringsPartsRow.holds Try.pinned (OpenSpec.ofChange plantBringsPartsWrong)

/-- 'hinterlandlaw10.PlantHauls': WHATEVER THE INPUT: true; the input reads as it did. -/
def plantHaulsSpec : ChangeSpec := { name := "plantHauls", fn := fun _ => fun
  | [d1, d2, d3, d4] => { results := [.lit (.bool true)], args := [d1, d2, d3, d4] }
  | _ => none }
def plantHaulsRow : OpenClaim := { program := "ytnkgelnkoljgdaa", sum := "1b7e634038dd9ca1ee0a7be166b799c666f2cc9ff33c8e9d9f39a4e5b76fd48b", func := "hinterland/hinterlandlaw10.PlantHauls", spec := "plantHauls", apart := false }
def PlantHaulsSaid : Prop := plantHaulsRow.holds Try.pinned (OpenSpec.ofChange plantHaulsSpec)

/-- ITS FALSE NEIGHBOUR: 'it returns false'. Refute it at one input. -/
def plantHaulsWrong : ChangeSpec := { name := "plantHauls", fn := fun _ => fun
  | [d1, d2, d3, d4] => { results := [.lit (.bool false)], args := [d1, d2, d3, d4] }
  | _ => none }
def PlantHaulsWrongFalsely : Prop := plantHaulsRow.holds Try.pinned (OpenSpec.ofChange plantHaulsWrong)

/-- 'hinterlandlaw10.PlantHaulsAll': WHATEVER THE INPUT: true; the input reads as it did. -/
def plantHaulsAllSpec : ChangeSpec := { name := "plantHaulsAll", fn := fun _ => fun
  | [d1, d2, d3, d4] => { results := [.lit (.bool true)], args := [d1, d2, d3, d4] }
  | _ => none }
def plantHaulsAllRow : OpenClaim := { program := "ytnkgelnkoljgdaa", sum := "1b7e634038dd9ca1ee0a7be166b799c666f2cc9ff33c8e9d9f39a4e5b76fd48b", func := "hinterland/hinterlandlaw10.PlantHaulsAll", spec := "plantHaulsAll", apart := false }
def PlantHaulsAllSaid : Prop := plantHaulsAllRow.holds Try.pinned (OpenSpec.ofChange plantHaulsAllSpec)

/-- ITS FALSE NEIGHBOUR: 'it returns false'. Refute it at one input. -/
def plantHaulsAllWrong : ChangeSpec := { name := "plantHaulsAll", fn := fun _ => fun
  | [d1, d2, d3, d4] => { results := [.lit (.bool false)], args := [d1, d2, d3, d4] }
  | _ => none }
def PlantHaulsAllWrongFalsely : Prop := plantHaulsAllRow.holds Try.pinned (OpenSpec.ofChange plantHaulsAllWrong)

/-- 'hinterlandlaw10.PlantWorks': WHATEVER THE INPUT: true; the input reads as it did. -/
def plantWorksSpec : ChangeSpec := { name := "plantWorks", fn := fun _ => fun
  | [d1, d2] => { results := [.lit (.bool true)], args := [d1, d2] }
  | _ => none }
def plantWorksRow : OpenClaim := { program := "ytnkgelnkoljgdaa", sum := "1b7e634038dd9ca1ee0a7be166b799c666f2cc9ff33c8e9d9f39a4e5b76fd48b", func := "hinterland/hinterlandlaw10.PlantWorks", spec := "plantWorks", apart := false }
def PlantWorksSaid : Prop := plantWorksRow.holds Try.pinned (OpenSpec.ofChange plantWorksSpec)

/-- ITS FALSE NEIGHBOUR: 'it returns false'. Refute it at one input. -/
def plantWorksWrong : ChangeSpec := { name := "plantWorks", fn := fun _ => fun
  | [d1, d2] => { results := [.lit (.bool false)], args := [d1, d2] }
  | _ => none }
def PlantWorksWrongFalsely : Prop := plantWorksRow.holds Try.pinned (OpenSpec.ofChange plantWorksWrong)

/-- 'hinterlandlaw10.PlantChains': WHATEVER THE INPUT: true; the input reads as it did. -/
def plantChainsSpec : ChangeSpec := { name := "plantChains", fn := fun _ => fun
  | [d1, d2] => { results := [.lit (.bool true)], args := [d1, d2] }
  | _ => none }
def plantChainsRow : OpenClaim := { program := "ytnkgelnkoljgdaa", sum := "1b7e634038dd9ca1ee0a7be166b799c666f2cc9ff33c8e9d9f39a4e5b76fd48b", func := "hinterland/hinterlandlaw10.PlantChains", spec := "plantChains", apart := false }
def PlantChainsSaid : Prop := plantChainsRow.holds Try.pinned (OpenSpec.ofChange plantChainsSpec)

/-- ITS FALSE NEIGHBOUR: 'it returns false'. Refute it at one input. -/
def plantChainsWrong : ChangeSpec := { name := "plantChains", fn := fun _ => fun
  | [d1, d2] => { results := [.lit (.bool false)], args := [d1, d2] }
  | _ => none }
def PlantChainsWrongFalsely : Prop := plantChainsRow.holds Try.pinned (OpenSpec.ofChange plantChainsWrong)

/-- 'hinterlandlaw10.PlantMonths': WHATEVER THE INPUT: true; the input reads as it did. -/
def plantMonthsSpec : ChangeSpec := { name := "plantMonths", fn := fun _ => fun
  | [d1, d2, d3] => { results := [.lit (.bool true)], args := [d1, d2, d3] }
  | _ => none }
def plantMonthsRow : OpenClaim := { program := "ytnkgelnkoljgdaa", sum := "1b7e634038dd9ca1ee0a7be166b799c666f2cc9ff33c8e9d9f39a4e5b76fd48b", func := "hinterland/hinterlandlaw10.PlantMonths", spec := "plantMonths", apart := false }
def PlantMonthsSaid : Prop := plantMonthsRow.holds Try.pinned (OpenSpec.ofChange plantMonthsSpec)

/-- ITS FALSE NEIGHBOUR: 'it returns false'. Refute it at one input. -/
def plantMonthsWrong : ChangeSpec := { name := "plantMonths", fn := fun _ => fun
  | [d1, d2, d3] => { results := [.lit (.bool false)], args := [d1, d2, d3] }
  | _ => none }
def PlantMonthsWrongFalsely : Prop := plantMonthsRow.holds Try.pinned (OpenSpec.ofChange plantMonthsWrong)

/-- 'hinterlandlaw10.PlantMonthsMany': WHATEVER THE INPUT: true; the input reads as it did. -/
def plantMonthsManySpec : ChangeSpec := { name := "plantMonthsMany", fn := fun _ => fun
  | [d1, d2, d3, d4] => { results := [.lit (.bool true)], args := [d1, d2, d3, d4] }
  | _ => none }
def plantMonthsManyRow : OpenClaim := { program := "ytnkgelnkoljgdaa", sum := "1b7e634038dd9ca1ee0a7be166b799c666f2cc9ff33c8e9d9f39a4e5b76fd48b", func := "hinterland/hinterlandlaw10.PlantMonthsMany", spec := "plantMonthsMany", apart := false }
def PlantMonthsManySaid : Prop := plantMonthsManyRow.holds Try.pinned (OpenSpec.ofChange plantMonthsManySpec)

/-- ITS FALSE NEIGHBOUR: 'it returns false'. Refute it at one input. -/
def plantMonthsManyWrong : ChangeSpec := { name := "plantMonthsMany", fn := fun _ => fun
  | [d1, d2, d3, d4] => { results := [.lit (.bool false)], args := [d1, d2, d3, d4] }
  | _ => none }
def PlantMonthsManyWrongFalsely : Prop := plantMonthsManyRow.holds Try.pinned (OpenSpec.ofChange plantMonthsManyWrong)

/- THE SECOND FORM. 'bulk': how many values and letters a reading holds, each counted each time it is reached (what is shared counts as often as it is met; a slice's spare places count too). A statement '..UptoSaid' is the law's where the arguments, and the package variables that the reading takes, are together of bulk at most 1048576: NARROWER than '..Said'. Prove '..Said' where nothing that the law and all that it calls make is longer than what came in: it says more and counts as full. Else prove '..UptoSaid'. A law counts once. -/
mutual
def uptoBulk {H : Type} : DataW H → Nat
  | .lit (.string bytes) => bytes.length + 1
  | .lit _ => 1
  | .nil => 1
  | .ptr d => uptoBulk d + 1
  | .slice elems spare => uptoBulkAll elems + uptoBulkAll spare + 1
  | .agg parts => uptoBulkAll parts + 1
  | .iface _ d => uptoBulk d + 1
  | .map entries => uptoBulkEntries entries + 1
  | .held _ => 1
def uptoBulkAll {H : Type} : List (DataW H) → Nat
  | [] => 0
  | d :: r => uptoBulk d + uptoBulkAll r
def uptoBulkEntries {H : Type} : List (Lit × DataW H) → Nat
  | [] => 0
  | x :: r => uptoBulkEntry x + uptoBulkEntries r
def uptoBulkEntry {H : Type} : Lit × DataW H → Nat
  | (.string bytes, d) => bytes.length + uptoBulk d + 1
  | (_, d) => uptoBulk d + 1
 end
def uptoSmall : (H : Type) → List (DataW H) → Bool := fun _ ds => decide (uptoBulkAll ds ≤ 1048576)
def OpenSpec.upto (s : _root_.Go.ChangeSpec) : _root_.Go.OpenSpec := { _root_.Go.OpenSpec.ofChange s with cond := some uptoSmall }

/-- 'hinterlandlaw10.PlantValidates', WHERE WHAT IT READS IS OF BULK AT MOST 1048576: true; the input reads as it did. -/
def plantValidatesUptoRow : OpenClaim := { program := "ytnkgelnkoljgdaa", sum := "1b7e634038dd9ca1ee0a7be166b799c666f2cc9ff33c8e9d9f39a4e5b76fd48b", func := "hinterland/hinterlandlaw10.PlantValidates", spec := "plantValidates", apart := false, narrowed := true }
def PlantValidatesUptoSaid : Prop := plantValidatesUptoRow.holds Try.pinned (OpenSpec.upto plantValidatesSpec)

/-- 'hinterlandlaw10.PlantNews', WHERE WHAT IT READS IS OF BULK AT MOST 1048576: true; the input reads as it did. -/
def plantNewsUptoRow : OpenClaim := { program := "ytnkgelnkoljgdaa", sum := "1b7e634038dd9ca1ee0a7be166b799c666f2cc9ff33c8e9d9f39a4e5b76fd48b", func := "hinterland/hinterlandlaw10.PlantNews", spec := "plantNews", apart := false, narrowed := true }
def PlantNewsUptoSaid : Prop := plantNewsUptoRow.holds Try.pinned (OpenSpec.upto plantNewsSpec)

/-- 'hinterlandlaw10.PlantBrings', WHERE WHAT IT READS IS OF BULK AT MOST 1048576: true; the input reads as it did. -/
def plantBringsUptoRow : OpenClaim := { program := "ytnkgelnkoljgdaa", sum := "1b7e634038dd9ca1ee0a7be166b799c666f2cc9ff33c8e9d9f39a4e5b76fd48b", func := "hinterland/hinterlandlaw10.PlantBrings", spec := "plantBrings", apart := false, narrowed := true }
def PlantBringsUptoSaid : Prop := plantBringsUptoRow.holds Try.pinned (OpenSpec.upto plantBringsSpec)

/-- 'hinterlandlaw10.PlantBringsParts', WHERE WHAT IT READS IS OF BULK AT MOST 1048576: true; the input reads as it did. -/
def plantBringsPartsUptoRow : OpenClaim := { program := "ytnkgelnkoljgdaa", sum := "1b7e634038dd9ca1ee0a7be166b799c666f2cc9ff33c8e9d9f39a4e5b76fd48b", func := "hinterland/hinterlandlaw10.PlantBringsParts", spec := "plantBringsParts", apart := false, narrowed := true }
def PlantBringsPartsUptoSaid : Prop := plantBringsPartsUptoRow.holds Try.pinned (OpenSpec.upto plantBringsPartsSpec)

/-- 'hinterlandlaw10.PlantHauls', WHERE WHAT IT READS IS OF BULK AT MOST 1048576: true; the input reads as it did. -/
def plantHaulsUptoRow : OpenClaim := { program := "ytnkgelnkoljgdaa", sum := "1b7e634038dd9ca1ee0a7be166b799c666f2cc9ff33c8e9d9f39a4e5b76fd48b", func := "hinterland/hinterlandlaw10.PlantHauls", spec := "plantHauls", apart := false, narrowed := true }
def PlantHaulsUptoSaid : Prop := plantHaulsUptoRow.holds Try.pinned (OpenSpec.upto plantHaulsSpec)

/-- 'hinterlandlaw10.PlantHaulsAll', WHERE WHAT IT READS IS OF BULK AT MOST 1048576: true; the input reads as it did. -/
def plantHaulsAllUptoRow : OpenClaim := { program := "ytnkgelnkoljgdaa", sum := "1b7e634038dd9ca1ee0a7be166b799c666f2cc9ff33c8e9d9f39a4e5b76fd48b", func := "hinterland/hinterlandlaw10.PlantHaulsAll", spec := "plantHaulsAll", apart := false, narrowed := true }
def PlantHaulsAllUptoSaid : Prop := plantHaulsAllUptoRow.holds Try.pinned (OpenSpec.upto plantHaulsAllSpec)

/-- 'hinterlandlaw10.PlantWorks', WHERE WHAT IT READS IS OF BULK AT MOST 1048576: true; the input reads as it did. -/
def plantWorksUptoRow : OpenClaim := { program := "ytnkgelnkoljgdaa", sum := "1b7e634038dd9ca1ee0a7be166b799c666f2cc9ff33c8e9d9f39a4e5b76fd48b", func := "hinterland/hinterlandlaw10.PlantWorks", spec := "plantWorks", apart := false, narrowed := true }
def PlantWorksUptoSaid : Prop := plantWorksUptoRow.holds Try.pinned (OpenSpec.upto plantWorksSpec)

/-- 'hinterlandlaw10.PlantChains', WHERE WHAT IT READS IS OF BULK AT MOST 1048576: true; the input reads as it did. -/
def plantChainsUptoRow : OpenClaim := { program := "ytnkgelnkoljgdaa", sum := "1b7e634038dd9ca1ee0a7be166b799c666f2cc9ff33c8e9d9f39a4e5b76fd48b", func := "hinterland/hinterlandlaw10.PlantChains", spec := "plantChains", apart := false, narrowed := true }
def PlantChainsUptoSaid : Prop := plantChainsUptoRow.holds Try.pinned (OpenSpec.upto plantChainsSpec)

/-- 'hinterlandlaw10.PlantMonths', WHERE WHAT IT READS IS OF BULK AT MOST 1048576: true; the input reads as it did. -/
def plantMonthsUptoRow : OpenClaim := { program := "ytnkgelnkoljgdaa", sum := "1b7e634038dd9ca1ee0a7be166b799c666f2cc9ff33c8e9d9f39a4e5b76fd48b", func := "hinterland/hinterlandlaw10.PlantMonths", spec := "plantMonths", apart := false, narrowed := true }
def PlantMonthsUptoSaid : Prop := plantMonthsUptoRow.holds Try.pinned (OpenSpec.upto plantMonthsSpec)

/-- 'hinterlandlaw10.PlantMonthsMany', WHERE WHAT IT READS IS OF BULK AT MOST 1048576: true; the input reads as it did. -/
def plantMonthsManyUptoRow : OpenClaim := { program := "ytnkgelnkoljgdaa", sum := "1b7e634038dd9ca1ee0a7be166b799c666f2cc9ff33c8e9d9f39a4e5b76fd48b", func := "hinterland/hinterlandlaw10.PlantMonthsMany", spec := "plantMonthsMany", apart := false, narrowed := true }
def PlantMonthsManyUptoSaid : Prop := plantMonthsManyUptoRow.holds Try.pinned (OpenSpec.upto plantMonthsManySpec)

end Rows
end Go.Proofs.Ytnkgelnkoljgdaa

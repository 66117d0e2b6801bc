/-
  No cell of these rows narrows 'for every input' (looked for: loops, veiled, ifaces, maps, wideKeys, modest, calm, conditions, laid).
  DERIVED. THE GIVEN ROWS OF THIS SEAT. 2 by the template 'for every input the law returns true; each argument reads behind the call as it read before'; 0 by the template 'total and deterministic' (their statements: YtchflcnegpnkkabTotals.lean).
  GIVEN WITH THE SEED: the statements are not yours to turn. If you find one false, say at which input.
  Laid BY PROGRAM, IN A SANDBOX (cutbox-rows.mjs): the forced cells as the released guide's own fill.sh prints them over the translation a2d3db9d52b9ca32… (all of the seat's roots in one cut). By AI agents, Wed Nov 11 2026. No macro, syntax, notation, axiom, sorry.
-/
import Derived.Test.YtchflcnegpnkkabChecked
import GoSem.Claim
import GoSem.ClaimJoined
import GoSem.ClaimMapViews
import Derived.JoinedTies
import Derived.KernelRfl
namespace Go.Proofs.Ytchflcnegpnkkab
/- THE CELL 'sum', in the pinned program and in every row, IS THE sha256 OF THE DUMP (.gsa) THAT YtchflcnegpnkkabProg.lean LOADS. Nothing in Lean hashes anything: it is a label: what it is worth is what the hold of that sum in a sandbox is worth. -/
noncomputable def Try.pinned : Pinned := { name := "ytchflcnegpnkkab", sum := "a2d3db9d52b9ca32e09c7f6b5065f4154a2e4d76d91d148b56f60648679c9720", checked := Try.checked }
namespace Rows
def none {H : Type} : Left H := { results := [], args := [] }

/-- 'hinterlandlaw02.LandRiversFall': WHATEVER THE INPUT: true; the input reads as it did. -/
def landRiversFallSpec : ChangeSpec := { name := "landRiversFall", fn := fun _ => fun
  | [d1, d2] => { results := [.lit (.bool true)], args := [d1, d2] }
  | _ => none }
def landRiversFallRow : OpenClaim := { program := "ytchflcnegpnkkab", sum := "a2d3db9d52b9ca32e09c7f6b5065f4154a2e4d76d91d148b56f60648679c9720", func := "hinterland/hinterlandlaw02.LandRiversFall", spec := "landRiversFall", apart := false }
def LandRiversFallSaid : Prop := landRiversFallRow.holds Try.pinned (OpenSpec.ofChange landRiversFallSpec)

/-- ITS FALSE NEIGHBOUR: 'it returns false'. Refute it at one input. -/
def landRiversFallWrong : ChangeSpec := { name := "landRiversFall", fn := fun _ => fun
  | [d1, d2] => { results := [.lit (.bool false)], args := [d1, d2] }
  | _ => none }
def LandRiversFallWrongFalsely : Prop := landRiversFallRow.holds Try.pinned (OpenSpec.ofChange landRiversFallWrong)

/-- 'hinterlandlaw02.LandGrows': WHATEVER THE INPUT: true; the input reads as it did. -/
def landGrowsSpec : ChangeSpec := { name := "landGrows", fn := fun _ => fun
  | [d1, d2, d3, d4] => { results := [.lit (.bool true)], args := [d1, d2, d3, d4] }
  | _ => none }
def landGrowsRow : OpenClaim := { program := "ytchflcnegpnkkab", sum := "a2d3db9d52b9ca32e09c7f6b5065f4154a2e4d76d91d148b56f60648679c9720", func := "hinterland/hinterlandlaw02.LandGrows", spec := "landGrows", apart := false }
def LandGrowsSaid : Prop := landGrowsRow.holds Try.pinned (OpenSpec.ofChange landGrowsSpec)

/-- ITS FALSE NEIGHBOUR: 'it returns false'. Refute it at one input. -/
def landGrowsWrong : ChangeSpec := { name := "landGrows", fn := fun _ => fun
  | [d1, d2, d3, d4] => { results := [.lit (.bool false)], args := [d1, d2, d3, d4] }
  | _ => none }
def LandGrowsWrongFalsely : Prop := landGrowsRow.holds Try.pinned (OpenSpec.ofChange landGrowsWrong)

/- THE SECOND FORM. 'bulk': how many values and letters a reading holds, each counted each time it is reached (what is shared counts as often as it is met; a slice's spare places count too). A statement '..UptoSaid' is the law's where the arguments, and the package variables that the reading takes, are together of bulk at most 1048576: NARROWER than '..Said'. Prove '..Said' where nothing that the law and all that it calls make is longer than what came in: it says more and counts as full. Else prove '..UptoSaid'. A law counts once. -/
mutual
def uptoBulk {H : Type} : DataW H → Nat
  | .lit (.string bytes) => bytes.length + 1
  | .lit _ => 1
  | .nil => 1
  | .ptr d => uptoBulk d + 1
  | .slice elems spare => uptoBulkAll elems + uptoBulkAll spare + 1
  | .agg parts => uptoBulkAll parts + 1
  | .iface _ d => uptoBulk d + 1
  | .map entries => uptoBulkEntries entries + 1
  | .held _ => 1
def uptoBulkAll {H : Type} : List (DataW H) → Nat
  | [] => 0
  | d :: r => uptoBulk d + uptoBulkAll r
def uptoBulkEntries {H : Type} : List (Lit × DataW H) → Nat
  | [] => 0
  | x :: r => uptoBulkEntry x + uptoBulkEntries r
def uptoBulkEntry {H : Type} : Lit × DataW H → Nat
  | (.string bytes, d) => bytes.length + uptoBulk d + 1
  | (_, d) => uptoBulk d + 1
 end
def uptoSmall : (H : Type) → List (DataW H) → Bool := fun _ ds => decide (uptoBulkAll ds ≤ 1048576)
def OpenSpec.upto (s : _root_.Go.ChangeSpec) : _root_.Go.OpenSpec := { _root_.Go.OpenSpec.ofChange s with cond := some uptoSmall }

/-- 'hinterlandlaw02.LandRiversFall', WHERE WHAT IT READS IS OF BULK AT MOST 1048576: true; the input reads as it did. -/
def landRiversFallUptoRow : OpenClaim := { program := "ytchflcnegpnkkab", sum := "a2d3db9d52b9ca32e09c7f6b5065f4154a2e4d76d91d148b56f60648679c9720", func := "hinterland/hinterlandlaw02.LandRiversFall", spec := "landRiversFall", apart := false, narrowed := true }
def LandRiversFallUptoSaid : Prop := landRiversFallUptoRow.holds Try.pinned (OpenSpec.upto landRiversFallSpec)

/-- 'hinterlandlaw02.LandGrows', WHERE WHAT IT READS IS OF BULK AT MOST 1048576: true; the input reads as it did. -/
def landGrowsUptoRow : OpenClaim := { program := "ytchflcnegpnkkab", sum := "a2d3db9d52b9ca32e09c7f6b5065f4154a2e4d76d91d148b56f60648679c9720", func := "hinterland/hinterlandlaw02.LandGrows", spec := "landGrows", apart := false, narrowed := true }
def LandGrowsUptoSaid : Prop := landGrowsUptoRow.holds Try.pinned (OpenSpec.upto landGrowsSpec)

end Rows
end Go.Proofs.Ytchflcnegpnkkab

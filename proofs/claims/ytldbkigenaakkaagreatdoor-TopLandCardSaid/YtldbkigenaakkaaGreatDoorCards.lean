/-
  DERIVED. GIVEN WITH THE SEED: THE CARDS: each row of YtldbkigenaakkaaGreatDoorRows.lean that lists a variable, with what it lists TIED to the program's text (the seventh form; the later family's looks); each row that meets fmt, with fmt's text TOLD by the authors' own Lean function (tested against real Go, not proved from fmt's source: count such statements apart). THE CARD IS WHAT COUNTS. Prove the row's statement (the work); the ties are given (YtldbkigenaakkaaGreatDoorTie.lean); close each card by the builder's one call (the guide's Derived/Test/ToyasCard.lean, 'card_holds'). Laid BY PROGRAM, IN A SANDBOX (cutbox-door.mjs). By AI agents, Wed Nov 11 2026. No macro, syntax, notation, axiom, sorry.
-/
import Derived.Test.YtldbkigenaakkaaGreatDoorRows
import GoSem.ClaimSeven
namespace Go.Proofs.YtldbkigenaakkaaGreatDoor
namespace Rows

/-- THE TIED CARD OF 'hinterlandtop.TopLand'. -/
def topLandCard : Claim7 := { stood := { row := topLandRow, standIns := [], harness := (true, "f432c0c47975611a81fa7d5aa6f319cafa45b89805b8b179540b777449ef1f45"), looks := true }, kinds := [], alts := [], laidByText := true, laidKinds := [.pinned, .data, .sentinel, .sentinel, .data, .data, .data], laidTests := true, laidLooks := .later }
def TopLandCardSaid : Prop := Claim7.holds Tryz.pinned (.plain (OpenSpec.ofChange topLandSpec)) topLandCard

/-- THE SECOND FORM's CARD OF 'hinterlandtop.TopLand'. -/
def topLandUptoCard : Claim7 := { stood := { row := topLandUptoRow, standIns := [], harness := (true, "f432c0c47975611a81fa7d5aa6f319cafa45b89805b8b179540b777449ef1f45"), looks := true }, kinds := [], alts := [], laidByText := true, laidKinds := [.pinned, .data, .sentinel, .sentinel, .data, .data, .data], laidTests := true, laidLooks := .later }
def TopLandUptoCardSaid : Prop := Claim7.holds Tryz.pinned (.plain (OpenSpec.upto topLandSpec)) topLandUptoCard
end Rows
end Go.Proofs.YtldbkigenaakkaaGreatDoor

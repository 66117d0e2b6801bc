/- What the row and the card ask of the program, fact by fact (each by the kernel, a theorem of its own). -/
import Derived.Test.YtldbkigenaakkaaGreatDoorCards
import Derived.KernelRfl
import Derived.JoinedOf
import Derived.Handed
import Derived.SevenTiedAt
namespace Go.Proofs.YtldbkigenaakkaaGreatDoor.topLand
open Go
theorem own : ownKnob Tryz.prog.godebug = none := by kernel_rfl
theorem laidOut : laidOutB Tryz.prog = true := by kernel_rfl
theorem fac_init : Tryz.prog.inits.idxOf? 3 = none := by kernel_rfl
theorem fac_name : Tryz.prog.funcNamed "hinterland/hinterlandtop.TopLand" = some 3 := by kernel_rfl
theorem fj_inPlace : (Rows.topLandRow.inPlace == Tryz.prog.inPlace 3) = true := by kernel_rfl
theorem fj_unf : (Rows.topLandRow.unfollowed == Tryz.prog.unfollowed 3) = true := by kernel_rfl
theorem fj_rec : (Rows.topLandRow.recurses == Tryz.prog.recurses 3) = true := by kernel_rfl
theorem fj_named : (Rows.topLandRow.named == Tryz.prog.varsNamed 3) = true := by kernel_rfl
theorem fj_rows : mapsRowed Tryz.prog = true := by kernel_rfl
theorem fj_heard : Tryz.prog.stopsHeard = true := by kernel_rfl
theorem fj_enter : Tryz.prog.mayEnter = true := by kernel_rfl
theorem fj_lift : (Rows.topLandRow.lifted == Tryz.prog.liftsFinal) = true := by kernel_rfl
theorem fj_plain : (Rows.topLandRow.plainKeys == Tryz.prog.plainKeys) = true := by kernel_rfl
theorem fac_joined : joinedFacts Tryz.prog 3 Tryz.f3 Rows.topLandSpec Rows.topLandRow = true := by
  unfold joinedFacts
  rw [laidOut, fj_rows, fj_inPlace, fj_unf, fj_rec, fj_named, fj_plain, fj_heard, fj_enter, fj_lift]
  kernel_rfl
theorem fac_wf : Rows.topLandRow.wfByText (OpenSpec.ofChange Rows.topLandSpec) = true := by kernel_rfl
theorem fac_main : Tryz.prog.mainIs = some (true, "f432c0c47975611a81fa7d5aa6f319cafa45b89805b8b179540b777449ef1f45".toList) := by kernel_rfl
theorem fac_looks : true = Tryz.prog.looks [] := by kernel_rfl
theorem fac_stand : (([22, 3, 23] : List TypeId).all fun u => !Tryz.prog.wantsStandIn u) = true := by kernel_rfl
theorem fac_none : Tryz.prog.funcs.any Func.goes = false := by kernel_rfl
theorem goes_none {P : Program} (h : P.funcs.any Func.goes = false) (f : FuncId) : P.goes f = false := by
  unfold Program.goes
  rw [h, Bool.and_false, Bool.or_false, List.any_eq_false]
  intro g _ hg
  cases hf : P.funcs[g]? with
  | none => rw [hf] at hg; simp at hg
  | some fn =>
    rw [hf] at hg
    obtain ⟨hi, he⟩ := Array.getElem?_eq_some_iff.1 hf
    have := Array.any_eq_false.1 h g hi
    rw [he] at this
    exact this (by simpa using hg)
theorem fac_goes : false = Rows.topLandRow.goesBy Tryz.prog := by
  show false = (Tryz.prog.goesFrom Rows.topLandRow.func || false)
  unfold Program.goesFrom
  cases Tryz.prog.funcNamed Rows.topLandRow.func with
  | none => rfl
  | some f => simp [goes_none fac_none f]
theorem fac_inst : Tryz.f3.isInstance Tryz.prog Rows.topLandRow.origin Rows.topLandRow.targs := of_decide_eq_true (by kernel_rfl)
theorem fac_wrap : Tryz.f3.isWrapper Tryz.prog Rows.topLandRow.wrapper Rows.topLandRow.mainSum := by unfold Func.isWrapper; first | (rw [if_pos (by decide +kernel)]; kernel_rfl) | (rw [if_neg (by decide +kernel)]; exact ⟨rfl, rfl⟩)
end Go.Proofs.YtldbkigenaakkaaGreatDoor.topLand

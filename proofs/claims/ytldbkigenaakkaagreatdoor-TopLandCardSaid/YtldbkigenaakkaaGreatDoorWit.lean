/- Words of the print that this seat's texts use (its own rows, shortened). -/
/- (second text) A world that meets the row's condition, fact by fact (each by the kernel). -/
import Derived.Test.YtldbkigenaakkaaGreatDoorWita
import Derived.KernelRfl
import Derived.Lay
import Derived.LaidLaws
import Derived.MakeChecks
import Derived.Handed
namespace Go.Proofs.YtldbkigenaakkaaGreatDoor.topLand
open Go
theorem wit_d (os : Os) (H : Type) (enc : TypeId × Value → H) : Rows.topLandSpec.preB enc Tryz.prog Tryz.f3 Rows.topLandRow.domain false ((wl os).forCall (fun _ _ => 0) ⟨#[], wa, []⟩).memory wa 8 = true := by kernel_rfl
theorem wit_e (os : Os) (H : Type) (enc : TypeId × Value → H) : Rows.topLandSpec.sizedB enc Tryz.prog Tryz.f3 false ((wl os).forCall (fun _ _ => 0) ⟨#[], wa, []⟩).memory wa 8 = true := by kernel_rfl
theorem wit_p : (Rows.topLandRow.laid.all fun x => x.2.handleName?.isNone) = true := by kernel_rfl
theorem wit_f (os : Os) : (World.holding Tryz.prog os ⟨#[], #[], []⟩).layFits Tryz.prog Rows.topLandRow.laid [] = true := by kernel_rfl
theorem wit_i (os : Os) : (World.holding Tryz.prog os ⟨#[], #[], []⟩).layIfaces Tryz.prog Rows.topLandRow.laid (wl os) = true := by kernel_rfl
theorem wit (os : Os) (H : Type) (enc : TypeId × Value → H) : ∃ (w : World) (tape : Tape) (i : Input), w.os = os ∧ (w.forCall tape i).Shaped Tryz.prog ∧ i.vars = [] ∧ Input.okWide Tryz.prog (w.forCall tape i) .any w.heap.size 3 i ∧
      ((Rows.topLandSpec.pre enc Tryz.prog Tryz.f3 Rows.topLandRow.domain false (w.forCall tape i).memory i.args ∧ laidMetH Tryz.prog Rows.topLandRow.laid (w.forCall tape i).memory) ∧ sizedMet enc Tryz.prog Tryz.f3 (OpenSpec.ofChange Rows.topLandSpec) false (w.forCall tape i).memory i.args) ∧ ({} : Assume).holds Tryz.prog (lone (Frame.enter Tryz.prog 3 i.args .normal) [] (w.forCall tape i)) :=
  ChangeSpec.witness_shaped (enc := enc) (C := Tryz.checked) (os := os) (X := fun w _ => laidMetH Tryz.prog Rows.topLandRow.laid w) false (wl os) wa 8 (World.laidAll_os _ _ _)
    (World.shaped_of_ZipB (wit_a os) (wit_b os)) (wit_c os) (wit_d os H enc) (wit_e os H enc)
    (by rw [MakeChecks.laidMetH_plain _ _ _ wit_p]; exact laidMet_laidAll _ (wit_f os) (wit_i os))
end Go.Proofs.YtldbkigenaakkaaGreatDoor.topLand

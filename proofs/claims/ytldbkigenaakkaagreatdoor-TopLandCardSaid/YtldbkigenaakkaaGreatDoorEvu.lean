/- The evaluator, part u. -/
import Derived.Test.YtldbkigenaakkaaGreatDoorEvt
namespace Go.Proofs.YtldbkigenaakkaaGreatDoorExe
open D Go.RowKit
set_option linter.unusedVariables false
set_option linter.unusedSimpArgs false
set_option linter.unusedSectionVars false
theorem k_eS12 : chkEnt Tryz.prog 10000 200 [] eS12 = true := by kernel_rfl
theorem ok_eS12 : EntOk Tryz.prog eS12 := ent_sound mixed (by simp) k_eS12
theorem k_eVal3 : chkEnt Tryz.prog 10000 200 [] eVal3 = true := by kernel_rfl
theorem ok_eVal3 : EntOk Tryz.prog eVal3 := ent_sound mixed (by simp) k_eVal3
theorem k_eRead : chkEnt Tryz.prog 10000 200 [eChunks, eS1, eS2, eS11, eS12, eVal3] eRead = true := by kernel_rfl
theorem ok_eRead : EntOk Tryz.prog eRead := ent_sound mixed (by simpa using ⟨ok_eChunks, ok_eS1, ok_eS2, ok_eS11, ok_eS12, ok_eVal3⟩) k_eRead
theorem k_eKnown : chkEnt Tryz.prog 10000 200 [eNew, eDo, eWrite, eRead] eKnown = true := by kernel_rfl
theorem ok_eKnown : EntOk Tryz.prog eKnown := ent_sound mixed (by simpa using ⟨ok_eNew, ok_eDo, ok_eWrite, ok_eRead⟩) k_eKnown
/-- What hinterlandtop.wKnown answers, in any world. -/
theorem wKnown_calls (w : World) : Calls Tryz.prog 5 #[] w fun e w' => e = .returned (.bool true) ∧ Below w.heap.size w w' :=
  closed_sound ok_eKnown rfl rfl (b := true) rfl w
end Go.Proofs.YtldbkigenaakkaaGreatDoorExe

/- The evaluator, part t. -/
import Derived.Test.YtldbkigenaakkaaGreatDoorEvs
namespace Go.Proofs.YtldbkigenaakkaaGreatDoorExe
open D
set_option linter.unusedVariables false
set_option linter.unusedSimpArgs false
set_option linter.unusedSectionVars false
theorem k_eWrite : chkEnt Tryz.prog 10000 200 [eVal2, eHold11, eHold12] eWrite = true := by kernel_rfl
theorem ok_eWrite : EntOk Tryz.prog eWrite := ent_sound mixed (by simpa using ⟨ok_eVal2, ok_eHold11, ok_eHold12⟩) k_eWrite
theorem k_eS1 : chkEnt Tryz.prog 10000 200 [] eS1 = true := by kernel_rfl
theorem ok_eS1 : EntOk Tryz.prog eS1 := ent_sound mixed (by simp) k_eS1
theorem k_eS2 : chkEnt Tryz.prog 10000 200 [] eS2 = true := by kernel_rfl
theorem ok_eS2 : EntOk Tryz.prog eS2 := ent_sound mixed (by simp) k_eS2
theorem k_eS11 : chkEnt Tryz.prog 10000 200 [] eS11 = true := by kernel_rfl
theorem ok_eS11 : EntOk Tryz.prog eS11 := ent_sound mixed (by simp) k_eS11
end Go.Proofs.YtldbkigenaakkaaGreatDoorExe

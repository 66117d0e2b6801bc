/- The evaluator, part s. -/
import Derived.Test.YtldbkigenaakkaaGreatDoorEvr
namespace Go.Proofs.YtldbkigenaakkaaGreatDoorExe
open D
set_option linter.unusedVariables false
set_option linter.unusedSimpArgs false
set_option linter.unusedSectionVars false
theorem k_eDo : chkEnt Tryz.prog 10000 200 [eVal1] eDo = true := by kernel_rfl
theorem ok_eDo : EntOk Tryz.prog eDo := ent_sound mixed (by simpa using ok_eVal1) k_eDo
theorem k_eVal2 : chkEnt Tryz.prog 10000 200 [] eVal2 = true := by kernel_rfl
theorem ok_eVal2 : EntOk Tryz.prog eVal2 := ent_sound mixed (by simp) k_eVal2
theorem k_eHold11 : chkEnt Tryz.prog 10000 200 [] eHold11 = true := by kernel_rfl
theorem ok_eHold11 : EntOk Tryz.prog eHold11 := ent_sound mixed (by simp) k_eHold11
theorem k_eHold12 : chkEnt Tryz.prog 10000 200 [] eHold12 = true := by kernel_rfl
theorem ok_eHold12 : EntOk Tryz.prog eHold12 := ent_sound mixed (by simp) k_eHold12
theorem k_eChunks : chkEnt Tryz.prog 10000 200 [] eChunks = true := by kernel_rfl
theorem ok_eChunks : EntOk Tryz.prog eChunks := ent_sound mixed (by simp) k_eChunks
end Go.Proofs.YtldbkigenaakkaaGreatDoorExe

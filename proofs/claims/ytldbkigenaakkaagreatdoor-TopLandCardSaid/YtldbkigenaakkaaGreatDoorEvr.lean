/- The evaluator, part r. -/
import Derived.Test.YtldbkigenaakkaaGreatDoorProg
import Derived.KernelRfl
import Derived.Test.YtldbkigenaakkaaGreatDoorEvq
namespace Go.Proofs.YtldbkigenaakkaaGreatDoorExe
open D
set_option linter.unusedVariables false
set_option linter.unusedSimpArgs false
set_option linter.unusedSectionVars false
theorem mixed : Tryz.prog.follows .mixedOrders = true := by kernel_rfl
theorem k_eGrow : chkEnt Tryz.prog 10000 200 [] eGrow = true := by kernel_rfl
theorem ok_eGrow : EntOk Tryz.prog eGrow := ent_sound mixed (by simp) k_eGrow
theorem k_eNew : chkEnt Tryz.prog 10000 200 [eGrow] eNew = true := by kernel_rfl
theorem ok_eNew : EntOk Tryz.prog eNew := ent_sound mixed (by simpa using ok_eGrow) k_eNew
theorem k_eVal1 : chkEnt Tryz.prog 10000 200 [] eVal1 = true := by kernel_rfl
theorem ok_eVal1 : EntOk Tryz.prog eVal1 := ent_sound mixed (by simp) k_eVal1
end Go.Proofs.YtldbkigenaakkaaGreatDoorExe

/- Words of the print that this seat's texts use (its own rows, shortened). -/
/- A world that meets the row's condition, fact by fact (each by the kernel). -/
import Derived.Test.YtldbkigenaakkaaGreatDoorRows
import Derived.KernelRfl
import Derived.Lay
import Derived.LaidLaws
import Derived.MakeChecks
import Derived.Handed
namespace Go.Proofs.YtldbkigenaakkaaGreatDoor.topLand
open Go
noncomputable abbrev wl (os : Os) : World := World.laidAll Tryz.prog os Rows.topLandRow.laid
abbrev wa : Array Value := #[.int .u64 0, .int .i64 0, .int .i64 0, .int .i64 0, .slice none 0 0]
theorem wit_a (os : Os) : World.variablesZipB Tryz.prog ((wl os).forCall (fun _ _ => 0) ⟨#[], wa, []⟩) = true := by kernel_rfl
theorem wit_b (os : Os) : (((wl os).forCall (fun _ _ => 0) ⟨#[], wa, []⟩).heap.toList.drop Tryz.prog.globals.size).take ((begin Tryz.prog (fun _ _ => 0) default).world.heap.size - Tryz.prog.globals.size) = (begin Tryz.prog (fun _ _ => 0) default).world.heap.toList.drop Tryz.prog.globals.size := by kernel_rfl
theorem wit_c (os : Os) : Input.okWideB Tryz.prog ((wl os).forCall (fun _ _ => 0) ⟨#[], wa, []⟩) 3 ⟨#[], wa, []⟩ = true := by kernel_rfl
end Go.Proofs.YtldbkigenaakkaaGreatDoor.topLand

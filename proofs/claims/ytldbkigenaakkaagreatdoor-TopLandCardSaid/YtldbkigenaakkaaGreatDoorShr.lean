/- The seat's own words: a row of whole numbers that came in, as what may be shared. -/
import Derived.Test.YtldbkigenaakkaaGreatDoorWMore
namespace Go.Proofs.YtldbkigenaakkaaGreatDoorOwn
open Go.RowKit Go.Proofs.YtldbkigenaakkaaGreatDoorW.PrintWords
theorem V_of_C_int {k : IntKind} {e base c : Nat} {W : World} {A : Option Addr} {xs : List Int} (h : (Kd.int k).C W A xs.length xs) (hc : xs.length ≤ c) : Kd.V (Kd.int k) e W base (fun k_ => k_ < W.heap.size) (.slice A xs.length c) xs := by
  refine ⟨A, c, rfl, hc, fun W' hW => ⟨h.1, h.2.1, fun hn => ?_⟩⟩
  obtain ⟨ad, e, hcell⟩ := h.2.2 hn
  refine ⟨ad, e, fun j p hj => ?_⟩
  obtain ⟨cs, h1, h2, h3⟩ := hcell j p hj
  refine ⟨cs, h1, h2, fun i u hu => ?_⟩
  have h4 := h3 i u hu
  have hb := World.block_lt_of_cell? W _ h4
  have h5 := hW _ hb hb
  rw [← h4]
  unfold World.cell?
  rw [h5]
end Go.Proofs.YtldbkigenaakkaaGreatDoorOwn

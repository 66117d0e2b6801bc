import Derived.Test.YtchflcnegpnkkabPlain
import Derived.Test.YtchflcnegpnkkabVal
import Derived.Test.YtchflcnegpnkkabQ6
import Derived.Test.YtchflcnegpnkkabQ4
import Derived.Test.YtchflcnegpnkkabQ16
import Derived.Test.YtchflcnegpnkkabQ18
namespace Go.Proofs.Ytchflcnegpnkkab.Til
open Go.RowKit Go.Proofs.YtchflcnegpnkkabOwn Go.Proofs.Ytchflcnegpnkkab.Q Go.Proofs.Ytchflcnegpnkkab.Val Go.Proofs.YtchflcnegpnkkabW.PrintWords Go.Proofs.YtchflcnegpnkkabW.PrintLast
def isT (W H t : Int) : Prop := 0 ≤ t ∧ t < W * H
instance (W H t : Int) : Decidable (isT W H t) := by unfold isT; infer_instance
def pl (W t : Int) : Int := t / W * (W + 1) + t % W
theorem area {W H : Int} {L : List Int} (s : Sides W H L) : wrap64 (W * H) = W * H := by
  obtain ⟨a, b, c, e, f⟩ := s
  have h1 := Int.mul_le_mul b e (by omega) (by omega)
  have h2 := Int.mul_nonneg (show 0 ≤ W by omega) (show 0 ≤ H by omega)
  exact w64_in (by omega) (by omega)
theorem isTile_ok {W H : Int} {L : List Int} (s : Sides W H L) (t : Int) : land_isTile.f W H L t = some (decide (isT W H t)) := by
  unfold land_isTile.f
  rw [area s]
  by_cases h : t ≥ 0
  · rw [if_pos h]; exact congrArg some (decide_eq_decide.mpr ⟨fun a => ⟨h, a⟩, fun a => a.2⟩)
  · rw [if_neg h]; exact congrArg some (decide_eq_false (fun a => h a.1)).symm
theorem Is_ok {W H : Int} {L : List Int} (s : Sides W H L) (t : Int) : hinterlandref02_Is.f W H L t = some (decide (isT W H t)) := isTile_ok s t
theorem tile_xy {W H : Int} {L : List Int} (s : Sides W H L) {t : Int} (ht : isT W H t) : 0 ≤ t / W ∧ t / W < H ∧ 0 ≤ t % W ∧ t % W < W ∧ t / W * W + t % W = t := by
  obtain ⟨a, b, c, e, f⟩ := s
  obtain ⟨h0, h1⟩ := ht
  refine ⟨Int.ediv_nonneg h0 (by omega), Int.ediv_lt_of_lt_mul (by omega) (by rw [Int.mul_comm]; exact h1), Int.emod_nonneg t (by omega), Int.emod_lt_of_pos t (by omega), ?_⟩
  rw [Int.mul_comm]; exact Int.mul_ediv_add_emod t W
theorem pl_in {W H : Int} {L : List Int} (s : Sides W H L) {t : Int} (ht : isT W H t) : 0 ≤ pl W t ∧ pl W t + W + 2 < (L.length : Int) := by
  obtain ⟨y0, y1, x0, x1, _⟩ := tile_xy s ht
  obtain ⟨a, b, c, e, f⟩ := s
  unfold pl
  have h1 := row_in (m := W + 1) (show 0 ≤ t / W + 1 by omega) (show t / W + 1 ≤ H by omega) (by omega)
  have h2 := row_in (m := W + 1) y0 (show t / W ≤ H by omega) (by omega)
  have ep : (t / W + 1) * (W + 1) = t / W * (W + 1) + (W + 1) := by rw [Int.add_mul, Int.one_mul]
  omega
theorem pl_wrap {W H : Int} {L : List Int} (s : Sides W H L) {t : Int} (ht : isT W H t) : wrap64 (wrap64 (wrap64 (Int.tdiv t W) * wrap64 (W + 1)) + Int.tmod t W) = pl W t := by
  obtain ⟨y0, y1, x0, x1, _⟩ := tile_xy s ht
  obtain ⟨i0, i1⟩ := pl_in s ht
  obtain ⟨l0, l1⟩ := len_le s
  obtain ⟨a, b, c, e, f⟩ := s
  have h2 := row_in (m := W + 1) y0 (show t / W ≤ H by omega) (by omega)
  rw [Int.tdiv_eq_ediv_of_nonneg ht.1, Int.tmod_eq_emod_of_nonneg ht.1, w64_in (x := t / W) (by omega) (by omega), w64_in (x := W + 1) (by omega) (by omega), w64_in (x := t / W * (W + 1)) (by omega) (by omega)]
  exact w64_in (x := pl W t) (by omega) (by omega)
theorem places_ok {W H : Int} {L : List Int} (s : Sides W H L) {t : Int} (ht : isT W H t) : hinterlandref02_Places.f W H L t = some (pl W t, pl W t + 1, pl W t + W + 2, pl W t + W + 1) := by
  have hw := pl_wrap s ht
  obtain ⟨i0, i1⟩ := pl_in s ht
  obtain ⟨l0, l1⟩ := len_le s
  obtain ⟨a, b, c, e, f⟩ := s
  unfold hinterlandref02_Places.f
  rw [if_neg (by omega), hw, w64_in (x := pl W t + 1) (by omega) (by omega), w64_in (x := pl W t + W) (by omega) (by omega), w64_in (x := pl W t + W + 2) (by omega) (by omega), w64_in (x := pl W t + W + 1) (by omega) (by omega)]
theorem four_ok {W H : Int} {L M : List Int} (s : Sides W H L) (hm : M.length = L.length) {t : Int} (ht : isT W H t) : land_four.f W H M t = some (rd M (pl W t), rd M (pl W t + 1), rd M (pl W t + W + 2), rd M (pl W t + W + 1)) := by
  have hw := pl_wrap s ht
  obtain ⟨i0, i1⟩ := pl_in s ht
  obtain ⟨l0, l1⟩ := len_le s
  obtain ⟨a, b, c, e, f⟩ := s
  unfold land_four.f
  rw [if_neg (by omega), hw, w64_in (x := pl W t + 1) (by omega) (by omega), w64_in (x := pl W t + W) (by omega) (by omega), w64_in (x := pl W t + W + 2) (by omega) (by omega), w64_in (x := pl W t + W + 1) (by omega) (by omega), hm]
  rw [if_pos (by omega), if_pos (by omega), if_pos (by omega), if_pos (by omega), if_pos (by omega), if_pos (by omega), if_pos (by omega), if_pos (by omega)]
theorem tile_near {W H : Int} {L : List Int} (v : Valid W H L) {t : Int} (ht : isT W H t) : near (rd L (pl W t)) (rd L (pl W t + 1)) ∧ near (rd L (pl W t)) (rd L (pl W t + W + 1)) ∧ near (rd L (pl W t + 1)) (rd L (pl W t + W + 2)) ∧ near (rd L (pl W t + W + 1)) (rd L (pl W t + W + 2)) := by
  obtain ⟨s, hh, st⟩ := v
  obtain ⟨y0, y1, x0, x1, _⟩ := tile_xy s ht
  have ep : (t / W + 1) * (W + 1) = t / W * (W + 1) + (W + 1) := by rw [Int.add_mul, Int.one_mul]
  have c1 := st (t / W) (t % W) y0 (by omega) x0 (by omega)
  have c2 := st (t / W) (t % W + 1) y0 (by omega) (by omega) (by omega)
  have c3 := st (t / W + 1) (t % W) (by omega) (by omega) x0 (by omega)
  unfold cell at c1 c2 c3
  rw [ep] at c1 c2 c3
  unfold pl
  generalize t / W * (W + 1) = p at *
  refine ⟨c1.1 (by omega), ?_, ?_, ?_⟩
  · have := c1.2 (by omega)
    rwa [show p + (W + 1) + t % W = p + t % W + W + 1 by omega] at this
  · have := c2.2 (by omega)
    rwa [show p + (t % W + 1) = p + t % W + 1 by omega, show p + (W + 1) + (t % W + 1) = p + t % W + W + 2 by omega] at this
  · have := c3.1 (by omega)
    rwa [show p + (W + 1) + t % W + 1 = p + t % W + W + 2 by omega, show p + (W + 1) + t % W = p + t % W + W + 1 by omega] at this
end Go.Proofs.Ytchflcnegpnkkab.Til

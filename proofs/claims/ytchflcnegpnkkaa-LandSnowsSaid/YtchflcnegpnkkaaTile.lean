import Derived.Test.YtchflcnegpnkkaaKnown
import Derived.Test.YtchflcnegpnkkaaQ6
import Derived.Test.YtchflcnegpnkkaaQ7
import Derived.Test.YtchflcnegpnkkaaQ14
import Derived.Test.YtchflcnegpnkkaaQ28
import Derived.Test.YtchflcnegpnkkaaQ29
import Derived.Test.YtchflcnegpnkkaaQ30
import Derived.Test.YtchflcnegpnkkaaQ32
import Derived.Test.YtchflcnegpnkkaaQ34
namespace Go.Proofs.Ytchflcnegpnkkaa.Tile
open Go.RowKit Go.Proofs.YtchflcnegpnkkaaOwn Go.Proofs.Ytchflcnegpnkkaa.Q Go.Proofs.Ytchflcnegpnkkaa.Val Go.Proofs.YtchflcnegpnkkaaW.PrintWords Go.Proofs.YtchflcnegpnkkaaW.PrintLast
def isT (W H t : Int) : Prop := 0 ≤ t ∧ t < W * H
instance (W H t : Int) : Decidable (isT W H t) := by unfold isT; infer_instance
def pl (W t : Int) : Int := t / W * (W + 1) + t % W
theorem area {W H : Int} {L : List Int} (s : Sides W H L) : wrap64 (W * H) = W * H := by
  obtain ⟨a, b, c, e, f⟩ := s
  have h1 := Int.mul_le_mul b e (by omega) (by omega)
  have h2 := Int.mul_nonneg (show 0 ≤ W by omega) (show 0 ≤ H by omega)
  exact w64_in (by omega) (by omega)
theorem isTile_ok {W H : Int} {L : List Int} (s : Sides W H L) (t : Int) : land_isTile.f W H L t = some (decide (isT W H t)) := by
  unfold land_isTile.f
  rw [area s]
  by_cases h : t ≥ 0
  · rw [if_pos h]; exact congrArg some (decide_eq_decide.mpr ⟨fun a => ⟨h, a⟩, fun a => a.2⟩)
  · rw [if_neg h]; exact congrArg some (decide_eq_false (fun a => h a.1)).symm
theorem Is_ok {W H : Int} {L : List Int} (s : Sides W H L) (t : Int) : hinterlandref02_Is.f W H L t = some (decide (isT W H t)) := isTile_ok s t
theorem tile_xy {W H : Int} {L : List Int} (s : Sides W H L) {t : Int} (ht : isT W H t) : 0 ≤ t / W ∧ t / W < H ∧ 0 ≤ t % W ∧ t % W < W ∧ t / W * W + t % W = t := by
  obtain ⟨a, b, c, e, f⟩ := s
  obtain ⟨h0, h1⟩ := ht
  refine ⟨Int.ediv_nonneg h0 (by omega), Int.ediv_lt_of_lt_mul (by omega) (by rw [Int.mul_comm]; exact h1), Int.emod_nonneg t (by omega), Int.emod_lt_of_pos t (by omega), ?_⟩
  rw [Int.mul_comm]; exact Int.mul_ediv_add_emod t W
theorem pl_in {W H : Int} {L : List Int} (s : Sides W H L) {t : Int} (ht : isT W H t) : 0 ≤ pl W t ∧ pl W t + W + 2 < (L.length : Int) := by
  obtain ⟨y0, y1, x0, x1, _⟩ := tile_xy s ht
  obtain ⟨a, b, c, e, f⟩ := s
  unfold pl
  have h1 := row_in (m := W + 1) (show 0 ≤ t / W + 1 by omega) (show t / W + 1 ≤ H by omega) (by omega)
  have h2 := row_in (m := W + 1) y0 (show t / W ≤ H by omega) (by omega)
  have ep : (t / W + 1) * (W + 1) = t / W * (W + 1) + (W + 1) := by rw [Int.add_mul, Int.one_mul]
  omega
theorem pl_wrap {W H : Int} {L : List Int} (s : Sides W H L) {t : Int} (ht : isT W H t) : wrap64 (wrap64 (wrap64 (Int.tdiv t W) * wrap64 (W + 1)) + Int.tmod t W) = pl W t := by
  obtain ⟨y0, y1, x0, x1, _⟩ := tile_xy s ht
  obtain ⟨i0, i1⟩ := pl_in s ht
  obtain ⟨l0, l1⟩ := len_le s
  obtain ⟨a, b, c, e, f⟩ := s
  have h2 := row_in (m := W + 1) y0 (show t / W ≤ H by omega) (by omega)
  rw [Int.tdiv_eq_ediv_of_nonneg ht.1, Int.tmod_eq_emod_of_nonneg ht.1, w64_in (x := t / W) (by omega) (by omega), w64_in (x := W + 1) (by omega) (by omega), w64_in (x := t / W * (W + 1)) (by omega) (by omega)]
  exact w64_in (x := pl W t) (by omega) (by omega)
theorem places_ok {W H : Int} {L : List Int} (s : Sides W H L) {t : Int} (ht : isT W H t) : hinterlandref02_Places.f W H L t = some (pl W t, pl W t + 1, pl W t + W + 2, pl W t + W + 1) := by
  have hw := pl_wrap s ht
  obtain ⟨i0, i1⟩ := pl_in s ht
  obtain ⟨l0, l1⟩ := len_le s
  obtain ⟨a, b, c, e, f⟩ := s
  unfold hinterlandref02_Places.f
  rw [if_neg (by omega), hw, w64_in (x := pl W t + 1) (by omega) (by omega), w64_in (x := pl W t + W) (by omega) (by omega), w64_in (x := pl W t + W + 2) (by omega) (by omega), w64_in (x := pl W t + W + 1) (by omega) (by omega)]
theorem four_ok {W H : Int} {L M : List Int} (s : Sides W H L) (hm : M.length = L.length) {t : Int} (ht : isT W H t) : land_four.f W H M t = some (rd M (pl W t), rd M (pl W t + 1), rd M (pl W t + W + 2), rd M (pl W t + W + 1)) := by
  have hw := pl_wrap s ht
  obtain ⟨i0, i1⟩ := pl_in s ht
  obtain ⟨l0, l1⟩ := len_le s
  obtain ⟨a, b, c, e, f⟩ := s
  unfold land_four.f
  rw [if_neg (by omega), hw, w64_in (x := pl W t + 1) (by omega) (by omega), w64_in (x := pl W t + W) (by omega) (by omega), w64_in (x := pl W t + W + 2) (by omega) (by omega), w64_in (x := pl W t + W + 1) (by omega) (by omega), hm]
  rw [if_pos (by omega), if_pos (by omega), if_pos (by omega), if_pos (by omega), if_pos (by omega), if_pos (by omega), if_pos (by omega), if_pos (by omega)]
theorem tile_near {W H : Int} {L : List Int} (v : Valid W H L) {t : Int} (ht : isT W H t) : near (rd L (pl W t)) (rd L (pl W t + 1)) ∧ near (rd L (pl W t)) (rd L (pl W t + W + 1)) ∧ near (rd L (pl W t + 1)) (rd L (pl W t + W + 2)) ∧ near (rd L (pl W t + W + 1)) (rd L (pl W t + W + 2)) := by
  obtain ⟨s, hh, st⟩ := v
  obtain ⟨y0, y1, x0, x1, _⟩ := tile_xy s ht
  have ep : (t / W + 1) * (W + 1) = t / W * (W + 1) + (W + 1) := by rw [Int.add_mul, Int.one_mul]
  have c1 := st (t / W) (t % W) y0 (by omega) x0 (by omega)
  have c2 := st (t / W) (t % W + 1) y0 (by omega) (by omega) (by omega)
  have c3 := st (t / W + 1) (t % W) (by omega) (by omega) x0 (by omega)
  unfold cell at c1 c2 c3
  rw [ep] at c1 c2 c3
  unfold pl
  generalize t / W * (W + 1) = p at *
  refine ⟨c1.1 (by omega), ?_, ?_, ?_⟩
  · have := c1.2 (by omega)
    rwa [show p + (W + 1) + t % W = p + t % W + W + 1 by omega] at this
  · have := c2.2 (by omega)
    rwa [show p + (t % W + 1) = p + t % W + 1 by omega, show p + (W + 1) + (t % W + 1) = p + t % W + W + 2 by omega] at this
  · have := c3.1 (by omega)
    rwa [show p + (W + 1) + t % W + 1 = p + t % W + W + 2 by omega, show p + (W + 1) + t % W = p + t % W + W + 1 by omega] at this
theorem check_ok (W H : Int) (L : List Int) (t : Int) : ∃ r, Ev (fun k => hinterlandref02_Validate.f k W H L) r ∧ (r = 0 ↔ Valid W H L) ∧ Ev (fun k => land_check.f k W H L t) (if r = 0 then (if isT W H t then 0 else 2) else r) := by
  obtain ⟨r, h1, h2, h3⟩ := validate_ok W H L
  refine ⟨r, h2, h3, ?_⟩
  unfold land_check.f
  refine Ev.bind h1 ?_
  by_cases hr : r = 0
  · have v := h3.1 hr
    simp only [hr, if_true, isTile_ok v.1, Option.bind_some]
    by_cases ht : isT W H t <;> simp [ht] <;> exact Ev.now _
  · simp only [hr, if_false]; exact Ev.now _
/-- What one corner adds to a slope. -/
def nx (s i d : Int) : Int := let s' := if d > 0 then Go.bits .or .i64 s (shl .i64 1 i) else s; if d > 1 then Go.bits .or .i64 s' 16 else s'
def add (s w d : Int) : Int := if d > 0 then wrap64 (s + w) else s
theorem slopes_alike : ∀ a b c d : Fin 3, nx (nx (nx (nx 0 0 (a.val : Int)) 1 (b.val : Int)) 2 (c.val : Int)) 3 (d.val : Int) = (if mx (mx (mx (a.val : Int) b.val) c.val) d.val = 2 then wrap64 (add (add (add (add 0 1 a.val) 2 b.val) 4 c.val) 8 d.val + 16) else add (add (add (add 0 1 a.val) 2 b.val) 4 c.val) 8 d.val) := by decide +kernel
theorem slopes_alike' {a b c d : Int} (ha : 0 ≤ a ∧ a ≤ 2) (hb : 0 ≤ b ∧ b ≤ 2) (hc : 0 ≤ c ∧ c ≤ 2) (hd : 0 ≤ d ∧ d ≤ 2) : nx (nx (nx (nx 0 0 a) 1 b) 2 c) 3 d = (if mx (mx (mx a b) c) d = 2 then wrap64 (add (add (add (add 0 1 a) 2 b) 4 c) 8 d + 16) else add (add (add (add 0 1 a) 2 b) 4 c) 8 d) := by
  have := slopes_alike ⟨a.toNat, by omega⟩ ⟨b.toNat, by omega⟩ ⟨c.toNat, by omega⟩ ⟨d.toNat, by omega⟩
  simp only [Int.toNat_of_nonneg ha.1, Int.toNat_of_nonneg hb.1, Int.toNat_of_nonneg hc.1, Int.toNat_of_nonneg hd.1] at this
  exact this
theorem sl0 {b s i z0 z1 z2 z3 : Int} (hb : 0 ≤ b ∧ b ≤ 15) (hi : 0 ≤ i ∧ i < 4) (k : Nat) : land_Slope.l0 (k + 1 + 1) b s i z0 z1 z2 z3 = land_Slope.l0 k b (nx s i (rd [z0, z1, z2, z3] i - b)) (i + 1) z0 z1 z2 z3 := by
  simp only [land_Slope.l0, land_Slope.j1]
  rw [if_pos hi.2, if_pos hi.1, w64_in (x := b + 1) (by omega) (by omega), w64_in (x := i + 1) (by omega) (by omega)]
  generalize rd [z0, z1, z2, z3] i = z
  unfold nx
  by_cases h1 : z > b
  · rw [if_pos h1, if_pos (show z - b > 0 by omega)]
    by_cases h2 : z > b + 1
    · rw [if_pos h2, if_pos (show z - b > 1 by omega)]
    · rw [if_neg h2, if_neg (show ¬ z - b > 1 by omega)]
  · rw [if_neg h1, if_neg (show ¬ z - b > 0 by omega)]
    by_cases h2 : z > b + 1
    · omega
    · rw [if_neg h2, if_neg (show ¬ z - b > 1 by omega)]
theorem slope_loop {b z0 z1 z2 z3 : Int} (hb : 0 ≤ b ∧ b ≤ 15) : Ev (fun k => land_Slope.l0 k b 0 0 z0 z1 z2 z3) (nx (nx (nx (nx 0 0 (z0 - b)) 1 (z1 - b)) 2 (z2 - b)) 3 (z3 - b), b, 0) := by
  refine ⟨9, fun k hk => ?_⟩
  obtain ⟨k, rfl⟩ : ∃ m, k = m + 1 + 1 + 1 + 1 + 1 + 1 + 1 + 1 + 1 := ⟨k - 9, by omega⟩
  show land_Slope.l0 (k + 1 + 1 + 1 + 1 + 1 + 1 + 1 + 1 + 1) b 0 0 z0 z1 z2 z3 = _
  rw [sl0 hb (by omega), sl0 hb (by omega), sl0 hb (by omega), sl0 hb (by omega)]
  simp only [land_Slope.l0]
  rw [if_neg (by omega)]
  rfl
/-- The heights of a tile: from the least one on, 0 to 2. -/
structure Four (b z0 z1 z2 z3 : Int) : Prop where
  b0 : 0 ≤ b ∧ b ≤ 15
  d0 : 0 ≤ z0 - b ∧ z0 - b ≤ 2
  d1 : 0 ≤ z1 - b ∧ z1 - b ≤ 2
  d2 : 0 ≤ z2 - b ∧ z2 - b ≤ 2
  d3 : 0 ≤ z3 - b ∧ z3 - b ≤ 2
theorem four_heights {W H : Int} {L : List Int} (v : Valid W H L) {t : Int} (ht : isT W H t) : Four (mn (mn (mn (rd L (pl W t)) (rd L (pl W t + 1))) (rd L (pl W t + W + 2))) (rd L (pl W t + W + 1))) (rd L (pl W t)) (rd L (pl W t + 1)) (rd L (pl W t + W + 2)) (rd L (pl W t + W + 1)) := by
  obtain ⟨n1, n2, n3, n4⟩ := tile_near v ht
  obtain ⟨i0, i1⟩ := pl_in v.1 ht
  obtain ⟨a, b, c, e, f⟩ := v.1
  have h0 := v.2.1 (pl W t) (by omega) (by omega)
  have h1 := v.2.1 (pl W t + 1) (by omega) (by omega)
  have h2 := v.2.1 (pl W t + W + 2) (by omega) (by omega)
  have h3 := v.2.1 (pl W t + W + 1) (by omega) (by omega)
  generalize rd L (pl W t) = z0 at *
  generalize rd L (pl W t + 1) = z1 at *
  generalize rd L (pl W t + W + 2) = z2 at *
  generalize rd L (pl W t + W + 1) = z3 at *
  unfold near at *
  unfold mn
  constructor <;> (repeat' split) <;> omega
theorem face_ok {W H : Int} {L : List Int} (v : Valid W H L) {t : Int} (ht : isT W H t) {z0 z1 z2 z3 : Int} (e0 : rd L (pl W t) = z0) (e1 : rd L (pl W t + 1) = z1) (e2 : rd L (pl W t + W + 2) = z2) (e3 : rd L (pl W t + W + 1) = z3) : Ev (fun k => hinterlandref02_Face.f k W H L t) (nx (nx (nx (nx 0 0 (z0 - mn (mn (mn z0 z1) z2) z3)) 1 (z1 - mn (mn (mn z0 z1) z2) z3)) 2 (z2 - mn (mn (mn z0 z1) z2) z3)) 3 (z3 - mn (mn (mn z0 z1) z2) z3), mn (mn (mn z0 z1) z2) z3) := by
  obtain ⟨b0, d0, d1, d2, d3⟩ := four_heights v ht
  obtain ⟨i0, i1⟩ := pl_in v.1 ht
  obtain ⟨a, b, c, e, f⟩ := v.1
  rw [e0, e1, e2, e3] at b0 d0 d1 d2 d3
  rw [slopes_alike' d0 d1 d2 d3]
  refine ⟨10, fun k hk => ?_⟩
  obtain ⟨k, rfl⟩ : ∃ m, k = m + 1 + 1 + 1 + 1 + 1 + 1 + 1 + 1 + 1 + 1 := ⟨k - 10, by omega⟩
  show hinterlandref02_Face.f (k + 1 + 1 + 1 + 1 + 1 + 1 + 1 + 1 + 1 + 1) W H L t = _
  unfold hinterlandref02_Face.f
  rw [Tile.places_ok v.1 ht]
  simp only [Option.bind_some]
  rw [if_pos i0, if_pos (by omega)]
  generalize pl W t = i at *
  simp only [hinterlandref02_Face.l0, show rd [i, i + 1, i + W + 2, i + W + 1] 0 = i from rfl, show wrap64 (0 + 1) = 1 from w64_in (by omega) (by omega), show wrap64 (1 + 1) = 2 from w64_in (by omega) (by omega), show wrap64 (2 + 1) = 3 from w64_in (by omega) (by omega), show wrap64 (3 + 1) = 4 from w64_in (by omega) (by omega), show rd [i, i + 1, i + W + 2, i + W + 1] 1 = i + 1 from rfl, show rd [i, i + 1, i + W + 2, i + W + 1] 2 = i + W + 2 from rfl, show rd [i, i + 1, i + W + 2, i + W + 1] 3 = i + W + 1 from rfl, e0, e1, e2, e3]
  rw [if_pos (by omega), if_pos (by omega), if_pos (by omega), if_pos (by omega), if_pos (by omega), if_pos (by omega), if_pos (by omega), if_pos (by omega), if_pos (by omega), if_pos (by omega), if_pos (by omega), if_pos (by omega), if_pos (by omega), if_pos (by omega), if_pos (by omega), if_pos (by omega), if_neg (by omega)]
  have em : mn (mn (mn (mn z0 z0) z1) z2) z3 = mn (mn (mn z0 z1) z2) z3 := by rw [show mn z0 z0 = z0 by unfold mn; split <;> rfl]
  have ex : mx (mx (mx (mx z0 z0) z1) z2) z3 = mx (mx (mx z0 z1) z2) z3 := by rw [show mx z0 z0 = z0 by unfold mx; split <;> rfl]
  rw [em, ex]
  generalize mn (mn (mn z0 z1) z2) z3 = m at *
  simp only [hinterlandref02_Face.l1, show rd [i, i + 1, i + W + 2, i + W + 1] 0 = i from rfl, show wrap64 (0 + 1) = 1 from w64_in (by omega) (by omega), show wrap64 (1 + 1) = 2 from w64_in (by omega) (by omega), show wrap64 (2 + 1) = 3 from w64_in (by omega) (by omega), show wrap64 (3 + 1) = 4 from w64_in (by omega) (by omega), show rd [i, i + 1, i + W + 2, i + W + 1] 1 = i + 1 from rfl, show rd [i, i + 1, i + W + 2, i + W + 1] 2 = i + W + 2 from rfl, show rd [i, i + 1, i + W + 2, i + W + 1] 3 = i + W + 1 from rfl, e0, e1, e2, e3, show wrap64 (1 * 2) = 2 from w64_in (by omega) (by omega), show wrap64 (2 * 2) = 4 from w64_in (by omega) (by omega), show wrap64 (4 * 2) = 8 from w64_in (by omega) (by omega)]
  have c4 : (1 : Int) < 4 := by omega
  have c5 : (2 : Int) < 4 := by omega
  have c6 : (3 : Int) < 4 := by omega
  have c7 : (0 : Int) < 4 := by omega
  have c8 : ¬ (4 : Int) < 4 := by omega
  have r0 : (0 : Int) ≤ 1 := by omega
  have r1 : (0 : Int) ≤ 2 := by omega
  have r2 : (0 : Int) ≤ 3 := by omega
  have q0 : i < (L.length : Int) := by omega
  have q1 : 0 ≤ i + 1 ∧ i + 1 < (L.length : Int) := by omega
  have q2 : 0 ≤ i + W + 2 ∧ i + W + 2 < (L.length : Int) := by omega
  have q3 : 0 ≤ i + W + 1 ∧ i + W + 1 < (L.length : Int) := by omega
  have sg : ∀ z : Int, (z > m) = (z - m > 0) := fun z => propext ⟨fun h => by omega, fun h => by omega⟩
  have tp : (wrap64 (mx (mx (mx z0 z1) z2) z3 - m) = 2) = (mx (mx (mx (z0 - m) (z1 - m)) (z2 - m)) (z3 - m) = 2) := by
    have hs : mx (mx (mx (z0 - m) (z1 - m)) (z2 - m)) (z3 - m) = mx (mx (mx z0 z1) z2) z3 - m := by unfold mx; (repeat' split) <;> omega
    rw [hs, w64_in]
    · unfold mx; (repeat' split) <;> omega
    · unfold mx; (repeat' split) <;> omega
  simp only [c4, c5, c6, c7, c8, r0, r1, r2, i0, q0, q1, q2, q3, if_true, if_false, Int.le_refl, tp]
  unfold add
  by_cases g0 : z0 - m > 0 <;> by_cases g1 : z1 - m > 0 <;> by_cases g2 : z2 - m > 0 <;> by_cases g3 : z3 - m > 0 <;> simp only [sg, g0, g1, g2, g3, if_true, if_false, show wrap64 (0 + 1) = 1 from w64_in (by omega) (by omega)] <;> split <;> rfl
theorem wet_ok {W H : Int} {L : List Int} (v : Valid W H L) {t : Int} (ht : isT W H t) : ∃ w, land_wet.f W H L t = some w ∧ Ev (fun k => hinterlandref02_Sea.f k W H L t) w := by
  obtain ⟨i0, i1⟩ := pl_in v.1 ht
  obtain ⟨a, b, c, e, f⟩ := v.1
  have hf := four_ok v.1 rfl ht
  have hp := Tile.places_ok v.1 ht
  unfold land_wet.f
  rw [hf]
  simp only [Option.bind_some]
  refine ⟨_, rfl, 5, fun k hk => ?_⟩
  obtain ⟨k, rfl⟩ : ∃ m, k = m + 1 + 1 + 1 + 1 + 1 := ⟨k - 5, by omega⟩
  show hinterlandref02_Sea.f (k + 1 + 1 + 1 + 1 + 1) W H L t = _
  unfold hinterlandref02_Sea.f
  rw [hp]
  simp only [Option.bind_some]
  generalize pl W t = i at *
  have c4 : (1 : Int) < 4 := by omega
  have c5 : (2 : Int) < 4 := by omega
  have c6 : (3 : Int) < 4 := by omega
  have c7 : (0 : Int) < 4 := by omega
  have c8 : ¬ (4 : Int) < 4 := by omega
  have r0 : (0 : Int) ≤ 1 := by omega
  have r1 : (0 : Int) ≤ 2 := by omega
  have r2 : (0 : Int) ≤ 3 := by omega
  have q0 : i < (L.length : Int) := by omega
  have q1 : 0 ≤ i + 1 ∧ i + 1 < (L.length : Int) := by omega
  have q2 : 0 ≤ i + W + 2 ∧ i + W + 2 < (L.length : Int) := by omega
  have q3 : 0 ≤ i + W + 1 ∧ i + W + 1 < (L.length : Int) := by omega
  simp only [hinterlandref02_Sea.l0, show rd [i, i + 1, i + W + 2, i + W + 1] 0 = i from rfl, show wrap64 (0 + 1) = 1 from w64_in (by omega) (by omega), show wrap64 (1 + 1) = 2 from w64_in (by omega) (by omega), show wrap64 (2 + 1) = 3 from w64_in (by omega) (by omega), show wrap64 (3 + 1) = 4 from w64_in (by omega) (by omega), show rd [i, i + 1, i + W + 2, i + W + 1] 1 = i + 1 from rfl, show rd [i, i + 1, i + W + 2, i + W + 1] 2 = i + W + 2 from rfl, show rd [i, i + 1, i + W + 2, i + W + 1] 3 = i + W + 1 from rfl, c4, c5, c6, c7, c8, r0, r1, r2, i0, q0, q1, q2, q3, if_true, if_false, Int.le_refl]
  generalize rd L i = z0
  generalize rd L (i + 1) = z1
  generalize rd L (i + W + 2) = z2
  generalize rd L (i + W + 1) = z3
  have hx : mx (mx (mx z0 z1) z2) z3 ≤ 2 ↔ z0 ≤ 2 ∧ z1 ≤ 2 ∧ z2 ≤ 2 ∧ z3 ≤ 2 := by unfold mx; (repeat' split) <;> omega
  by_cases g0 : z0 > 2
  · rw [if_pos g0]; exact congrArg some (decide_eq_false (by omega)).symm
  by_cases g1 : z1 > 2
  · rw [if_neg g0, if_pos g1]; exact congrArg some (decide_eq_false (by omega)).symm
  by_cases g2 : z2 > 2
  · rw [if_neg g0, if_neg g1, if_pos g2]; exact congrArg some (decide_eq_false (by omega)).symm
  by_cases g3 : z3 > 2
  · rw [if_neg g0, if_neg g1, if_neg g2, if_pos g3]; exact congrArg some (decide_eq_false (by omega)).symm
  rw [if_neg g0, if_neg g1, if_neg g2, if_neg g3]; exact congrArg some (decide_eq_true (by omega)).symm
end Go.Proofs.Ytchflcnegpnkkaa.Tile

import Derived.Test.YtchflcnegpnkkaaQ17
import Derived.Test.YtchflcnegpnkkaaQ50
import Derived.Test.YtchflcnegpnkkaaQ53
import Derived.Test.YtchflcnegpnkkaaVal
import Derived.Test.YtchflcnegpnkkaaKnown
import Derived.Test.YtchflcnegpnkkaaQ54
import Derived.Test.YtchflcnegpnkkaaTil
import Derived.Test.YtchflcnegpnkkaaQ28
import Derived.Test.YtchflcnegpnkkaaQ32
import Derived.Test.YtchflcnegpnkkaaQ34
namespace Go.Proofs.Ytchflcnegpnkkaa.Riv
open Go.RowKit Go.Proofs.YtchflcnegpnkkaaOwn Go.Proofs.Ytchflcnegpnkkaa.Q Go.Proofs.Ytchflcnegpnkkaa.Val Go.Proofs.Ytchflcnegpnkkaa.Til Go.Proofs.YtchflcnegpnkkaaW.PrintWords Go.Proofs.YtchflcnegpnkkaaW.PrintLast
theorem check_ok (W H : Int) (L : List Int) (t : Int) : ∃ r, Ev (fun k => hinterlandref02_Validate.f k W H L) r ∧ (r = 0 ↔ Valid W H L) ∧ Ev (fun k => land_check.f k W H L t) (if r = 0 then (if isT W H t then 0 else 2) else r) := by
  obtain ⟨r, h1, h2, h3⟩ := validate_ok W H L
  refine ⟨r, h2, h3, ?_⟩
  unfold land_check.f
  refine Ev.bind h1 ?_
  by_cases hr : r = 0
  · have v := h3.1 hr
    simp only [hr, if_true, isTile_ok v.1, Option.bind_some]
    by_cases ht : isT W H t <;> simp [ht] <;> exact Ev.now _
  · simp only [hr, if_false]; exact Ev.now _
theorem wet_ok {W H : Int} {L : List Int} (v : Valid W H L) {t : Int} (ht : isT W H t) : ∃ w, land_wet.f W H L t = some w ∧ Ev (fun k => hinterlandref02_Sea.f k W H L t) w := by
  obtain ⟨i0, i1⟩ := pl_in v.1 ht
  obtain ⟨a, b, c, e, f⟩ := v.1
  have hf := four_ok v.1 rfl ht
  have hp := Til.places_ok v.1 ht
  unfold land_wet.f
  rw [hf]
  simp only [Option.bind_some]
  refine ⟨_, rfl, 5, fun k hk => ?_⟩
  obtain ⟨k, rfl⟩ : ∃ m, k = m + 1 + 1 + 1 + 1 + 1 := ⟨k - 5, by omega⟩
  show hinterlandref02_Sea.f (k + 1 + 1 + 1 + 1 + 1) W H L t = _
  unfold hinterlandref02_Sea.f
  rw [hp]
  simp only [Option.bind_some]
  generalize pl W t = i at *
  have c4 : (1 : Int) < 4 := by omega
  have c5 : (2 : Int) < 4 := by omega
  have c6 : (3 : Int) < 4 := by omega
  have c7 : (0 : Int) < 4 := by omega
  have c8 : ¬ (4 : Int) < 4 := by omega
  have r0 : (0 : Int) ≤ 1 := by omega
  have r1 : (0 : Int) ≤ 2 := by omega
  have r2 : (0 : Int) ≤ 3 := by omega
  have q0 : i < (L.length : Int) := by omega
  have q1 : 0 ≤ i + 1 ∧ i + 1 < (L.length : Int) := by omega
  have q2 : 0 ≤ i + W + 2 ∧ i + W + 2 < (L.length : Int) := by omega
  have q3 : 0 ≤ i + W + 1 ∧ i + W + 1 < (L.length : Int) := by omega
  simp only [hinterlandref02_Sea.l0, show rd [i, i + 1, i + W + 2, i + W + 1] 0 = i from rfl, show wrap64 (0 + 1) = 1 from w64_in (by omega) (by omega), show wrap64 (1 + 1) = 2 from w64_in (by omega) (by omega), show wrap64 (2 + 1) = 3 from w64_in (by omega) (by omega), show wrap64 (3 + 1) = 4 from w64_in (by omega) (by omega), show rd [i, i + 1, i + W + 2, i + W + 1] 1 = i + 1 from rfl, show rd [i, i + 1, i + W + 2, i + W + 1] 2 = i + W + 2 from rfl, show rd [i, i + 1, i + W + 2, i + W + 1] 3 = i + W + 1 from rfl, c4, c5, c6, c7, c8, r0, r1, r2, i0, q0, q1, q2, q3, if_true, if_false, Int.le_refl]
  generalize rd L i = z0
  generalize rd L (i + 1) = z1
  generalize rd L (i + W + 2) = z2
  generalize rd L (i + W + 1) = z3
  have hx : mx (mx (mx z0 z1) z2) z3 ≤ 2 ↔ z0 ≤ 2 ∧ z1 ≤ 2 ∧ z2 ≤ 2 ∧ z3 ≤ 2 := by unfold mx; (repeat' split) <;> omega
  by_cases g0 : z0 > 2
  · rw [if_pos g0]; exact congrArg some (decide_eq_false (by omega)).symm
  by_cases g1 : z1 > 2
  · rw [if_neg g0, if_pos g1]; exact congrArg some (decide_eq_false (by omega)).symm
  by_cases g2 : z2 > 2
  · rw [if_neg g0, if_neg g1, if_pos g2]; exact congrArg some (decide_eq_false (by omega)).symm
  by_cases g3 : z3 > 2
  · rw [if_neg g0, if_neg g1, if_neg g2, if_pos g3]; exact congrArg some (decide_eq_false (by omega)).symm
  rw [if_neg g0, if_neg g1, if_neg g2, if_neg g3]; exact congrArg some (decide_eq_true (by omega)).symm
def tow (W H x y : Int) : Int := if x < 0 ∨ x ≥ W ∨ y < 0 ∨ y ≥ H then -1 else y * W + x
def bey (W H t s : Int) : Int := if s = 0 then tow W H (t % W + 1) (t / W) else if s = 1 then tow W H (t % W) (t / W + 1) else if s = 2 then tow W H (t % W - 1) (t / W) else tow W H (t % W) (t / W - 1)
def T (W : Int) (L : List Int) (t : Int) : Int := rd L (pl W t) + rd L (pl W t + 1) + rd L (pl W t + W + 2) + rd L (pl W t + W + 1)
theorem tile_of {W H : Int} {L : List Int} (s : Sides W H L) {x y : Int} (x0 : 0 ≤ x) (x1 : x < W) (y0 : 0 ≤ y) (y1 : y < H) : isT W H (y * W + x) ∧ (y * W + x) % W = x ∧ (y * W + x) / W = y := by
  obtain ⟨a, b, c, e, f⟩ := s
  refine ⟨⟨?_, ?_⟩, ?_, ?_⟩
  · have := Int.mul_nonneg y0 (show 0 ≤ W by omega); omega
  · have := Int.mul_le_mul_of_nonneg_right (show y + 1 ≤ H by omega) (show 0 ≤ W by omega)
    rw [Int.add_mul, Int.one_mul, Int.mul_comm H W] at this; omega
  · rw [Int.add_comm, Int.add_mul_emod_self_right, Int.emod_eq_of_lt x0 x1]
  · rw [Int.add_comm, Int.add_mul_ediv_right _ _ (by omega), Int.ediv_eq_zero_of_lt x0 x1]; omega
theorem tow_in {W H : Int} {L : List Int} (s : Sides W H L) (x y : Int) : tow W H x y = -1 ∨ (0 ≤ tow W H x y ∧ isT W H (tow W H x y)) := by
  unfold tow
  by_cases h : x < 0 ∨ x ≥ W ∨ y < 0 ∨ y ≥ H
  · rw [if_pos h]; exact Or.inl rfl
  · rw [if_neg h]
    have := (tile_of s (x := x) (y := y) (by omega) (by omega) (by omega) (by omega)).1
    exact Or.inr ⟨this.1, this⟩
theorem bey_in {W H : Int} {L : List Int} (s : Sides W H L) (t i : Int) : bey W H t i = -1 ∨ (0 ≤ bey W H t i ∧ isT W H (bey W H t i)) := by
  unfold bey
  (repeat' split) <;> exact tow_in s _ _
theorem sj0 {W H : Int} {L : List Int} (s : Sides W H L) (x y : Int) (k : Nat) : land_step.j0 (k + 1 + 1) x y W H L = some (tow W H x y) := by
  have ha := area s
  simp only [land_step.j0, land_step.j1]
  unfold tow
  by_cases c1 : x < 0
  · rw [if_pos c1, if_pos trivial, if_pos (by omega)]
  by_cases c2 : x ≥ W
  · rw [if_neg c1, if_pos c2, if_pos trivial, if_pos (by omega)]
  by_cases c3 : y < 0
  · rw [if_neg c1, if_neg c2, if_pos c3, if_pos trivial, if_pos (by omega)]
  by_cases c4 : y ≥ H
  · rw [if_neg c1, if_neg c2, if_neg c3, if_pos (decide_eq_true c4), if_pos (by omega)]
  rw [if_neg c1, if_neg c2, if_neg c3, if_neg (by simp; omega), if_neg (by omega)]
  obtain ⟨⟨p0, p1⟩, _⟩ := tile_of s (x := x) (y := y) (by omega) (by omega) (by omega) (by omega)
  obtain ⟨a, b, c, e, f⟩ := s
  have h1 := Int.mul_le_mul b e (by omega) (by omega)
  rw [w64_in (x := y * W) (by omega) (by omega), w64_in (by omega) (by omega)]
theorem bj0 {W H : Int} {L : List Int} (s : Sides W H L) (x y : Int) (k : Nat) : hinterlandref02_Beyond.j0 (k + 1 + 1) W H x y = some (tow W H x y) := by
  have ha := area s
  simp only [hinterlandref02_Beyond.j0, hinterlandref02_Beyond.j1]
  unfold tow
  by_cases c1 : x < 0
  · rw [if_pos c1, if_pos trivial, if_pos (by omega)]
  by_cases c3 : y < 0
  · rw [if_neg c1, if_pos c3, if_pos trivial, if_pos (by omega)]
  by_cases c2 : x ≥ W
  · rw [if_neg c1, if_neg c3, if_pos c2, if_pos trivial, if_pos (by omega)]
  by_cases c4 : y ≥ H
  · rw [if_neg c1, if_neg c3, if_neg c2, if_pos (decide_eq_true c4), if_pos (by omega)]
  rw [if_neg c1, if_neg c3, if_neg c2, if_neg (by simp; omega), if_neg (by omega)]
  obtain ⟨⟨p0, p1⟩, _⟩ := tile_of s (x := x) (y := y) (by omega) (by omega) (by omega) (by omega)
  obtain ⟨a, b, c, e, f⟩ := s
  have h1 := Int.mul_le_mul b e (by omega) (by omega)
  rw [w64_in (x := y * W) (by omega) (by omega), w64_in (by omega) (by omega)]
theorem wxy {W H : Int} {L : List Int} (s : Sides W H L) {t : Int} (ht : isT W H t) : Int.tmod t W = t % W ∧ wrap64 (Int.tdiv t W) = t / W ∧ wrap64 (t % W + 1) = t % W + 1 ∧ wrap64 (t % W - 1) = t % W - 1 ∧ wrap64 (t / W + 1) = t / W + 1 ∧ wrap64 (t / W - 1) = t / W - 1 := by
  obtain ⟨y0, y1, x0, x1, _⟩ := tile_xy s ht
  obtain ⟨a, b, c, e, f⟩ := s
  refine ⟨Int.tmod_eq_emod_of_nonneg ht.1, ?_, ?_, ?_, ?_, ?_⟩
  · rw [Int.tdiv_eq_ediv_of_nonneg ht.1, w64_in (by omega) (by omega)]
  all_goals exact w64_in (by omega) (by omega)
theorem step_ok {W H : Int} {L : List Int} (s : Sides W H L) {t : Int} (ht : isT W H t) (i : Int) : Ev (fun k => land_step.f k W H L t i) (bey W H t i) := by
  refine ⟨2, fun k hk => ?_⟩
  obtain ⟨k, rfl⟩ : ∃ m, k = m + 1 + 1 := ⟨k - 2, by omega⟩
  obtain ⟨m0, m1, m2, m3, m4, m5⟩ := wxy s ht
  have := s.1
  show land_step.f (k + 1 + 1) W H L t i = _
  unfold land_step.f bey
  rw [if_neg (by omega), m0, m1, m2, m3, m4, m5]
  simp only [sj0 s]
  (repeat' split) <;> rfl
theorem beyond_ok {W H : Int} {L : List Int} (s : Sides W H L) {t : Int} (ht : isT W H t) {i : Int} (i0 : 0 ≤ i) (i1 : i < 4) : Ev (fun k => hinterlandref02_Beyond.f k W H t i) (bey W H t i) := by
  refine ⟨2, fun k hk => ?_⟩
  obtain ⟨k, rfl⟩ : ∃ m, k = m + 1 + 1 := ⟨k - 2, by omega⟩
  obtain ⟨m0, m1, m2, m3, m4, m5⟩ := wxy s ht
  have := s.1
  show hinterlandref02_Beyond.f (k + 1 + 1) W H t i = _
  unfold hinterlandref02_Beyond.f bey
  rw [if_neg (by omega), m0, m1, m2, m3, m4, m5]
  simp only [bj0 s]
  (repeat' split) <;> first | rfl | (exfalso; omega)
theorem T_in {W H : Int} {L : List Int} (v : Valid W H L) {t : Int} (ht : isT W H t) : 0 ≤ T W L t ∧ T W L t ≤ 60 ∧ land_sum.f W H L t = some (T W L t) ∧ Ev (fun k => hinterlandref02_total.f k W H L t) (T W L t) := by
  obtain ⟨i0, i1⟩ := pl_in v.1 ht
  have hf := four_ok v.1 rfl ht
  have hp := Til.places_ok v.1 ht
  obtain ⟨a, b, c, e, f⟩ := v.1
  have h0 := v.2.1 (pl W t) (by omega) (by omega)
  have h1 := v.2.1 (pl W t + 1) (by omega) (by omega)
  have h2 := v.2.1 (pl W t + W + 2) (by omega) (by omega)
  have h3 := v.2.1 (pl W t + W + 1) (by omega) (by omega)
  unfold T
  refine ⟨by omega, by omega, ?_, ?_⟩
  · unfold land_sum.f
    rw [hf]
    simp only [Option.bind_some]
    rw [w64_in (x := rd L (pl W t) + rd L (pl W t + 1)) (by omega) (by omega), w64_in (x := rd L (pl W t) + rd L (pl W t + 1) + rd L (pl W t + W + 2)) (by omega) (by omega), w64_in (by omega) (by omega)]
  · refine ⟨5, fun k hk => ?_⟩
    obtain ⟨k, rfl⟩ : ∃ m, k = m + 1 + 1 + 1 + 1 + 1 := ⟨k - 5, by omega⟩
    show hinterlandref02_total.f (k + 1 + 1 + 1 + 1 + 1) W H L t = _
    unfold hinterlandref02_total.f
    rw [hp]
    simp only [Option.bind_some]
    generalize pl W t = i at *
    have c4 : (1 : Int) < 4 := by omega
    have c5 : (2 : Int) < 4 := by omega
    have c6 : (3 : Int) < 4 := by omega
    have c7 : (0 : Int) < 4 := by omega
    have c8 : ¬ (4 : Int) < 4 := by omega
    have r0 : (0 : Int) ≤ 1 := by omega
    have r1 : (0 : Int) ≤ 2 := by omega
    have r2 : (0 : Int) ≤ 3 := by omega
    have q0 : i < (L.length : Int) := by omega
    have q1 : 0 ≤ i + 1 ∧ i + 1 < (L.length : Int) := by omega
    have q2 : 0 ≤ i + W + 2 ∧ i + W + 2 < (L.length : Int) := by omega
    have q3 : 0 ≤ i + W + 1 ∧ i + W + 1 < (L.length : Int) := by omega
    simp only [hinterlandref02_total.l0, show rd [i, i + 1, i + W + 2, i + W + 1] 0 = i from rfl, show wrap64 (0 + 1) = 1 from w64_in (by omega) (by omega), show wrap64 (1 + 1) = 2 from w64_in (by omega) (by omega), show wrap64 (2 + 1) = 3 from w64_in (by omega) (by omega), show wrap64 (3 + 1) = 4 from w64_in (by omega) (by omega), show rd [i, i + 1, i + W + 2, i + W + 1] 1 = i + 1 from rfl, show rd [i, i + 1, i + W + 2, i + W + 1] 2 = i + W + 2 from rfl, show rd [i, i + 1, i + W + 2, i + W + 1] 3 = i + W + 1 from rfl, c4, c5, c6, c7, c8, r0, r1, r2, i0, q0, q1, q2, q3, if_true, if_false, Int.le_refl]
    rw [w64_in (x := 0 + rd L i) (by omega) (by omega), w64_in (x := 0 + rd L i + rd L (i + 1)) (by omega) (by omega), w64_in (x := 0 + rd L i + rd L (i + 1) + rd L (i + W + 2)) (by omega) (by omega), w64_in (by omega) (by omega), Int.zero_add]
def lst (W : Int) (L : List Int) (t b : Int) : Int := if b < 0 then T W L t else T W L b
theorem river_loop {W H : Int} {L : List Int} (v : Valid W H L) : ∀ (n : Nat) (t : Int) (l : List Int), isT W H t → T W L t ≤ n → l.length + n ≤ 90 → ∃ l' : List Int, l'.length ≤ 90 ∧ Ev (fun k => land_River.l0 k t l W H L) (l', 0) ∧ Ev (fun k => hinterlandref02_River.l0 k l t W H L) (l', 0) := by
  intro n
  induction n using Nat.strongRecOn with
  | _ n IH =>
    intro t l ht hn hl
    obtain ⟨t0, t1, hs, htot⟩ := T_in v ht
    obtain ⟨w, w1, w2⟩ := wet_ok v ht
    by_cases hw : w = true
    · refine ⟨l, by omega, ?_, ?_⟩
      · refine Ev.step (fun _ => rfl) ?_
        simp only [land_River.l0, w1, Option.bind_some, hw, if_true]; exact Ev.now _
      · refine Ev.step (fun _ => rfl) ?_
        simp only [hinterlandref02_River.l0]
        refine Ev.bind w2 ?_
        simp only [hw, if_true]; exact Ev.now _
    · have inner : ∀ (d : Nat) (s b : Int), 0 ≤ s → s + d = 4 → (b = -1 ∨ (0 ≤ b ∧ isT W H b ∧ T W L b < T W L t)) → ∃ l' : List Int, l'.length ≤ 90 ∧ Ev (fun k => land_River.l1 k t l b s W H L) (l', 0) ∧ Ev (fun k => hinterlandref02_River.l1 k l t b (lst W L t b) s W H L) (l', 0) := by
        intro d; induction d with
        | zero =>
          intro s b s0 sd hb
          have hs4 : ¬ s < 4 := by omega
          rcases hb with rfl | ⟨b0, bT, bl⟩
          · refine ⟨l, by omega, ?_, ?_⟩
            · refine Ev.step (fun _ => rfl) ?_
              simp only [land_River.l1, hs4, if_false]; exact Ev.now _
            · refine Ev.step (fun _ => rfl) ?_
              simp only [hinterlandref02_River.l1, hs4, if_false]; exact Ev.now _
          · have hb' : ¬ b < 0 := by omega
            obtain ⟨t0', _⟩ := T_in v bT
            have hll : l.length < 17592186044416 := by omega
            obtain ⟨l', e1, e2, e3⟩ := IH (T W L b).toNat (by omega) b (l ++ [b]) bT (by omega) (by simp; omega)
            refine ⟨l', e1, ?_, ?_⟩
            · refine Ev.step (fun _ => rfl) ?_
              simp only [land_River.l1, hs4, hb', hll, if_false, if_true]; exact e2
            · refine Ev.step (fun _ => rfl) ?_
              simp only [hinterlandref02_River.l1, hs4, hb', hll, if_false, if_true]; exact e3
        | succ d ih =>
          intro s b s0 sd hb
          have hs4 : s < 4 := by omega
          have ws : wrap64 (s + 1) = s + 1 := w64_in (by omega) (by omega)
          have h1 := step_ok v.1 ht s
          have h2 := beyond_ok v.1 ht s0 hs4
          rcases bey_in v.1 t s with hbe | ⟨be0, beT⟩
          · rw [hbe] at h1 h2
            obtain ⟨l', e1, e2, e3⟩ := ih (s + 1) b (by omega) (by omega) hb
            refine ⟨l', e1, ?_, ?_⟩
            · refine Ev.step (fun _ => rfl) ?_
              simp only [land_River.l1, hs4, if_true]
              refine Ev.bind h1 ?_
              refine Ev.step (fun _ => rfl) ?_
              simp only [land_River.j2, show ¬ (-1 : Int) ≥ 0 by omega, if_false, ws]
              exact e2
            · refine Ev.step (fun _ => rfl) ?_
              simp only [hinterlandref02_River.l1, hs4, if_true]
              refine Ev.bind h2 ?_
              refine Ev.step (fun _ => rfl) ?_
              simp only [hinterlandref02_River.j2, show ¬ (-1 : Int) ≥ 0 by omega, if_false, ws]
              exact e3
          · generalize bey W H t s = q at *
            obtain ⟨q0, q1, qs, qt⟩ := T_in v beT
            have be0' : q ≥ 0 := be0
            by_cases hc : T W L q < lst W L t b
            · have hqt : T W L q < T W L t := by
                unfold lst at hc
                rcases hb with rfl | ⟨b0, bT, bl⟩
                · exact hc
                · rw [if_neg (by omega)] at hc; omega
              obtain ⟨l', e1, e2, e3⟩ := ih (s + 1) q (by omega) (by omega) (Or.inr ⟨be0, beT, hqt⟩)
              refine ⟨l', e1, ?_, ?_⟩
              · refine Ev.step (fun _ => rfl) ?_
                simp only [land_River.l1, hs4, if_true]
                refine Ev.bind h1 ?_
                simp only [be0', if_true, qs, hs, Option.bind_some, hqt]
                rcases hb with rfl | ⟨b0, bT, bl⟩
                · refine Ev.step (fun _ => rfl) ?_
                  simp only [land_River.j2, show (-1 : Int) < 0 by omega, if_true, ws]
                  exact e2
                · have hb' : ¬ b < 0 := by omega
                  unfold lst at hc
                  rw [if_neg hb'] at hc
                  obtain ⟨_, _, bs, _⟩ := T_in v bT
                  simp only [hb', if_false, bs, Option.bind_some, hc, decide_true]
                  refine Ev.step (fun _ => rfl) ?_
                  simp only [land_River.j2, if_true, ws]
                  exact e2
              · refine Ev.step (fun _ => rfl) ?_
                simp only [hinterlandref02_River.l1, hs4, if_true]
                refine Ev.bind h2 ?_
                simp only [be0', if_true]
                refine Ev.bind qt ?_
                refine Ev.step (fun _ => rfl) ?_
                simp only [hinterlandref02_River.j2, hc, decide_true, if_true, ws]
                refine Ev.bind qt ?_
                have : lst W L t q = T W L q := by unfold lst; rw [if_neg (by omega)]
                rw [this] at e3
                exact e3
            · obtain ⟨l', e1, e2, e3⟩ := ih (s + 1) b (by omega) (by omega) hb
              refine ⟨l', e1, ?_, ?_⟩
              · refine Ev.step (fun _ => rfl) ?_
                simp only [land_River.l1, hs4, if_true]
                refine Ev.bind h1 ?_
                simp only [be0', if_true, qs, hs, Option.bind_some]
                rcases hb with rfl | ⟨b0, bT, bl⟩
                · have hn' : ¬ T W L q < T W L t := hc
                  simp only [hn', if_false]
                  refine Ev.step (fun _ => rfl) ?_
                  simp only [land_River.j2, ws]
                  exact e2
                · have hb' : ¬ b < 0 := by omega
                  unfold lst at hc
                  rw [if_neg hb'] at hc
                  obtain ⟨_, _, bs, _⟩ := T_in v bT
                  by_cases hqt : T W L q < T W L t
                  · simp only [hqt, if_true, hb', if_false, bs, Option.bind_some, hc, decide_false]
                    refine Ev.step (fun _ => rfl) ?_
                    simp only [land_River.j2, ws]
                    exact e2
                  · simp only [hqt, if_false]
                    refine Ev.step (fun _ => rfl) ?_
                    simp only [land_River.j2, ws]
                    exact e2
              · refine Ev.step (fun _ => rfl) ?_
                simp only [hinterlandref02_River.l1, hs4, if_true]
                refine Ev.bind h2 ?_
                simp only [be0', if_true]
                refine Ev.bind qt ?_
                refine Ev.step (fun _ => rfl) ?_
                simp only [hinterlandref02_River.j2, hc, decide_false, ws]
                exact e3
      obtain ⟨l', e1, e2, e3⟩ := inner 4 0 (-1) (by omega) (by omega) (Or.inl rfl)
      refine ⟨l', e1, ?_, ?_⟩
      · refine Ev.step (fun _ => rfl) ?_
        simp only [land_River.l0, w1, Option.bind_some, hw]; exact e2
      · refine Ev.step (fun _ => rfl) ?_
        simp only [hinterlandref02_River.l0]
        refine Ev.bind w2 ?_
        simp only [hw]
        exact Ev.bind htot e3
theorem river_both (W H : Int) (L : List Int) (t : Int) : ∃ (l : List Int) (e : Int), l.length ≤ 90 ∧ Ev (fun k => land_River.f k W H L t) (l, e) ∧ Ev (fun k => hinterlandref02_River.f k W H L t) (l, e) := by
  obtain ⟨r, h1, hv, h2⟩ := check_ok W H L t
  unfold land_River.f hinterlandref02_River.f
  by_cases hr : r = 0
  · have v := hv.1 hr
    simp only [hr, if_true] at h2
    rw [hr] at h1
    by_cases ht : isT W H t
    · simp only [ht, if_true] at h2
      have := T_in v ht
      obtain ⟨l, e1, e2, e3⟩ := river_loop v 60 t [t] ht (by omega) (by simp)
      refine ⟨l, 0, e1, Ev.bind h2 ?_, Ev.bind h1 ?_⟩
      · simp only [if_true]; exact e2
      · simp only [if_true, Is_ok v.1, ht, decide_true, Option.bind_some]
        exact e3
    · simp only [ht, if_false] at h2
      refine ⟨[], 2, by simp, Ev.bind h2 ?_, Ev.bind h1 ?_⟩
      · simp; exact Ev.now _
      · simp [Is_ok v.1, ht]; exact Ev.now _
  · simp only [hr, if_false] at h2
    refine ⟨[], r, by simp, Ev.bind h2 ?_, Ev.bind h1 ?_⟩
    · simp [hr]; exact Ev.now _
    · simp [hr]; exact Ev.now _
theorem list_self {l : List Int} (hl : l.length < 1000000000) : ∀ (d : Nat) (i : Int), 0 ≤ i → i + d = l.length → Ev (fun k => hinterlandsame_List_int.l0 k l l i) true := by
  intro d; induction d with
  | zero =>
    intro i i0 hd
    refine Ev.step (fun _ => rfl) ?_
    simp only [hinterlandsame_List_int.l0, show ¬ i < (l.length : Int) by omega, if_false]; exact Ev.now _
  | succ d ih =>
    intro i i0 hd
    refine Ev.step (fun _ => rfl) ?_
    simp only [hinterlandsame_List_int.l0, show i < (l.length : Int) by omega, i0, if_true, show wrap64 (i + 1) = i + 1 from w64_in (by omega) (by omega)]
    exact ih (i + 1) (by omega) (by omega)
theorem list_ok {l : List Int} (hl : l.length < 1000000000) : Ev (fun k => hinterlandsame_List_int.f k l l) true := by
  unfold hinterlandsame_List_int.f
  simp only [if_true]
  exact list_self hl l.length 0 (by omega) (by omega)
end Go.Proofs.Ytchflcnegpnkkaa.Riv
namespace Go.Proofs.Ytchflcnegpnkkaa.Pure
open Go.RowKit Go.Proofs.YtchflcnegpnkkaaOwn Go.Proofs.Ytchflcnegpnkkaa.Q Go.Proofs.Ytchflcnegpnkkaa.Val Go.Proofs.Ytchflcnegpnkkaa.Known Go.Proofs.Ytchflcnegpnkkaa.Til Go.Proofs.Ytchflcnegpnkkaa.Riv Go.Proofs.YtchflcnegpnkkaaW.PrintWords Go.Proofs.YtchflcnegpnkkaaW.PrintLast
theorem LandRivers : hinterlandlaw02_LandRivers.Pure := by
  intro a b L t _ _ _ _
  refine Ev.rounds ?_
  unfold hinterlandlaw02_LandRivers.f
  refine Ev.bind (large0_ev a b L) ?_
  by_cases h : decide ((L.length : Int) > 4000) = true
  · simp only [h, if_true]
    exact Ev.bind known_ev (Ev.now _)
  · simp only [h]
    obtain ⟨l, e, hl, h1, h2⟩ := river_both a b L t
    refine Ev.bind h1 (Ev.bind h2 ?_)
    simp only [if_true]
    refine Ev.bind (list_ok (by omega)) ?_
    simp only [if_true]
    exact Ev.bind known_ev (Ev.now _)
end Go.Proofs.Ytchflcnegpnkkaa.Pure

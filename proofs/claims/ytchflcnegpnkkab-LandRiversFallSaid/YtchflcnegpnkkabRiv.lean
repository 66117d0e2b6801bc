import Derived.Test.YtchflcnegpnkkabPlain
import Derived.Test.YtchflcnegpnkkabVal
import Derived.Test.YtchflcnegpnkkabTil
import Derived.Test.YtchflcnegpnkkabQ8
import Derived.Test.YtchflcnegpnkkabQ9
import Derived.Test.YtchflcnegpnkkabQ7
import Derived.Test.YtchflcnegpnkkabQ5
import Derived.Test.YtchflcnegpnkkabQ20
import Derived.Test.YtchflcnegpnkkabQ10
import Derived.Test.YtchflcnegpnkkabQ17
import Derived.Test.YtchflcnegpnkkabQ19
import Derived.Test.YtchflcnegpnkkabQ15
import Derived.Test.YtchflcnegpnkkabQ11
namespace Go.Proofs.Ytchflcnegpnkkab.Riv
open Go.RowKit Go.Proofs.YtchflcnegpnkkabOwn Go.Proofs.Ytchflcnegpnkkab.Q Go.Proofs.Ytchflcnegpnkkab.Val Go.Proofs.Ytchflcnegpnkkab.Til Go.Proofs.YtchflcnegpnkkabW.PrintWords Go.Proofs.YtchflcnegpnkkabW.PrintLast
def tow (W H x y : Int) : Int := if x < 0 ∨ x ≥ W ∨ y < 0 ∨ y ≥ H then -1 else y * W + x
def bey (W H t s : Int) : Int := if s = 0 then tow W H (t % W + 1) (t / W) else if s = 1 then tow W H (t % W) (t / W + 1) else if s = 2 then tow W H (t % W - 1) (t / W) else tow W H (t % W) (t / W - 1)
def T (W : Int) (L : List Int) (t : Int) : Int := rd L (pl W t) + rd L (pl W t + 1) + rd L (pl W t + W + 2) + rd L (pl W t + W + 1)
theorem tile_of {W H : Int} {L : List Int} (s : Sides W H L) {x y : Int} (x0 : 0 ≤ x) (x1 : x < W) (y0 : 0 ≤ y) (y1 : y < H) : isT W H (y * W + x) ∧ (y * W + x) % W = x ∧ (y * W + x) / W = y := by
  obtain ⟨a, b, c, e, f⟩ := s
  refine ⟨⟨?_, ?_⟩, ?_, ?_⟩
  · have := Int.mul_nonneg y0 (show 0 ≤ W by omega); omega
  · have := Int.mul_le_mul_of_nonneg_right (show y + 1 ≤ H by omega) (show 0 ≤ W by omega)
    rw [Int.add_mul, Int.one_mul, Int.mul_comm H W] at this; omega
  · rw [Int.add_comm, Int.add_mul_emod_self_right, Int.emod_eq_of_lt x0 x1]
  · rw [Int.add_comm, Int.add_mul_ediv_right _ _ (by omega), Int.ediv_eq_zero_of_lt x0 x1]; omega
theorem tow_in {W H : Int} {L : List Int} (s : Sides W H L) (x y : Int) : tow W H x y = -1 ∨ (0 ≤ tow W H x y ∧ isT W H (tow W H x y)) := by
  unfold tow
  by_cases h : x < 0 ∨ x ≥ W ∨ y < 0 ∨ y ≥ H
  · rw [if_pos h]; exact Or.inl rfl
  · rw [if_neg h]
    have := (tile_of s (x := x) (y := y) (by omega) (by omega) (by omega) (by omega)).1
    exact Or.inr ⟨this.1, this⟩
theorem bey_in {W H : Int} {L : List Int} (s : Sides W H L) (t i : Int) : bey W H t i = -1 ∨ (0 ≤ bey W H t i ∧ isT W H (bey W H t i)) := by
  unfold bey
  (repeat' split) <;> exact tow_in s _ _
theorem sj0 {W H : Int} {L : List Int} (s : Sides W H L) (x y : Int) (k : Nat) : land_step.j0 (k + 1 + 1) x y W H L = some (tow W H x y) := by
  have ha := area s
  simp only [land_step.j0, land_step.j1]
  unfold tow
  by_cases c1 : x < 0
  · rw [if_pos c1, if_pos trivial, if_pos (by omega)]
  by_cases c2 : x ≥ W
  · rw [if_neg c1, if_pos c2, if_pos trivial, if_pos (by omega)]
  by_cases c3 : y < 0
  · rw [if_neg c1, if_neg c2, if_pos c3, if_pos trivial, if_pos (by omega)]
  by_cases c4 : y ≥ H
  · rw [if_neg c1, if_neg c2, if_neg c3, if_pos (decide_eq_true c4), if_pos (by omega)]
  rw [if_neg c1, if_neg c2, if_neg c3, if_neg (by simp; omega), if_neg (by omega)]
  obtain ⟨⟨p0, p1⟩, _⟩ := tile_of s (x := x) (y := y) (by omega) (by omega) (by omega) (by omega)
  obtain ⟨a, b, c, e, f⟩ := s
  have h1 := Int.mul_le_mul b e (by omega) (by omega)
  rw [w64_in (x := y * W) (by omega) (by omega), w64_in (by omega) (by omega)]
theorem bj0 {W H : Int} {L : List Int} (s : Sides W H L) (x y : Int) (k : Nat) : hinterlandref02_Beyond.j0 (k + 1 + 1) W H x y = some (tow W H x y) := by
  have ha := area s
  simp only [hinterlandref02_Beyond.j0, hinterlandref02_Beyond.j1]
  unfold tow
  by_cases c1 : x < 0
  · rw [if_pos c1, if_pos trivial, if_pos (by omega)]
  by_cases c3 : y < 0
  · rw [if_neg c1, if_pos c3, if_pos trivial, if_pos (by omega)]
  by_cases c2 : x ≥ W
  · rw [if_neg c1, if_neg c3, if_pos c2, if_pos trivial, if_pos (by omega)]
  by_cases c4 : y ≥ H
  · rw [if_neg c1, if_neg c3, if_neg c2, if_pos (decide_eq_true c4), if_pos (by omega)]
  rw [if_neg c1, if_neg c3, if_neg c2, if_neg (by simp; omega), if_neg (by omega)]
  obtain ⟨⟨p0, p1⟩, _⟩ := tile_of s (x := x) (y := y) (by omega) (by omega) (by omega) (by omega)
  obtain ⟨a, b, c, e, f⟩ := s
  have h1 := Int.mul_le_mul b e (by omega) (by omega)
  rw [w64_in (x := y * W) (by omega) (by omega), w64_in (by omega) (by omega)]
theorem wxy {W H : Int} {L : List Int} (s : Sides W H L) {t : Int} (ht : isT W H t) : Int.tmod t W = t % W ∧ wrap64 (Int.tdiv t W) = t / W ∧ wrap64 (t % W + 1) = t % W + 1 ∧ wrap64 (t % W - 1) = t % W - 1 ∧ wrap64 (t / W + 1) = t / W + 1 ∧ wrap64 (t / W - 1) = t / W - 1 := by
  obtain ⟨y0, y1, x0, x1, _⟩ := tile_xy s ht
  obtain ⟨a, b, c, e, f⟩ := s
  refine ⟨Int.tmod_eq_emod_of_nonneg ht.1, ?_, ?_, ?_, ?_, ?_⟩
  · rw [Int.tdiv_eq_ediv_of_nonneg ht.1, w64_in (by omega) (by omega)]
  all_goals exact w64_in (by omega) (by omega)
theorem step_ok {W H : Int} {L : List Int} (s : Sides W H L) {t : Int} (ht : isT W H t) (i : Int) : Ev (fun k => land_step.f k W H L t i) (bey W H t i) := by
  refine ⟨2, fun k hk => ?_⟩
  obtain ⟨k, rfl⟩ : ∃ m, k = m + 1 + 1 := ⟨k - 2, by omega⟩
  obtain ⟨m0, m1, m2, m3, m4, m5⟩ := wxy s ht
  have := s.1
  show land_step.f (k + 1 + 1) W H L t i = _
  unfold land_step.f bey
  rw [if_neg (by omega), m0, m1, m2, m3, m4, m5]
  simp only [sj0 s]
  (repeat' split) <;> rfl
theorem beyond_ok {W H : Int} {L : List Int} (s : Sides W H L) {t : Int} (ht : isT W H t) {i : Int} (i0 : 0 ≤ i) (i1 : i < 4) : Ev (fun k => hinterlandref02_Beyond.f k W H t i) (bey W H t i) := by
  refine ⟨2, fun k hk => ?_⟩
  obtain ⟨k, rfl⟩ : ∃ m, k = m + 1 + 1 := ⟨k - 2, by omega⟩
  obtain ⟨m0, m1, m2, m3, m4, m5⟩ := wxy s ht
  have := s.1
  show hinterlandref02_Beyond.f (k + 1 + 1) W H t i = _
  unfold hinterlandref02_Beyond.f bey
  rw [if_neg (by omega), m0, m1, m2, m3, m4, m5]
  simp only [bj0 s]
  (repeat' split) <;> first | rfl | (exfalso; omega)
theorem T_in {W H : Int} {L : List Int} (v : Valid W H L) {t : Int} (ht : isT W H t) : 0 ≤ T W L t ∧ T W L t ≤ 60 ∧ land_sum.f W H L t = some (T W L t) ∧ Ev (fun k => hinterlandlaw02_sum.f k W H L t) (T W L t) := by
  obtain ⟨i0, i1⟩ := pl_in v.1 ht
  have hf := four_ok v.1 rfl ht
  have hp := Til.places_ok v.1 ht
  obtain ⟨a, b, c, e, f⟩ := v.1
  have h0 := v.2.1 (pl W t) (by omega) (by omega)
  have h1 := v.2.1 (pl W t + 1) (by omega) (by omega)
  have h2 := v.2.1 (pl W t + W + 2) (by omega) (by omega)
  have h3 := v.2.1 (pl W t + W + 1) (by omega) (by omega)
  unfold T
  refine ⟨by omega, by omega, ?_, ?_⟩
  · unfold land_sum.f
    rw [hf]
    simp only [Option.bind_some]
    rw [w64_in (x := rd L (pl W t) + rd L (pl W t + 1)) (by omega) (by omega), w64_in (x := rd L (pl W t) + rd L (pl W t + 1) + rd L (pl W t + W + 2)) (by omega) (by omega), w64_in (by omega) (by omega)]
  · refine ⟨5, fun k hk => ?_⟩
    obtain ⟨k, rfl⟩ : ∃ m, k = m + 1 + 1 + 1 + 1 + 1 := ⟨k - 5, by omega⟩
    show hinterlandlaw02_sum.f (k + 1 + 1 + 1 + 1 + 1) W H L t = _
    unfold hinterlandlaw02_sum.f
    rw [hp]
    simp only [Option.bind_some]
    generalize pl W t = i at *
    have c4 : (1 : Int) < 4 := by omega
    have c5 : (2 : Int) < 4 := by omega
    have c6 : (3 : Int) < 4 := by omega
    have c7 : (0 : Int) < 4 := by omega
    have c8 : ¬ (4 : Int) < 4 := by omega
    have r0 : (0 : Int) ≤ 1 := by omega
    have r1 : (0 : Int) ≤ 2 := by omega
    have r2 : (0 : Int) ≤ 3 := by omega
    have q0 : i < (L.length : Int) := by omega
    have q1 : 0 ≤ i + 1 ∧ i + 1 < (L.length : Int) := by omega
    have q2 : 0 ≤ i + W + 2 ∧ i + W + 2 < (L.length : Int) := by omega
    have q3 : 0 ≤ i + W + 1 ∧ i + W + 1 < (L.length : Int) := by omega
    simp only [hinterlandlaw02_sum.l0, show rd [i, i + 1, i + W + 2, i + W + 1] 0 = i from rfl, show wrap64 (0 + 1) = 1 from w64_in (by omega) (by omega), show wrap64 (1 + 1) = 2 from w64_in (by omega) (by omega), show wrap64 (2 + 1) = 3 from w64_in (by omega) (by omega), show wrap64 (3 + 1) = 4 from w64_in (by omega) (by omega), show rd [i, i + 1, i + W + 2, i + W + 1] 1 = i + 1 from rfl, show rd [i, i + 1, i + W + 2, i + W + 1] 2 = i + W + 2 from rfl, show rd [i, i + 1, i + W + 2, i + W + 1] 3 = i + W + 1 from rfl, c4, c5, c6, c7, c8, r0, r1, r2, i0, q0, q1, q2, q3, if_true, if_false, Int.le_refl]
    rw [w64_in (x := 0 + rd L i) (by omega) (by omega), w64_in (x := 0 + rd L i + rd L (i + 1)) (by omega) (by omega), w64_in (x := 0 + rd L i + rd L (i + 1) + rd L (i + W + 2)) (by omega) (by omega), w64_in (by omega) (by omega), Int.zero_add]
theorem known_ev : Ev (fun k => hinterlandlaw02_known.f k) true := Ev.of hinterlandlaw02_known.mono (k := 200) (by decide +kernel)
theorem large0_ev (a b : Int) (L : List Int) : Ev (fun k => hinterlandlaw02_large.f k a b L ([] : List (List Int))) (decide ((L.length : Int) > 4000)) := by
  refine Ev.step (fun k => ?_) (Ev.now _)
  unfold hinterlandlaw02_large.f
  simp only [hinterlandlaw02_large.l0]
  rw [if_neg (by simp)]
/-- Whether a tile is wet. -/
def wt (W : Int) (L : List Int) (t : Int) : Bool := decide (mx (mx (mx (rd L (pl W t)) (rd L (pl W t + 1))) (rd L (pl W t + W + 2))) (rd L (pl W t + W + 1)) ≤ 2)
theorem wet_is {W H : Int} {L : List Int} (s : Sides W H L) {t : Int} (ht : isT W H t) : land_wet.f W H L t = some (wt W L t) := by
  unfold land_wet.f
  rw [four_ok s rfl ht]; rfl
theorem check_ok (W H : Int) (L : List Int) (t : Int) : ∃ r, (r = 0 ↔ (Valid W H L ∧ isT W H t)) ∧ Ev (fun k => land_check.f k W H L t) r := by
  obtain ⟨e, h1, h2⟩ := validate_ok W H L
  unfold land_check.f
  by_cases he : e = 0
  · have v := h2.1 he
    rw [he] at h1
    refine ⟨if isT W H t then 0 else 2, ?_, Ev.bind h1 ?_⟩
    · by_cases ht : isT W H t <;> simp [ht, v]
    · simp only [if_true, isTile_ok v.1, Option.bind_some]
      by_cases ht : isT W H t <;> simp [ht] <;> exact Ev.now _
  · refine ⟨e, ⟨fun a => absurd a he, fun a => absurd (h2.2 a.1) he⟩, Ev.bind h1 ?_⟩
    simp only [he, if_false]; exact Ev.now _
theorem water_is {W H : Int} {L : List Int} (v : Valid W H L) {t : Int} (ht : isT W H t) : Ev (fun k => land_Water.f k W H L t) (wt W L t, 0) := by
  obtain ⟨r, h1, h2⟩ := check_ok W H L t
  rw [h1.2 ⟨v, ht⟩] at h2
  unfold land_Water.f
  refine Ev.bind h2 ?_
  simp only [if_true, wet_is v.1 ht, Option.bind_some]; exact Ev.now _
/-- A way that falls. -/
def Falls (W H : Int) (L : List Int) : Int → List Int → Prop
  | t, [] => isT W H t ∧ (wt W L t = true ∨ ∀ s, 0 ≤ s → s < 4 → 0 ≤ bey W H t s → ¬ T W L (bey W H t s) < T W L t)
  | t, b :: l => isT W H t ∧ wt W L t = false ∧ (∃ s, 0 ≤ s ∧ s < 4 ∧ bey W H t s = b) ∧ 0 ≤ b ∧ T W L b < T W L t ∧ Falls W H L b l
theorem river_falls {W H : Int} {L : List Int} (v : Valid W H L) : ∀ (n : Nat) (t : Int) (l : List Int), isT W H t → T W L t ≤ n → l.length + n ≤ 90 → ∃ l' : List Int, (l ++ l').length ≤ 90 ∧ Falls W H L t l' ∧ Ev (fun k => land_River.l0 k t l W H L) (l ++ l', 0) := by
  intro n
  induction n using Nat.strongRecOn with
  | _ n IH =>
    intro t l ht hn hl
    obtain ⟨t0, t1, hs, _⟩ := T_in v ht
    have w1 := wet_is v.1 ht
    cases hw : wt W L t with
    | true =>
      refine ⟨[], by simp; omega, ⟨ht, Or.inl hw⟩, ?_⟩
      rw [List.append_nil]
      refine Ev.step (fun _ => rfl) ?_
      simp only [land_River.l0, w1, Option.bind_some, hw, if_true]; exact Ev.now _
    | false =>
      have inner : ∀ (d : Nat) (s b : Int), 0 ≤ s → s + d = 4 → ((b = -1 ∧ ∀ s', 0 ≤ s' → s' < s → 0 ≤ bey W H t s' → ¬ T W L (bey W H t s') < T W L t) ∨ (0 ≤ b ∧ isT W H b ∧ T W L b < T W L t ∧ ∃ s', 0 ≤ s' ∧ s' < 4 ∧ bey W H t s' = b)) → ∃ l' : List Int, (l ++ l').length ≤ 90 ∧ Falls W H L t l' ∧ Ev (fun k => land_River.l1 k t l b s W H L) (l ++ l', 0) := by
        intro d; induction d with
        | zero =>
          intro s b s0 sd hb
          have hs4 : ¬ s < 4 := by omega
          rcases hb with ⟨rfl, hno⟩ | ⟨b0, bT, bl, hfrom⟩
          · refine ⟨[], by simp; omega, ⟨ht, Or.inr (fun s' a b c => hno s' a (by omega) c)⟩, ?_⟩
            rw [List.append_nil]
            refine Ev.step (fun _ => rfl) ?_
            simp only [land_River.l1, hs4, if_false]; exact Ev.now _
          · have hb' : ¬ b < 0 := by omega
            obtain ⟨t0', _⟩ := T_in v bT
            have hll : l.length < 17592186044416 := by omega
            obtain ⟨l', e1, e2, e3⟩ := IH (T W L b).toNat (by omega) b (l ++ [b]) bT (by omega) (by simp; omega)
            rw [List.append_assoc, List.singleton_append] at e1 e3
            refine ⟨b :: l', e1, ⟨ht, hw, hfrom, b0, bl, e2⟩, ?_⟩
            refine Ev.step (fun _ => rfl) ?_
            simp only [land_River.l1, hs4, hb', hll, if_false, if_true]; exact e3
        | succ d ih =>
          intro s b s0 sd hb
          have hs4 : s < 4 := by omega
          have ws : wrap64 (s + 1) = s + 1 := w64_in (by omega) (by omega)
          have h1 := step_ok v.1 ht s
          rcases bey_in v.1 t s with hbe | ⟨be0, beT⟩
          · rw [hbe] at h1
            obtain ⟨l', e1, e2, e3⟩ := ih (s + 1) b (by omega) (by omega) (hb.imp (fun h => ⟨h.1, fun s' a b c => by
              by_cases e : s' = s
              · subst e; rw [hbe] at c; omega
              · exact h.2 s' a (by omega) c⟩) id)
            refine ⟨l', e1, e2, ?_⟩
            refine Ev.step (fun _ => rfl) ?_
            simp only [land_River.l1, hs4, if_true]
            refine Ev.bind h1 ?_
            refine Ev.step (fun _ => rfl) ?_
            simp only [land_River.j2, show ¬ (-1 : Int) ≥ 0 by omega, if_false, ws]
            exact e3
          · generalize hq : bey W H t s = q at *
            obtain ⟨q0, q1, qs, _⟩ := T_in v beT
            have be0' : q ≥ 0 := be0
            by_cases hqt : T W L q < T W L t
            · have take : ∃ l' : List Int, (l ++ l').length ≤ 90 ∧ Falls W H L t l' ∧ Ev (fun k => land_River.l1 k t l q (s + 1) W H L) (l ++ l', 0) := ih (s + 1) q (by omega) (by omega) (Or.inr ⟨be0, beT, hqt, s, s0, hs4, hq⟩)
              rcases hb with ⟨rfl, hno⟩ | ⟨b0, bT, bl, hfrom⟩
              · obtain ⟨l', e1, e2, e3⟩ := take
                refine ⟨l', e1, e2, ?_⟩
                refine Ev.step (fun _ => rfl) ?_
                simp only [land_River.l1, hs4, if_true]
                refine Ev.bind h1 ?_
                simp only [be0', if_true, qs, hs, Option.bind_some, hqt]
                refine Ev.step (fun _ => rfl) ?_
                simp only [land_River.j2, show (-1 : Int) < 0 by omega, if_true, ws]
                exact e3
              · have hb' : ¬ b < 0 := by omega
                obtain ⟨_, _, bs, _⟩ := T_in v bT
                by_cases hc : T W L q < T W L b
                · obtain ⟨l', e1, e2, e3⟩ := take
                  refine ⟨l', e1, e2, ?_⟩
                  refine Ev.step (fun _ => rfl) ?_
                  simp only [land_River.l1, hs4, if_true]
                  refine Ev.bind h1 ?_
                  simp only [be0', if_true, qs, hs, Option.bind_some, hqt, hb', if_false, bs, hc, decide_true]
                  refine Ev.step (fun _ => rfl) ?_
                  simp only [land_River.j2, if_true, ws]
                  exact e3
                · obtain ⟨l', e1, e2, e3⟩ := ih (s + 1) b (by omega) (by omega) (Or.inr ⟨b0, bT, bl, hfrom⟩)
                  refine ⟨l', e1, e2, ?_⟩
                  refine Ev.step (fun _ => rfl) ?_
                  simp only [land_River.l1, hs4, if_true]
                  refine Ev.bind h1 ?_
                  simp only [be0', if_true, qs, hs, Option.bind_some, hqt, hb', if_false, bs, hc, decide_false]
                  refine Ev.step (fun _ => rfl) ?_
                  simp only [land_River.j2, ws]
                  exact e3
            · obtain ⟨l', e1, e2, e3⟩ := ih (s + 1) b (by omega) (by omega) (hb.imp (fun h => ⟨h.1, fun s' a b c => by
                by_cases e : s' = s
                · subst e; rw [hq]; exact hqt
                · exact h.2 s' a (by omega) c⟩) id)
              refine ⟨l', e1, e2, ?_⟩
              refine Ev.step (fun _ => rfl) ?_
              simp only [land_River.l1, hs4, if_true]
              refine Ev.bind h1 ?_
              simp only [be0', if_true, qs, hs, Option.bind_some, hqt, if_false]
              refine Ev.step (fun _ => rfl) ?_
              simp only [land_River.j2, ws]
              exact e3
      obtain ⟨l', e1, e2, e3⟩ := inner 4 0 (-1) (by omega) (by omega) (Or.inl ⟨rfl, fun s' a b => by omega⟩)
      refine ⟨l', e1, e2, ?_⟩
      refine Ev.step (fun _ => rfl) ?_
      simp only [land_River.l0, w1, Option.bind_some, hw]; exact e3
theorem river_is (W H : Int) (L : List Int) (t : Int) : ∃ (l : List Int) (e : Int), Ev (fun k => land_River.f k W H L t) (l, e) ∧ (e = 0 → Valid W H L ∧ ∃ l', l = t :: l' ∧ l.length ≤ 90 ∧ Falls W H L t l') := by
  obtain ⟨r, h1, h2⟩ := check_ok W H L t
  unfold land_River.f
  by_cases hr : r = 0
  · obtain ⟨v, ht⟩ := h1.1 hr
    rw [hr] at h2
    have := T_in v ht
    obtain ⟨l, e1, e2, e3⟩ := river_falls v 60 t [t] ht (by omega) (by simp)
    refine ⟨t :: l, 0, Ev.bind h2 ?_, fun _ => ⟨v, l, rfl, by simpa using e1, e2⟩⟩
    simp only [if_true]; exact e3
  · refine ⟨[], r, Ev.bind h2 ?_, fun e => absurd e hr⟩
    simp only [hr, if_false]; exact Ev.now _
end Go.Proofs.Ytchflcnegpnkkab.Riv

/- Which place is chosen by weights: both texts add the same weights and walk the same way. -/
import Derived.Test.YtmgccgiomnkbmaaDate
import Derived.Test.YtmgccgiomnkbmaaDraw
import Derived.Test.YtmgccgiomnkbmaaQ37
namespace Go.Proofs.Ytmgccgiomnkbmaa.Pure
open Go.RowKit Go.Proofs.YtmgccgiomnkbmaaOwn Go.Proofs.Ytmgccgiomnkbmaa.Q Go.Proofs.Ytmgccgiomnkbmaa.Date Go.Proofs.Ytmgccgiomnkbmaa.Draw Go.Proofs.YtmgccgiomnkbmaaW.PrintWords Go.Proofs.YtmgccgiomnkbmaaW.PrintLast
def wt (x : Int) : Int := mx 0 (mn x 1048576)
theorem wt_range (x : Int) : 0 ≤ wt x ∧ wt x ≤ 1048576 := by unfold wt mx mn; (repeat' split) <;> omega
theorem wt_pos {x : Int} (h : 0 < wt x) : x > 0 := by unfold wt mx mn at h; (repeat' split at h) <;> omega
theorem p0_step (k : Nat) (acc m i s : Int) (l : List Int) (h : i < m) (h0 : 0 ≤ i) (h1 : i < (l.length : Int)) : roll_Pick.l0 (k + 1) acc m i s l = roll_Pick.l0 k (wrap64 (acc + wt (rd l i))) m (wrap64 (i + 1)) s l := by
  simp only [roll_Pick.l0, roll_Pick_1.f]; rw [if_pos h, if_pos h0, if_pos h1]; rfl
theorem f0_step (k : Nat) (acc i s : Int) (l : List Int) (h0 : 0 ≤ i) (h1 : i < (l.length : Int)) (h2 : (l.length : Int) ≤ 1000) : hinterlandref01_Pick.l0 (k + 1) l acc i s = hinterlandref01_Pick.l0 k l (wrap64 (acc + wt (rd l i))) (wrap64 (i + 1)) s := by
  simp only [hinterlandref01_Pick.l0, hinterlandref01_weight.f]; rw [if_pos h1, if_pos h2, if_pos h0]; rfl
theorem sums (l : List Int) (hl : l.length ≤ 1000) : ∀ (d i : Nat) (acc : Int), i + d = l.length → 0 ≤ acc → acc ≤ i * 1048576 →
    ∃ T : Int, 0 ≤ T ∧ T ≤ 1048576000 ∧ ∀ (k : Nat) (s : Int), roll_Pick.l0 (k + d + 1) acc l.length i s l = roll_Pick.l0 (k + 1) T l.length l.length s l ∧ hinterlandref01_Pick.l0 (k + d + 1) l acc i s = hinterlandref01_Pick.j1 k l T s := by
  intro d
  induction d with
  | zero =>
    intro i acc h h0 h1
    obtain rfl : i = l.length := by omega
    refine ⟨acc, h0, by omega, fun k s => ⟨rfl, ?_⟩⟩
    have hn : ¬ ((l.length : Nat) : Int) < (l.length : Int) := by omega
    show hinterlandref01_Pick.l0 (k + 1) l acc _ s = _
    simp only [hinterlandref01_Pick.l0]; rw [if_neg hn]
  | succ d ih =>
    intro i acc h h0 h1
    have hw := wt_range (rd l (i : Int))
    obtain ⟨T, t0, t1, hT⟩ := ih (i + 1) (acc + wt (rd l (i : Int))) (by omega) (by omega) (by omega)
    refine ⟨T, t0, t1, fun k s => ?_⟩
    have e := hT k s
    rw [show k + (d + 1) + 1 = (k + d + 1) + 1 from rfl, p0_step _ _ _ _ _ _ (by omega) (by omega) (by omega), f0_step _ _ _ _ _ (by omega) (by omega) (by omega), w64_in (x := acc + _) (by omega) (by omega), w64_in (x := (i : Int) + 1) (by omega) (by omega)]
    exact e
theorem p1_step (k : Nat) (x m i t : Int) (l : List Int) (h : i < m) (h0 : 0 ≤ i) (h1 : i < (l.length : Int)) : roll_Pick.l1 (k + 1) x m i t l = if wrap64 (x - wt (rd l i)) < 0 then some (i, t) else roll_Pick.l1 k (wrap64 (x - wt (rd l i))) m (wrap64 (i + 1)) t l := by
  simp only [roll_Pick.l1, roll_Pick_1.f]; rw [if_pos h, if_pos h0, if_pos h1]; rfl
theorem f1_stepP (k : Nat) (x m i t : Int) (l : List Int) (h : i < m) (h0 : 0 ≤ i) (h1 : i < (l.length : Int)) : hinterlandref01_Pick.l1 (k + 1) x l m i t = if wrap64 (x - wt (rd l i)) < 0 then some (i, t) else hinterlandref01_Pick.l1 k (wrap64 (x - wt (rd l i))) l m (wrap64 (i + 1)) t := by
  simp only [hinterlandref01_Pick.l1, hinterlandref01_weight.f]; rw [if_pos h, if_pos h0, if_pos h1]; rfl
theorem finds (l : List Int) (hl : l.length ≤ 1000) (t : Int) : ∀ (d i : Nat) (x : Int), i + d = l.length → 0 ≤ x → x ≤ 1048576000 →
    ∃ r : Int, (r = -1 ∨ 0 ≤ r ∧ r < (l.length : Int) ∧ rd l r > 0) ∧ ∀ k : Nat, roll_Pick.l1 (k + d + 1) x l.length i t l = some (r, t) ∧ hinterlandref01_Pick.l1 (k + d + 1) x l l.length i t = some (r, t) := by
  intro d
  induction d with
  | zero =>
    intro i x h h0 h1
    have hn : ¬ ((i : Nat) : Int) < (l.length : Int) := by omega
    refine ⟨-1, Or.inl rfl, fun k => ⟨?_, ?_⟩⟩
    · show roll_Pick.l1 (k + 1) x _ _ t l = _
      simp only [roll_Pick.l1]; rw [if_neg hn]
    · show hinterlandref01_Pick.l1 (k + 1) x l _ _ t = _
      simp only [hinterlandref01_Pick.l1]; rw [if_neg hn]
  | succ d ih =>
    intro i x h h0 h1
    have hw := wt_range (rd l (i : Int))
    have e1 := w64_in (x := x - wt (rd l (i : Int))) (by omega) (by omega)
    have e2 := w64_in (x := (i : Int) + 1) (by omega) (by omega)
    by_cases c : x - wt (rd l (i : Int)) < 0
    · refine ⟨i, Or.inr ⟨by omega, by omega, wt_pos (by omega)⟩, fun k => ?_⟩
      rw [show k + (d + 1) + 1 = (k + d + 1) + 1 from rfl, p1_step _ _ _ _ _ _ (by omega) (by omega) (by omega), f1_stepP _ _ _ _ _ _ (by omega) (by omega) (by omega), e1, if_pos c, if_pos c]
      exact ⟨rfl, rfl⟩
    · obtain ⟨r, hr, hR⟩ := ih (i + 1) (x - wt (rd l (i : Int))) (by omega) (by omega) (by omega)
      refine ⟨r, hr, fun k => ?_⟩
      rw [show k + (d + 1) + 1 = (k + d + 1) + 1 from rfl, p1_step _ _ _ _ _ _ (by omega) (by omega) (by omega), f1_stepP _ _ _ _ _ _ (by omega) (by omega) (by omega), e1, e2, if_neg c, if_neg c]
      exact hR k
theorem pick_law {k : Nat} (hk : 300 ≤ k) {s r t : Int} {l : List Int} (h1 : hinterlandref01_Pick.f k s l = some (r, t)) (h2 : roll_Pick.f k s l = some (r, t)) (hr : r = -1 ∨ 0 ≤ r ∧ r < (l.length : Int) ∧ rd l r > 0) : hinterlandlaw01_RollPicks.f k s l = some true := by
  unfold hinterlandlaw01_RollPicks.f
  have hkn := known_tells k hk
  by_cases c : (l.length : Int) > 4000
  · rw [if_pos c, hkn]; rfl
  · rw [if_neg c, h1, h2]
    simp only [Option.bind_some]
    rw [if_pos trivial, if_pos (by simp)]
    rcases hr with rfl | ⟨a, b, d⟩
    · rw [if_pos rfl, hkn]; rfl
    · have n1 : ¬ r = -1 := by omega
      have n2 : r ≥ 0 := a
      rw [if_neg n1, if_pos n2, if_pos b, if_pos a, if_pos d, hkn]; rfl
/-- Which place is chosen by weights. -/
theorem RollPicks : hinterlandlaw01_RollPicks.Pure := by
  intro s l hs _
  have h1 := wInt_u64 hs
  by_cases c : (l.length : Int) > 1000
  · refine ⟨400, pick_law (r := -1) (t := s) (by omega) ?_ ?_ (Or.inl rfl)⟩
    · unfold hinterlandref01_Pick.f
      have a : (0 : Int) < (l.length : Int) := by omega
      have b : ¬ (l.length : Int) ≤ 1000 := by omega
      show hinterlandref01_Pick.l0 (398 + 1 + 1) l 0 0 s = _
      generalize 398 = q
      simp only [hinterlandref01_Pick.l0]; rw [if_pos a, if_neg b]
      simp only [hinterlandref01_Pick.j1]; rw [if_pos trivial]
    · unfold roll_Pick.f; rw [if_pos c]
  · obtain ⟨T, t0, t1, hT⟩ := sums l (by omega) l.length 0 0 (by omega) (by omega) (by omega)
    have hn : ¬ ((l.length : Nat) : Int) < (l.length : Int) := by omega
    by_cases cz : T = 0
    · subst cz
      refine ⟨(399 + 1) + l.length + 1, pick_law (r := -1) (t := s) (by omega) ?_ ?_ (Or.inl rfl)⟩
      · unfold hinterlandref01_Pick.f
        refine ((hT (399 + 1) s).2).trans ?_
        generalize 399 = q
        simp only [hinterlandref01_Pick.j1]; rw [if_pos trivial]
      · unfold roll_Pick.f; rw [if_neg c]
        refine ((hT (399 + 1) s).1).trans ?_
        generalize 399 + 1 = q
        simp only [roll_Pick.l0]; rw [if_neg hn, if_pos trivial]
    · obtain ⟨v, t, K, v0, v1, _, _, hK⟩ := below_ok s T h1.1 h1.2 (by omega) (by omega)
      obtain ⟨r, hr, hR⟩ := finds l (by omega) t l.length 0 v (by omega) v0 (by omega)
      refine ⟨((K + 300) + l.length + 1 + 1) + l.length + 1, pick_law (r := r) (t := t) (by omega) ?_ ?_ hr⟩
      · unfold hinterlandref01_Pick.f
        refine ((hT ((K + 300) + l.length + 1 + 1) s).2).trans ?_
        have e := (hR (K + 300)).2
        have b := (hK ((K + 300) + l.length + 1) (by omega)).2
        generalize (K + 300) + l.length + 1 = q at e b ⊢
        simp only [hinterlandref01_Pick.j1]; rw [if_neg cz, b]
        exact e
      · unfold roll_Pick.f; rw [if_neg c]
        refine ((hT ((K + 300) + l.length + 1 + 1) s).1).trans ?_
        have e := (hR ((K + 300) + 1)).1
        rw [show (K + 300) + 1 + l.length + 1 = (K + 300) + l.length + 1 + 1 by omega] at e
        have b := (hK ((K + 300) + l.length + 1 + 1) (by omega)).1
        generalize (K + 300) + l.length + 1 + 1 = q at e b ⊢
        simp only [roll_Pick.l0]; rw [if_neg hn, if_neg cz, b]
        exact e
end Go.Proofs.Ytmgccgiomnkbmaa.Pure

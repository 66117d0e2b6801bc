import Derived.Test.YtchflcnegpnkkaaVal
import Derived.Test.YtchflcnegpnkkaaKnown
import Derived.Test.YtchflcnegpnkkaaTile
import Derived.Test.YtchflcnegpnkkaaQ44
namespace Go.Proofs.Ytchflcnegpnkkaa.Pure
open Go.RowKit Go.Proofs.YtchflcnegpnkkaaOwn Go.Proofs.Ytchflcnegpnkkaa.Q Go.Proofs.Ytchflcnegpnkkaa.Val Go.Proofs.Ytchflcnegpnkkaa.Known Go.Proofs.Ytchflcnegpnkkaa.Tile Go.Proofs.YtchflcnegpnkkaaW.PrintWords Go.Proofs.YtchflcnegpnkkaaW.PrintLast
theorem slope_both (a b : Int) (L : List Int) (t : Int) : ∃ x y e, Ev (fun k => land_Slope.f k a b L t) (x, y, e) ∧ ((e = 0 ∧ Valid a b L ∧ isT a b t ∧ Ev (fun k => hinterlandref02_Face.f k a b L t) (x, y) ∧ Ev (fun k => hinterlandref02_Validate.f k a b L) 0 ∧ 0 ≤ y ∧ y ≤ 15 ∧ y = mn (mn (mn (rd L (pl a t)) (rd L (pl a t + 1))) (rd L (pl a t + a + 2))) (rd L (pl a t + a + 1))) ∨ (e = 2 ∧ Valid a b L ∧ ¬ isT a b t ∧ Ev (fun k => hinterlandref02_Validate.f k a b L) 0) ∨ (e ≠ 0 ∧ ¬ Valid a b L ∧ Ev (fun k => hinterlandref02_Validate.f k a b L) e)) := by
  obtain ⟨r, h1, hv, h2⟩ := check_ok a b L t
  unfold land_Slope.f
  by_cases hr : r = 0
  · have v := hv.1 hr
    simp only [hr, if_true] at h2
    rw [hr] at h1
    by_cases ht : isT a b t
    · simp only [ht, if_true] at h2
      have f := face_ok v ht rfl rfl rfl rfl
      have hb := (four_heights v ht).b0
      refine ⟨_, _, 0, Ev.bind h2 ?_, Or.inl ⟨rfl, v, ht, f, h1, hb.1, hb.2, rfl⟩⟩
      simp only [if_true, four_ok v.1 rfl ht, Option.bind_some]
      exact slope_loop hb
    · simp only [ht, if_false] at h2
      refine ⟨0, 0, 2, Ev.bind h2 ?_, Or.inr (Or.inl ⟨rfl, v, ht, h1⟩)⟩
      simp; exact Ev.now _
  · simp only [hr, if_false] at h2
    refine ⟨0, 0, r, Ev.bind h2 ?_, Or.inr (Or.inr ⟨hr, fun v => hr (hv.2 v), h1⟩)⟩
    simp [hr]; exact Ev.now _
def snw (c y m : Int) : Bool × Int := (if c = 1 then (decide (y ≥ (wrap64 (10 - (mn (mx (m - 7) (7 - m)) (wrap64 (12 - (mx (m - 7) (7 - m)))))))), 0) else if c = 3 then (decide (y ≥ (wrap64 (7 - (wrap64 (Int.tdiv (mn (mx (m - 7) (7 - m)) (wrap64 (12 - (mx (m - 7) (7 - m))))) 2))))), 0) else (false, 0))
theorem snow_both (a b : Int) (L : List Int) (t c m : Int) : ∃ x e, Ev (fun k => land_Snow.f k a b L t c m) (x, e) ∧ Ev (fun k => hinterlandref02_Snow.f k a b L t c m) (x, e) := by
  obtain ⟨x, y, e, h1, h3⟩ := slope_both a b L t
  unfold land_Snow.f hinterlandref02_Snow.f
  rcases h3 with ⟨rfl, v, ht, hf, hv, y0, y1, _⟩ | ⟨rfl, v, ht, hv⟩ | ⟨he, v, hv⟩
  · by_cases hc : c < 0 ∨ c > 3 ∨ m < 1 ∨ m > 12
    · refine ⟨false, 1, Ev.bind h1 ⟨1, fun k hk => ?_⟩, Ev.bind hv ⟨1, fun k hk => ?_⟩⟩ <;> obtain ⟨k, rfl⟩ : ∃ m, k = m + 1 := ⟨k - 1, by omega⟩
      · simp only [if_true, land_Snow.j0]
        by_cases c1 : c < 0
        · rw [if_pos c1]
        by_cases c2 : c > 3
        · rw [if_neg c1, if_pos c2]
        by_cases c3 : m < 1
        · rw [if_neg c1, if_neg c2, if_pos c3]
        rw [if_neg c1, if_neg c2, if_neg c3, if_pos (decide_eq_true (by omega))]
      · simp only [if_true, Is_ok v.1, ht, decide_true, Option.bind_some, hinterlandref02_Snow.j0]
        by_cases c1 : c < 0
        · rw [if_pos c1]
        by_cases c2 : c > 3
        · rw [if_neg c1, if_pos c2]
        by_cases c3 : m < 1
        · rw [if_neg c1, if_neg c2, if_pos c3]
        rw [if_neg c1, if_neg c2, if_neg c3, if_pos (decide_eq_true (by omega))]
    · have c1 : ¬ c < 0 := by omega
      have c2 : ¬ c > 3 := by omega
      have c3 : ¬ m < 1 := by omega
      have c4 : ¬ m > 12 := by omega
      have hm : mx (wrap64 (m - 7)) (wrap64 (7 - m)) = mx (m - 7) (7 - m) := by rw [w64_in (by omega) (by omega), w64_in (by omega) (by omega)]
      obtain ⟨K, hK⟩ := hf
      have ha : hinterlandref02_Apart.f m 7 = some (mx (m - 7) (7 - m)) := Apart_ok (by omega) (by omega)
      have g1 : Ev (fun k => land_Snow.j0 k c m y false) (snw c y m) := by
        refine ⟨1, fun k hk => ?_⟩
        obtain ⟨k, rfl⟩ : ∃ m, k = m + 1 := ⟨k - 1, by omega⟩
        simp only [land_Snow.j0, hm]
        rw [if_neg (by decide)]
        unfold snw
        by_cases d1 : c = 1
        · rw [if_pos d1, if_pos d1]
        by_cases d2 : c = 3
        · rw [if_neg d1, if_pos d2, if_neg d1, if_pos d2]
        rw [if_neg d1, if_neg d2, if_neg d1, if_neg d2]
      have g2 : Ev (fun k => hinterlandref02_Snow.j0 k t c m false a b L) (snw c y m) := by
        refine ⟨K + 1, fun k hk => ?_⟩
        obtain ⟨k, rfl⟩ : ∃ m, k = m + 1 := ⟨k - 1, by omega⟩
        simp only [hinterlandref02_Snow.j0, hK k (by omega), ha, Option.bind_some]
        rw [if_neg (by decide)]
        unfold snw
        by_cases d1 : c = 1
        · rw [if_pos d1, if_pos d1]
        by_cases d2 : c = 3
        · rw [if_neg d1, if_pos d2, if_neg d1, if_pos d2]
        rw [if_neg d1, if_neg d2, if_neg d1, if_neg d2]
      refine ⟨(snw c y m).1, (snw c y m).2, Ev.bind h1 ?_, Ev.bind hv ?_⟩
      · simp only [if_true, c1, c2, c3, c4, if_false, decide_false]
        exact g1
      · simp only [if_true, Is_ok v.1, ht, decide_true, Option.bind_some, c1, c2, c3, c4, if_false, decide_false]
        exact g2
  · refine ⟨false, 2, Ev.bind h1 ?_, Ev.bind hv ?_⟩
    · simp; exact Ev.now _
    · simp [Is_ok v.1, ht]; exact Ev.now _
  · refine ⟨false, e, Ev.bind h1 ?_, Ev.bind hv ?_⟩
    · simp [he]; exact Ev.now _
    · simp [he]; exact Ev.now _
theorem LandSnows : hinterlandlaw02_LandSnows.Pure := by
  intro a b L t c m _ _ _ _ _ _
  refine Ev.rounds ?_
  unfold hinterlandlaw02_LandSnows.f
  refine Ev.bind (large0_ev a b L) ?_
  by_cases h : decide ((L.length : Int) > 4000) = true
  · simp only [h, if_true]
    exact Ev.bind known_ev (Ev.now _)
  · simp only [h]
    obtain ⟨x, e, h1, h2⟩ := snow_both a b L t c m
    refine Ev.bind h1 (Ev.bind h2 ?_)
    simp only [if_true, beq_self_eq_true]
    exact Ev.bind known_ev (Ev.now _)
end Go.Proofs.Ytchflcnegpnkkaa.Pure

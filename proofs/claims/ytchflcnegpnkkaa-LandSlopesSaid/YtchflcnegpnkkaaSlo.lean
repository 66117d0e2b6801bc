import Derived.Test.YtchflcnegpnkkaaTile
import Derived.Test.YtchflcnegpnkkaaQ31
import Derived.Test.YtchflcnegpnkkaaQ33
import Derived.Test.YtchflcnegpnkkaaQ35
namespace Go.Proofs.Ytchflcnegpnkkaa.Slo
open Go.RowKit Go.Proofs.YtchflcnegpnkkaaOwn Go.Proofs.Ytchflcnegpnkkaa.Q Go.Proofs.Ytchflcnegpnkkaa.Val Go.Proofs.Ytchflcnegpnkkaa.Tile Go.Proofs.YtchflcnegpnkkaaW.PrintWords Go.Proofs.YtchflcnegpnkkaaW.PrintLast
theorem slope_both (a b : Int) (L : List Int) (t : Int) : ∃ x y e, Ev (fun k => land_Slope.f k a b L t) (x, y, e) ∧ Ev (fun k => hinterlandref02_Slope.f k a b L t) (x, y, e) ∧ ((e = 0 ∧ Valid a b L ∧ isT a b t ∧ Ev (fun k => hinterlandref02_Face.f k a b L t) (x, y) ∧ Ev (fun k => hinterlandref02_Validate.f k a b L) 0 ∧ 0 ≤ y ∧ y ≤ 15 ∧ y = mn (mn (mn (rd L (pl a t)) (rd L (pl a t + 1))) (rd L (pl a t + a + 2))) (rd L (pl a t + a + 1))) ∨ (e = 2 ∧ Valid a b L ∧ ¬ isT a b t ∧ Ev (fun k => hinterlandref02_Validate.f k a b L) 0) ∨ (e ≠ 0 ∧ ¬ Valid a b L ∧ Ev (fun k => hinterlandref02_Validate.f k a b L) e)) := by
  obtain ⟨r, h1, hv, h2⟩ := check_ok a b L t
  unfold land_Slope.f hinterlandref02_Slope.f
  by_cases hr : r = 0
  · have v := hv.1 hr
    simp only [hr, if_true] at h2
    rw [hr] at h1
    by_cases ht : isT a b t
    · simp only [ht, if_true] at h2
      have f := face_ok v ht rfl rfl rfl rfl
      have hb := (four_heights v ht).b0
      refine ⟨_, _, 0, Ev.bind h2 ?_, Ev.bind h1 ?_, Or.inl ⟨rfl, v, ht, f, h1, hb.1, hb.2, rfl⟩⟩
      · simp only [if_true, four_ok v.1 rfl ht, Option.bind_some]
        exact slope_loop hb
      · simp only [if_true, Is_ok v.1, ht, decide_true, Option.bind_some]
        exact Ev.bind f (Ev.now _)
    · simp only [ht, if_false] at h2
      refine ⟨0, 0, 2, Ev.bind h2 ?_, Ev.bind h1 ?_, Or.inr (Or.inl ⟨rfl, v, ht, h1⟩)⟩
      · simp; exact Ev.now _
      · simp [Is_ok v.1, ht]; exact Ev.now _
  · simp only [hr, if_false] at h2
    refine ⟨0, 0, r, Ev.bind h2 ?_, Ev.bind h1 ?_, Or.inr (Or.inr ⟨hr, fun v => hr (hv.2 v), h1⟩)⟩
    · simp [hr]; exact Ev.now _
    · simp [hr]; exact Ev.now _
theorem water_both (a b : Int) (L : List Int) (t : Int) : ∃ x e, Ev (fun k => land_Water.f k a b L t) (x, e) ∧ Ev (fun k => hinterlandref02_Water.f k a b L t) (x, e) := by
  obtain ⟨r, h1, hv, h2⟩ := check_ok a b L t
  unfold land_Water.f hinterlandref02_Water.f
  by_cases hr : r = 0
  · have v := hv.1 hr
    simp only [hr, if_true] at h2
    rw [hr] at h1
    by_cases ht : isT a b t
    · simp only [ht, if_true] at h2
      obtain ⟨w, w1, w2⟩ := wet_ok v ht
      refine ⟨w, 0, Ev.bind h2 ?_, Ev.bind h1 ?_⟩
      · simp only [if_true, w1, Option.bind_some]; exact Ev.now _
      · simp only [if_true, Is_ok v.1, ht, decide_true, Option.bind_some]
        exact Ev.bind w2 (Ev.now _)
    · simp only [ht, if_false] at h2
      refine ⟨false, 2, Ev.bind h2 ?_, Ev.bind h1 ?_⟩
      · simp; exact Ev.now _
      · simp [Is_ok v.1, ht]; exact Ev.now _
  · simp only [hr, if_false] at h2
    refine ⟨false, r, Ev.bind h2 ?_, Ev.bind h1 ?_⟩
    · simp [hr]; exact Ev.now _
    · simp [hr]; exact Ev.now _
end Go.Proofs.Ytchflcnegpnkkaa.Slo

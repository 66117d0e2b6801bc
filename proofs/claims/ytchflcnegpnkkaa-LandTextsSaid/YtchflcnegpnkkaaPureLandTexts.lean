/- What is proved: land.Text and the reference's Text answer alike for every land of at most 4000 corners, and land.Parse reads the text of a land that has one as that land. No condition. -/
import Derived.Test.YtchflcnegpnkkaaTex
import Derived.Test.YtchflcnegpnkkaaSelf
import Derived.Test.YtchflcnegpnkkaaKnown
import Derived.Test.YtchflcnegpnkkaaQ47
namespace Go.Proofs.Ytchflcnegpnkkaa.Pure
open Go.RowKit Go.Proofs.YtchflcnegpnkkaaOwn Go.Proofs.Ytchflcnegpnkkaa.Q Go.Proofs.Ytchflcnegpnkkaa.Val Go.Proofs.Ytchflcnegpnkkaa.Tex Go.Proofs.Ytchflcnegpnkkaa.Self Go.Proofs.Ytchflcnegpnkkaa.Known Go.Proofs.YtchflcnegpnkkaaW.PrintWords Go.Proofs.YtchflcnegpnkkaaW.PrintLast
theorem LandTexts : hinterlandlaw02_LandTexts.Pure := by
  intro W H L _ _ _
  refine Ev.rounds ?_
  unfold hinterlandlaw02_LandTexts.f
  refine Ev.bind (large0_ev W H L) ?_
  by_cases hg : decide ((L.length : Int) > 4000) = true
  · simp only [hg, if_true]
    exact Ev.bind known_ev (Ev.now _)
  · simp only [hg]
    obtain ⟨r, h1, h2, h3, q, h4⟩ := text_both W H L
    refine Ev.bind h1 (Ev.bind h2 ?_)
    simp only [if_true, bne_self_eq_false]
    refine Ev.step (fun _ => rfl) ?_
    simp only [hinterlandlaw02_LandTexts.j0, Bool.false_eq_true, if_false]
    by_cases h : r.2 = 0
    · obtain ⟨v, h5⟩ := h3 h
      have hl := (len_le v.1).2
      refine Ev.bind h5 ?_
      simp only [h, if_true]
      refine Ev.bind (land_self W H (l := L) (by omega)) ?_
      simp only [if_true]
      exact Ev.bind known_ev (Ev.now _)
    · refine Ev.bind h4 ?_
      simp only [h, if_false]
      exact Ev.bind known_ev (Ev.now _)
end Go.Proofs.Ytchflcnegpnkkaa.Pure

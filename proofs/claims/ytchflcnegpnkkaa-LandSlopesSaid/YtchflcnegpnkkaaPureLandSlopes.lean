import Derived.Test.YtchflcnegpnkkaaVal
import Derived.Test.YtchflcnegpnkkaaKnown
import Derived.Test.YtchflcnegpnkkaaTile
import Derived.Test.YtchflcnegpnkkaaSlo
import Derived.Test.YtchflcnegpnkkaaQ36
namespace Go.Proofs.Ytchflcnegpnkkaa.Pure
open Go.RowKit Go.Proofs.YtchflcnegpnkkaaOwn Go.Proofs.Ytchflcnegpnkkaa.Q Go.Proofs.Ytchflcnegpnkkaa.Val Go.Proofs.Ytchflcnegpnkkaa.Known Go.Proofs.Ytchflcnegpnkkaa.Tile Go.Proofs.Ytchflcnegpnkkaa.Slo Go.Proofs.YtchflcnegpnkkaaW.PrintWords Go.Proofs.YtchflcnegpnkkaaW.PrintLast
theorem LandSlopes : hinterlandlaw02_LandSlopes.Pure := by
  intro a b L t _ _ _ _
  refine Ev.rounds ?_
  unfold hinterlandlaw02_LandSlopes.f
  refine Ev.bind (large0_ev a b L) ?_
  by_cases h : decide ((L.length : Int) > 4000) = true
  · simp only [h, if_true]
    exact Ev.bind known_ev (Ev.now _)
  · simp only [h]
    obtain ⟨x, y, e, h1, h2, _⟩ := slope_both a b L t
    obtain ⟨u, f, h3, h4⟩ := water_both a b L t
    refine Ev.bind h1 (Ev.bind h2 (Ev.bind h3 (Ev.bind h4 ?_)))
    simp only [if_true, beq_self_eq_true]
    exact Ev.bind known_ev (Ev.now _)
end Go.Proofs.Ytchflcnegpnkkaa.Pure

import Derived.Test.YtchflcnegpnkkaaVal
import Derived.Test.YtchflcnegpnkkaaKnown
import Derived.Test.YtchflcnegpnkkaaQ13
namespace Go.Proofs.Ytchflcnegpnkkaa.Pure
open Go.RowKit Go.Proofs.YtchflcnegpnkkaaOwn Go.Proofs.Ytchflcnegpnkkaa.Q Go.Proofs.Ytchflcnegpnkkaa.Val Go.Proofs.Ytchflcnegpnkkaa.Known Go.Proofs.YtchflcnegpnkkaaW.PrintWords Go.Proofs.YtchflcnegpnkkaaW.PrintLast
theorem LandValidates : hinterlandlaw02_LandValidates.Pure := by
  intro a b L _ _ _
  refine Ev.rounds ?_
  unfold hinterlandlaw02_LandValidates.f
  refine Ev.bind (large0_ev a b L) ?_
  by_cases h : decide ((L.length : Int) > 4000) = true
  · simp only [h, if_true]
    exact Ev.bind known_ev (Ev.now _)
  · simp only [h]
    obtain ⟨r, h1, h2, _⟩ := validate_ok a b L
    refine Ev.bind h1 (Ev.bind h2 ?_)
    simp only [if_true]
    exact Ev.bind known_ev (Ev.now _)
end Go.Proofs.Ytchflcnegpnkkaa.Pure

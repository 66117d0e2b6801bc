/- What is proved: land.Parse and the reference's Parse answer alike for every text of at most 4000 bytes. No condition. -/
import Derived.Test.YtchflcnegpnkkaaPas
import Derived.Test.YtchflcnegpnkkaaSelf
import Derived.Test.YtchflcnegpnkkaaKnown
import Derived.Test.YtchflcnegpnkkaaQ27
namespace Go.Proofs.Ytchflcnegpnkkaa.Pure
open Go.RowKit Go.Proofs.YtchflcnegpnkkaaOwn Go.Proofs.Ytchflcnegpnkkaa.Q Go.Proofs.Ytchflcnegpnkkaa.Pas Go.Proofs.Ytchflcnegpnkkaa.Self Go.Proofs.Ytchflcnegpnkkaa.Known Go.Proofs.YtchflcnegpnkkaaW.PrintWords Go.Proofs.YtchflcnegpnkkaaW.PrintLast
theorem LandParses : hinterlandlaw02_LandParses.Pure := by
  intro s _
  refine Ev.rounds ?_
  unfold hinterlandlaw02_LandParses.f
  by_cases hg : (s.size : Int) > 4000
  · simp only [hg, if_true]
    exact Ev.bind known_ev (Ev.now _)
  · simp only [hg, if_false]
    obtain ⟨r, h1, h2, h3⟩ := parse_both s (by omega)
    refine Ev.bind h1 (Ev.bind h2 ?_)
    simp only [if_true]
    refine Ev.bind (land_self r.1 r.2.1 (l := r.2.2.1) (by omega)) ?_
    simp only [if_true]
    exact Ev.bind known_ev (Ev.now _)
end Go.Proofs.Ytchflcnegpnkkaa.Pure

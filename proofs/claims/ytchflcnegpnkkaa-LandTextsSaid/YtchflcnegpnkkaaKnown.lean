import Derived.Test.YtchflcnegpnkkaaVal
import Derived.Test.YtchflcnegpnkkaaQ10
import Derived.Test.YtchflcnegpnkkaaQ3
namespace Go.Proofs.Ytchflcnegpnkkaa.Known
open Go.RowKit Go.Proofs.YtchflcnegpnkkaaOwn Go.Proofs.Ytchflcnegpnkkaa.Q Go.Proofs.YtchflcnegpnkkaaW.PrintWords Go.Proofs.YtchflcnegpnkkaaW.PrintLast
theorem known_ev : Ev (fun k => hinterlandlaw02_known.f k) true := Ev.of hinterlandlaw02_known.mono (k := 200) (by decide +kernel)
theorem large0 (a b : Int) (L : List Int) : ∀ k, hinterlandlaw02_large.f (k + 1) a b L ([] : List (List Int)) = some (decide ((L.length : Int) > 4000)) := by
  intro k
  unfold hinterlandlaw02_large.f
  simp only [hinterlandlaw02_large.l0]
  rw [if_neg (by simp)]
theorem large0_ev (a b : Int) (L : List Int) : Ev (fun k => hinterlandlaw02_large.f k a b L ([] : List (List Int))) (decide ((L.length : Int) > 4000)) := Ev.step (large0 a b L) (Ev.now _)
end Go.Proofs.Ytchflcnegpnkkaa.Known

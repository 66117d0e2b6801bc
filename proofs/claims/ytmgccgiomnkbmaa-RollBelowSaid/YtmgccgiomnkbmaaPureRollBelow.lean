import Derived.Test.YtmgccgiomnkbmaaDate
import Derived.Test.YtmgccgiomnkbmaaDraw
import Derived.Test.YtmgccgiomnkbmaaQ29
namespace Go.Proofs.Ytmgccgiomnkbmaa.Pure
open Go.RowKit Go.Proofs.YtmgccgiomnkbmaaOwn Go.Proofs.Ytmgccgiomnkbmaa.Q Go.Proofs.Ytmgccgiomnkbmaa.Date Go.Proofs.Ytmgccgiomnkbmaa.Draw Go.Proofs.YtmgccgiomnkbmaaW.PrintWords Go.Proofs.YtmgccgiomnkbmaaW.PrintLast
/-- The number below a bound and the stream behind it. -/
theorem RollBelow : hinterlandlaw01_RollBelow.Pure := by
  intro s n hs hn
  have h1 := wInt_u64 hs
  have h2 := wInt_i64 hn
  by_cases c : n < 1
  · refine ⟨300, ?_⟩
    have h := below_no s n c 300
    unfold hinterlandlaw01_RollBelow.f
    rw [h.1, h.2]
    simp [c, known_tells 300 (Nat.le_refl _)]
  · obtain ⟨v, t, K, h3, h4, h5, h6, h7⟩ := below_ok s n h1.1 h1.2 (by omega) h2.2
    refine ⟨K + 300, ?_⟩
    have h := h7 (K + 300) (by omega)
    unfold hinterlandlaw01_RollBelow.f
    rw [h.1, h.2]
    simp only [Option.bind_some, known_tells (K + 300) (by omega)]
    rw [if_pos trivial, if_pos (by simp), if_neg c, if_pos (by omega), if_pos (by omega), if_pos (by omega)]
end Go.Proofs.Ytmgccgiomnkbmaa.Pure

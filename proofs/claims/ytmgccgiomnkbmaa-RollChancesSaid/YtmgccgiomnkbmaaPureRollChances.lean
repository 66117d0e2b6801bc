import Derived.Test.YtmgccgiomnkbmaaDate
import Derived.Test.YtmgccgiomnkbmaaDraw
import Derived.Test.YtmgccgiomnkbmaaQ32
namespace Go.Proofs.Ytmgccgiomnkbmaa.Pure
open Go.RowKit Go.Proofs.YtmgccgiomnkbmaaOwn Go.Proofs.Ytmgccgiomnkbmaa.Q Go.Proofs.Ytmgccgiomnkbmaa.Date Go.Proofs.Ytmgccgiomnkbmaa.Draw Go.Proofs.YtmgccgiomnkbmaaW.PrintWords Go.Proofs.YtmgccgiomnkbmaaW.PrintLast
/-- When a chance comes out. -/
theorem RollChances : hinterlandlaw01_RollChances.Pure := by
  intro s a b hs ha hb
  have h1 := wInt_u64 hs
  have h2 := wInt_i64 hb
  by_cases c : b < 1
  · refine ⟨300, ?_⟩
    unfold hinterlandlaw01_RollChances.f roll_Chance.f hinterlandref01_Chance.f
    rw [if_pos c, if_pos c]
    simp [c, known_tells 300 (Nat.le_refl _)]
  · obtain ⟨v, t, K, h3, h4, h5, h6, h7⟩ := below_ok s b h1.1 h1.2 (by omega) h2.2
    refine ⟨K + 300, ?_⟩
    have h := h7 (K + 300) (by omega)
    unfold hinterlandlaw01_RollChances.f roll_Chance.f hinterlandref01_Chance.f
    rw [if_neg c, if_neg c, h.1, h.2]
    have hk := known_tells (K + 300) (by omega)
    by_cases c1 : a < b
    · by_cases c2 : a > 0
      · simp [c, c1, c2, hk]
      · have : ¬ v < a := by omega
        simp [c, c1, c2, hk, this]
    · have c3 : v < a := by omega
      have c2 : a > 0 := by omega
      simp [c, c1, c2, hk, c3]
end Go.Proofs.Ytmgccgiomnkbmaa.Pure

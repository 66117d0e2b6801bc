import Derived.Test.YtmgccgiomnkbmaaDate
import Derived.Test.YtmgccgiomnkbmaaQ24
namespace Go.Proofs.Ytmgccgiomnkbmaa.Pure
open Go.RowKit Go.Proofs.YtmgccgiomnkbmaaOwn Go.Proofs.Ytmgccgiomnkbmaa.Q Go.Proofs.Ytmgccgiomnkbmaa.Date Go.Proofs.YtmgccgiomnkbmaaW.PrintWords Go.Proofs.YtmgccgiomnkbmaaW.PrintLast
/-- The date of a day, and that it leads back to the day. -/
theorem RollDates : hinterlandlaw01_RollDates.Pure := by
  intro a _
  obtain ⟨K, hK⟩ : ∃ K, 300 ≤ K := ⟨300, Nat.le_refl _⟩
  refine ⟨K + 2 + 1, ?_⟩
  unfold hinterlandlaw01_RollDates.f
  have hk := known_tells (K + 2) (by omega)
  by_cases ha : 0 ≤ a ∧ a ≤ 100000
  · obtain ⟨n, m, d, hi, hr, hr'⟩ := date_ok a ha.1 ha.2
    rw [hr (K + 2 + 1) (by omega), hr' (K + 2 + 1) (by omega)]
    have hd := (day_ok n m d (hi.year ha.2) hi.m1 hi.m2 hi.d1 hi.d2 (K + 2) (by omega)).1
    rw [hi.day] at hd
    have hres : res a = (a, 0) := by unfold res; rw [if_neg (by omega)]
    simp [hinterlandlaw01_RollDates.j0, hd, hres, hk]
  · have hn := date_no a (by omega) (K + 2)
    rw [hn.1, hn.2]
    have hd := day_no 0 0 0 (by omega) K
    simp [hinterlandlaw01_RollDates.j0, hd, hk]
end Go.Proofs.Ytmgccgiomnkbmaa.Pure

import Derived.Test.YtmgccgiomnkbmaaDate
import Derived.Test.YtmgccgiomnkbmaaQ26
namespace Go.Proofs.Ytmgccgiomnkbmaa.Pure
open Go.RowKit Go.Proofs.YtmgccgiomnkbmaaOwn Go.Proofs.Ytmgccgiomnkbmaa.Q Go.Proofs.Ytmgccgiomnkbmaa.Date Go.Proofs.YtmgccgiomnkbmaaW.PrintWords Go.Proofs.YtmgccgiomnkbmaaW.PrintLast
/-- The day of a date. -/
theorem RollDays : hinterlandlaw01_RollDays.Pure := by
  intro y m d _ _ _
  obtain ⟨K, hK⟩ : ∃ K, 300 ≤ K := ⟨300, Nat.le_refl _⟩
  refine ⟨K + 2 + 1, ?_⟩
  unfold hinterlandlaw01_RollDays.f
  have hk := known_tells (K + 2) (by omega)
  by_cases hv : y < 1900 ∨ 2173 < y ∨ m < 1 ∨ 12 < m ∨ d < 1 ∨ ml (lp y) m < d
  · rw [day_no y m d hv (K + 1), rday_no y m d hv (K + 1)]
    obtain ⟨n, m', d', _, hr, _⟩ := date_ok 0 (by omega) (by omega)
    simp [hinterlandlaw01_RollDays.j0, hr (K + 2) (by omega), hk]
  · obtain ⟨n, rfl⟩ : ∃ n : Nat, y = 1900 + n := ⟨(y - 1900).toNat, by omega⟩
    have hd := day_ok n m d (by omega) (by omega) (by omega) (by omega) (by omega) (K + 2 + 1) (by omega)
    rw [hd.1, hd.2]
    have hi : Is n m d (sy n + cm (lp (1900 + n)) m + d - 1) := ⟨by omega, by omega, by omega, by omega, rfl⟩
    generalize sy n + cm (lp (1900 + n)) m + d - 1 = v at hi ⊢
    have hlo := hi.lo
    have hge := sy_ge n
    by_cases hc : v ≤ 100000
    · have hres : res v = (v, 0) := by unfold res; rw [if_neg (by omega)]
      obtain ⟨n', m', d', hi', hr, _⟩ := date_ok v (by omega) hc
      obtain ⟨rfl, rfl, rfl⟩ := hi.one hi'
      simp [hinterlandlaw01_RollDays.j0, hres, hr (K + 2) (by omega), hk]
    · have hres : res v = (0, 1) := by unfold res; rw [if_pos (by omega)]
      obtain ⟨n', m', d', hi', hr, _⟩ := date_ok 0 (by omega) (by omega)
      simp [hinterlandlaw01_RollDays.j0, hres, hr (K + 2) (by omega), hk]
end Go.Proofs.Ytmgccgiomnkbmaa.Pure

import Derived.Test.YtmgccgiomnkbmaaDate
import Derived.Test.YtmgccgiomnkbmaaQ22
import Derived.Test.YtmgccgiomnkbmaaQ20
import Derived.Test.YtmgccgiomnkbmaaQ21
namespace Go.Proofs.Ytmgccgiomnkbmaa.Pure
open Go.RowKit Go.Proofs.YtmgccgiomnkbmaaOwn Go.Proofs.Ytmgccgiomnkbmaa.Q Go.Proofs.Ytmgccgiomnkbmaa.Date Go.Proofs.YtmgccgiomnkbmaaW.PrintWords Go.Proofs.YtmgccgiomnkbmaaW.PrintLast
theorem ends_tells {n : Nat} {m d day : Int} (hi : Is n m d day) (k : Nat) (hk : 300 ≤ k) (hr : roll_Date.f k day = some (1900 + (n : Int), m, d, 0)) (hr' : hinterlandref01_Date.f k day = some (1900 + (n : Int), m, d, 0)) :
    roll_Ends.f k day = some (if d < ml (lp (1900 + n)) m then 0 else if m = 12 then 3 else if m = 3 ∨ m = 6 ∨ m = 9 then 2 else 1, 0) ∧ hinterlandref01_Ends.f k day = some (if d < ml (lp (1900 + n)) m then 0 else if m = 12 then 3 else if m = 3 ∨ m = 6 ∨ m = 9 then 2 else 1, 0) := by
  obtain ⟨k, rfl⟩ : ∃ q, k = q + 2 := ⟨k - 2, by omega⟩
  have h1 := hi.m1
  have h2 := hi.m2
  unfold roll_Ends.f hinterlandref01_Ends.f
  rw [hr, hr']
  simp only [Option.bind_some]
  rw [if_pos trivial, if_pos trivial, months_tells _ (by omega), Days_tells _ _ k (by omega) h1 h2]
  simp only [Option.bind_some]
  rw [wrap_in (by omega) (by omega), if_pos (by omega), if_pos (by omega), show rd [31, 28 + lp (1900 + n), 31, 30, 31, 30, 31, 31, 30, 31, 30, 31] (m - 1) = ml (lp (1900 + n)) m from rd_tab _ m h1 h2]
  by_cases hd : d < ml (lp (1900 + n)) m
  · simp [hd]
  · simp only [if_neg hd]
    rw [Int.tmod_eq_emod_of_nonneg (by omega)]
    rcases twelve h1 h2 with rfl | rfl | rfl | rfl | rfl | rfl | rfl | rfl | rfl | rfl | rfl | rfl <;> simp
/-- The date of the day behind one. -/
theorem next_is {n : Nat} {m d day : Int} (hi : Is n m d day) : (d < ml (lp (1900 + n)) m ∧ Is n m (d + 1) (day + 1)) ∨ (d = ml (lp (1900 + n)) m ∧ m < 12 ∧ Is n (m + 1) 1 (day + 1)) ∨ (d = ml (lp (1900 + n)) m ∧ m = 12 ∧ Is (n + 1) 1 1 (day + 1)) := by
  obtain ⟨h1, h2, h3, h4, h5⟩ := hi
  have hb := lp_01 (1900 + n)
  have hs := cm_succ (lp (1900 + n)) m h1 h2
  by_cases hd : d < ml (lp (1900 + n)) m
  · exact .inl ⟨hd, h1, h2, by omega, by omega, by omega⟩
  · by_cases hm : m < 12
    · have := ml_bd (lp (1900 + n)) (m + 1) hb
      exact .inr (.inl ⟨by omega, hm, by omega, by omega, by omega, by omega, by omega⟩)
    · obtain rfl : m = 12 := by omega
      have := ml_bd (lp (1900 + (n + 1 : Nat))) 1 (lp_01 _)
      have e : cm (lp (1900 + n)) (12 + 1) = 365 + lp (1900 + n) := cm_end _
      exact .inr (.inr ⟨by omega, rfl, by omega, by omega, by omega, by omega, by rw [cm_one]; simp only [sy]; omega⟩)
/-- What ends with a day. -/
theorem RollEnds : hinterlandlaw01_RollEnds.Pure := by
  intro a _
  obtain ⟨K, hK⟩ : ∃ K, 300 ≤ K := ⟨300, Nat.le_refl _⟩
  refine ⟨K + 1 + 1, ?_⟩
  unfold hinterlandlaw01_RollEnds.f
  have hk := known_tells K hK
  by_cases ha : 0 ≤ a ∧ a ≤ 100000
  · obtain ⟨n, m, d, hi, hr, hr'⟩ := date_ok a ha.1 ha.2
    have he := ends_tells hi (K + 1 + 1) (by omega) (hr _ (by omega)) (hr' _ (by omega))
    rw [he.1, he.2]
    simp only [Option.bind_some]
    rw [if_pos trivial]
    simp only [hinterlandlaw01_RollEnds.j0]
    rw [if_neg (by simp), if_pos trivial]
    simp only [hinterlandlaw01_RollEnds.j1]
    by_cases h9 : a = 100000
    · subst h9
      simp [hk]
    · have h9' : (a == 100000) = false := by simpa using h9
      obtain ⟨n', m', d', hi', hr2, _⟩ := date_ok (a + 1) (by omega) (by omega)
      rw [h9', if_neg (by simp), wrap_in (by omega) (by omega), hr2 K hK, hk]
      simp only [Option.bind_some]
      have h1 := hi.m1
      have h2 := hi.m2
      have hml := ml_bd (lp (1900 + n)) m (lp_01 _)
      rcases next_is hi with ⟨hd, hx⟩ | ⟨hd, hm, hx⟩ | ⟨hd, rfl, hx⟩
      · obtain ⟨rfl, rfl, rfl⟩ := hx.one hi'
        have := hi.d1
        rw [if_neg (by omega), if_pos hd]
        simp
      · obtain ⟨rfl, rfl, rfl⟩ := hx.one hi'
        have hnd : ¬ d < ml (lp (1900 + n)) m := by omega
        rw [if_pos rfl, Int.tmod_eq_emod_of_nonneg (by omega)]
        simp only [if_neg hnd]
        rcases twelve h1 h2 with rfl | rfl | rfl | rfl | rfl | rfl | rfl | rfl | rfl | rfl | rfl | rfl <;> first | omega | simp
      · obtain ⟨rfl, rfl, rfl⟩ := hx.one hi'
        have hnd : ¬ d < ml (lp (1900 + n)) 12 := by omega
        simp only [if_neg hnd]
        simp
  · have hn := date_no a (by omega) (K + 1)
    unfold roll_Ends.f hinterlandref01_Ends.f
    rw [hn.1, hn.2]
    simp [hinterlandlaw01_RollEnds.j0, hinterlandlaw01_RollEnds.j1, hk]
end Go.Proofs.Ytmgccgiomnkbmaa.Pure

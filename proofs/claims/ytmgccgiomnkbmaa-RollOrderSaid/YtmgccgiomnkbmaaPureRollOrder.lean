import Derived.Test.YtmgccgiomnkbmaaDate
import Derived.Test.YtmgccgiomnkbmaaQ8
namespace Go.Proofs.Ytmgccgiomnkbmaa.Pure
open Go.RowKit Go.Proofs.YtmgccgiomnkbmaaOwn Go.Proofs.Ytmgccgiomnkbmaa.Q Go.Proofs.Ytmgccgiomnkbmaa.Date Go.Proofs.YtmgccgiomnkbmaaW.PrintWords Go.Proofs.YtmgccgiomnkbmaaW.PrintLast
/-- Later days have later dates. -/
theorem RollOrder : hinterlandlaw01_RollOrder.Pure := by
  intro a b _ _
  obtain ⟨K, hK⟩ : ∃ K, 300 ≤ K := ⟨300, Nat.le_refl _⟩
  refine ⟨K + 1, ?_⟩
  unfold hinterlandlaw01_RollOrder.f
  have hk := known_tells K hK
  by_cases ha : 0 ≤ a ∧ a ≤ 100000
  · obtain ⟨n, m, d, hi, hr, _⟩ := date_ok a ha.1 ha.2
    rw [hr (K + 1) (by omega)]
    simp only [Option.bind_some]
    by_cases hb : 0 ≤ b ∧ b ≤ 100000
    · obtain ⟨n', m', d', hi', hr', _⟩ := date_ok b hb.1 hb.2
      rw [hr' (K + 1) (by omega)]
      simp only [Option.bind_some, hinterlandlaw01_RollOrder.j0]
      rw [if_pos trivial, if_neg (by simp), hk]
      simp only [Option.bind_some]
      have h1 : ∀ {n m d n' m' d' a b}, Is n m d a → Is n' m' d' b → (n < n' ∨ n = n' ∧ (m < m' ∨ m = m' ∧ d < d')) → a < b := fun h h' hl => h.less h' hl
      by_cases c1 : (1900 : Int) + n < 1900 + n'
      · have hab := hi.less hi' (.inl (by omega))
        have e : (a == b) = false := by simp; omega
        have e2 : ((1900 : Int) + n == 1900 + n') = false := by simp; omega
        rw [if_pos c1, decide_eq_true hab, e, e2]
        rfl
      · rw [if_neg c1]
        by_cases c2 : (1900 : Int) + n = 1900 + n'
        · rw [if_pos c2]
          obtain rfl : n = n' := by omega
          by_cases c3 : m < m'
          · have hab := hi.less hi' (.inr ⟨rfl, .inl c3⟩)
            have e : (a == b) = false := by simp; omega
            have e2 : (m == m') = false := by simp; omega
            rw [if_pos c3, decide_eq_true hab, e, e2]
            simp
          · rw [if_neg c3]
            by_cases c4 : m = m'
            · subst c4
              rw [if_pos rfl]
              rcases Int.lt_trichotomy d d' with c5 | rfl | c5
              · have hab := hi.less hi' (.inr ⟨rfl, .inr ⟨rfl, c5⟩⟩)
                have e : (a == b) = false := by simp; omega
                have e2 : (d == d') = false := by simp; omega
                rw [decide_eq_true hab, decide_eq_true c5, e, e2]
                simp
              · have hab : a = b := by have := hi.day; have := hi'.day; omega
                subst hab
                simp
              · have hab := hi'.less hi (.inr ⟨rfl, .inr ⟨rfl, c5⟩⟩)
                have e : (a == b) = false := by simp; omega
                have e2 : (d == d') = false := by simp; omega
                rw [decide_eq_false (p := a < b) (by omega), decide_eq_false (p := d < d') (by omega), e, e2]
                simp
            · rw [if_neg c4]
              have hab := hi'.less hi (.inr ⟨rfl, .inl (by omega)⟩)
              have e : (a == b) = false := by simp; omega
              have e2 : (m == m') = false := by simp; omega
              rw [decide_eq_false (p := a < b) (by omega), e, e2]
              simp
        · rw [if_neg c2]
          have hab := hi'.less hi (.inl (by omega))
          have e : (a == b) = false := by simp; omega
          have e2 : ((1900 : Int) + n == 1900 + n') = false := by simp; omega
          rw [decide_eq_false (p := a < b) (by omega), e, e2]
          rfl
    · rw [(date_no b (by omega) K).1]
      simp [hinterlandlaw01_RollOrder.j0, hk]
  · rw [(date_no a (by omega) K).1]
    by_cases hb : 0 ≤ b ∧ b ≤ 100000
    · obtain ⟨n', m', d', hi', hr', _⟩ := date_ok b hb.1 hb.2
      rw [hr' (K + 1) (by omega)]
      simp [hinterlandlaw01_RollOrder.j0, hk]
    · rw [(date_no b (by omega) K).1]
      simp [hinterlandlaw01_RollOrder.j0, hk]
end Go.Proofs.Ytmgccgiomnkbmaa.Pure

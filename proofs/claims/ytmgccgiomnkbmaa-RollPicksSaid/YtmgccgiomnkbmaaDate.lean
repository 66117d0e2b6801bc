/- The calendar as the two texts reckon it: days ahead of a year and of a month; the printed loops of roll.Date, roll.Day and of the reference tell it. -/
import Derived.Test.YtmgccgiomnkbmaaQ26
import Derived.Test.YtmgccgiomnkbmaaQ19
import Derived.Test.YtmgccgiomnkbmaaQ25
namespace Go.Proofs.Ytmgccgiomnkbmaa.Date
open Go.RowKit Go.Proofs.YtmgccgiomnkbmaaOwn Go.Proofs.Ytmgccgiomnkbmaa.Q Go.Proofs.YtmgccgiomnkbmaaW.PrintWords Go.Proofs.YtmgccgiomnkbmaaW.PrintLast
theorem wrap_in {x : Int} (h0 : -1000000000 ≤ x) (h1 : x ≤ 1000000000) : wrap64 x = x := by unfold wrap64; omega
/-- Is a year long (1) or not (0). -/
def lp (y : Int) : Int := if y % 4 = 0 ∧ (y % 100 ≠ 0 ∨ y % 400 = 0) then 1 else 0
theorem lp_01 (y : Int) : lp y = 0 ∨ lp y = 1 := by unfold lp; split <;> simp
theorem long_tells (y : Int) (h : 0 ≤ y) : roll_long.f y = some (decide (lp y = 1)) := by
  unfold roll_long.f lp
  rw [Int.tmod_eq_emod_of_nonneg h, Int.tmod_eq_emod_of_nonneg h, Int.tmod_eq_emod_of_nonneg h]
  by_cases h1 : y % 4 = 0
  · by_cases h2 : y % 100 = 0
    · by_cases h3 : y % 400 = 0 <;> simp [h1, h2, h3]
    · simp [h1, h2]
  · simp [h1]
theorem Long_tells (y : Int) (h : 0 ≤ y) : hinterlandref01_Long.f y = some (decide (lp y = 1)) := by
  unfold hinterlandref01_Long.f lp
  rw [Int.tmod_eq_emod_of_nonneg h, Int.tmod_eq_emod_of_nonneg h, Int.tmod_eq_emod_of_nonneg h]
  by_cases h1 : y % 400 = 0
  · have : y % 4 = 0 := by omega
    simp [h1, this]
  · by_cases h2 : y % 4 = 0
    · by_cases h3 : y % 100 = 0 <;> simp [h1, h2, h3]
    · simp [h1, h2]
theorem length_tells (y : Int) (h : 0 ≤ y) : roll_length.f y = some (365 + lp y) := by
  unfold roll_length.f
  rw [long_tells y h]
  rcases lp_01 y with e | e <;> simp [e]
/-- Days of a month in a year that is long (b = 1) or not (b = 0). -/
def ml (b m : Int) : Int := if m = 2 then 28 + b else if m = 4 ∨ m = 6 ∨ m = 9 ∨ m = 11 then 30 else 31
/-- Days ahead of a month. -/
def cm (b m : Int) : Int := if m ≤ 1 then 0 else if m = 2 then 31 else if m = 3 then 59 + b else if m = 4 then 90 + b else if m = 5 then 120 + b else if m = 6 then 151 + b else if m = 7 then 181 + b else if m = 8 then 212 + b else if m = 9 then 243 + b else if m = 10 then 273 + b else if m = 11 then 304 + b else if m = 12 then 334 + b else 365 + b
theorem twelve {m : Int} (h1 : 1 ≤ m) (h2 : m ≤ 12) : m = 1 ∨ m = 2 ∨ m = 3 ∨ m = 4 ∨ m = 5 ∨ m = 6 ∨ m = 7 ∨ m = 8 ∨ m = 9 ∨ m = 10 ∨ m = 11 ∨ m = 12 := by omega
theorem cm_succ (b m : Int) (h1 : 1 ≤ m) (h2 : m ≤ 12) : cm b (m + 1) = cm b m + ml b m := by
  rcases twelve h1 h2 with rfl | rfl | rfl | rfl | rfl | rfl | rfl | rfl | rfl | rfl | rfl | rfl <;> simp [cm, ml] <;> omega
theorem cm_one (b : Int) : cm b 1 = 0 := by simp [cm]
theorem cm_end (b : Int) : cm b 13 = 365 + b := by simp [cm]
theorem ml_bd (b m : Int) (hb : b = 0 ∨ b = 1) : 28 ≤ ml b m ∧ ml b m ≤ 31 := by unfold ml; split <;> (try split) <;> omega
theorem cm_bd (b m : Int) (hb : b = 0 ∨ b = 1) : 0 ≤ cm b m ∧ cm b m ≤ 366 := by unfold cm; repeat (first | omega | split)
theorem cm_mono (b m m' : Int) (hb : b = 0 ∨ b = 1) (h1 : 1 ≤ m) (h2 : m < m') (h3 : m' ≤ 13) : cm b m + ml b m ≤ cm b m' := by
  have h12 : m ≤ 12 := by omega
  rw [← cm_succ b m h1 h12]
  rcases twelve h1 h12 with rfl | rfl | rfl | rfl | rfl | rfl | rfl | rfl | rfl | rfl | rfl | rfl <;> (unfold cm; simp; repeat (first | omega | split))
/-- Days ahead of the year 1900 + n. -/
def sy : Nat → Int
  | 0 => 0
  | n + 1 => sy n + 365 + lp (1900 + n)
theorem sy_ge (n : Nat) : 365 * (n : Int) ≤ sy n := by
  induction n with
  | zero => simp [sy]
  | succ n ih => have := lp_01 (1900 + n); simp only [sy]; omega
theorem sy_mono (n n' : Nat) (h : n < n') : sy n + 365 + lp (1900 + n) ≤ sy n' := by
  induction n' with
  | zero => omega
  | succ m ih =>
    rcases Nat.lt_or_ge n m with h' | h'
    · have := ih h'; have := lp_01 (1900 + m); simp only [sy]; omega
    · have : n = m := by omega
      subst this
      simp only [sy]
      omega
/-- The date of a day: year 1900 + n, month m, day d. -/
structure Is (n : Nat) (m d day : Int) : Prop where
  m1 : 1 ≤ m
  m2 : m ≤ 12
  d1 : 1 ≤ d
  d2 : d ≤ ml (lp (1900 + n)) m
  day : sy n + cm (lp (1900 + n)) m + d - 1 = day
theorem Is.lo {n : Nat} {m d day : Int} (h : Is n m d day) : sy n ≤ day ∧ day < sy n + 365 + lp (1900 + n) := by
  have h0 := cm_bd (lp (1900 + n)) m (lp_01 _)
  have h1 := cm_mono (lp (1900 + n)) m 13 (lp_01 _) h.m1 (by have := h.m2; omega) (by omega)
  rw [cm_end] at h1
  have := h.d1; have := h.d2; have := h.day
  omega
theorem Is.less {n n' : Nat} {m d day m' d' day' : Int} (h : Is n m d day) (h' : Is n' m' d' day') (hl : n < n' ∨ n = n' ∧ (m < m' ∨ m = m' ∧ d < d')) : day < day' := by
  rcases hl with hl | ⟨rfl, hl | ⟨rfl, hl⟩⟩
  · have := h.lo; have := h'.lo; have := sy_mono n n' hl; omega
  · have := cm_mono (lp (1900 + n)) m m' (lp_01 _) h.m1 hl (by have := h'.m2; omega)
    have := h.day; have := h'.day; have := h.d2; have := h'.d1
    omega
  · have := h.day; have := h'.day; omega
theorem Is.one {n n' : Nat} {m d m' d' day : Int} (h : Is n m d day) (h' : Is n' m' d' day) : n = n' ∧ m = m' ∧ d = d' := by
  rcases Nat.lt_trichotomy n n' with hn | rfl | hn
  · have := h.less h' (.inl hn); omega
  · rcases Int.lt_trichotomy m m' with hm | rfl | hm
    · have := h.less h' (.inr ⟨rfl, .inl hm⟩); omega
    · refine ⟨rfl, rfl, ?_⟩
      have := h.day; have := h'.day; omega
    · have := h'.less h (.inr ⟨rfl, .inl hm⟩); omega
  · have := h'.less h (.inl hn); omega
theorem Is.year {n : Nat} {m d day : Int} (h : Is n m d day) (hd : day ≤ 100000) : n ≤ 273 := by
  have := h.lo; have := sy_ge n; omega
/-- The program's months. -/
def tab (b : Int) : List Int := [31, 28 + b, 31, 30, 31, 30, 31, 31, 30, 31, 30, 31]
theorem rd_tab (b m : Int) (h1 : 1 ≤ m) (h2 : m ≤ 12) : rd (tab b) (m - 1) = ml b m := by
  rcases twelve h1 h2 with rfl | rfl | rfl | rfl | rfl | rfl | rfl | rfl | rfl | rfl | rfl | rfl <;> simp [rd, tab, ml]
theorem months_tells (y : Int) (h : 0 ≤ y) : roll_months.f y = some (31, 28 + lp y, 31, 30, 31, 30, 31, 31, 30, 31, 30, 31) := by
  unfold roll_months.f
  rw [long_tells y h]
  rcases lp_01 y with e | e <;> simp [e]
theorem Days_tells (y m : Int) (k : Nat) (h : 0 ≤ y) (h1 : 1 ≤ m) (h2 : m ≤ 12) : hinterlandref01_Days.f (k + 2) y m = some (ml (lp y) m) := by
  rcases twelve h1 h2 with rfl | rfl | rfl | rfl | rfl | rfl | rfl | rfl | rfl | rfl | rfl | rfl <;> simp [hinterlandref01_Days.f, hinterlandref01_Days.j0, hinterlandref01_Days.j1, ml, Long_tells y h] <;> rcases lp_01 y with e | e <;> simp [e]
theorem Days_none (y m : Int) (k : Nat) (h : m < 1 ∨ 12 < m) : hinterlandref01_Days.f (k + 2) y m = some 0 := by
  have : m ≠ 1 ∧ m ≠ 2 ∧ m ≠ 3 ∧ m ≠ 4 ∧ m ≠ 5 ∧ m ≠ 6 ∧ m ≠ 7 ∧ m ≠ 8 ∧ m ≠ 9 ∧ m ≠ 10 ∧ m ≠ 11 ∧ m ≠ 12 := by omega
  obtain ⟨a1, a2, a3, a4, a5, a6, a7, a8, a9, a10, a11, a12⟩ := this
  simp [hinterlandref01_Days.f, hinterlandref01_Days.j0, hinterlandref01_Days.j1, a1, a2, a3, a4, a5, a6, a7, a8, a9, a10, a11, a12]
theorem date_l1 (y b : Int) (hb : b = 0 ∨ b = 1) (z : Int) (j : Nat) : ∀ (k : Nat) (x m : Int), 1 ≤ m → m ≤ 12 → 0 ≤ x → cm b m + x < 365 + b → (12 - m).toNat = j → j < k →
    ∃ m' d', roll_Date.l1 k x y m z 31 (28 + b) 31 30 31 30 31 31 30 31 30 31 = some (y, m', d', 0) ∧ 1 ≤ m' ∧ m' ≤ 12 ∧ 1 ≤ d' ∧ d' ≤ ml b m' ∧ cm b m' + d' - 1 = cm b m + x := by
  induction j with
  | zero =>
    intro k x m h1 h2 hx hc hj hk
    obtain ⟨k, rfl⟩ : ∃ q, k = q + 1 := ⟨k - 1, by omega⟩
    have hm : m = 12 := by omega
    subst hm
    have hx2 : x < 31 := by simp [cm] at hc; omega
    refine ⟨12, x + 1, ?_, by omega, by omega, by omega, by simp [ml]; omega, by omega⟩
    simp only [roll_Date.l1]
    rw [wrap_in (by omega) (by omega), if_pos (by omega), if_pos (by omega), show rd [31, 28 + b, 31, 30, 31, 30, 31, 31, 30, 31, 30, 31] (12 - 1) = 31 from rd_tab b 12 (by omega) (by omega), if_neg (by omega), wrap_in (by omega) (by omega)]
  | succ j ih =>
    intro k x m h1 h2 hx hc hj hk
    obtain ⟨k, rfl⟩ : ∃ q, k = q + 1 := ⟨k - 1, by omega⟩
    have hml := ml_bd b m hb
    have hcb := cm_bd b m hb
    have hs := cm_succ b m h1 h2
    by_cases hlt : x < ml b m
    · refine ⟨m, x + 1, ?_, h1, h2, by omega, by omega, by omega⟩
      simp only [roll_Date.l1]
      rw [wrap_in (by omega) (by omega), if_pos (by omega), if_pos (by omega), show rd [31, 28 + b, 31, 30, 31, 30, 31, 31, 30, 31, 30, 31] (m - 1) = ml b m from rd_tab b m h1 h2, if_neg (by omega), wrap_in (by omega) (by omega)]
    · obtain ⟨m', d', hr, h3, h4, h5, h6, h7⟩ := ih k (x - ml b m) (m + 1) (by omega) (by omega) (by omega) (by omega) (by omega) (by omega)
      refine ⟨m', d', ?_, h3, h4, h5, h6, by omega⟩
      simp only [roll_Date.l1]
      rw [wrap_in (x := m - 1) (by omega) (by omega), if_pos (by omega), if_pos (by omega), show rd [31, 28 + b, 31, 30, 31, 30, 31, 31, 30, 31, 30, 31] (m - 1) = ml b m from rd_tab b m h1 h2, if_pos (by omega), wrap_in (by omega) (by omega), wrap_in (by omega) (by omega)]
      exact hr
theorem date_l0 (j : Nat) : ∀ (k n : Nat) (x : Int), 0 ≤ x → sy n + x ≤ 100000 → 274 - n = j → j + 14 < k →
    ∃ (n' : Nat) (m d : Int), roll_Date.l0 k x (1900 + n) 1 0 = some (1900 + (n' : Int), m, d, 0) ∧ Is n' m d (sy n + x) := by
  induction j with
  | zero => intro k n x hx hs hj hk; have := sy_ge n; omega
  | succ j ih =>
    intro k n x hx hs hj hk
    have hge := sy_ge n
    obtain ⟨k, rfl⟩ : ∃ q, k = q + 1 := ⟨k - 1, by omega⟩
    have hb := lp_01 (1900 + n)
    have hl := length_tells (1900 + n) (by omega)
    by_cases hlt : x < 365 + lp (1900 + n)
    · obtain ⟨m, d, hr, h3, h4, h5, h6, h7⟩ := date_l1 (1900 + n) (lp (1900 + n)) hb 0 11 k x 1 (by omega) (by omega) hx (by rw [cm_one]; omega) (by omega) (by omega)
      refine ⟨n, m, d, ?_, h3, h4, h5, h6, by rw [cm_one] at h7; omega⟩
      simp only [roll_Date.l0]
      rw [hl]
      simp only [Option.bind_some]
      rw [if_neg (by omega), months_tells _ (by omega)]
      simp only [Option.bind_some]
      exact hr
    · obtain ⟨n', m, d, hr, hi⟩ := ih k (n + 1) (x - (365 + lp (1900 + n))) (by omega) (by simp only [sy]; omega) (by omega) (by omega)
      refine ⟨n', m, d, ?_, by simp only [sy] at hi; rwa [show sy n + 365 + lp (1900 + n) + (x - (365 + lp (1900 + n))) = sy n + x by omega] at hi⟩
      simp only [roll_Date.l0]
      rw [hl]
      simp only [Option.bind_some]
      rw [if_pos (by omega), wrap_in (by omega) (by omega), wrap_in (by omega) (by omega), show (1900 + (n : Int) + 1) = 1900 + ((n + 1 : Nat) : Int) by omega]
      exact hr
theorem rdate_l1 (y : Int) (hy : 0 ≤ y) (j : Nat) : ∀ (k : Nat) (x m : Int), 1 ≤ m → m ≤ 12 → 0 ≤ x → cm (lp y) m + x < 365 + lp y → (12 - m).toNat = j → j + 3 < k →
    ∃ m' d', hinterlandref01_Date.l1 k x y m = some (y, m', d', 0) ∧ 1 ≤ m' ∧ m' ≤ 12 ∧ 1 ≤ d' ∧ d' ≤ ml (lp y) m' ∧ cm (lp y) m' + d' - 1 = cm (lp y) m + x := by
  induction j with
  | zero =>
    intro k x m h1 h2 hx hc hj hk
    obtain ⟨k, rfl⟩ : ∃ q, k = q + 3 := ⟨k - 3, by omega⟩
    have hm : m = 12 := by omega
    subst hm
    have hx2 : x < 31 := by simp [cm] at hc; omega
    refine ⟨12, x + 1, ?_, by omega, by omega, by omega, by simp [ml]; omega, by omega⟩
    simp only [hinterlandref01_Date.l1]
    rw [Days_tells y 12 k hy (by omega) (by omega)]
    simp only [Option.bind_some]
    rw [if_neg (by simp [ml]; omega), wrap_in (by omega) (by omega)]
  | succ j ih =>
    intro k x m h1 h2 hx hc hj hk
    obtain ⟨k, rfl⟩ : ∃ q, k = q + 3 := ⟨k - 3, by omega⟩
    have hml := ml_bd (lp y) m (lp_01 y)
    have hcb := cm_bd (lp y) m (lp_01 y)
    have hs := cm_succ (lp y) m h1 h2
    have hb := lp_01 y
    by_cases hlt : x < ml (lp y) m
    · refine ⟨m, x + 1, ?_, h1, h2, by omega, by omega, by omega⟩
      simp only [hinterlandref01_Date.l1]
      rw [Days_tells y m k hy h1 h2]
      simp only [Option.bind_some]
      rw [if_neg (by omega), wrap_in (by omega) (by omega)]
    · obtain ⟨m', d', hr, h3, h4, h5, h6, h7⟩ := ih (k + 2) (x - ml (lp y) m) (m + 1) (by omega) (by omega) (by omega) (by omega) (by omega) (by omega)
      refine ⟨m', d', ?_, h3, h4, h5, h6, by omega⟩
      simp only [hinterlandref01_Date.l1] at hr ⊢
      rw [Days_tells y m k hy h1 h2]
      simp only [Option.bind_some]
      rw [if_pos (by omega), wrap_in (by omega) (by omega), wrap_in (by omega) (by omega)]
      exact hr
theorem rdate_l0 (j : Nat) : ∀ (k n : Nat) (x : Int), 0 ≤ x → sy n + x ≤ 100000 → 274 - n = j → j + 18 < k →
    ∃ (n' : Nat) (m d : Int), hinterlandref01_Date.l0 k x (1900 + n) = some (1900 + (n' : Int), m, d, 0) ∧ Is n' m d (sy n + x) := by
  induction j with
  | zero => intro k n x hx hs hj hk; have := sy_ge n; omega
  | succ j ih =>
    intro k n x hx hs hj hk
    have hge := sy_ge n
    obtain ⟨k, rfl⟩ : ∃ q, k = q + 2 := ⟨k - 2, by omega⟩
    have hb := lp_01 (1900 + n)
    have hl := Long_tells (1900 + n) (by omega)
    by_cases hlt : x < 365 + lp (1900 + n)
    · obtain ⟨m, d, hr, h3, h4, h5, h6, h7⟩ := rdate_l1 (1900 + n) (by omega) 11 k x 1 (by omega) (by omega) hx (by rw [cm_one]; omega) (by omega) (by omega)
      refine ⟨n, m, d, ?_, h3, h4, h5, h6, by rw [cm_one] at h7; omega⟩
      simp only [hinterlandref01_Date.l0]
      rw [hl]
      simp only [Option.bind_some]
      rcases hb with e | e
      · rw [if_neg (by simp [e]), if_pos (by omega)]
        simp only [hinterlandref01_Date.j2]
        exact hr
      · rw [if_pos (by simp [e]), if_pos (by omega)]
        simp only [hinterlandref01_Date.j2]
        exact hr
    · obtain ⟨n', m, d, hr, hi⟩ := ih (k + 1) (n + 1) (x - (365 + lp (1900 + n))) (by omega) (by simp only [sy]; omega) (by omega) (by omega)
      refine ⟨n', m, d, ?_, by simp only [sy] at hi; rwa [show sy n + 365 + lp (1900 + n) + (x - (365 + lp (1900 + n))) = sy n + x by omega] at hi⟩
      rw [hinterlandref01_Date.l0, hl]
      simp only [Option.bind_some]
      rw [show (1900 + ((n + 1 : Nat) : Int)) = 1900 + (n : Int) + 1 by omega] at hr
      rcases hb with e | e
      · rw [if_neg (by simp [e]), if_neg (by omega), wrap_in (by omega) (by omega), wrap_in (by omega) (by omega)]
        rw [e] at hr
        exact hr
      · rw [if_pos (by simp [e]), if_neg (by omega), wrap_in (by omega) (by omega), wrap_in (by omega) (by omega)]
        rw [e] at hr
        exact hr
/-- The date of a day within the calendar, by both. -/
theorem date_ok (day : Int) (h0 : 0 ≤ day) (h1 : day ≤ 100000) : ∃ (n : Nat) (m d : Int), Is n m d day ∧ (∀ k, 300 ≤ k → roll_Date.f k day = some (1900 + (n : Int), m, d, 0)) ∧ (∀ k, 300 ≤ k → hinterlandref01_Date.f k day = some (1900 + (n : Int), m, d, 0)) := by
  obtain ⟨n, m, d, hr, hi⟩ := date_l0 274 299 0 day h0 (by simp only [sy]; omega) (by omega) (by omega)
  rw [show sy 0 + day = day by simp [sy]] at hi
  refine ⟨n, m, d, hi, fun k hk => ?_, fun k hk => ?_⟩
  · obtain ⟨k, rfl⟩ : ∃ q, k = q + 1 := ⟨k - 1, by omega⟩
    obtain ⟨n', m', d', hr', hi'⟩ := date_l0 274 k 0 day h0 (by simp only [sy]; omega) (by omega) (by omega)
    rw [show sy 0 + day = day by simp [sy]] at hi'
    obtain ⟨rfl, rfl, rfl⟩ := hi.one hi'
    unfold roll_Date.f
    rw [if_neg (by omega), decide_eq_false (by omega)]
    simp only [roll_Date.j0]
    exact hr'
  · obtain ⟨k, rfl⟩ : ∃ q, k = q + 1 := ⟨k - 1, by omega⟩
    obtain ⟨n', m', d', hr', hi'⟩ := rdate_l0 274 k 0 day h0 (by simp only [sy]; omega) (by omega) (by omega)
    rw [show sy 0 + day = day by simp [sy]] at hi'
    obtain ⟨rfl, rfl, rfl⟩ := hi.one hi'
    unfold hinterlandref01_Date.f
    rw [if_neg (by omega), decide_eq_false (by omega)]
    simp only [hinterlandref01_Date.j0]
    exact hr'
theorem date_no (day : Int) (h : day < 0 ∨ 100000 < day) (k : Nat) : roll_Date.f (k + 1) day = some (0, 0, 0, 1) ∧ hinterlandref01_Date.f (k + 1) day = some (0, 0, 0, 1) := by
  unfold roll_Date.f hinterlandref01_Date.f
  rcases h with h | h
  · rw [if_pos h, if_pos h]; simp [roll_Date.j0, hinterlandref01_Date.j0]
  · rw [if_neg (by omega), if_neg (by omega), decide_eq_true (by omega)]; simp [roll_Date.j0, hinterlandref01_Date.j0]
theorem is_first : Is 0 1 1 0 := ⟨by omega, by omega, by omega, by simp [ml], by simp [sy, cm]⟩
theorem known_tells (k : Nat) (hk : 300 ≤ k) : hinterlandlaw01_known.f k = some true := by
  obtain ⟨n, m, d, hi, hr, _⟩ := date_ok 0 (by omega) (by omega)
  obtain ⟨rfl, rfl, rfl⟩ := hi.one is_first
  unfold hinterlandlaw01_known.f
  rw [hr k hk]
  simp
theorem sy_le (n : Nat) : sy n ≤ 366 * (n : Int) := by
  induction n with
  | zero => simp [sy]
  | succ n ih => have := lp_01 (1900 + n); simp only [sy]; omega
theorem sy_up (n N : Nat) (h : n ≤ N) : sy n ≤ sy N := by
  rcases Nat.lt_or_eq_of_le h with h | rfl
  · have := sy_mono n N h; have := lp_01 (1900 + n); omega
  · exact Int.le_refl _
/-- A day, if there is such a one. -/
def res (v : Int) : Int × Int := if v > 100000 then (0, 1) else (v, 0)
theorem day_l1 (b : Int) (hb : b = 0 ∨ b = 1) (m : Int) (h1 : 1 ≤ m) (h2 : m ≤ 12) (j : Nat) : ∀ (k : Nat) (x i : Int), 0 ≤ i → i ≤ m - 1 → 0 ≤ x → x ≤ 1000000 - 31 * m + 31 * i → (m - 1 - i).toNat = j → j < k →
    roll_Day.l1 k x (m - 1) i 31 (28 + b) 31 30 31 30 31 31 30 31 30 31 = some (res (x + cm b m - cm b (i + 1))) := by
  induction j with
  | zero =>
    intro k x i h3 h4 hx hx2 hj hk
    obtain ⟨k, rfl⟩ : ∃ q, k = q + 1 := ⟨k - 1, by omega⟩
    have hi : i = m - 1 := by omega
    subst hi
    simp only [roll_Day.l1]
    rw [if_neg (by omega), show x + cm b m - cm b (m - 1 + 1) = x by rw [show m - 1 + 1 = m by omega]; omega]
    unfold res
    split <;> rfl
  | succ j ih =>
    intro k x i h3 h4 hx hx2 hj hk
    obtain ⟨k, rfl⟩ : ∃ q, k = q + 1 := ⟨k - 1, by omega⟩
    have hml := ml_bd b (i + 1) hb
    have hs := cm_succ b (i + 1) (by omega) (by omega)
    have hr := rd_tab b (i + 1) (by omega) (by omega)
    rw [show i + 1 - 1 = i by omega] at hr
    simp only [roll_Day.l1]
    rw [if_pos (by omega), if_pos (by omega), if_pos (by omega), show rd [31, 28 + b, 31, 30, 31, 30, 31, 31, 30, 31, 30, 31] i = ml b (i + 1) from hr, wrap_in (by omega) (by omega), wrap_in (by omega) (by omega)]
    rw [ih k _ _ (by omega) (by omega) (by omega) (by omega) (by omega) (by omega), show x + ml b (i + 1) + cm b m - cm b (i + 1 + 1) = x + cm b m - cm b (i + 1) by omega]
theorem day_l0 (m d : Int) (h1 : 1 ≤ m) (h2 : m ≤ 12) (b : Int) (hb : b = 0 ∨ b = 1) (N : Nat) (hN : N ≤ 273) (j : Nat) : ∀ (k n : Nat) (x : Int), n ≤ N → 0 ≤ x → x ≤ 40 + sy n → N - n = j → j + 13 < k →
    roll_Day.l0 k x (1900 + n) (1900 + N) m d 31 (28 + b) 31 30 31 30 31 31 30 31 30 31 = some (res (x + sy N - sy n + cm b m)) := by
  induction j with
  | zero =>
    intro k n x hn hx hx2 hj hk
    obtain ⟨k, rfl⟩ : ∃ q, k = q + 1 := ⟨k - 1, by omega⟩
    obtain rfl : n = N := by omega
    have := sy_le n
    simp only [roll_Day.l0]
    rw [if_neg (by omega), wrap_in (by omega) (by omega), day_l1 b hb m h1 h2 (m - 1 - 0).toNat k x 0 (by omega) (by omega) hx (by omega) rfl (by omega), show x + cm b m - cm b (0 + 1) = x + sy n - sy n + cm b m by rw [show (0 : Int) + 1 = 1 by omega, cm_one]; omega]
  | succ j ih =>
    intro k n x hn hx hx2 hj hk
    obtain ⟨k, rfl⟩ : ∃ q, k = q + 1 := ⟨k - 1, by omega⟩
    have := sy_le n
    have hl := lp_01 (1900 + n)
    simp only [roll_Day.l0]
    rw [if_pos (by omega), length_tells _ (by omega)]
    simp only [Option.bind_some]
    rw [wrap_in (by omega) (by omega), wrap_in (by omega) (by omega), show (1900 + (n : Int) + 1) = 1900 + ((n + 1 : Nat) : Int) by omega, ih k (n + 1) _ (by omega) (by omega) (by simp only [sy]; omega) (by omega) (by omega)]
    congr 2
    simp only [sy]
    omega
theorem rday_l1 (y d : Int) (hy : 0 ≤ y) (m : Int) (h1 : 1 ≤ m) (h2 : m ≤ 12) (j : Nat) : ∀ (k : Nat) (x i : Int), 1 ≤ i → i ≤ m → 0 ≤ x → x ≤ 1000000 - 31 * m + 31 * i → (m - i).toNat = j → j + 3 < k →
    hinterlandref01_Day.l1 k x i y m d = some (res (x + cm (lp y) m - cm (lp y) i)) := by
  induction j with
  | zero =>
    intro k x i h3 h4 hx hx2 hj hk
    obtain ⟨k, rfl⟩ : ∃ q, k = q + 1 := ⟨k - 1, by omega⟩
    have hi : i = m := by omega
    subst hi
    simp only [hinterlandref01_Day.l1]
    rw [if_neg (by omega), show x + cm (lp y) i - cm (lp y) i = x by omega]
    unfold res
    split <;> rfl
  | succ j ih =>
    intro k x i h3 h4 hx hx2 hj hk
    obtain ⟨k, rfl⟩ : ∃ q, k = q + 3 := ⟨k - 3, by omega⟩
    have hml := ml_bd (lp y) i (lp_01 y)
    have hs := cm_succ (lp y) i (by omega) (by omega)
    rw [hinterlandref01_Day.l1, if_pos (by omega), Days_tells y i k hy (by omega) (by omega)]
    simp only [Option.bind_some]
    rw [wrap_in (by omega) (by omega), wrap_in (by omega) (by omega), ih (k + 2) _ _ (by omega) (by omega) (by omega) (by omega) (by omega) (by omega), show x + ml (lp y) i + cm (lp y) m - cm (lp y) (i + 1) = x + cm (lp y) m - cm (lp y) i by omega]
theorem rday_l0 (m d : Int) (h1 : 1 ≤ m) (h2 : m ≤ 12) (N : Nat) (hN : N ≤ 273) (j : Nat) : ∀ (k n : Nat) (x : Int), n ≤ N → 0 ≤ x → x ≤ 40 + sy n → N - n = j → j + 16 < k →
    hinterlandref01_Day.l0 k x (1900 + n) (1900 + N) m d = some (res (x + sy N - sy n + cm (lp (1900 + N)) m)) := by
  induction j with
  | zero =>
    intro k n x hn hx hx2 hj hk
    obtain ⟨k, rfl⟩ : ∃ q, k = q + 1 := ⟨k - 1, by omega⟩
    obtain rfl : n = N := by omega
    have := sy_le n
    simp only [hinterlandref01_Day.l0]
    rw [if_neg (by omega), rday_l1 (1900 + n) d (by omega) m h1 h2 (m - 1).toNat k x 1 (by omega) (by omega) hx (by omega) rfl (by omega), cm_one, show x + cm (lp (1900 + n)) m - 0 = x + sy n - sy n + cm (lp (1900 + n)) m by omega]
  | succ j ih =>
    intro k n x hn hx hx2 hj hk
    obtain ⟨k, rfl⟩ : ∃ q, k = q + 1 := ⟨k - 1, by omega⟩
    have := sy_le n
    have hl := lp_01 (1900 + n)
    have h := ih k (n + 1) (x + 365 + lp (1900 + n)) (by omega) (by omega) (by simp only [sy]; omega) (by omega) (by omega)
    rw [show (1900 + ((n + 1 : Nat) : Int)) = 1900 + (n : Int) + 1 by omega, show x + 365 + lp (1900 + n) + sy N - sy (n + 1) = x + sy N - sy n by simp only [sy]; omega] at h
    simp only [hinterlandref01_Day.l0]
    rw [if_pos (by omega), Long_tells _ (by omega)]
    simp only [Option.bind_some]
    rcases hl with e | e
    · rw [if_neg (by simp [e]), wrap_in (by omega) (by omega), wrap_in (by omega) (by omega)]
      rw [e, Int.add_zero] at h
      exact h
    · rw [if_pos (by simp [e]), wrap_in (x := x + 365) (by omega) (by omega), wrap_in (by omega) (by omega), wrap_in (by omega) (by omega)]
      rw [e] at h
      exact h
/-- The day of a date that there is, by both. -/
theorem day_ok (n : Nat) (m d : Int) (hn : n ≤ 273) (h1 : 1 ≤ m) (h2 : m ≤ 12) (h3 : 1 ≤ d) (h4 : d ≤ ml (lp (1900 + n)) m) (k : Nat) (hk : 300 ≤ k) :
    roll_Day.f k (1900 + n) m d = some (res (sy n + cm (lp (1900 + n)) m + d - 1)) ∧ hinterlandref01_Day.f k (1900 + n) m d = some (res (sy n + cm (lp (1900 + n)) m + d - 1)) := by
  have hml := ml_bd (lp (1900 + n)) m (lp_01 _)
  constructor
  · obtain ⟨k, rfl⟩ : ∃ q, k = q + 2 := ⟨k - 2, by omega⟩
    unfold roll_Day.f
    rw [if_neg (by omega), if_neg (by omega), if_neg (by omega), decide_eq_false (by omega)]
    simp only [roll_Day.j0]
    rw [if_neg (by simp), months_tells _ (by omega)]
    simp only [Option.bind_some]
    rw [if_neg (by omega), wrap_in (by omega) (by omega), if_pos (by omega), if_pos (by omega), show rd [31, 28 + lp (1900 + n), 31, 30, 31, 30, 31, 31, 30, 31, 30, 31] (m - 1) = ml (lp (1900 + n)) m from rd_tab _ m h1 h2, decide_eq_false (by omega)]
    simp only [roll_Day.j1]
    rw [if_neg (by simp), wrap_in (by omega) (by omega)]
    have h := day_l0 m d h1 h2 (lp (1900 + n)) (lp_01 _) n hn n k 0 (d - 1) (by omega) (by omega) (by simp only [sy]; omega) (by omega) (by omega)
    rw [show d - 1 + sy n - sy 0 + cm (lp (1900 + n)) m = sy n + cm (lp (1900 + n)) m + d - 1 by simp only [sy]; omega] at h
    exact h
  · obtain ⟨k, rfl⟩ : ∃ q, k = q + 2 := ⟨k - 2, by omega⟩
    unfold hinterlandref01_Day.f
    rw [if_neg (by omega), if_neg (by omega), if_neg (by omega), Days_tells _ _ k (by omega) h1 h2]
    simp only [Option.bind_some]
    rw [decide_eq_false (by omega), hinterlandref01_Day.j0, if_neg (by simp), wrap_in (by omega) (by omega)]
    have h := rday_l0 m d h1 h2 n hn n (k + 1) 0 (d - 1) (by omega) (by omega) (by simp only [sy]; omega) (by omega) (by omega)
    rw [show d - 1 + sy n - sy 0 + cm (lp (1900 + n)) m = sy n + cm (lp (1900 + n)) m + d - 1 by simp only [sy]; omega] at h
    exact h
theorem rday_no (y m d : Int) (h : y < 1900 ∨ 2173 < y ∨ m < 1 ∨ 12 < m ∨ d < 1 ∨ ml (lp y) m < d) (k : Nat) : hinterlandref01_Day.f (k + 2) y m d = some (0, 1) := by
  unfold hinterlandref01_Day.f
  by_cases c1 : y < 1900
  · rw [if_pos c1]; simp [hinterlandref01_Day.j0]
  rw [if_neg c1]
  by_cases c2 : y > 2173
  · rw [if_pos c2]; simp [hinterlandref01_Day.j0]
  rw [if_neg c2]
  by_cases c3 : d < 1
  · rw [if_pos c3]; simp [hinterlandref01_Day.j0]
  rw [if_neg c3]
  by_cases c4 : m < 1 ∨ 12 < m
  · rw [Days_none y m k c4]
    simp only [Option.bind_some]
    rw [decide_eq_true (by omega)]
    simp [hinterlandref01_Day.j0]
  · rw [Days_tells y m k (by omega) (by omega) (by omega)]
    simp only [Option.bind_some]
    rw [decide_eq_true (by omega)]
    simp [hinterlandref01_Day.j0]
theorem day_no (y m d : Int) (h : y < 1900 ∨ 2173 < y ∨ m < 1 ∨ 12 < m ∨ d < 1 ∨ ml (lp y) m < d) (k : Nat) : roll_Day.f (k + 2) y m d = some (0, 1) := by
  unfold roll_Day.f
  by_cases c1 : y < 1900
  · rw [if_pos c1]; simp [roll_Day.j0]
  rw [if_neg c1]
  by_cases c2 : y > 2173
  · rw [if_pos c2]; simp [roll_Day.j0]
  rw [if_neg c2]
  by_cases c4 : m < 1
  · rw [if_pos c4]; simp [roll_Day.j0]
  rw [if_neg c4]
  by_cases c5 : m > 12
  · rw [decide_eq_true c5]; simp [roll_Day.j0]
  rw [decide_eq_false c5]
  simp only [roll_Day.j0]
  rw [if_neg (by simp), months_tells y (by omega)]
  simp only [Option.bind_some]
  by_cases c3 : d < 1
  · rw [if_pos c3]; simp [roll_Day.j1]
  rw [if_neg c3, wrap_in (by omega) (by omega), if_pos (by omega), if_pos (by omega), show rd [31, 28 + lp y, 31, 30, 31, 30, 31, 31, 30, 31, 30, 31] (m - 1) = ml (lp y) m from rd_tab _ m (by omega) (by omega), decide_eq_true (by omega)]
  simp [roll_Day.j1]
end Go.Proofs.Ytmgccgiomnkbmaa.Date

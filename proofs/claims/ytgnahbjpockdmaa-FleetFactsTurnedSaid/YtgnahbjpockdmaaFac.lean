import Derived.Test.YtgnahbjpockdmaaVm
import Derived.Test.YtgnahbjpockdmaaQ10
import Derived.Test.YtgnahbjpockdmaaQ11
import Derived.Test.YtgnahbjpockdmaaQ19
import Derived.Test.YtgnahbjpockdmaaQ20
import Derived.Test.YtgnahbjpockdmaaQ9
namespace Go.Proofs.Ytgnahbjpockdmaa.Fac
open Go.RowKit Go.Proofs.YtgnahbjpockdmaaOwn Go.Proofs.Ytgnahbjpockdmaa.Q Go.Proofs.Ytgnahbjpockdmaa.Mod Go.Proofs.Ytgnahbjpockdmaa.Vm Go.Proofs.YtgnahbjpockdmaaW.PrintWords Go.Proofs.YtgnahbjpockdmaaW.PrintLast Go.Proofs.YtgnahbjpockdmaaW.PrintMore
set_option linter.unusedVariables false
set_option linter.unusedSimpArgs false

def inR (M : List S54) (i : Int) : Bool := decide (0 ≤ i ∧ i < (M.length : Int))
def kindOf (M : List S54) (i : Int) : Int := (rd_T54 M i).f1
def sameK (M : List S54) (z i : Int) : Bool := decide (kindOf M i = z)
/-- What the fitting of a consist says, all its models being there. -/
def bad (M : List S54) (C : List Int) : Bool := decide ((kindOf M (rd C 0) = 0 ∧ (rd_T54 M (rd C 0)).f3 = 0) ∨ (kindOf M (rd C 0) ≠ 0 ∧ 1 < C.length))
def fitr (M : List S54) (C : List Int) : Int := if C.all (sameK M (kindOf M (rd C 0))) then (if bad M C then 8 else 0) else 8
/-- The first error of a consist, behind v, that of the models. -/
def jr (v : Int) (M : List S54) (C : List Int) : Int := if v ≠ 0 then v else if C.length = 0 ∨ 10 < C.length then 1 else if C.all (inR M) then fitr M C else 2
theorem drop_at {l : List Int} {i d : Nat} (h : i + (d + 1) = l.length) : l.drop i = rd l (i : Int) :: l.drop (i + 1) := by
  unfold rd
  rw [List.drop_eq_getElem_cons (by omega), List.getD_eq_getElem?_getD, List.getElem?_eq_getElem (by simp; omega)]; simp
theorem all_rd {l : List Int} {p : Int → Bool} (h : l.all p = true) {i : Nat} (hi : i < l.length) : p (rd l (i : Int)) = true := by
  rw [List.all_eq_true] at h
  apply h
  unfold rd
  rw [List.getD_eq_getElem?_getD, List.getElem?_eq_getElem (by simpa using hi)]
  simp
theorem j1_ok (b : Bool) : Ev (fun k => fleet_fits.j1 k b) (if b then 8 else 0) := by
  refine Ev.step (fun _ => rfl) ?_
  cases b with
  | true => simp only [fleet_fits.j1, if_true]; exact Ev.now _
  | false => simp only [fleet_fits.j1, Bool.false_eq_true, if_false]; exact Ev.now _
theorem j4_ok (b : Bool) : Ev (fun k => hinterlandref14_coupled.j4 k b) (if b then 8 else 0) := by
  refine Ev.step (fun _ => rfl) ?_
  cases b with
  | true => simp only [hinterlandref14_coupled.j4, if_true]; exact Ev.now _
  | false => simp only [hinterlandref14_coupled.j4, Bool.false_eq_true, if_false]; exact Ev.now _
theorem fits_loop {M : List S54} {C : List Int} (hC : C.length ≤ 500) (h0 : 0 < C.length) (hr : C.all (inR M) = true) (m : S54) (hm : m = rd_T54 M (rd C 0)) : ∀ (d i : Nat), i + d = C.length →
    Ev (fun k => fleet_fits.l0 k M C C (C.length : Int) (i : Int) m.f0 m.f1 m.f2 m.f3 m.f4 m.f5 m.f6 m.f7 m.f8 m.f9 m.f10 m.f11 m.f12 m.f13) (if (C.drop i).all (sameK M (kindOf M (rd C 0))) then (if bad M C then 8 else 0) else 8) := by
  intro d; induction d with
  | zero =>
    intro i hi
    refine Ev.step (fun _ => rfl) ?_
    rw [List.drop_of_length_le (show C.length ≤ i by omega), List.all_nil]
    have hb : bad M C = if m.f1 = 0 then (if m.f3 = 0 then true else false) else decide ((C.length : Int) > 1) := by
      unfold bad kindOf; rw [← hm]
      by_cases h1 : m.f1 = 0
      · by_cases h3 : m.f3 = 0 <;> simp [h1, h3]
      · simp [h1]; omega
    simp only [fleet_fits.l0, show ¬ (i : Int) < (C.length : Int) by omega, if_false, if_true]
    rw [hb]
    by_cases h1 : m.f1 = 0
    · by_cases h3 : m.f3 = 0
      · simp only [h1, h3, if_true]; exact j1_ok true
      · simp only [h1, h3, if_true, if_false]; exact j1_ok false
    · simp only [h1, if_false]; exact j1_ok _
  | succ d ih =>
    intro i hi
    have hi0 : (i : Int) < (C.length : Int) := by omega
    have i0 : (0 : Int) ≤ (i : Int) := by omega
    have wi : wrap64 ((i : Int) + 1) = ((i + 1 : Nat) : Int) := by rw [w64_in (by omega) (by omega)]; omega
    have hx := all_rd hr (show i < C.length by omega)
    unfold inR at hx; have hx := of_decide_eq_true hx
    rw [drop_at hi, List.all_cons]
    refine Ev.step (fun _ => rfl) ?_
    have hk : (kindOf M (rd C 0)) = m.f1 := by unfold kindOf; rw [← hm]
    by_cases he : (rd_T54 M (rd C (i : Int))).f1 = m.f1
    · have hs : sameK M (kindOf M (rd C 0)) (rd C (i : Int)) = true := by unfold sameK; rw [hk]; exact decide_eq_true he
      simp only [fleet_fits.l0, hi0, i0, hx.1, hx.2, he, if_true, wi, hs, Bool.true_and]
      exact ih (i + 1) (by omega)
    · have hs : sameK M (kindOf M (rd C 0)) (rd C (i : Int)) = false := by unfold sameK; rw [hk]; exact decide_eq_false he
      simp only [fleet_fits.l0, hi0, i0, hx.1, hx.2, he, if_true, if_false, hs, Bool.false_and, Bool.false_eq_true]; exact Ev.now _
theorem fits_ok {M : List S54} {C : List Int} (hC : C.length ≤ 500) (h0 : 0 < C.length) (hr : C.all (inR M) = true) : Ev (fun k => fleet_fits.f k M C) (fitr M C) := by
  unfold fleet_fits.f
  have hx := all_rd hr h0
  unfold inR at hx; have hx := of_decide_eq_true hx
  have h00 : 0 < (C.length : Int) := by omega
  have hx1 : 0 ≤ rd C 0 := hx.1
  have hx2 : rd C 0 < (M.length : Int) := hx.2
  simp only [h00, hx1, hx2, if_true]
  have := fits_loop hC h0 hr (rd_T54 M (rd C 0)) rfl C.length 0 (by omega)
  rw [List.drop_zero] at this
  unfold fitr; exact this
theorem coup_loop {M : List S54} {C : List Int} (hC : C.length ≤ 500) (h0 : 0 < C.length) (hr : C.all (inR M) = true) : ∀ (d i : Nat), i + d = C.length →
    Ev (fun k => hinterlandref14_coupled.l1 k M C (kindOf M (rd C 0)) C (C.length : Int) (i : Int)) (if (C.drop i).all (sameK M (kindOf M (rd C 0))) then (if bad M C then 8 else 0) else 8) := by
  have hx0 := all_rd hr h0
  unfold inR at hx0; have hx0 := of_decide_eq_true hx0
  have hx1 : 0 ≤ rd C 0 := hx0.1
  have hx2 : rd C 0 < (M.length : Int) := hx0.2
  have h00 : 0 < (C.length : Int) := by omega
  intro d; induction d with
  | zero =>
    intro i hi
    refine Ev.step (fun _ => rfl) ?_
    rw [List.drop_of_length_le (show C.length ≤ i by omega), List.all_nil]
    have hb : bad M C = if kindOf M (rd C 0) = 0 then (if (rd_T54 M (rd C 0)).f3 = 0 then true else false) else decide ((C.length : Int) > 1) := by
      unfold bad
      by_cases h1 : kindOf M (rd C 0) = 0
      · by_cases h3 : (rd_T54 M (rd C 0)).f3 = 0 <;> simp [h1, h3]
      · simp [h1]; omega
    simp only [hinterlandref14_coupled.l1, show ¬ (i : Int) < (C.length : Int) by omega, if_false, if_true, h00, hx1, hx2]
    rw [hb]
    by_cases h1 : kindOf M (rd C 0) = 0
    · by_cases h3 : (rd_T54 M (rd C 0)).f3 = 0
      · simp only [h1, h3, if_true]; exact j4_ok true
      · simp only [h1, h3, if_true, if_false]; exact j4_ok false
    · simp only [h1, if_false]; exact j4_ok _
  | succ d ih =>
    intro i hi
    have hi0 : (i : Int) < (C.length : Int) := by omega
    have i0 : (0 : Int) ≤ (i : Int) := by omega
    have wi : wrap64 ((i : Int) + 1) = ((i + 1 : Nat) : Int) := by rw [w64_in (by omega) (by omega)]; omega
    have hx := all_rd hr (show i < C.length by omega)
    unfold inR at hx; have hx := of_decide_eq_true hx
    rw [drop_at hi, List.all_cons]
    refine Ev.step (fun _ => rfl) ?_
    by_cases he : (rd_T54 M (rd C (i : Int))).f1 = kindOf M (rd C 0)
    · have hs : sameK M (kindOf M (rd C 0)) (rd C (i : Int)) = true := by unfold sameK; exact decide_eq_true he
      simp only [hinterlandref14_coupled.l1, hi0, i0, hx.1, hx.2, he, if_true, wi, hs, Bool.true_and]
      exact ih (i + 1) (by omega)
    · have hs : sameK M (kindOf M (rd C 0)) (rd C (i : Int)) = false := by unfold sameK; exact decide_eq_false he
      simp only [hinterlandref14_coupled.l1, hi0, i0, hx.1, hx.2, he, if_true, if_false, hs, Bool.false_and, Bool.false_eq_true]; exact Ev.now _
theorem inR_if {M : List S54} {x : Int} : (if x < 0 then true else decide (x ≥ (M.length : Int))) = !inR M x := by
  unfold inR
  by_cases h : x < 0
  · rw [if_pos h]; simp; omega
  · rw [if_neg h]; by_cases h2 : x ≥ (M.length : Int) <;> simp [h2] <;> omega

theorem jl_loop {M : List S54} {C : List Int} (hC : C.length ≤ 500) (h0 : 0 < C.length) : ∀ (d i : Nat), i + d = C.length → (C.take i).all (inR M) = true →
    Ev (fun k => fleet_joined.l0 k M C C (C.length : Int) (i : Int)) (if (C.drop i).all (inR M) then fitr M C else 2) := by
  intro d; induction d with
  | zero =>
    intro i hi hp
    have hr : C.all (inR M) = true := by rw [List.take_of_length_le (by omega)] at hp; exact hp
    rw [List.drop_of_length_le (show C.length ≤ i by omega), List.all_nil, if_pos rfl]
    refine Ev.step (fun _ => rfl) ?_
    simp only [fleet_joined.l0, show ¬ (i : Int) < (C.length : Int) by omega, if_false]
    exact Ev.bind (fits_ok hC h0 hr) (Ev.now _)
  | succ d ih =>
    intro i hi hp
    have hi0 : (i : Int) < (C.length : Int) := by omega
    have i0 : (0 : Int) ≤ (i : Int) := by omega
    have wi : wrap64 ((i : Int) + 1) = ((i + 1 : Nat) : Int) := by rw [w64_in (by omega) (by omega)]; omega
    rw [drop_at hi, List.all_cons]
    have ht : C.take (i + 1) = C.take i ++ [rd C (i : Int)] := by
      rw [List.take_add_one]
      congr 1
      unfold rd
      rw [List.getD_eq_getElem?_getD, List.getElem?_eq_getElem (show i < C.length by omega), List.getElem?_eq_getElem (by simp; omega)]; simp
    have tail : Ev (fun k => fleet_joined.j2 k M C C (C.length : Int) (i : Int) (!inR M (rd C (i : Int)))) (if (inR M (rd C (i : Int)) && (C.drop (i + 1)).all (inR M)) = true then fitr M C else 2) := by
      refine Ev.step (fun _ => rfl) ?_
      cases hx : inR M (rd C (i : Int)) with
      | true =>
        simp only [fleet_joined.j2, Bool.not_true, Bool.false_eq_true, if_false, wi, Bool.true_and]
        exact ih (i + 1) (by omega) (by rw [ht, List.all_append, hp, List.all_cons, hx]; rfl)
      | false =>
        simp only [fleet_joined.j2, Bool.not_false, if_true, Bool.false_and, Bool.false_eq_true, if_false]; exact Ev.now _
    refine Ev.step (fun _ => rfl) ?_
    rw [← inR_if] at tail
    simp only [fleet_joined.l0, hi0, i0, if_true]
    by_cases h : rd C (i : Int) < 0
    · simp only [h, if_true] at tail ⊢; exact tail
    · simp only [h, if_false] at tail ⊢; exact tail
theorem jl_ok {M : List S54} {C : List Int} (hC : C.length ≤ 500) {v : Int} (hv : Ev (fun k => fleet_ValidateModels.f k M) v) : Ev (fun k => fleet_joined.f k M C) (jr v M C) := by
  unfold fleet_joined.f jr
  refine Ev.bind hv ?_
  by_cases h : v = 0
  · simp only [h, if_true, ne_eq, not_true_eq_false, if_false]
    by_cases h1 : C.length = 0
    · have hc := show (C.length : Int) = 0 by omega
      simp only [hc, if_true, h1, true_or]
      refine Ev.step (fun _ => rfl) ?_
      simp only [fleet_joined.j0, if_true]; exact Ev.now _
    · have hc := show ¬ (C.length : Int) = 0 by omega
      simp only [hc, if_false, h1, false_or]
      refine Ev.step (fun _ => rfl) ?_
      by_cases h2 : 10 < C.length
      · simp only [fleet_joined.j0, show (C.length : Int) > 10 by omega, decide_true, if_true, h2]; exact Ev.now _
      · simp only [fleet_joined.j0, show ¬ (C.length : Int) > 10 by omega, decide_false, Bool.false_eq_true, if_false, h2]
        have := jl_loop (M := M) hC (by omega) C.length 0 (by omega) (by simp)
        rw [List.drop_zero] at this
        exact this
  · simp only [h, if_false, ne_eq, not_false_eq_true, if_true]; exact Ev.now _

theorem cl_loop {M : List S54} {C : List Int} (hC : C.length ≤ 500) (h0 : 0 < C.length) : ∀ (d i : Nat), i + d = C.length → (C.take i).all (inR M) = true →
    Ev (fun k => hinterlandref14_coupled.l0 k M C C (C.length : Int) (i : Int)) (if (C.drop i).all (inR M) then fitr M C else 2) := by
  intro d; induction d with
  | zero =>
    intro i hi hp
    have hr : C.all (inR M) = true := by rw [List.take_of_length_le (by omega)] at hp; exact hp
    rw [List.drop_of_length_le (show C.length ≤ i by omega), List.all_nil, if_pos rfl]
    refine Ev.step (fun _ => rfl) ?_
    have hx0 := all_rd hr h0
    unfold inR at hx0; have hx0 := of_decide_eq_true hx0
    have hx1 : 0 ≤ rd C 0 := hx0.1
    have hx2 : rd C 0 < (M.length : Int) := hx0.2
    have h00 : 0 < (C.length : Int) := by omega
    simp only [hinterlandref14_coupled.l0, show ¬ (i : Int) < (C.length : Int) by omega, if_false, h00, hx1, hx2, if_true]
    have := coup_loop hC h0 hr C.length 0 (by omega)
    rw [List.drop_zero] at this
    unfold fitr; exact this
  | succ d ih =>
    intro i hi hp
    have hi0 : (i : Int) < (C.length : Int) := by omega
    have i0 : (0 : Int) ≤ (i : Int) := by omega
    have wi : wrap64 ((i : Int) + 1) = ((i + 1 : Nat) : Int) := by rw [w64_in (by omega) (by omega)]; omega
    rw [drop_at hi, List.all_cons]
    have ht : C.take (i + 1) = C.take i ++ [rd C (i : Int)] := by
      rw [List.take_add_one]
      congr 1
      unfold rd
      rw [List.getD_eq_getElem?_getD, List.getElem?_eq_getElem (show i < C.length by omega), List.getElem?_eq_getElem (by simp; omega)]; simp
    have tail : Ev (fun k => hinterlandref14_coupled.j2 k M C C (C.length : Int) (i : Int) (!inR M (rd C (i : Int)))) (if (inR M (rd C (i : Int)) && (C.drop (i + 1)).all (inR M)) = true then fitr M C else 2) := by
      refine Ev.step (fun _ => rfl) ?_
      cases hx : inR M (rd C (i : Int)) with
      | true =>
        simp only [hinterlandref14_coupled.j2, Bool.not_true, Bool.false_eq_true, if_false, wi, Bool.true_and]
        exact ih (i + 1) (by omega) (by rw [ht, List.all_append, hp, List.all_cons, hx]; rfl)
      | false =>
        simp only [hinterlandref14_coupled.j2, Bool.not_false, if_true, Bool.false_and, Bool.false_eq_true, if_false]; exact Ev.now _
    refine Ev.step (fun _ => rfl) ?_
    rw [← inR_if] at tail
    simp only [hinterlandref14_coupled.l0, hi0, i0, if_true]
    by_cases h : rd C (i : Int) < 0
    · simp only [h, if_true] at tail ⊢; exact tail
    · simp only [h, if_false] at tail ⊢; exact tail
theorem cl_ok {M : List S54} {C : List Int} (hC : C.length ≤ 500) {v : Int} (hv : Ev (fun k => hinterlandref14_ValidateModels.f k M) v) : Ev (fun k => hinterlandref14_coupled.f k M C) (jr v M C) := by
  unfold hinterlandref14_coupled.f jr
  refine Ev.bind hv ?_
  by_cases h : v = 0
  · simp only [h, if_true, ne_eq, not_true_eq_false, if_false]
    by_cases h1 : C.length = 0
    · have hc := show (C.length : Int) < 1 by omega
      simp only [hc, if_true, h1, true_or]
      refine Ev.step (fun _ => rfl) ?_
      simp only [hinterlandref14_coupled.j0, if_true]; exact Ev.now _
    · have hc := show ¬ (C.length : Int) < 1 by omega
      simp only [hc, if_false, h1, false_or]
      refine Ev.step (fun _ => rfl) ?_
      by_cases h2 : 10 < C.length
      · simp only [hinterlandref14_coupled.j0, show (C.length : Int) > 10 by omega, decide_true, if_true, h2]; exact Ev.now _
      · simp only [hinterlandref14_coupled.j0, show ¬ (C.length : Int) > 10 by omega, decide_false, Bool.false_eq_true, if_false, h2]
        have := cl_loop (M := M) hC (by omega) C.length 0 (by omega) (by simp)
        rw [List.drop_zero] at this
        exact this
  · simp only [h, if_false, ne_eq, not_false_eq_true, if_true]; exact Ev.now _

structure FitC (M : List S54) (C : List Int) : Prop where
  good : GoodM M
  pos : 0 < C.length
  ten : C.length ≤ 10
  inr : C.all (inR M) = true
  same : C.all (sameK M (kindOf M (rd C 0))) = true
  nb : bad M C = false
theorem jr_zero {v : Int} {M : List S54} {C : List Int} (hg : v = 0 → GoodM M) (h : jr v M C = 0) : v = 0 ∧ FitC M C := by
  unfold jr at h
  by_cases hv : v = 0
  · rw [if_neg (by simpa using hv)] at h
    by_cases h1 : C.length = 0 ∨ 10 < C.length
    · rw [if_pos h1] at h; omega
    · rw [if_neg h1] at h
      by_cases h2 : C.all (inR M) = true
      · rw [if_pos h2] at h
        unfold fitr at h
        by_cases h3 : C.all (sameK M (kindOf M (rd C 0))) = true
        · rw [if_pos h3] at h
          cases h4 : bad M C with
          | true => rw [h4] at h; simp at h
          | false => exact ⟨hv, hg hv, by omega, by omega, h2, h3, h4⟩
        · rw [if_neg h3] at h; omega
      · rw [if_neg h2] at h; omega
  · rw [if_pos hv] at h; exact absurd h hv
/-- A model of a consist that fits. -/
theorem FitC.model {M : List S54} {C : List Int} (f : FitC M C) {i : Nat} (hi : i < C.length) : 0 ≤ rd C (i : Int) ∧ rd C (i : Int) < (M.length : Int) ∧ okB (rd_T54 M (rd C (i : Int))) = true := by
  have hx := all_rd f.inr hi
  unfold inR at hx; have hx := of_decide_eq_true hx
  exact ⟨hx.1, hx.2, f.good.ok _ hx.1 hx.2⟩
abbrev St := Int × Int × Int × Int × Int × Int × Int × Bool
def step (s : St) (m : S54) : St := (fleet_engine_add.sp m.f2 s.1, wrap64 (s.2.1 + m.f3), wrap64 (s.2.2.1 + m.f4), wrap64 (s.2.2.2.1 + m.f5), wrap64 (s.2.2.2.2.1 + m.f8), wrap64 (s.2.2.2.2.2.1 + m.f9), wrap64 (s.2.2.2.2.2.2.1 + m.f10), (s.2.2.2.2.2.2.2 || m.f13))
def zero : St := (0, 0, 0, 0, 0, 0, 0, false)
abbrev FR := Int × Int × Int × Int × Int × Int × Int × Bool × Int
def fin (s : St) : FR := (if s.1 = 0 then 600 else s.1, s.2.1, s.2.2.1, s.2.2.2.1, s.2.2.2.2.1, s.2.2.2.2.2.1, s.2.2.2.2.2.2.1, s.2.2.2.2.2.2.2, 0)
def sums (M : List S54) (C : List Int) : St := (C.map (rd_T54 M)).foldl step zero
/-- The facts of a consist: of one that doesn't fit, its error. -/
def factsr (v : Int) (M : List S54) (C : List Int) : FR := if jr v M C = 0 then fin (sums M C) else (0, 0, 0, 0, 0, 0, 0, false, jr v M C)
theorem facts_loop {M : List S54} {C : List Int} (hC : C.length ≤ 500) (hr : C.all (inR M) = true) : ∀ (d i : Nat) (s : St), i + d = C.length →
    Ev (fun k => fleet_Facts.l0 k M C (C.length : Int) (i : Int) s.1 s.2.1 s.2.2.1 s.2.2.2.1 s.2.2.2.2.1 s.2.2.2.2.2.1 s.2.2.2.2.2.2.1 s.2.2.2.2.2.2.2) (fin (((C.drop i).map (rd_T54 M)).foldl step s)) := by
  intro d; induction d with
  | zero =>
    intro i s hi
    refine Ev.step (fun _ => rfl) ?_
    rw [List.drop_of_length_le (show C.length ≤ i by omega)]
    simp only [fleet_Facts.l0, show ¬ (i : Int) < (C.length : Int) by omega, if_false, List.map_nil, List.foldl_nil, fin]
    by_cases h : s.1 = 0
    · simp only [h, if_true]; exact Ev.now _
    · simp only [h, if_false]; exact Ev.now _
  | succ d ih =>
    intro i s hi
    have hi0 : (i : Int) < (C.length : Int) := by omega
    have i0 : (0 : Int) ≤ (i : Int) := by omega
    have wi : wrap64 ((i : Int) + 1) = ((i + 1 : Nat) : Int) := by rw [w64_in (by omega) (by omega)]; omega
    have hx := all_rd hr (show i < C.length by omega)
    unfold inR at hx; have hx := of_decide_eq_true hx
    rw [drop_at hi, List.map_cons, List.foldl_cons]
    refine Ev.step (fun _ => rfl) ?_
    simp only [fleet_Facts.l0, hi0, i0, hx.1, hx.2, if_true, wi, fleet_engine_add.f, Option.bind_some]
    exact ih (i + 1) (step s (rd_T54 M (rd C (i : Int)))) (by omega)
theorem jr_all {v : Int} {M : List S54} {C : List Int} (h : jr v M C = 0) : C.all (inR M) = true := by
  unfold jr at h
  by_cases hv : v ≠ 0
  · rw [if_pos hv] at h; exact absurd h hv
  · rw [if_neg hv] at h
    by_cases h1 : C.length = 0 ∨ 10 < C.length
    · rw [if_pos h1] at h; omega
    · rw [if_neg h1] at h
      by_cases h2 : C.all (inR M) = true
      · exact h2
      · rw [if_neg h2] at h; omega
theorem facts_ok {M : List S54} {C : List Int} (hC : C.length ≤ 500) {v : Int} (hv : Ev (fun k => fleet_ValidateModels.f k M) v) : Ev (fun k => fleet_Facts.f k M C) (factsr v M C) := by
  unfold fleet_Facts.f factsr
  refine Ev.bind (jl_ok hC hv) ?_
  by_cases h : jr v M C = 0
  · simp only [h, if_true]
    have := facts_loop hC (jr_all h) C.length 0 zero (by omega)
    rw [List.drop_zero] at this
    exact this
  · simp only [h, if_false]; exact Ev.now _
/-- The speed as the reference has it. -/
def spd (s t : Int) : Prop := (s = 0 ∧ t = 600) ∨ (0 < s ∧ s ≤ 600 ∧ s = t)
theorem spd_step {a s t : Int} (h : spd s t) (ha : 0 ≤ a ∧ a ≤ 600) : spd (fleet_engine_add.sp a s) (if a > 0 then mn t a else t) := by
  unfold spd fleet_engine_add.sp mn at *
  by_cases h1 : a > 0
  · rw [if_pos h1, if_pos h1]
    by_cases h2 : s = 0
    · rw [if_pos h2]; split <;> omega
    · rw [if_neg h2]; split <;> split <;> omega
  · rw [if_neg h1, if_neg h1]; exact h
theorem okB_speed {m : S54} (h : okB m = true) : 0 ≤ m.f2 ∧ m.f2 ≤ 600 := by
  unfold okB at h
  simp only [Bool.and_eq_true] at h
  exact inB_true.1 h.1.1.1.1.1.1.1.1.1.1.2
theorem rfacts_loop {M : List S54} {C : List Int} (hC : C.length ≤ 500) (hr : C.all (inR M) = true) (g : GoodM M) : ∀ (d i : Nat) (s : St) (t : Int), i + d = C.length → spd s.1 t →
    Ev (fun k => hinterlandref14_Facts.l0 k M C (C.length : Int) (i : Int) t s.2.1 s.2.2.1 s.2.2.2.1 s.2.2.2.2.1 s.2.2.2.2.2.1 s.2.2.2.2.2.2.1 s.2.2.2.2.2.2.2) (fin (((C.drop i).map (rd_T54 M)).foldl step s)) := by
  intro d; induction d with
  | zero =>
    intro i s t hi hs
    refine Ev.step (fun _ => rfl) ?_
    rw [List.drop_of_length_le (show C.length ≤ i by omega)]
    have ht : (if s.1 = 0 then 600 else s.1) = t := by
      unfold spd at hs
      by_cases h : s.1 = 0
      · rw [if_pos h]; omega
      · rw [if_neg h]; omega
    simp only [hinterlandref14_Facts.l0, show ¬ (i : Int) < (C.length : Int) by omega, if_false, List.map_nil, List.foldl_nil, fin, ht]; exact Ev.now _
  | succ d ih =>
    intro i s t hi hs
    have hi0 : (i : Int) < (C.length : Int) := by omega
    have i0 : (0 : Int) ≤ (i : Int) := by omega
    have wi : wrap64 ((i : Int) + 1) = ((i + 1 : Nat) : Int) := by rw [w64_in (by omega) (by omega)]; omega
    have hx := all_rd hr (show i < C.length by omega)
    unfold inR at hx; have hx := of_decide_eq_true hx
    have hsp := spd_step hs (okB_speed (g.ok _ hx.1 hx.2))
    rw [drop_at hi, List.map_cons, List.foldl_cons]
    have hrec := ih (i + 1) (step s (rd_T54 M (rd C (i : Int)))) _ (by omega) hsp
    refine Ev.step (fun _ => rfl) ?_
    simp only [hinterlandref14_Facts.l0, hi0, i0, hx.1, hx.2, if_true, wi]
    by_cases h1 : (rd_T54 M (rd C (i : Int))).f2 > 0
    · simp only [h1, if_true] at hrec ⊢
      cases h7 : s.2.2.2.2.2.2.2 with
      | true => simp only [if_true]; simpa only [step, h7, Bool.true_or] using hrec
      | false => simp only [Bool.false_eq_true, if_false]; simpa only [step, h7, Bool.false_or] using hrec
    · simp only [h1, if_false] at hrec ⊢
      cases h7 : s.2.2.2.2.2.2.2 with
      | true => simp only [if_true]; simpa only [step, h7, Bool.true_or] using hrec
      | false => simp only [Bool.false_eq_true, if_false]; simpa only [step, h7, Bool.false_or] using hrec
theorem rfacts_ok {M : List S54} {C : List Int} (hC : C.length ≤ 500) {v : Int} (hv : Ev (fun k => hinterlandref14_ValidateModels.f k M) v) (hg : v = 0 → GoodM M) : Ev (fun k => hinterlandref14_Facts.f k M C) (factsr v M C) := by
  unfold hinterlandref14_Facts.f factsr
  refine Ev.bind (cl_ok hC hv) ?_
  by_cases h : jr v M C = 0
  · simp only [h, if_true]
    have := rfacts_loop hC (jr_all h) (jr_zero hg h).2.good C.length 0 zero 600 (by omega) (Or.inl ⟨rfl, rfl⟩)
    rw [List.drop_zero] at this
    exact this
  · simp only [h, if_false]; exact Ev.now _
end Go.Proofs.Ytgnahbjpockdmaa.Fac

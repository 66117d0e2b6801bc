/- What is proved: law FleetTons of this seat, all in one text (laid by prune.py). -/
import Derived.Test.YtgnahbjpockdmaaOpen
import Derived.OpenShut
import Derived.Test.YtgnahbjpockdmaaQ13
import Derived.Test.YtgnahbjpockdmaaQ26
import Derived.Test.YtgnahbjpockdmaaQ27
import Derived.Test.YtgnahbjpockdmaaQ28
import Derived.Test.YtgnahbjpockdmaaQ29
import Derived.Test.YtgnahbjpockdmaaQ30
import Derived.Test.YtgnahbjpockdmaaQ31
import Derived.Test.YtgnahbjpockdmaaQ32
import Derived.Test.YtgnahbjpockdmaaQ33
import Derived.Test.YtgnahbjpockdmaaQ34
import Derived.Test.YtgnahbjpockdmaaQ35
import Derived.Test.YtgnahbjpockdmaaQ36
import Derived.Test.YtgnahbjpockdmaaQ37
import Derived.Test.YtgnahbjpockdmaaQ38
namespace Go.Proofs.YtgnahbjpockdmaaOwn
open Go.RowKit Go.Proofs.YtgnahbjpockdmaaW.PrintWords
theorem w64_in {x : Int} (h0 : -9223372036854775808 ≤ x) (h1 : x ≤ 9223372036854775807) : wrap64 x = x := by unfold wrap64; omega
end Go.Proofs.YtgnahbjpockdmaaOwn
namespace Go.Proofs.Ytgnahbjpockdmaa.Mod
open Go.RowKit Go.Proofs.YtgnahbjpockdmaaOwn Go.Proofs.Ytgnahbjpockdmaa.Q Go.Proofs.YtgnahbjpockdmaaW.PrintWords Go.Proofs.YtgnahbjpockdmaaW.PrintLast Go.Proofs.YtgnahbjpockdmaaW.PrintMore
/-- A number lies between two bounds. -/
def inB (lo hi a : Int) : Bool := decide (lo ≤ a ∧ a ≤ hi)
theorem inB_true {lo hi a : Int} : inB lo hi a = true ↔ lo ≤ a ∧ a ≤ hi := by unfold inB; simp
end Go.Proofs.Ytgnahbjpockdmaa.Mod
namespace Go.Proofs.Ytgnahbjpockdmaa.Loa
open Go.RowKit Go.Proofs.YtgnahbjpockdmaaOwn Go.Proofs.Ytgnahbjpockdmaa.Q Go.Proofs.Ytgnahbjpockdmaa.Mod Go.Proofs.YtgnahbjpockdmaaW.PrintWords Go.Proofs.YtgnahbjpockdmaaW.PrintLast Go.Proofs.YtgnahbjpockdmaaW.PrintMore
set_option linter.unusedVariables false
set_option linter.unusedSimpArgs false
def pOK (p : S69) : Bool := inB 1 1000000 p.f4 && (inB 0 255 p.f3 && (inB 0 1000000000000 p.f5 && (inB 0 1000000 p.f0 && (inB 0 1000000 p.f1 && inB 0 1000000 p.f2))))
def lessB (a b : S69) : Bool := if a.f0 = b.f0 then (if a.f1 = b.f1 then (if a.f2 = b.f2 then decide (a.f3 < b.f3) else decide (a.f2 < b.f2)) else decide (a.f1 < b.f1)) else decide (a.f0 < b.f0)
def sg (a b : Int) : Int := if a < b then -1 else if a > b then 1 else 0
theorem cmp_ok (a b : Int) : cmp_Compare_int.f a b = some (sg a b) := by
  unfold cmp_Compare_int.f cmp_isNaN_int.f sg
  simp only [bne_self_eq_false, Option.bind_some, Bool.false_eq_true, if_false]
  split
  · rfl
  · split <;> rfl
def orr (x y z t : Int) : Int := if x = 0 then (if y = 0 then (if z = 0 then (if t = 0 then 0 else t) else z) else y) else x
theorem or_ok (x y z t : Int) : Ev (fun k => cmp_Or_int.f k ([x, y, z, t] : List Int)) (orr x y z t) := by
  unfold cmp_Or_int.f orr
  have l4 : (([x, y, z, t] : List Int).length : Int) = 4 := rfl
  have r0 : rd [x, y, z, t] 0 = x := rfl
  have r1 : rd [x, y, z, t] 1 = y := rfl
  have r2 : rd [x, y, z, t] 2 = z := rfl
  have r3 : rd [x, y, z, t] 3 = t := rfl
  have w0 : wrap64 (0 + 1) = 1 := by unfold wrap64; omega
  have w1 : wrap64 (1 + 1) = 2 := by unfold wrap64; omega
  have w2 : wrap64 (2 + 1) = 3 := by unfold wrap64; omega
  have w3 : wrap64 (3 + 1) = 4 := by unfold wrap64; omega
  rw [l4]
  refine Ev.step (fun _ => rfl) ?_
  simp only [cmp_Or_int.l0, l4, r0, show (0 : Int) < 4 by omega, show (0 : Int) ≤ 0 by omega, if_true, w0]
  by_cases hx : x = 0
  case neg => simp only [hx, if_false]; exact Ev.now _
  simp only [hx, if_true]
  refine Ev.step (fun _ => rfl) ?_
  rw [hx] at l4 r0 r1 r2 r3
  simp only [cmp_Or_int.l0, l4, r1, show (1 : Int) < 4 by omega, show (0 : Int) ≤ 1 by omega, if_true, w1]
  by_cases hy : y = 0
  case neg => simp only [hy, if_false]; exact Ev.now _
  simp only [hy, if_true]
  refine Ev.step (fun _ => rfl) ?_
  rw [hy] at l4 r0 r1 r2 r3
  simp only [cmp_Or_int.l0, l4, r2, show (2 : Int) < 4 by omega, show (0 : Int) ≤ 2 by omega, if_true, w2]
  by_cases hz : z = 0
  case neg => simp only [hz, if_false]; exact Ev.now _
  simp only [hz, if_true]
  refine Ev.step (fun _ => rfl) ?_
  rw [hz] at l4 r0 r1 r2 r3
  simp only [cmp_Or_int.l0, l4, r3, show (3 : Int) < 4 by omega, show (0 : Int) ≤ 3 by omega, if_true, w3]
  by_cases ht : t = 0
  case neg => simp only [ht, if_false]; exact Ev.now _
  simp only [ht, if_true]
  refine Ev.step (fun _ => rfl) ?_
  simp only [cmp_Or_int.l0, show ¬ (4 : Int) < 4 by omega, if_false]; exact Ev.now _
theorem compare_ok (a b : S69) : ∃ c, Ev (fun k => cargo_compare.f k a.f0 a.f1 a.f2 a.f3 a.f4 a.f5 b.f0 b.f1 b.f2 b.f3 b.f4 b.f5) c ∧ decide (c ≥ 0) = !lessB a b := by
  refine ⟨orr (sg a.f0 b.f0) (sg a.f1 b.f1) (sg a.f2 b.f2) (sg a.f3 b.f3), ?_, ?_⟩
  · unfold cargo_compare.f
    simp only [cmp_ok, Option.bind_some]
    exact Ev.bind (or_ok ..) (Ev.now _)
  · unfold orr sg lessB
    by_cases h0 : a.f0 = b.f0
    · by_cases h1 : a.f1 = b.f1
      · by_cases h2 : a.f2 = b.f2
        · by_cases h3 : a.f3 < b.f3
          · simp [h0, h1, h2, h3]
          · by_cases h4 : a.f3 > b.f3
            · simp [h0, h1, h2, h3, h4]
            · simp [h0, h1, h2, h3, h4]
        · by_cases h3 : a.f2 < b.f2
          · simp [h0, h1, h2, h3]
          · simp [h0, h1, h2, h3, show a.f2 > b.f2 by omega]
      · by_cases h3 : a.f1 < b.f1
        · simp [h0, h1, h3]
        · simp [h0, h1, h3, show a.f1 > b.f1 by omega]
    · by_cases h3 : a.f0 < b.f0
      · simp [h0, h3]
      · simp [h0, h3, show a.f0 > b.f0 by omega]
theorem cwithin (a m : Int) : cargo_within.f a m = some (inB 0 m a) := by
  unfold cargo_within.f inB
  by_cases h : a ≥ 0
  · rw [if_pos h]; congr 1; rw [decide_eq_decide]; omega
  · rw [if_neg h]; congr 1; symm; rw [decide_eq_false_iff_not]; omega
theorem csound (p : S69) : cargo_sound.f p.f0 p.f1 p.f2 p.f3 p.f4 p.f5 = some (pOK p) := by
  unfold cargo_sound.f pOK
  simp only [cwithin, Option.bind_some]
  have e : inB 1 1000000 p.f4 = (decide (p.f4 ≥ 1) && decide (p.f4 ≤ 1000000)) := by unfold inB; rw [← Bool.decide_and]
  rw [e]
  by_cases h1 : p.f4 ≥ 1
  case neg => simp [h1]
  by_cases h2 : p.f4 ≤ 1000000
  case neg => simp [h1, h2]
  simp only [h1, h2, if_true, decide_true, Bool.and_self, Bool.true_and]
  cases inB 0 255 p.f3 <;> simp
  cases inB 0 1000000000000 p.f5 <;> simp
  cases inB 0 1000000 p.f0 <;> simp
  cases inB 0 1000000 p.f1 <;> simp
theorem rless (a b : S69) : hinterlandref09_less.f a.f0 a.f1 a.f2 a.f3 a.f4 a.f5 b.f0 b.f1 b.f2 b.f3 b.f4 b.f5 = some (lessB a b) := by
  unfold hinterlandref09_less.f lessB
  split
  · split
    · split <;> rfl
    · rfl
  · rfl
theorem rout (a m : Int) : hinterlandref09_Out.f a m = some (!inB 0 m a) := by
  unfold hinterlandref09_Out.f inB
  by_cases h : a < 0
  · rw [if_pos h]; congr 1; simp; omega
  · rw [if_neg h]; congr 1; by_cases h2 : a > m <;> simp [h2] <;> omega
def pAt (P : List S69) (i : Nat) : S69 := rd_T69 P (i : Int)
def goodAt (P : List S69) (i : Nat) : Bool := pOK (pAt P i) && (decide (i = 0) || lessB (rd_T69 P ((i : Int) - 1)) (pAt P i))
def lall (P : List S69) (i d : Nat) : Bool := (List.range' i d).all (goodAt P)
theorem lall_succ (P : List S69) (i d : Nat) : lall P i (d + 1) = (goodAt P i && lall P (i + 1) d) := by simp [lall, List.range'_succ]
theorem cload_loop {P : List S69} (hP : P.length ≤ 500) : ∀ (d i : Nat), i + d = P.length → Ev (fun k => cargo_Validate.l0 k P P (P.length : Int) (i : Int)) (if lall P i d then 0 else 1) := by
  intro d; induction d with
  | zero =>
    intro i hi
    refine Ev.step (fun _ => rfl) ?_
    simp only [cargo_Validate.l0, show ¬ (i : Int) < (P.length : Int) by omega, if_false, lall, List.range'_zero, List.all_nil, if_true]; exact Ev.now _
  | succ d ih =>
    intro i hi
    have hi0 : (i : Int) < (P.length : Int) := by omega
    have i0 : (0 : Int) ≤ (i : Int) := by omega
    have wi : wrap64 ((i : Int) + 1) = ((i + 1 : Nat) : Int) := by rw [w64_in (by omega) (by omega)]; omega
    have w1 : wrap64 ((i : Int) - 1) = (i : Int) - 1 := w64_in (by omega) (by omega)
    rw [lall_succ]
    have tail : ∀ b, b = !goodAt P i → Ev (fun k => cargo_Validate.j1 k P P (P.length : Int) (i : Int) b) (if (goodAt P i && lall P (i + 1) d) = true then 0 else 1) := by
      rintro b rfl
      refine Ev.step (fun _ => rfl) ?_
      cases hg : goodAt P i with
      | true =>
        simp only [cargo_Validate.j1, Bool.not_true, Bool.false_eq_true, if_false, wi, Bool.true_and]
        exact ih (i + 1) (by omega)
      | false => simp only [cargo_Validate.j1, Bool.not_false, if_true, Bool.false_and, Bool.false_eq_true, if_false]; exact Ev.now _
    refine Ev.step (fun _ => rfl) ?_
    simp only [cargo_Validate.l0, hi0, i0, if_true, csound, Option.bind_some]
    cases hp : pOK (rd_T69 P (i : Int)) with
    | false =>
      simp only [Bool.false_eq_true, if_false]
      exact tail true (by unfold goodAt pAt; rw [hp]; rfl)
    | true =>
      simp only [if_true]
      by_cases hz : i = 0
      · simp only [show ¬ (i : Int) > 0 by omega, if_false]
        exact tail false (by unfold goodAt pAt; rw [hp]; simp [hz])
      · obtain ⟨c, c1, c2⟩ := compare_ok (rd_T69 P ((i : Int) - 1)) (rd_T69 P (i : Int))
        simp only [show (i : Int) > 0 by omega, if_true, w1, show 0 ≤ (i : Int) - 1 by omega, show (i : Int) - 1 < (P.length : Int) by omega]
        refine Ev.bind c1 ?_
        exact tail _ (by unfold goodAt pAt; rw [hp, c2]; simp [hz])
theorem rload_loop {P : List S69} (hP : P.length ≤ 500) : ∀ (d i : Nat), i + d = P.length → Ev (fun k => hinterlandref09_Validate.l0 k P (i : Int)) (if lall P i d then 0 else 1) := by
  intro d; induction d with
  | zero =>
    intro i hi
    refine Ev.step (fun _ => rfl) ?_
    simp only [hinterlandref09_Validate.l0, show ¬ (i : Int) < (P.length : Int) by omega, if_false, lall, List.range'_zero, List.all_nil, if_true]; exact Ev.now _
  | succ d ih =>
    intro i hi
    have hi0 : (i : Int) < (P.length : Int) := by omega
    have i0 : (0 : Int) ≤ (i : Int) := by omega
    have wi : wrap64 ((i : Int) + 1) = ((i + 1 : Nat) : Int) := by rw [w64_in (by omega) (by omega)]; omega
    have w1 : wrap64 ((i : Int) - 1) = (i : Int) - 1 := w64_in (by omega) (by omega)
    rw [lall_succ]
    have tail : ∀ b, b = !goodAt P i → Ev (fun k => hinterlandref09_Validate.j1 k P (i : Int) b) (if (goodAt P i && lall P (i + 1) d) = true then 0 else 1) := by
      rintro b rfl
      refine Ev.step (fun _ => rfl) ?_
      cases hg : goodAt P i with
      | true =>
        simp only [hinterlandref09_Validate.j1, Bool.not_true, Bool.false_eq_true, if_false, wi, Bool.true_and]
        exact ih (i + 1) (by omega)
      | false => simp only [hinterlandref09_Validate.j1, Bool.not_false, if_true, Bool.false_and, Bool.false_eq_true, if_false]; exact Ev.now _
    have rest : (decide (i = 0) || lessB (rd_T69 P ((i : Int) - 1)) (rd_T69 P (i : Int))) = true → Ev (fun k => if (rd_T69 P (i : Int)).f4 < 1 then hinterlandref09_Validate.j1 k P (i : Int) true else if (rd_T69 P (i : Int)).f4 > 1000000 then hinterlandref09_Validate.j1 k P (i : Int) true else (hinterlandref09_Out.f (rd_T69 P (i : Int)).f3 255).bind fun t379 => (if t379 = true then (hinterlandref09_Validate.j1 k P (i : Int) true) else ((hinterlandref09_Out.f ((rd_T69 P (i : Int)).f5) 1000000000000).bind fun t380 => (if t380 = true then (hinterlandref09_Validate.j1 k P (i : Int) true) else ((hinterlandref09_Out.f ((rd_T69 P (i : Int)).f0) 1000000).bind fun t381 => (if t381 = true then (hinterlandref09_Validate.j1 k P (i : Int) true) else ((hinterlandref09_Out.f ((rd_T69 P (i : Int)).f1) 1000000).bind fun t382 => (if t382 = true then (hinterlandref09_Validate.j1 k P (i : Int) true) else ((hinterlandref09_Out.f ((rd_T69 P (i : Int)).f2) 1000000).bind fun t383 => (hinterlandref09_Validate.j1 k P (i : Int) t383)))))))))) (if (goodAt P i && lall P (i + 1) d) = true then 0 else 1) := by
      intro hq
      have e : inB 1 1000000 (rd_T69 P (i : Int)).f4 = (decide ((rd_T69 P (i : Int)).f4 ≥ 1) && decide ((rd_T69 P (i : Int)).f4 ≤ 1000000)) := by unfold inB; rw [← Bool.decide_and]
      simp only [rout, Option.bind_some]
      by_cases h1 : (rd_T69 P (i : Int)).f4 < 1
      · simp only [h1, if_true]
        exact tail true (by unfold goodAt pAt pOK; rw [e]; simp [show ¬ 1 ≤ (rd_T69 P (i : Int)).f4 by omega])
      simp only [h1, if_false]
      by_cases h2 : (rd_T69 P (i : Int)).f4 > 1000000
      · simp only [h2, if_true]
        exact tail true (by unfold goodAt pAt pOK; rw [e]; simp [show ¬ (rd_T69 P (i : Int)).f4 ≤ 1000000 by omega])
      simp only [h2, if_false]
      have hg : goodAt P i = (inB 0 255 (rd_T69 P (i : Int)).f3 && (inB 0 1000000000000 (rd_T69 P (i : Int)).f5 && (inB 0 1000000 (rd_T69 P (i : Int)).f0 && (inB 0 1000000 (rd_T69 P (i : Int)).f1 && inB 0 1000000 (rd_T69 P (i : Int)).f2)))) := by
        unfold goodAt pAt pOK
        rw [hq, e, Bool.and_true]
        simp [show 1 ≤ (rd_T69 P (i : Int)).f4 by omega, show (rd_T69 P (i : Int)).f4 ≤ 1000000 by omega]
      cases a1 : inB 0 255 (rd_T69 P (i : Int)).f3 with
      | false => simp only [Bool.not_false, if_true]; exact tail true (by rw [hg, a1]; rfl)
      | true =>
        simp only [Bool.not_true, Bool.false_eq_true, if_false]
        cases a2 : inB 0 1000000000000 (rd_T69 P (i : Int)).f5 with
        | false => simp only [Bool.not_false, if_true]; exact tail true (by rw [hg, a1, a2]; rfl)
        | true =>
          simp only [Bool.not_true, Bool.false_eq_true, if_false]
          cases a3 : inB 0 1000000 (rd_T69 P (i : Int)).f0 with
          | false => simp only [Bool.not_false, if_true]; exact tail true (by rw [hg, a1, a2, a3]; rfl)
          | true =>
            simp only [Bool.not_true, Bool.false_eq_true, if_false]
            cases a4 : inB 0 1000000 (rd_T69 P (i : Int)).f1 with
            | false => simp only [Bool.not_false, if_true]; exact tail true (by rw [hg, a1, a2, a3, a4]; rfl)
            | true =>
              simp only [Bool.not_true, Bool.false_eq_true, if_false]
              exact tail _ (by rw [hg, a1, a2, a3, a4]; rfl)
    refine Ev.step (fun _ => rfl) ?_
    simp only [hinterlandref09_Validate.l0, hi0, i0, if_true]
    by_cases hz : i = 0
    · simp only [show ¬ (i : Int) > 0 by omega, if_false]
      exact rest (by simp [hz])
    · simp only [show (i : Int) > 0 by omega, if_true, w1, show 0 ≤ (i : Int) - 1 by omega, show (i : Int) - 1 < (P.length : Int) by omega, rless, Option.bind_some]
      cases hl : lessB (rd_T69 P ((i : Int) - 1)) (rd_T69 P (i : Int)) with
      | true => simp only [if_true]; exact rest (by rw [hl]; simp)
      | false =>
        simp only [Bool.false_eq_true, if_false]
        exact tail true (by unfold goodAt pAt; rw [hl]; simp [hz])
/-- The first error of a load. -/
def lr (P : List S69) : Int := if 200 < P.length then 4 else if lall P 0 P.length then 0 else 1
theorem cload {P : List S69} (hP : P.length ≤ 500) : Ev (fun k => cargo_Validate.f k P) (lr P) := by
  unfold cargo_Validate.f lr
  by_cases h : 200 < P.length
  · simp only [show (P.length : Int) > 200 by omega, h, if_true]; exact Ev.now _
  · simp only [show ¬ (P.length : Int) > 200 by omega, h, if_false]; exact cload_loop hP P.length 0 (by omega)
theorem rload {P : List S69} (hP : P.length ≤ 500) : Ev (fun k => hinterlandref09_Validate.f k P) (lr P) := by
  unfold hinterlandref09_Validate.f lr
  by_cases h : 200 < P.length
  · simp only [show (P.length : Int) > 200 by omega, h, if_true]; exact Ev.now _
  · simp only [show ¬ (P.length : Int) > 200 by omega, h, if_false]; exact rload_loop hP P.length 0 (by omega)
theorem lr_count {P : List S69} (h : lr P = 0) : P.length ≤ 200 ∧ ∀ i : Nat, i < P.length → 1 ≤ (rd_T69 P (i : Int)).f4 ∧ (rd_T69 P (i : Int)).f4 ≤ 1000000 := by
  unfold lr at h
  by_cases h1 : 200 < P.length
  · rw [if_pos h1] at h; omega
  · rw [if_neg h1] at h
    cases hl : lall P 0 P.length with
    | false => rw [hl] at h; simp at h
    | true =>
      refine ⟨by omega, fun i hi => ?_⟩
      unfold lall at hl
      rw [List.all_eq_true] at hl
      have := hl i (by simp [List.mem_range']; omega)
      unfold goodAt pOK pAt at this
      simp only [Bool.and_eq_true] at this
      exact inB_true.1 this.1.1
end Go.Proofs.Ytgnahbjpockdmaa.Loa
namespace Go.Proofs.Ytgnahbjpockdmaa.Known
open Go.RowKit Go.Proofs.YtgnahbjpockdmaaOwn Go.Proofs.Ytgnahbjpockdmaa.Q Go.Proofs.YtgnahbjpockdmaaW.PrintWords Go.Proofs.YtgnahbjpockdmaaW.PrintLast Go.Proofs.YtgnahbjpockdmaaW.PrintMore
set_option linter.unusedVariables false
set_option linter.unusedSimpArgs false
theorem known_ev : Ev (fun k => hinterlandlaw14_known.f k) true := Ev.of hinterlandlaw14_known.mono (k := 200) (by decide +kernel)
end Go.Proofs.Ytgnahbjpockdmaa.Known
namespace Go.Proofs.Ytgnahbjpockdmaa.Pure
open Go.RowKit Go.Proofs.YtgnahbjpockdmaaOwn Go.Proofs.Ytgnahbjpockdmaa.Q Go.Proofs.Ytgnahbjpockdmaa.Mod Go.Proofs.Ytgnahbjpockdmaa.Loa Go.Proofs.Ytgnahbjpockdmaa.Known Go.Proofs.YtgnahbjpockdmaaW.PrintWords Go.Proofs.YtgnahbjpockdmaaW.PrintLast Go.Proofs.YtgnahbjpockdmaaW.PrintMore
set_option linter.unusedVariables false
set_option linter.unusedSimpArgs false
theorem tons_loop {P : List S69} (hP : lr P = 0) : ∀ (d i : Nat) (n : Int), i + d = P.length → 0 ≤ n → n ≤ 1000000 * i → ∃ r, Ev (fun k => fleet_Tons.l0 k n P (P.length : Int) (i : Int)) r ∧ Ev (fun k => hinterlandref14_Tons.l0 k (mn n 1000000) P (P.length : Int) (i : Int)) r := by
  obtain ⟨hl, hc⟩ := lr_count hP
  intro d; induction d with
  | zero =>
    intro i n hi n0 n1
    refine ⟨(mn n 1000000, 0), Ev.step (fun _ => rfl) ?_, Ev.step (fun _ => rfl) ?_⟩
    · simp only [fleet_Tons.l0, show ¬ (i : Int) < (P.length : Int) by omega, if_false]; exact Ev.now _
    · simp only [hinterlandref14_Tons.l0, show ¬ (i : Int) < (P.length : Int) by omega, if_false]; exact Ev.now _
  | succ d ih =>
    intro i n hi n0 n1
    have hi0 : (i : Int) < (P.length : Int) := by omega
    have i0 : (0 : Int) ≤ (i : Int) := by omega
    have wi : wrap64 ((i : Int) + 1) = ((i + 1 : Nat) : Int) := by rw [w64_in (by omega) (by omega)]; omega
    have hx := hc i (by omega)
    have w1 : wrap64 (n + (rd_T69 P (i : Int)).f4) = n + (rd_T69 P (i : Int)).f4 := w64_in (by omega) (by omega)
    have w2 : mn (wrap64 (mn n 1000000 + (rd_T69 P (i : Int)).f4)) 1000000 = mn (n + (rd_T69 P (i : Int)).f4) 1000000 := by
      have : 0 ≤ mn n 1000000 ∧ mn n 1000000 ≤ 1000000 := by unfold mn; split <;> omega
      rw [w64_in (by omega) (by omega)]
      unfold mn; (repeat' split) <;> omega
    obtain ⟨r, e1, e2⟩ := ih (i + 1) (n + (rd_T69 P (i : Int)).f4) (by omega) (by omega) (by omega)
    refine ⟨r, Ev.step (fun _ => rfl) ?_, Ev.step (fun _ => rfl) ?_⟩
    · simp only [fleet_Tons.l0, hi0, i0, if_true, w1, wi]; exact e1
    · simp only [hinterlandref14_Tons.l0, hi0, i0, if_true, w2, wi]; exact e2
theorem FleetTons : hinterlandlaw14_FleetTons.Pure := by
  intro P hP
  refine Ev.rounds ?_
  unfold hinterlandlaw14_FleetTons.f
  by_cases h : (P.length : Int) > 500
  · simp only [h, if_true]; exact Ev.bind known_ev (Ev.now _)
  · simp only [h, if_false]
    have hl : P.length ≤ 500 := by omega
    have key : ∃ r, Ev (fun k => fleet_Tons.f k P) r ∧ Ev (fun k => hinterlandref14_Tons.f k P) r := by
      unfold fleet_Tons.f hinterlandref14_Tons.f
      by_cases hr : lr P = 0
      · obtain ⟨r, e1, e2⟩ := tons_loop hr P.length 0 0 (by omega) (by omega) (by omega)
        refine ⟨r, Ev.bind (cload hl) ?_, Ev.bind (rload hl) ?_⟩
        · simp only [hr, if_true]; exact e1
        · simp only [hr, if_true]; exact e2
      · refine ⟨(0, lr P), Ev.bind (cload hl) ?_, Ev.bind (rload hl) ?_⟩
        · simp only [hr, if_false]; exact Ev.now _
        · simp only [hr, if_false]; exact Ev.now _
    obtain ⟨r, e1, e2⟩ := key
    refine Ev.bind e1 (Ev.bind e2 ?_)
    simp only [if_true]
    exact Ev.bind known_ev (Ev.now _)
end Go.Proofs.Ytgnahbjpockdmaa.Pure
